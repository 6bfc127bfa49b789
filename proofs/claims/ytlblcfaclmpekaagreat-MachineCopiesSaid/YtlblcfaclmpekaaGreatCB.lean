import Derived.Test.YtlblcfaclmpekaaGreatCP
import Derived.Test.YtlblcfaclmpekaaGreatSpB
import Derived.Test.YtlblcfaclmpekaaGreatKS
import Derived.Test.YtlblcfaclmpekaaGreatCV
set_option linter.unusedSimpArgs false
set_option linter.unusedVariables false
namespace Go.Proofs.YtlblcfaclmpekaaGreat
open Go.Sx
end Go.Proofs.YtlblcfaclmpekaaGreat
namespace Go.Proofs.YtlblcfaclmpekaaGreat
open Go.Sx
set_option maxRecDepth 100000
theorem ML (kind oid count:Int):
 (decide (kind=2)=true->Key.mk 3 oid count void.call void.rights void.value=bZ kind oid count)/\(decide (kind=2)=false->Key.mk 2 oid count void.call void.rights void.value=bZ kind
  oid count):=by
 unfold bZ;exact⟨fun h=>by rw[VR (VO h)];rfl,fun h=>by rw[VQ (VN h)];rfl⟩
theorem qd:dD Tryz.prog 231 Qq:=
 Lr (gJ .i64) (gJ .i64) (gJ .i64) (fun _ _ _=>rfl) fun i j k _ _ _=>bx (inl:=ca) (ann:=aV) ay (ML i j k) (by kernel_rfl)
theorem Fe (k v:Key):
 true=true/\true=true/\((!decide (0<aj []))=true->false=lL [] k v/\1=bc [] k)/\((!decide (0<aj []))=false->true=true/\((!(aT [] k&&decide (k.kind=4)))=
  true->false=lL [] k v/\190=bc [] k)/\((!(aT [] k&&decide (k.kind=4)))=false->true=true/\((!(decide (((aa [] k).slots.at 0).kind=1)&&decide (((aa [] k).slots.at
  1).kind=1)&&decide (0<=((aa [] k).slots.at 0).value)&&decide (((aa [] k).slots.at 0).value<=((aa [] k).slots.at 1).value)&&decide (((aa [] k).slots.at 1).value<aj [])))
  =true->false=lL [] k v/\220=bc [] k)/\((!(decide (((aa [] k).slots.at 0).kind=1)&&decide (((aa [] k).slots.at 1).kind=1)&&decide (0<=((aa [] k).slots.at 0).value)&&
  decide (((aa [] k).slots.at 0).value<=((aa [] k).slots.at 1).value)&&decide (((aa [] k).slots.at 1).value<aj [])))=false->true=true/\(aT [] v&&(decide (v.kind=2)||
  decide (v.kind=3))&&decide (((aa [] k).slots.at 0).value<=bJ v)&&decide (bJ v<=((aa [] k).slots.at 1).value))=lL [] k v/\0=bc [] k))):=by
 exact⟨rfl,rfl,fun h=>zp (D2 h) (by omega),fun h=>absurd h (by decide)⟩
theorem II (L:List Sx.Obj) (k v:Key):
 true=true/\true=true/\((!decide (0<aj L))=true->false=lL L k v/\1=bc L k)/\((!decide (0<aj L))=false->true=true/\((!(aT L k&&decide (k.kind=4)))=true->
  false=lL L k v/\190=bc L k)/\((!(aT L k&&decide (k.kind=4)))=false->true=true/\((!(decide (((aa L k).slots.at 0).kind=1)&&decide (((aa L k).slots.at 1).kind=1)&&
  decide (0<=((aa L k).slots.at 0).value)&&decide (((aa L k).slots.at 0).value<=((aa L k).slots.at 1).value)&&decide (((aa L k).slots.at 1).value<aj L)))=true->false=
  lL L k v/\220=bc L k)/\((!(decide (((aa L k).slots.at 0).kind=1)&&decide (((aa L k).slots.at 1).kind=1)&&decide (0<=((aa L k).slots.at 0).value)&&decide (((aa L
  k).slots.at 0).value<=((aa L k).slots.at 1).value)&&decide (((aa L k).slots.at 1).value<aj L)))=false->true=true/\(aT L v&&(decide (v.kind=2)||decide (v.kind=3))&&
  decide (((aa L k).slots.at 0).value<=bJ v)&&decide (bJ v<=((aa L k).slots.at 1).value))=lL L k v/\0=bc L k))):=by
 refine⟨rfl,rfl,fun h=>zp (D2 h) (by omega),fun h=>⟨rfl,fun h2=>zp (SF h h2) (by omega),fun h2=>⟨rfl,fun h3=>zp (So h h2 h3) (by omega),fun h3=>⟨rfl,?_,(LG h h2 h3).1.symm⟩⟩⟩⟩
 obtain⟨e,e1,e2⟩:=LG h h2 h3;rw[e1,e2];unfold lL jZ;rw[e];cases hi:aT L v with
 |false=>simp
 |true=>
  cases hk:(decide (v.kind=2)||decide (v.kind=3))with
  |false=>simp
  |true=>
   have hn:bJ v=v.oid:=RK hi;rw[hn];simp
theorem Ks:dD Tryz.prog 224 M4:=
 jH (aQ qL Ir) (fun _=>rfl) fun a hq hok=>by
  obtain⟨S,k,v,_⟩:=a;cases S with
  |none=>exact aN (inl:=(fun f=>f==214||f==213||f==215)) (ann:=aV) (ae bd (ae br (ae cF ay))) aB (cY fL) (Fe k v) (by kernel_rfl)
  |some L=>exact aN (inl:=(fun f=>f==214||f==213||f==215)) (ann:=aV) (ae bd (ae br (ae cF ay))) aB (cY fL) (II L k v) (by kernel_rfl)
theorem Lk (k v:Key):
 true=true/\true=true/\((!decide (0<aj []))=true->1=dI [] k v)/\((!decide (0<aj []))=false->true=true/\((!(aT [] k&&decide (k.kind=4)))=true->190=dI [] k
  v)/\((!(aT [] k&&decide (k.kind=4)))=false->true=true/\((!(decide (((aa [] k).slots.at 0).kind=1)&&decide (((aa [] k).slots.at 1).kind=1)&&decide (0<=((aa []
  k).slots.at 0).value)&&decide (((aa [] k).slots.at 0).value<=((aa [] k).slots.at 1).value)&&decide (((aa [] k).slots.at 1).value<aj [])))=true->220=dI [] k v)/\
  ((!(decide (((aa [] k).slots.at 0).kind=1)&&decide (((aa [] k).slots.at 1).kind=1)&&decide (0<=((aa [] k).slots.at 0).value)&&decide (((aa [] k).slots.at 0).value<=((aa
  [] k).slots.at 1).value)&&decide (((aa [] k).slots.at 1).value<aj [])))=false->true=true/\true=true/\((!(aT [] v&&(decide (v.kind=2)||decide (v.kind=3))))=true->5=
  dI [] k v)/\((!(aT [] v&&(decide (v.kind=2)||decide (v.kind=3))))=false->true=true/\true=true/\((!(decide (((aa [] k).slots.at 0).value<=v.oid)&&decide (v.oid<=((aa
  [] k).slots.at 1).value)&& !decide (v.oid=k.oid)))=true->4=dI [] k v)/\((!(decide (((aa [] k).slots.at 0).value<=v.oid)&&decide (v.oid<=((aa [] k).slots.at 1).value)&& !decide
  (v.oid=k.oid)))=false->true=true/\true=true/\0=dI [] k v))))):=by
 exact⟨rfl,rfl,fun h=>(rh (o9 (D2 h) (by omega)) (by omega)).1,fun h=>absurd h (by decide)⟩
theorem Jy (k v:Key):
 true=true/\true=true/\((!decide (0<aj []))=true->1=dI [] k v)/\((!decide (0<aj []))=false->true=true/\((!(aT [] k&&decide (k.kind=4)))=true->190=dI [] k
  v)/\((!(aT [] k&&decide (k.kind=4)))=false->true=true/\((!(decide (((aa [] k).slots.at 0).kind=1)&&decide (((aa [] k).slots.at 1).kind=1)&&decide (0<=((aa []
  k).slots.at 0).value)&&decide (((aa [] k).slots.at 0).value<=((aa [] k).slots.at 1).value)&&decide (((aa [] k).slots.at 1).value<aj [])))=true->220=dI [] k v)/\
  ((!(decide (((aa [] k).slots.at 0).kind=1)&&decide (((aa [] k).slots.at 1).kind=1)&&decide (0<=((aa [] k).slots.at 0).value)&&decide (((aa [] k).slots.at 0).value<=((aa
  [] k).slots.at 1).value)&&decide (((aa [] k).slots.at 1).value<aj [])))=false->true=true/\true=true/\((!(aT [] v&&(decide (v.kind=2)||decide (v.kind=3))))=true->5=
  dI [] k v)/\((!(aT [] v&&(decide (v.kind=2)||decide (v.kind=3))))=false->true=true/\true=true/\((!(decide (((aa [] k).slots.at 0).value<=v.oid)&&decide (v.oid<=((aa
  [] k).slots.at 1).value)&& !decide (v.oid=k.oid)))=true->4=dI [] k v)/\((!(decide (((aa [] k).slots.at 0).value<=v.oid)&&decide (v.oid<=((aa [] k).slots.at 1).value)&& !decide
  (v.oid=k.oid)))=false->true=true/\true=true/\False))))):=by
 exact⟨rfl,rfl,fun h=>(rh (o9 (D2 h) (by omega)) (by omega)).1,fun h=>absurd h (by decide)⟩
theorem Nl (L:List Sx.Obj) (k v:Key) (hL:aw L):
 true=true/\true=true/\((!decide (0<aj L))=true->1=dI L k v/\L=iX L k v)/\((!decide (0<aj L))=false->true=true/\((!(aT L k&&decide (k.kind=4)))=true->
  190=dI L k v/\L=iX L k v)/\((!(aT L k&&decide (k.kind=4)))=false->true=true/\((!(decide (((aa L k).slots.at 0).kind=1)&&decide (((aa L k).slots.at 1).kind=1)&&
  decide (0<=((aa L k).slots.at 0).value)&&decide (((aa L k).slots.at 0).value<=((aa L k).slots.at 1).value)&&decide (((aa L k).slots.at 1).value<aj L)))=true->220=dI
  L k v/\L=iX L k v)/\((!(decide (((aa L k).slots.at 0).kind=1)&&decide (((aa L k).slots.at 1).kind=1)&&decide (0<=((aa L k).slots.at 0).value)&&decide (((aa L
  k).slots.at 0).value<=((aa L k).slots.at 1).value)&&decide (((aa L k).slots.at 1).value<aj L)))=false->true=true/\true=true/\((!(aT L v&&(decide (v.kind=2)||decide
  (v.kind=3))))=true->5=dI L k v/\L=iX L k v)/\((!(aT L v&&(decide (v.kind=2)||decide (v.kind=3))))=false->true=true/\true=true/\((!(decide (((aa L k).slots.at
  0).value<=v.oid)&&decide (v.oid<=((aa L k).slots.at 1).value)&& !decide (v.oid=k.oid)))=true->4=dI L k v/\L=iX L k v)/\((!(decide (((aa L k).slots.at 0).value<=v.oid)
  &&decide (v.oid<=((aa L k).slots.at 1).value)&& !decide (v.oid=k.oid)))=false->true=true/\true=true/\0=dI L k v/\bP L v.oid (Obj.mk free.kind (aD L v.oid).count
  free.calls free.slots free.bytes)=iX L k v))))):=by
 refine⟨rfl,rfl,fun h=>rh (o9 (D2 h) (by omega)) (by omega),fun h=>⟨rfl,fun h2=>rh (o9 (SF h h2) (by omega)) (by omega),fun h2=>⟨rfl,fun h3=>rh (o9 (So h h2 h3) (by omega)) (by omega),fun h3=>⟨rfl,rfl,fun h4=>?_,fun h4=>⟨rfl,rfl,fun h5=>?_,fun h5=>⟨rfl,rfl,?_⟩⟩⟩⟩⟩⟩
 ·obtain⟨e,e1,e2⟩:=LG h h2 h3;have ht:jZ L v=false:=by have h4':(!jZ L v)=true:=h4;simpa using h4'
  exact rh (by unfold dI;rw[VR e,ht];rfl) (by omega)
 ·obtain⟨e,e1,e2⟩:=LG h h2 h3;have ht:jZ L v=true:=by have h4':(!jZ L v)=false:=h4;simpa using h4'
  rw[e1,e2]at h5
  exact rh (by
   unfold dI;rw[VR e,ht,VR rfl,VQ];intro hh;simp only[Bool.not_eq_true',Bool.and_eq_false_iff,Bool.not_eq_false',decide_eq_false_iff_not,VL]at h5;omega) (by omega)
 ·obtain⟨e,e1,e2⟩:=LG h h2 h3;have ht:jZ L v=true:=by have h4':(!jZ L v)=false:=h4;simpa using h4'
  rw[e1,e2]at h5
  have hE:dI L k v=0:=by
   unfold dI;rw[VR e,ht,VR rfl,VR];simp only[Bool.not_eq_false',VK,Bool.not_eq_true',VL,decide_eq_false_iff_not]at h5;omega
  obtain⟨_,b2,b3,_⟩:=eF (KI ht);rw[fK b2 b3];refine⟨hE.symm,?_⟩;unfold iX;rw[VR hE];exact(j8 b2 b3 (vb (cG hL v.oid.toNat (by omega)))).1
theorem Ot (L:List Sx.Obj) (k v:Key) (hL:aw L):ak Tryz.prog 167 [.lp 0 0,.key k,.key v] [.store tS eS L] (Ae (.it .i64 (dI L k v)) (iX L k v)) (fun _ _=>False):=
 aN (inl:=(fun f=>f==214||f==213||f==215||f==216||f==217)) (ann:=aV) (ae bd (ae br (ae eM ay))) (aF cx aB) (cY fL) (Nl L k v hL) (by kernel_rfl)
theorem NR:oM Tryz.prog 167 RC:=
 lO (m:=fun x=>TD.cn x 0) (nW Ir (fun _=>rfl)) (fun _=>rfl) (fun _ _=>rfl) (fun x=>aN (inl:=(fun f=>f==214||f==213||f==215||f==216||f==217)) (ann:=aV) (ae bd (ae br (ae eM ay))) (aF cx aB) (cY fL) (Lk x.1 x.2.1) (by kernel_rfl)) (fun x=>aN (inl:=(fun f=>f==214||f==213||f==215||f==216||f==217)) (ann:=aV) (ae bd (ae br (ae eM ay))) (aF cx aB) (cY fL) (Jy x.1 x.2.1) (by kernel_rfl)) fun L x hL _ _=>Ot L x.1 x.2.1 hL
theorem Fc (k:Key):
 true=true/\true=true/\((!decide (0<aj []))=true->0=iF [] k/\1=bc [] k)/\((!decide (0<aj []))=false->true=true/\((!(aT [] k&&decide (k.kind=4)))=true->0
  =iF [] k/\190=bc [] k)/\((!(aT [] k&&decide (k.kind=4)))=false->true=true/\((!(decide (((aa [] k).slots.at 0).kind=1)&&decide (((aa [] k).slots.at 1).kind=1)&&
  decide (0<=((aa [] k).slots.at 0).value)&&decide (((aa [] k).slots.at 0).value<=((aa [] k).slots.at 1).value)&&decide (((aa [] k).slots.at 1).value<aj [])))=true->0=
  iF [] k/\220=bc [] k)/\((!(decide (((aa [] k).slots.at 0).kind=1)&&decide (((aa [] k).slots.at 1).kind=1)&&decide (0<=((aa [] k).slots.at 0).value)&&decide (((aa
  [] k).slots.at 0).value<=((aa [] k).slots.at 1).value)&&decide (((aa [] k).slots.at 1).value<aj [])))=false->true=true/\true=true/\∀(r0:Loop),False))):=by
 exact⟨rfl,rfl,fun h=>(wH (D2 h) (by omega)).1,fun h=>absurd h (by decide)⟩
theorem FG (k:Key):
 true=true/\true=true/\((!decide (0<aj []))=true->0=iF [] k/\1=bc [] k)/\((!decide (0<aj []))=false->true=true/\((!(aT [] k&&decide (k.kind=4)))=true->0
  =iF [] k/\190=bc [] k)/\((!(aT [] k&&decide (k.kind=4)))=false->true=true/\((!(decide (((aa [] k).slots.at 0).kind=1)&&decide (((aa [] k).slots.at 1).kind=1)&&
  decide (0<=((aa [] k).slots.at 0).value)&&decide (((aa [] k).slots.at 0).value<=((aa [] k).slots.at 1).value)&&decide (((aa [] k).slots.at 1).value<aj [])))=true->0=
  iF [] k/\220=bc [] k)/\((!(decide (((aa [] k).slots.at 0).kind=1)&&decide (((aa [] k).slots.at 1).kind=1)&&decide (0<=((aa [] k).slots.at 0).value)&&decide (((aa
  [] k).slots.at 0).value<=((aa [] k).slots.at 1).value)&&decide (((aa [] k).slots.at 1).value<aj [])))=false->true=true/\true=true/\∀(r0:Loop),False))):=by
 exact⟨rfl,rfl,fun h=>(wH (D2 h) (by omega)).1,fun h=>absurd h (by decide)⟩
theorem Ih (L:List Sx.Obj) (k:Key) (hL:aw L):
 true=true/\true=true/\((!decide (0<aj L))=true->(0=iF L k/\1=bc L k)/\L=jW L k)/\((!decide (0<aj L))=false->true=true/\((!(aT L k&&decide (k.kind=
  4)))=true->(0=iF L k/\190=bc L k)/\L=jW L k)/\((!(aT L k&&decide (k.kind=4)))=false->true=true/\((!(decide (((aa L k).slots.at 0).kind=1)&&decide (((aa L
  k).slots.at 1).kind=1)&&decide (0<=((aa L k).slots.at 0).value)&&decide (((aa L k).slots.at 0).value<=((aa L k).slots.at 1).value)&&decide (((aa L k).slots.at 1).value<
  aj L)))=true->(0=iF L k/\220=bc L k)/\L=jW L k)/\((!(decide (((aa L k).slots.at 0).kind=1)&&decide (((aa L k).slots.at 1).kind=1)&&decide (0<=((aa L
  k).slots.at 0).value)&&decide (((aa L k).slots.at 0).value<=((aa L k).slots.at 1).value)&&decide (((aa L k).slots.at 1).value<aj L)))=false->true=true/\true=true/\∀(r0
  :Loop),(∃g,qf L k g/\((aa L k).slots.at 0).value=g/\L=fQ L (aE L k) g k.oid/\k=k/\0=gA L (aE L k) g k.oid/\k=k/\aa L k=aa L k/\k.oid=k.oid/\
  ((aa L k).slots.at 0).value=((aa L k).slots.at 0).value/\((aa L k).slots.at 1).value=((aa L k).slots.at 1).value/\aa L k=aa L k/\(aa L k).slots.at 0=(aa L
  k).slots.at 0/\(aa L k).slots.at 1=(aa L k).slots.at 1/\aa L k=aa L k/\k.oid=k.oid/\((aa L k).slots.at 0).value=((aa L k).slots.at 0).value/\((aa L k).slots.at
  1).value=((aa L k).slots.at 1).value/\aa L k=aa L k/\k.oid=k.oid/\((aa L k).slots.at 0).value=((aa L k).slots.at 0).value/\((aa L k).slots.at 1).value=((aa L
  k).slots.at 1).value/\r0=r0)/\∀(g:Int),qf L k g->(decide (g<=((aa L k).slots.at 1).value)=true->r0=r0/\r0=r0/\((decide ((aD (fQ L (aE L k) g k.oid) g).kind=1)||
  decide ((aD (fQ L (aE L k) g k.oid) g).kind=2))=true->true=true/\((decide (((aa L k).slots.at 0).value<=g)&&decide (g<=((aa L k).slots.at 1).value)&& !decide (g=k.oid))
  =true->true=true/\true=true/\aP IntKind.i64 (gA L (aE L k) g k.oid+1)/\r0=r0/\aP IntKind.i64 (g+1)/\∃g',qf L k g'/\(aI L k+1-g').toNat<(aI L k+1-
  g).toNat/\g+1=g'/\bP (fQ L (aE L k) g k.oid) g (Obj.mk free.kind (aD (fQ L (aE L k) g k.oid) g).count free.calls free.slots free.bytes)=fQ L (aE L k) g' k.oid/\k=
  k/\gA L (aE L k) g k.oid+1=gA L (aE L k) g' k.oid/\k=k/\aa L k=aa L k/\k.oid=k.oid/\((aa L k).slots.at 0).value=((aa L k).slots.at 0).value/\((aa L
  k).slots.at 1).value=((aa L k).slots.at 1).value/\aa L k=aa L k/\(aa L k).slots.at 0=(aa L k).slots.at 0/\(aa L k).slots.at 1=(aa L k).slots.at 1/\aa L k=
  aa L k/\k.oid=k.oid/\((aa L k).slots.at 0).value=((aa L k).slots.at 0).value/\((aa L k).slots.at 1).value=((aa L k).slots.at 1).value/\aa L k=aa L k/\k.oid=
  k.oid/\((aa L k).slots.at 0).value=((aa L k).slots.at 0).value/\((aa L k).slots.at 1).value=((aa L k).slots.at 1).value/\r0=r0)/\((decide (((aa L k).slots.at 0).value<=g)
  &&decide (g<=((aa L k).slots.at 1).value)&& !decide (g=k.oid))=false->r0=r0/\aP IntKind.i64 (g+1)/\∃g',qf L k g'/\(aI L k+1-g').toNat<(aI L k+1-g).toNat/\
  g+1=g'/\fQ L (aE L k) g k.oid=fQ L (aE L k) g' k.oid/\k=k/\gA L (aE L k) g k.oid=gA L (aE L k) g' k.oid/\k=k/\aa L k=aa L k/\k.oid=k.oid/\
  ((aa L k).slots.at 0).value=((aa L k).slots.at 0).value/\((aa L k).slots.at 1).value=((aa L k).slots.at 1).value/\aa L k=aa L k/\(aa L k).slots.at 0=(aa L
  k).slots.at 0/\(aa L k).slots.at 1=(aa L k).slots.at 1/\aa L k=aa L k/\k.oid=k.oid/\((aa L k).slots.at 0).value=((aa L k).slots.at 0).value/\((aa L k).slots.at
  1).value=((aa L k).slots.at 1).value/\aa L k=aa L k/\k.oid=k.oid/\((aa L k).slots.at 0).value=((aa L k).slots.at 0).value/\((aa L k).slots.at 1).value=((aa L
  k).slots.at 1).value/\r0=r0))/\((decide ((aD (fQ L (aE L k) g k.oid) g).kind=1)||decide ((aD (fQ L (aE L k) g k.oid) g).kind=2))=false->r0=r0/\aP IntKind.i64 (g+
  1)/\∃g',qf L k g'/\(aI L k+1-g').toNat<(aI L k+1-g).toNat/\g+1=g'/\fQ L (aE L k) g k.oid=fQ L (aE L k) g' k.oid/\k=k/\gA L (aE L k) g k.oid=
  gA L (aE L k) g' k.oid/\k=k/\aa L k=aa L k/\k.oid=k.oid/\((aa L k).slots.at 0).value=((aa L k).slots.at 0).value/\((aa L k).slots.at 1).value=((aa L
  k).slots.at 1).value/\aa L k=aa L k/\(aa L k).slots.at 0=(aa L k).slots.at 0/\(aa L k).slots.at 1=(aa L k).slots.at 1/\aa L k=aa L k/\k.oid=k.oid/\
  ((aa L k).slots.at 0).value=((aa L k).slots.at 0).value/\((aa L k).slots.at 1).value=((aa L k).slots.at 1).value/\aa L k=aa L k/\k.oid=k.oid/\((aa L k).slots.at
  0).value=((aa L k).slots.at 0).value/\((aa L k).slots.at 1).value=((aa L k).slots.at 1).value/\r0=r0))/\(decide (g<=((aa L k).slots.at 1).value)=false->(gA L (aE L
  k) g k.oid=iF L k/\0=bc L k)/\fQ L (aE L k) g k.oid=jW L k)))):=by
 refine⟨rfl,rfl,fun h=>wH (D2 h) (by omega),fun h=>⟨rfl,fun h2=>wH (SF h h2) (by omega),fun h2=>⟨rfl,fun h3=>wH (So h h2 h3) (by omega),fun h3=>⟨rfl,rfl,fun r0=>?_⟩⟩⟩⟩
 obtain⟨e,e1,e2⟩:=LG h h2 h3;obtain⟨_,a0,a1,a2,_⟩:=om e;rw[e1,e2];have hlen:=iN hL;have hin:∀g:Int,aE L k<=g->g<=aI L k->aP IntKind.i64 (g+1):=fun g h1 h2=>by simp only[aP,cj];omega
 have hnn:∀g:Int,aP IntKind.i64 (gA L (aE L k) g k.oid+1):=fun g=>by
  have:=DB (L:=L) (f:=aE L k) (g:=g) (oid:=k.oid);have:=PH (L:=L) (f:=aE L k) (g:=g) (oid:=k.oid);simp only[aP,cj];omega
 refine⟨⟨aE L k,⟨by omega,by omega⟩,rfl,Jn,rfl,AY.symm,(by(repeat' apply And.intro)<;>rfl)⟩,fun g hg=>⟨fun hgl=>?_,fun hgl=>?_⟩⟩
 ·obtain⟨g0,g1⟩:=hg;have hgl:=VO hgl;have hgz:(fQ L (aE L k) g k.oid).length=L.length:=DM;have hgt:aD (fQ L (aE L k) g k.oid) g=aq L g.toNat free:=by rw[fK (by omega) (by omega),PD (by omega)]
  rw[hgt];refine⟨rfl,rfl,fun hk=>⟨rfl,fun hb=>?_,fun hb=>?_⟩,fun hk=>?_⟩
  ·have hne:¬g=k.oid:=by
    simp only[VK,Bool.not_eq_true',decide_eq_false_iff_not]at hb;exact hb.2
   have hh:jj L g k.oid=true:=by unfold jj lP;rw[hk];simp[hne]
   have hs:=Hc (L:=L) (f:=aE L k) (oid:=k.oid) (by omega:0<=g) (by omega) g0 hh
   have hs2:=OE (L:=L) (f:=aE L k) (oid:=k.oid) (by omega:0<=g) (by omega) g0 hh
   have hp:=(j8 (L:=fQ L (aE L k) g k.oid) (i:=g) (by omega) (by omega) (hgz▸vb (cG hL g.toNat (by omega)))).1
   exact⟨rfl,rfl,hnn g,rfl,hin g g0 hgl,g+1,⟨by omega,by omega⟩,by omega,rfl,hp.trans hs2,rfl,hs.symm,(by(repeat' apply And.intro)<;>rfl)⟩
  ·have hh:jj L g k.oid=false:=by
    have e3:decide (aE L k<=g)=true:=by simp;omega
    have e4:decide (g<=aI L k)=true:=by simp;omega
    rw[e3,e4]at hb;unfold jj;rw[Bool.and_eq_false_iff];right
    simpa using hb
   have hs:=Bf (L:=L) (f:=aE L k) (oid:=k.oid) (by omega:0<=g) g0 hh
   have hs2:=B9 (L:=L) (f:=aE L k) (oid:=k.oid) (by omega:0<=g) g0 hh
   exact⟨rfl,hin g g0 hgl,g+1,⟨by omega,by omega⟩,by omega,rfl,hs2.symm,rfl,hs.symm,(by(repeat' apply And.intro)<;>rfl)⟩
  ·have hh:jj L g k.oid=false:=by unfold jj lP;rw[hk];rfl
   have hs:=Bf (L:=L) (f:=aE L k) (oid:=k.oid) (by omega:0<=g) g0 hh
   have hs2:=B9 (L:=L) (f:=aE L k) (oid:=k.oid) (by omega:0<=g) g0 hh
   exact⟨rfl,hin g g0 hgl,g+1,⟨by omega,by omega⟩,by omega,rfl,hs2.symm,rfl,hs.symm,(by(repeat' apply And.intro)<;>rfl)⟩
 ·obtain⟨g0,g1⟩:=hg;have hgl:=VN hgl;have:g=aI L k+1:=by omega
  subst this;exact⟨⟨by unfold iF;rw[VR e],e.symm⟩,by unfold jW;rw[VR e]⟩
theorem Hf (L:List Sx.Obj) (k:Key) (hL:aw L):ak Tryz.prog 225 [.lp 0 0,.key k] [.store tS eS L] (Ae (.tp [.it .i64 (iF L k),.it .i64 (bc L k)]) (jW L k)) (fun _ _=>False):=
 aN (inl:=(fun f=>f==214||f==213||f==216||f==217||f==219||f==1000000+232)) (ann:=(lr [(5000+232,1,Vv [0,1] (fun(g:Int)=> [(3,.it .i64 g)]) (fun g=> [(0,.store tS eS (fQ L (aE L k) g k.oid)),(2,.blk 3 (.it .i64 (gA L (aE L k) g k.oid)))]) (qf L k) (fun g=>nD (tY (AM (aI L k) 1) g)))])) (ae bd (ae br (ae eM ay))) (aF cx aB) (cY fL) (Ih L k hL) (by kernel_rfl)
theorem Ha:oM Tryz.prog 225 NK:=
 lO (m:=fun x=>kB.cn x 0) (nW Sq (fun _=>rfl)) (fun _=>rfl) (fun _ _=>rfl) (fun x=>aN (inl:=(fun f=>f==214||f==213||f==216||f==217||f==219||f==1000000+232)) (ann:=aV) (ae bd (ae br (ae eM ay))) (aF cx aB) (cY fL) (Fc x.1) (by kernel_rfl)) (fun x=>aN (inl:=(fun f=>f==214||f==213||f==216||f==217||f==219||f==1000000+232)) (ann:=aV) (ae bd (ae br (ae eM ay))) (aF cx aB) (cY fL) (FG x.1) (by kernel_rfl)) fun L x hL _ _=>Hf L x.1 hL
theorem GJ (k:Key) (kind:Int):
 true=true/\true=true/\((!decide (0<aj []))=true->void=er [] k kind/\1=du [] k kind)/\((!decide (0<aj []))=false->true=true/\((!(aT [] k&&decide (k.kind=
  4)))=true->void=er [] k kind/\190=du [] k kind)/\((!(aT [] k&&decide (k.kind=4)))=false->true=true/\((!(decide (((aa [] k).slots.at 0).kind=1)&&decide (((aa []
  k).slots.at 1).kind=1)&&decide (0<=((aa [] k).slots.at 0).value)&&decide (((aa [] k).slots.at 0).value<=((aa [] k).slots.at 1).value)&&decide (((aa [] k).slots.at 1).value<
  aj [])))=true->void=er [] k kind/\220=du [] k kind)/\((!(decide (((aa [] k).slots.at 0).kind=1)&&decide (((aa [] k).slots.at 1).kind=1)&&decide (0<=((aa []
  k).slots.at 0).value)&&decide (((aa [] k).slots.at 0).value<=((aa [] k).slots.at 1).value)&&decide (((aa [] k).slots.at 1).value<aj [])))=false->true=true/\((!(decide (kind
  =1)||decide (kind=2)))=true->void=er [] k kind/\2=du [] k kind)/\((!(decide (kind=1)||decide (kind=2)))=false->true=true/\true=true/\true=true/\∀(r0:Loop),
  False)))):=by
 exact⟨rfl,rfl,fun h=>(tQ (py (D2 h) (by omega)) (by omega)).1,fun h=>absurd h (by decide)⟩
theorem GL (k:Key) (kind:Int):
 true=true/\true=true/\((!decide (0<aj []))=true->void=er [] k kind/\1=du [] k kind)/\((!decide (0<aj []))=false->true=true/\((!(aT [] k&&decide (k.kind=
  4)))=true->void=er [] k kind/\190=du [] k kind)/\((!(aT [] k&&decide (k.kind=4)))=false->true=true/\((!(decide (((aa [] k).slots.at 0).kind=1)&&decide (((aa []
  k).slots.at 1).kind=1)&&decide (0<=((aa [] k).slots.at 0).value)&&decide (((aa [] k).slots.at 0).value<=((aa [] k).slots.at 1).value)&&decide (((aa [] k).slots.at 1).value<
  aj [])))=true->void=er [] k kind/\220=du [] k kind)/\((!(decide (((aa [] k).slots.at 0).kind=1)&&decide (((aa [] k).slots.at 1).kind=1)&&decide (0<=((aa []
  k).slots.at 0).value)&&decide (((aa [] k).slots.at 0).value<=((aa [] k).slots.at 1).value)&&decide (((aa [] k).slots.at 1).value<aj [])))=false->true=true/\((!(decide (kind
  =1)||decide (kind=2)))=true->void=er [] k kind/\2=du [] k kind)/\((!(decide (kind=1)||decide (kind=2)))=false->true=true/\true=true/\true=true/\∀(r0:Loop),
  False)))):=by
 exact⟨rfl,rfl,fun h=>(tQ (py (D2 h) (by omega)) (by omega)).1,fun h=>absurd h (by decide)⟩
theorem Kh (L:List Sx.Obj) (k:Key) (kind:Int) (hL:aw L):
 true=true/\true=true/\((!decide (0<aj L))=true->(void=er L k kind/\1=du L k kind)/\L=fC L k kind)/\((!decide (0<aj L))=false->true=true/\((!(aT L k&&
  decide (k.kind=4)))=true->(void=er L k kind/\190=du L k kind)/\L=fC L k kind)/\((!(aT L k&&decide (k.kind=4)))=false->true=true/\((!(decide (((aa L k).slots.at
  0).kind=1)&&decide (((aa L k).slots.at 1).kind=1)&&decide (0<=((aa L k).slots.at 0).value)&&decide (((aa L k).slots.at 0).value<=((aa L k).slots.at 1).value)&&decide
  (((aa L k).slots.at 1).value<aj L)))=true->(void=er L k kind/\220=du L k kind)/\L=fC L k kind)/\((!(decide (((aa L k).slots.at 0).kind=1)&&decide (((aa L
  k).slots.at 1).kind=1)&&decide (0<=((aa L k).slots.at 0).value)&&decide (((aa L k).slots.at 0).value<=((aa L k).slots.at 1).value)&&decide (((aa L k).slots.at 1).value<
  aj L)))=false->true=true/\((!(decide (kind=1)||decide (kind=2)))=true->(void=er L k kind/\2=du L k kind)/\L=fC L k kind)/\((!(decide (kind=1)||decide (kind=
  2)))=false->true=true/\true=true/\true=true/\∀(r0:Loop),(∃g,gY L k g/\((aa L k).slots.at 0).value=g/\L=bK L (aE L k) g/\k=k/\void=void/\k=k/\aa L k
  =aa L k/\k.oid=k.oid/\((aa L k).slots.at 0).value=((aa L k).slots.at 0).value/\((aa L k).slots.at 1).value=((aa L k).slots.at 1).value/\aa L k=aa L k/\(aa
  L k).slots.at 0=(aa L k).slots.at 0/\(aa L k).slots.at 1=(aa L k).slots.at 1/\aa L k=aa L k/\k.oid=k.oid/\((aa L k).slots.at 0).value=((aa L k).slots.at
  0).value/\((aa L k).slots.at 1).value=((aa L k).slots.at 1).value/\aa L k=aa L k/\k.oid=k.oid/\((aa L k).slots.at 0).value=((aa L k).slots.at 0).value/\((aa L
  k).slots.at 1).value=((aa L k).slots.at 1).value/\kind=kind/\void=void/\false=false/\aa L k=aa L k/\k.oid=k.oid/\((aa L k).slots.at 0).value=((aa L k).slots.at
  0).value/\((aa L k).slots.at 1).value=((aa L k).slots.at 1).value/\r0=r0)/\∀(g:Int),gY L k g->(decide (g<=((aa L k).slots.at 1).value)=true->r0=r0/\r0=r0/\
  ((!decide ((aD (bK L (aE L k) g) g).kind=0))=true->r0=r0/\aP IntKind.i64 (g+1)/\∃g',gY L k g'/\(aI L k+1-g').toNat<(aI L k+1-g).toNat/\g+1=g'/\
  bK L (aE L k) g=bK L (aE L k) g'/\k=k/\void=void/\k=k/\aa L k=aa L k/\k.oid=k.oid/\((aa L k).slots.at 0).value=((aa L k).slots.at 0).value/\((aa L
  k).slots.at 1).value=((aa L k).slots.at 1).value/\aa L k=aa L k/\(aa L k).slots.at 0=(aa L k).slots.at 0/\(aa L k).slots.at 1=(aa L k).slots.at 1/\aa L k=
  aa L k/\k.oid=k.oid/\((aa L k).slots.at 0).value=((aa L k).slots.at 0).value/\((aa L k).slots.at 1).value=((aa L k).slots.at 1).value/\aa L k=aa L k/\k.oid=
  k.oid/\((aa L k).slots.at 0).value=((aa L k).slots.at 0).value/\((aa L k).slots.at 1).value=((aa L k).slots.at 1).value/\kind=kind/\void=void/\false=false/\aa L k=
  aa L k/\k.oid=k.oid/\((aa L k).slots.at 0).value=((aa L k).slots.at 0).value/\((aa L k).slots.at 1).value=((aa L k).slots.at 1).value/\r0=r0)/\((!decide ((aD (bK
  L (aE L k) g) g).kind=0))=false->(decide ((aD (bK L (aE L k) g) g).count=4294967295)=true->true=true/\r0=r0/\aP IntKind.i64 (g+1)/\∃g',gY L k g'/\(aI L k
  +1-g').toNat<(aI L k+1-g).toNat/\g+1=g'/\bP (bK L (aE L k) g) g (Obj.mk 3 (aD (bK L (aE L k) g) g).count free.calls free.slots free.bytes)=bK L (aE L k)
  g'/\k=k/\void=void/\k=k/\aa L k=aa L k/\k.oid=k.oid/\((aa L k).slots.at 0).value=((aa L k).slots.at 0).value/\((aa L k).slots.at 1).value=((aa L k).slots.at
  1).value/\aa L k=aa L k/\(aa L k).slots.at 0=(aa L k).slots.at 0/\(aa L k).slots.at 1=(aa L k).slots.at 1/\aa L k=aa L k/\k.oid=k.oid/\((aa L
  k).slots.at 0).value=((aa L k).slots.at 0).value/\((aa L k).slots.at 1).value=((aa L k).slots.at 1).value/\aa L k=aa L k/\k.oid=k.oid/\((aa L k).slots.at 0).value=
  ((aa L k).slots.at 0).value/\((aa L k).slots.at 1).value=((aa L k).slots.at 1).value/\kind=kind/\void=void/\false=false/\aa L k=aa L k/\k.oid=k.oid/\((aa L
  k).slots.at 0).value=((aa L k).slots.at 0).value/\((aa L k).slots.at 1).value=((aa L k).slots.at 1).value/\r0=r0)/\(decide ((aD (bK L (aE L k) g) g).count=4294967295)=
  false->aP IntKind.i64 ((aD (bK L (aE L k) g) g).count+1)/\true=true/\aP IntKind.i64 ((aD (bK L (aE L k) g) g).count+1)/\r0=r0/\true=true/\(bZ kind g ((aD
  (bK L (aE L k) g) g).count+1)=er L k kind/\0=du L k kind)/\bP (bK L (aE L k) g) g (Obj.mk kind ((aD (bK L (aE L k) g) g).count+1) free.calls free.slots
  free.bytes)=fC L k kind)))/\(decide (g<=((aa L k).slots.at 1).value)=false->true=true/\(void=er L k kind/\221=du L k kind)/\bK L (aE L k) g=fC L k kind))))):=by
 refine⟨rfl,rfl,fun h=>tQ (py (D2 h) (by omega)) (by omega),fun h=>⟨rfl,fun h2=>tQ (py (SF h h2) (by omega)) (by omega),fun h2=>⟨rfl,fun h3=>tQ (py (So h h2 h3) (by omega)) (by omega),fun h3=>⟨rfl,fun h4=>tQ (J4 (LG h h2 h3).1 h4) (by omega),fun h4=>⟨rfl,rfl,rfl,fun r0=>?_⟩⟩⟩⟩⟩
 obtain⟨e,e1,e2⟩:=LG h h2 h3;obtain⟨_,a0,a1,a2,_⟩:=om e;rw[e1,e2]
 have hk:kind=1\/kind=2:=by
  simp only[Bool.not_eq_false',Bool.or_eq_true,VL]at h4;exact h4
 have hlen:=iN hL;have hin:∀g:Int,aE L k<=g->g<=aI L k->aP IntKind.i64 (g+1):=fun g h1 h2=>by simp only[aP,cj];omega
 have hcnt:∀j:Nat,j<L.length->0<=(aq L j free).count/\(aq L j free).count<=4294967295:=fun j hj=>⟨(jU (cG hL j hj)).1,(jU (cG hL j hj)).2.1⟩
 have hci:∀j:Nat,j<L.length->aP IntKind.i64 ((aq L j free).count+1):=fun j hj=>by have:=hcnt j hj;simp only[aP,cj];omega
 refine⟨⟨aE L k,⟨by omega,by omega,vv⟩,rfl,Cb,(by(repeat' apply And.intro)<;>rfl)⟩,fun g hg=>⟨fun hgl=>?_,fun hgl=>?_⟩⟩
 ·obtain⟨g0,g1,g2⟩:=hg;have hgl:=VO hgl;have hgn:g.toNat<L.length:=by omega
  have hgz:(bK L (aE L k) g).length=L.length:=k8;have hgt:aD (bK L (aE L k) g) g=aq L g.toNat free:=by rw[fK (by omega) (by omega),Dp (by omega)]
  rw[hgt];refine⟨rfl,rfl,fun hk0=>?_,fun hk0=>⟨fun hc=>?_,fun hc=>?_⟩⟩
  ·obtain⟨f1,f2⟩:=DR (o:=aq L g.toNat free) (by simpa using hk0)
   exact⟨rfl,hin g g0 hgl,g+1,⟨by omega,by omega,ot g2 f2⟩,by omega,rfl,(Cf (by omega) f1).symm,(by(repeat' apply And.intro)<;>rfl)⟩
  ·obtain⟨f1,f2⟩:=Kx (o:=aq L g.toNat free) (by simpa using hk0) (by have:=VO hc;omega)
   have hp:=(j8 (L:=bK L (aE L k) g) (i:=g) (by omega) (by omega) (hgz▸z6 (cG hL g.toNat hgn))).1
   exact⟨rfl,rfl,hin g g0 hgl,g+1,⟨by omega,by omega,ot g2 f2⟩,by omega,rfl,hp.trans (EJ (by omega) (by omega) g0 f1),(by(repeat' apply And.intro)<;>rfl)⟩
  ·have hc:=VN hc;have:=hcnt _ hgn;obtain⟨f1,f2⟩:=Jf (o:=aq L g.toNat free) (by simpa using hk0) (by omega)
   obtain⟨m1,m2,m3⟩:=En kind a0 g0 hgl (by omega) g2 f2
   obtain⟨n1,n2,n3,n4⟩:=MI (kind:=kind) e hk (by rw[m1];omega)
   have hp:=(j8 (L:=bK L (aE L k) g) (i:=g) (by omega) (by omega) (hgz▸yY (cG hL g.toNat hgn) f2 hk)).1
   refine⟨hci _ hgn,rfl,hci _ hgn,rfl,rfl,⟨?_,n3⟩,hp.trans (m3.symm.trans n4)⟩;have hK:er L k kind=bZ kind (e9 L (aE L k) (aI L k)) ((aq L (e9 L (aE L k) (aI L k)).toNat free).count+1):=by unfold er;rw[VR n3.symm]
   rw[hK,m1]
 ·obtain⟨g0,g1,g2⟩:=hg;have hgl:=VN hgl;have:g=aI L k+1:=by omega
  subst this;obtain⟨m1,m2,m3⟩:=JR kind g2;obtain⟨n1,n2,n3,n4⟩:=JU (kind:=kind) e hk m1;exact⟨rfl,⟨n2,n3⟩,m2.symm.trans n4⟩
theorem GW (L:List Sx.Obj) (k:Key) (kind:Int) (hL:aw L):ak Tryz.prog 211 [.lp 0 0,.key k,.it .i64 kind] [.store tS eS L] (Ae (.tp [.key (er L k kind),.it .i64 (du L k kind)]) (fC L k kind)) (fun _ _=>False):=
 aN (inl:=(fun f=>f==214||f==213||f==218||f==219||f==1000000+232)) (ann:=(lr [(3000+232,1,UN [0,1] (fun g=> [(3,.it .i64 g)]) 0 (fun g=> .store tS eS (bK L (aE L k) g)) (gY L k) (AM (aI L k) 1))])) (ae bd (ae br (ae eM (ae qd ay)))) (aF cx aB) (cY fL) (Kh L k kind hL) (by kernel_rfl)
theorem AF:oM Tryz.prog 211 Mq:=
 lO (m:=fun x=>Sn.cn x 0) (nW Ip (fun _=>rfl)) (fun _=>rfl) (fun _ _=>rfl) (fun x=>aN (inl:=(fun f=>f==214||f==213||f==218||f==219||f==1000000+232)) (ann:=aV) (ae bd (ae br (ae eM (ae qd ay)))) (aF cx aB) (cY fL) (GJ x.1 x.2.1) (by kernel_rfl)) (fun x=>aN (inl:=(fun f=>f==214||f==213||f==218||f==219||f==1000000+232)) (ann:=aV) (ae bd (ae br (ae eM (ae qd ay)))) (aF cx aB) (cY fL) (GL x.1 x.2.1) (by kernel_rfl)) fun L x hL _ _=>GW L x.1 x.2.1 hL
end Go.Proofs.YtlblcfaclmpekaaGreat
