import Derived.Test.YtlblcfaclmpekaaGreatCP
import Derived.Test.YtlblcfaclmpekaaGreatSpB
import Derived.Test.YtlblcfaclmpekaaGreatKS
import Derived.Test.YtlblcfaclmpekaaGreatCV
set_option linter.unusedSimpArgs false
set_option linter.unusedVariables false
namespace Go.Proofs.YtlblcfaclmpekaaGreat
open Go.Sx
end Go.Proofs.YtlblcfaclmpekaaGreat
namespace Go.Proofs.YtlblcfaclmpekaaGreat
open Go.Sx
set_option maxRecDepth 100000
theorem Mf (kind oid count:Int):
 (decide (kind=2)=true->Key.mk 3 oid count void.call void.rights void.value=bX kind oid count)/\(decide (kind=2)=false->Key.mk 2 oid count void.call void.rights void.value=bX kind
  oid count):=by
 unfold bX;exact⟨fun h=>by rw[VN (VK h)];rfl,fun h=>by rw[VM (VJ h)];rfl⟩
theorem p8:dC Tryz.prog 231 P4:=
 Li (gR .i64) (gR .i64) (gR .i64) (fun _ _ _=>rfl) fun i j k _ _ _=>bu (inl:=ca) (ann:=aR) au (Mf i j k) (by kernel_rfl)
theorem Gn (k v:Key):
 true=true/\true=true/\((!decide (0<ah []))=true->false=mi [] k v/\1=aY [] k)/\((!decide (0<ah []))=false->true=true/\((!(aQ [] k&&decide (k.kind=4)))=
  true->false=mi [] k v/\190=aY [] k)/\((!(aQ [] k&&decide (k.kind=4)))=false->true=true/\((!(decide (((aa [] k).slots.at 0).kind=1)&&decide (((aa [] k).slots.at
  1).kind=1)&&decide (0<=((aa [] k).slots.at 0).value)&&decide (((aa [] k).slots.at 0).value<=((aa [] k).slots.at 1).value)&&decide (((aa [] k).slots.at 1).value<ah [])))
  =true->false=mi [] k v/\220=aY [] k)/\((!(decide (((aa [] k).slots.at 0).kind=1)&&decide (((aa [] k).slots.at 1).kind=1)&&decide (0<=((aa [] k).slots.at 0).value)&&
  decide (((aa [] k).slots.at 0).value<=((aa [] k).slots.at 1).value)&&decide (((aa [] k).slots.at 1).value<ah [])))=false->true=true/\(aQ [] v&&(decide (v.kind=2)||
  decide (v.kind=3))&&decide (((aa [] k).slots.at 0).value<=bH v)&&decide (bH v<=((aa [] k).slots.at 1).value))=mi [] k v/\0=aY [] k))):=by
 exact⟨rfl,rfl,fun h=>zF (DM h) (by omega),fun h=>absurd h (by decide)⟩
theorem IA (L:List Sx.Obj) (k v:Key):
 true=true/\true=true/\((!decide (0<ah L))=true->false=mi L k v/\1=aY L k)/\((!decide (0<ah L))=false->true=true/\((!(aQ L k&&decide (k.kind=4)))=true->
  false=mi L k v/\190=aY L k)/\((!(aQ L k&&decide (k.kind=4)))=false->true=true/\((!(decide (((aa L k).slots.at 0).kind=1)&&decide (((aa L k).slots.at 1).kind=1)&&
  decide (0<=((aa L k).slots.at 0).value)&&decide (((aa L k).slots.at 0).value<=((aa L k).slots.at 1).value)&&decide (((aa L k).slots.at 1).value<ah L)))=true->false=
  mi L k v/\220=aY L k)/\((!(decide (((aa L k).slots.at 0).kind=1)&&decide (((aa L k).slots.at 1).kind=1)&&decide (0<=((aa L k).slots.at 0).value)&&decide (((aa L
  k).slots.at 0).value<=((aa L k).slots.at 1).value)&&decide (((aa L k).slots.at 1).value<ah L)))=false->true=true/\(aQ L v&&(decide (v.kind=2)||decide (v.kind=3))&&
  decide (((aa L k).slots.at 0).value<=bH v)&&decide (bH v<=((aa L k).slots.at 1).value))=mi L k v/\0=aY L k))):=by
 refine⟨rfl,rfl,fun h=>zF (DM h) (by omega),fun h=>⟨rfl,fun h2=>zF (Tm h h2) (by omega),fun h2=>⟨rfl,fun h3=>zF (Sr h h2 h3) (by omega),fun h3=>⟨rfl,?_,(LX h h2 h3).1.symm⟩⟩⟩⟩
 obtain⟨e,e1,e2⟩:=LX h h2 h3;rw[e1,e2];unfold mi jO;rw[e];cases hi:aQ L v with
 |false=>simp
 |true=>
  cases hk:(decide (v.kind=2)||decide (v.kind=3))with
  |false=>simp
  |true=>
   have hn:bH v=v.oid:=Pe hi;rw[hn];simp
theorem HF:dC Tryz.prog 224 Ny:=
 jY (aN qK G3) (fun _=>rfl) fun a hq hok=>by
  obtain⟨S,k,v,_⟩:=a;cases S with
  |none=>exact aL (inl:=(fun f=>f==214||f==213||f==215)) (ann:=aR) (ab ba (ab bn (ab cF au))) aA (cZ fS) (Gn k v) (by kernel_rfl)
  |some L=>exact aL (inl:=(fun f=>f==214||f==213||f==215)) (ann:=aR) (ab ba (ab bn (ab cF au))) aA (cZ fS) (IA L k v) (by kernel_rfl)
theorem Jt (k v:Key):
 true=true/\true=true/\((!decide (0<ah []))=true->1=dJ [] k v)/\((!decide (0<ah []))=false->true=true/\((!(aQ [] k&&decide (k.kind=4)))=true->190=dJ [] k
  v)/\((!(aQ [] k&&decide (k.kind=4)))=false->true=true/\((!(decide (((aa [] k).slots.at 0).kind=1)&&decide (((aa [] k).slots.at 1).kind=1)&&decide (0<=((aa []
  k).slots.at 0).value)&&decide (((aa [] k).slots.at 0).value<=((aa [] k).slots.at 1).value)&&decide (((aa [] k).slots.at 1).value<ah [])))=true->220=dJ [] k v)/\
  ((!(decide (((aa [] k).slots.at 0).kind=1)&&decide (((aa [] k).slots.at 1).kind=1)&&decide (0<=((aa [] k).slots.at 0).value)&&decide (((aa [] k).slots.at 0).value<=((aa
  [] k).slots.at 1).value)&&decide (((aa [] k).slots.at 1).value<ah [])))=false->true=true/\true=true/\((!(aQ [] v&&(decide (v.kind=2)||decide (v.kind=3))))=true->5=
  dJ [] k v)/\((!(aQ [] v&&(decide (v.kind=2)||decide (v.kind=3))))=false->true=true/\true=true/\((!(decide (((aa [] k).slots.at 0).value<=v.oid)&&decide (v.oid<=((aa
  [] k).slots.at 1).value)&& !decide (v.oid=k.oid)))=true->4=dJ [] k v)/\((!(decide (((aa [] k).slots.at 0).value<=v.oid)&&decide (v.oid<=((aa [] k).slots.at 1).value)&& !decide
  (v.oid=k.oid)))=false->true=true/\true=true/\0=dJ [] k v))))):=by
 exact⟨rfl,rfl,fun h=>(rk (o8 (DM h) (by omega)) (by omega)).1,fun h=>absurd h (by decide)⟩
theorem Ld (k v:Key):
 true=true/\true=true/\((!decide (0<ah []))=true->1=dJ [] k v)/\((!decide (0<ah []))=false->true=true/\((!(aQ [] k&&decide (k.kind=4)))=true->190=dJ [] k
  v)/\((!(aQ [] k&&decide (k.kind=4)))=false->true=true/\((!(decide (((aa [] k).slots.at 0).kind=1)&&decide (((aa [] k).slots.at 1).kind=1)&&decide (0<=((aa []
  k).slots.at 0).value)&&decide (((aa [] k).slots.at 0).value<=((aa [] k).slots.at 1).value)&&decide (((aa [] k).slots.at 1).value<ah [])))=true->220=dJ [] k v)/\
  ((!(decide (((aa [] k).slots.at 0).kind=1)&&decide (((aa [] k).slots.at 1).kind=1)&&decide (0<=((aa [] k).slots.at 0).value)&&decide (((aa [] k).slots.at 0).value<=((aa
  [] k).slots.at 1).value)&&decide (((aa [] k).slots.at 1).value<ah [])))=false->true=true/\true=true/\((!(aQ [] v&&(decide (v.kind=2)||decide (v.kind=3))))=true->5=
  dJ [] k v)/\((!(aQ [] v&&(decide (v.kind=2)||decide (v.kind=3))))=false->true=true/\true=true/\((!(decide (((aa [] k).slots.at 0).value<=v.oid)&&decide (v.oid<=((aa
  [] k).slots.at 1).value)&& !decide (v.oid=k.oid)))=true->4=dJ [] k v)/\((!(decide (((aa [] k).slots.at 0).value<=v.oid)&&decide (v.oid<=((aa [] k).slots.at 1).value)&& !decide
  (v.oid=k.oid)))=false->true=true/\true=true/\False))))):=by
 exact⟨rfl,rfl,fun h=>(rk (o8 (DM h) (by omega)) (by omega)).1,fun h=>absurd h (by decide)⟩
theorem N6 (L:List Sx.Obj) (k v:Key) (hL:ar L):
 true=true/\true=true/\((!decide (0<ah L))=true->1=dJ L k v/\L=iW L k v)/\((!decide (0<ah L))=false->true=true/\((!(aQ L k&&decide (k.kind=4)))=true->
  190=dJ L k v/\L=iW L k v)/\((!(aQ L k&&decide (k.kind=4)))=false->true=true/\((!(decide (((aa L k).slots.at 0).kind=1)&&decide (((aa L k).slots.at 1).kind=1)&&
  decide (0<=((aa L k).slots.at 0).value)&&decide (((aa L k).slots.at 0).value<=((aa L k).slots.at 1).value)&&decide (((aa L k).slots.at 1).value<ah L)))=true->220=dJ
  L k v/\L=iW L k v)/\((!(decide (((aa L k).slots.at 0).kind=1)&&decide (((aa L k).slots.at 1).kind=1)&&decide (0<=((aa L k).slots.at 0).value)&&decide (((aa L
  k).slots.at 0).value<=((aa L k).slots.at 1).value)&&decide (((aa L k).slots.at 1).value<ah L)))=false->true=true/\true=true/\((!(aQ L v&&(decide (v.kind=2)||decide
  (v.kind=3))))=true->5=dJ L k v/\L=iW L k v)/\((!(aQ L v&&(decide (v.kind=2)||decide (v.kind=3))))=false->true=true/\true=true/\((!(decide (((aa L k).slots.at
  0).value<=v.oid)&&decide (v.oid<=((aa L k).slots.at 1).value)&& !decide (v.oid=k.oid)))=true->4=dJ L k v/\L=iW L k v)/\((!(decide (((aa L k).slots.at 0).value<=v.oid)
  &&decide (v.oid<=((aa L k).slots.at 1).value)&& !decide (v.oid=k.oid)))=false->true=true/\true=true/\0=dJ L k v/\bO L v.oid (Obj.mk free.kind (aC L v.oid).count
  free.calls free.slots free.bytes)=iW L k v))))):=by
 refine⟨rfl,rfl,fun h=>rk (o8 (DM h) (by omega)) (by omega),fun h=>⟨rfl,fun h2=>rk (o8 (Tm h h2) (by omega)) (by omega),fun h2=>⟨rfl,fun h3=>rk (o8 (Sr h h2 h3) (by omega)) (by omega),fun h3=>⟨rfl,rfl,fun h4=>?_,fun h4=>⟨rfl,rfl,fun h5=>?_,fun h5=>⟨rfl,rfl,?_⟩⟩⟩⟩⟩⟩
 ·obtain⟨e,e1,e2⟩:=LX h h2 h3;have ht:jO L v=false:=by have h4':(!jO L v)=true:=h4;simpa using h4'
  exact rk (by unfold dJ;rw[VN e,ht];rfl) (by omega)
 ·obtain⟨e,e1,e2⟩:=LX h h2 h3;have ht:jO L v=true:=by have h4':(!jO L v)=false:=h4;simpa using h4'
  rw[e1,e2]at h5
  exact rk (by
   unfold dJ;rw[VN e,ht,VN rfl,VM];intro hh;simp only[Bool.not_eq_true',Bool.and_eq_false_iff,Bool.not_eq_false',decide_eq_false_iff_not,VH]at h5;omega) (by omega)
 ·obtain⟨e,e1,e2⟩:=LX h h2 h3;have ht:jO L v=true:=by have h4':(!jO L v)=false:=h4;simpa using h4'
  rw[e1,e2]at h5
  have hE:dJ L k v=0:=by
   unfold dJ;rw[VN e,ht,VN rfl,VN];simp only[Bool.not_eq_false',VG,Bool.not_eq_true',VH,decide_eq_false_iff_not]at h5;omega
  obtain⟨_,b2,b3,_⟩:=eH (JB ht);rw[fO b2 b3];refine⟨hE.symm,?_⟩;unfold iW;rw[VN hE];exact(kr b2 b3 (vp (cH hL v.oid.toNat (by omega)))).1
theorem LR (L:List Sx.Obj) (k v:Key) (hL:ar L):aj Tryz.prog 167 [.lp 0 0,.key k,.key v] [.store tS eS L] (zt (.it .i64 (dJ L k v)) (iW L k v)) (fun _ _=>False):=
 aL (inl:=(fun f=>f==214||f==213||f==215||f==216||f==217)) (ann:=aR) (ab ba (ab bn (ab eN au))) (aE cw aA) (cZ fS) (N6 L k v hL) (by kernel_rfl)
theorem Nv:oP Tryz.prog 167 Qz:=
 mf (m:=fun x=>TK.cn x 0) (oi G3 (fun _=>rfl)) (fun _=>rfl) (fun _ _=>rfl) (fun x=>aL (inl:=(fun f=>f==214||f==213||f==215||f==216||f==217)) (ann:=aR) (ab ba (ab bn (ab eN au))) (aE cw aA) (cZ fS) (Jt x.1 x.2.1) (by kernel_rfl)) (fun x=>aL (inl:=(fun f=>f==214||f==213||f==215||f==216||f==217)) (ann:=aR) (ab ba (ab bn (ab eN au))) (aE cw aA) (cZ fS) (Ld x.1 x.2.1) (by kernel_rfl)) fun L x hL _ _=>LR L x.1 x.2.1 hL
theorem E8 (k:Key):
 true=true/\true=true/\((!decide (0<ah []))=true->0=iu [] k/\1=aY [] k)/\((!decide (0<ah []))=false->true=true/\((!(aQ [] k&&decide (k.kind=4)))=true->0
  =iu [] k/\190=aY [] k)/\((!(aQ [] k&&decide (k.kind=4)))=false->true=true/\((!(decide (((aa [] k).slots.at 0).kind=1)&&decide (((aa [] k).slots.at 1).kind=1)&&
  decide (0<=((aa [] k).slots.at 0).value)&&decide (((aa [] k).slots.at 0).value<=((aa [] k).slots.at 1).value)&&decide (((aa [] k).slots.at 1).value<ah [])))=true->0=
  iu [] k/\220=aY [] k)/\((!(decide (((aa [] k).slots.at 0).kind=1)&&decide (((aa [] k).slots.at 1).kind=1)&&decide (0<=((aa [] k).slots.at 0).value)&&decide (((aa
  [] k).slots.at 0).value<=((aa [] k).slots.at 1).value)&&decide (((aa [] k).slots.at 1).value<ah [])))=false->true=true/\true=true/\∀(r0:Loop),False))):=by
 exact⟨rfl,rfl,fun h=>(xb (DM h) (by omega)).1,fun h=>absurd h (by decide)⟩
theorem Fw (k:Key):
 true=true/\true=true/\((!decide (0<ah []))=true->0=iu [] k/\1=aY [] k)/\((!decide (0<ah []))=false->true=true/\((!(aQ [] k&&decide (k.kind=4)))=true->0
  =iu [] k/\190=aY [] k)/\((!(aQ [] k&&decide (k.kind=4)))=false->true=true/\((!(decide (((aa [] k).slots.at 0).kind=1)&&decide (((aa [] k).slots.at 1).kind=1)&&
  decide (0<=((aa [] k).slots.at 0).value)&&decide (((aa [] k).slots.at 0).value<=((aa [] k).slots.at 1).value)&&decide (((aa [] k).slots.at 1).value<ah [])))=true->0=
  iu [] k/\220=aY [] k)/\((!(decide (((aa [] k).slots.at 0).kind=1)&&decide (((aa [] k).slots.at 1).kind=1)&&decide (0<=((aa [] k).slots.at 0).value)&&decide (((aa
  [] k).slots.at 0).value<=((aa [] k).slots.at 1).value)&&decide (((aa [] k).slots.at 1).value<ah [])))=false->true=true/\true=true/\∀(r0:Loop),False))):=by
 exact⟨rfl,rfl,fun h=>(xb (DM h) (by omega)).1,fun h=>absurd h (by decide)⟩
theorem Ir (L:List Sx.Obj) (k:Key) (hL:ar L):
 true=true/\true=true/\((!decide (0<ah L))=true->(0=iu L k/\1=aY L k)/\L=jH L k)/\((!decide (0<ah L))=false->true=true/\((!(aQ L k&&decide (k.kind=
  4)))=true->(0=iu L k/\190=aY L k)/\L=jH L k)/\((!(aQ L k&&decide (k.kind=4)))=false->true=true/\((!(decide (((aa L k).slots.at 0).kind=1)&&decide (((aa L
  k).slots.at 1).kind=1)&&decide (0<=((aa L k).slots.at 0).value)&&decide (((aa L k).slots.at 0).value<=((aa L k).slots.at 1).value)&&decide (((aa L k).slots.at 1).value<
  ah L)))=true->(0=iu L k/\220=aY L k)/\L=jH L k)/\((!(decide (((aa L k).slots.at 0).kind=1)&&decide (((aa L k).slots.at 1).kind=1)&&decide (0<=((aa L
  k).slots.at 0).value)&&decide (((aa L k).slots.at 0).value<=((aa L k).slots.at 1).value)&&decide (((aa L k).slots.at 1).value<ah L)))=false->true=true/\true=true/\∀(r0
  :Loop),(∃g,qo L k g/\((aa L k).slots.at 0).value=g/\L=fQ L (aD L k) g k.oid/\k=k/\0=gz L (aD L k) g k.oid/\k=k/\aa L k=aa L k/\k.oid=k.oid/\
  ((aa L k).slots.at 0).value=((aa L k).slots.at 0).value/\((aa L k).slots.at 1).value=((aa L k).slots.at 1).value/\aa L k=aa L k/\(aa L k).slots.at 0=(aa L
  k).slots.at 0/\(aa L k).slots.at 1=(aa L k).slots.at 1/\aa L k=aa L k/\k.oid=k.oid/\((aa L k).slots.at 0).value=((aa L k).slots.at 0).value/\((aa L k).slots.at
  1).value=((aa L k).slots.at 1).value/\aa L k=aa L k/\k.oid=k.oid/\((aa L k).slots.at 0).value=((aa L k).slots.at 0).value/\((aa L k).slots.at 1).value=((aa L
  k).slots.at 1).value/\r0=r0)/\∀(g:Int),qo L k g->(decide (g<=((aa L k).slots.at 1).value)=true->r0=r0/\r0=r0/\((decide ((aC (fQ L (aD L k) g k.oid) g).kind=1)||
  decide ((aC (fQ L (aD L k) g k.oid) g).kind=2))=true->true=true/\((decide (((aa L k).slots.at 0).value<=g)&&decide (g<=((aa L k).slots.at 1).value)&& !decide (g=k.oid))
  =true->true=true/\true=true/\aM IntKind.i64 (gz L (aD L k) g k.oid+1)/\r0=r0/\aM IntKind.i64 (g+1)/\∃g',qo L k g'/\(aH L k+1-g').toNat<(aH L k+1-
  g).toNat/\g+1=g'/\bO (fQ L (aD L k) g k.oid) g (Obj.mk free.kind (aC (fQ L (aD L k) g k.oid) g).count free.calls free.slots free.bytes)=fQ L (aD L k) g' k.oid/\k=
  k/\gz L (aD L k) g k.oid+1=gz L (aD L k) g' k.oid/\k=k/\aa L k=aa L k/\k.oid=k.oid/\((aa L k).slots.at 0).value=((aa L k).slots.at 0).value/\((aa L
  k).slots.at 1).value=((aa L k).slots.at 1).value/\aa L k=aa L k/\(aa L k).slots.at 0=(aa L k).slots.at 0/\(aa L k).slots.at 1=(aa L k).slots.at 1/\aa L k=
  aa L k/\k.oid=k.oid/\((aa L k).slots.at 0).value=((aa L k).slots.at 0).value/\((aa L k).slots.at 1).value=((aa L k).slots.at 1).value/\aa L k=aa L k/\k.oid=
  k.oid/\((aa L k).slots.at 0).value=((aa L k).slots.at 0).value/\((aa L k).slots.at 1).value=((aa L k).slots.at 1).value/\r0=r0)/\((decide (((aa L k).slots.at 0).value<=g)
  &&decide (g<=((aa L k).slots.at 1).value)&& !decide (g=k.oid))=false->r0=r0/\aM IntKind.i64 (g+1)/\∃g',qo L k g'/\(aH L k+1-g').toNat<(aH L k+1-g).toNat/\
  g+1=g'/\fQ L (aD L k) g k.oid=fQ L (aD L k) g' k.oid/\k=k/\gz L (aD L k) g k.oid=gz L (aD L k) g' k.oid/\k=k/\aa L k=aa L k/\k.oid=k.oid/\
  ((aa L k).slots.at 0).value=((aa L k).slots.at 0).value/\((aa L k).slots.at 1).value=((aa L k).slots.at 1).value/\aa L k=aa L k/\(aa L k).slots.at 0=(aa L
  k).slots.at 0/\(aa L k).slots.at 1=(aa L k).slots.at 1/\aa L k=aa L k/\k.oid=k.oid/\((aa L k).slots.at 0).value=((aa L k).slots.at 0).value/\((aa L k).slots.at
  1).value=((aa L k).slots.at 1).value/\aa L k=aa L k/\k.oid=k.oid/\((aa L k).slots.at 0).value=((aa L k).slots.at 0).value/\((aa L k).slots.at 1).value=((aa L
  k).slots.at 1).value/\r0=r0))/\((decide ((aC (fQ L (aD L k) g k.oid) g).kind=1)||decide ((aC (fQ L (aD L k) g k.oid) g).kind=2))=false->r0=r0/\aM IntKind.i64 (g+
  1)/\∃g',qo L k g'/\(aH L k+1-g').toNat<(aH L k+1-g).toNat/\g+1=g'/\fQ L (aD L k) g k.oid=fQ L (aD L k) g' k.oid/\k=k/\gz L (aD L k) g k.oid=
  gz L (aD L k) g' k.oid/\k=k/\aa L k=aa L k/\k.oid=k.oid/\((aa L k).slots.at 0).value=((aa L k).slots.at 0).value/\((aa L k).slots.at 1).value=((aa L
  k).slots.at 1).value/\aa L k=aa L k/\(aa L k).slots.at 0=(aa L k).slots.at 0/\(aa L k).slots.at 1=(aa L k).slots.at 1/\aa L k=aa L k/\k.oid=k.oid/\
  ((aa L k).slots.at 0).value=((aa L k).slots.at 0).value/\((aa L k).slots.at 1).value=((aa L k).slots.at 1).value/\aa L k=aa L k/\k.oid=k.oid/\((aa L k).slots.at
  0).value=((aa L k).slots.at 0).value/\((aa L k).slots.at 1).value=((aa L k).slots.at 1).value/\r0=r0))/\(decide (g<=((aa L k).slots.at 1).value)=false->(gz L (aD L
  k) g k.oid=iu L k/\0=aY L k)/\fQ L (aD L k) g k.oid=jH L k)))):=by
 refine⟨rfl,rfl,fun h=>xb (DM h) (by omega),fun h=>⟨rfl,fun h2=>xb (Tm h h2) (by omega),fun h2=>⟨rfl,fun h3=>xb (Sr h h2 h3) (by omega),fun h3=>⟨rfl,rfl,fun r0=>?_⟩⟩⟩⟩
 obtain⟨e,e1,e2⟩:=LX h h2 h3;obtain⟨_,a0,a1,a2,_⟩:=nK e;rw[e1,e2];have hlen:=jm hL;have hin:∀g:Int,aD L k<=g->g<=aH L k->aM IntKind.i64 (g+1):=fun g h1 h2=>by simp only[aM,cj];omega
 have hnn:∀g:Int,aM IntKind.i64 (gz L (aD L k) g k.oid+1):=fun g=>by
  have:=DD (L:=L) (f:=aD L k) (g:=g) (oid:=k.oid);have:=PS (L:=L) (f:=aD L k) (g:=g) (oid:=k.oid);simp only[aM,cj];omega
 refine⟨⟨aD L k,⟨by omega,by omega⟩,rfl,Kp,rfl,A5.symm,(by(repeat' apply And.intro)<;>rfl)⟩,fun g hg=>⟨fun hgl=>?_,fun hgl=>?_⟩⟩
 ·obtain⟨g0,g1⟩:=hg;have hgl:=VK hgl;have hgz:(fQ L (aD L k) g k.oid).length=L.length:=EX;have hgt:aC (fQ L (aD L k) g k.oid) g=ak L g.toNat free:=by rw[fO (by omega) (by omega),Pv (by omega)]
  rw[hgt];refine⟨rfl,rfl,fun hk=>⟨rfl,fun hb=>?_,fun hb=>?_⟩,fun hk=>?_⟩
  ·have hne:¬g=k.oid:=by
    simp only[VG,Bool.not_eq_true',decide_eq_false_iff_not]at hb;exact hb.2
   have hh:jh L g k.oid=true:=by unfold jh lH;rw[hk];simp[hne]
   have hs:=IC (L:=L) (f:=aD L k) (oid:=k.oid) (by omega:0<=g) (by omega) g0 hh
   have hs2:=NW (L:=L) (f:=aD L k) (oid:=k.oid) (by omega:0<=g) (by omega) g0 hh
   have hp:=(kr (L:=fQ L (aD L k) g k.oid) (i:=g) (by omega) (by omega) (hgz▸vp (cH hL g.toNat (by omega)))).1
   exact⟨rfl,rfl,hnn g,rfl,hin g g0 hgl,g+1,⟨by omega,by omega⟩,by omega,rfl,hp.trans hs2,rfl,hs.symm,(by(repeat' apply And.intro)<;>rfl)⟩
  ·have hh:jh L g k.oid=false:=by
    have e3:decide (aD L k<=g)=true:=by simp;omega
    have e4:decide (g<=aH L k)=true:=by simp;omega
    rw[e3,e4]at hb;unfold jh;rw[Bool.and_eq_false_iff];right
    simpa using hb
   have hs:=AG (L:=L) (f:=aD L k) (oid:=k.oid) (by omega:0<=g) g0 hh
   have hs2:=Bd (L:=L) (f:=aD L k) (oid:=k.oid) (by omega:0<=g) g0 hh
   exact⟨rfl,hin g g0 hgl,g+1,⟨by omega,by omega⟩,by omega,rfl,hs2.symm,rfl,hs.symm,(by(repeat' apply And.intro)<;>rfl)⟩
  ·have hh:jh L g k.oid=false:=by unfold jh lH;rw[hk];rfl
   have hs:=AG (L:=L) (f:=aD L k) (oid:=k.oid) (by omega:0<=g) g0 hh
   have hs2:=Bd (L:=L) (f:=aD L k) (oid:=k.oid) (by omega:0<=g) g0 hh
   exact⟨rfl,hin g g0 hgl,g+1,⟨by omega,by omega⟩,by omega,rfl,hs2.symm,rfl,hs.symm,(by(repeat' apply And.intro)<;>rfl)⟩
 ·obtain⟨g0,g1⟩:=hg;have hgl:=VJ hgl;have:g=aH L k+1:=by omega
  subst this;exact⟨⟨by unfold iu;rw[VN e],e.symm⟩,by unfold jH;rw[VN e]⟩
theorem Jp (L:List Sx.Obj) (k:Key) (hL:ar L):aj Tryz.prog 225 [.lp 0 0,.key k] [.store tS eS L] (zt (.tp [.it .i64 (iu L k),.it .i64 (aY L k)]) (jH L k)) (fun _ _=>False):=
 aL (inl:=(fun f=>f==214||f==213||f==216||f==217||f==219||f==1000000+232)) (ann:=(kV [(5000+232,1,Vb [0,1] (fun(g:Int)=> [(3,.it .i64 g)]) (fun g=> [(0,.store tS eS (fQ L (aD L k) g k.oid)),(2,.blk 3 (.it .i64 (gz L (aD L k) g k.oid)))]) (qo L k) (fun g=>nA (rN (AM (aH L k) 1) g)))])) (ab ba (ab bn (ab eN au))) (aE cw aA) (cZ fS) (Ir L k hL) (by kernel_rfl)
theorem KR:oP Tryz.prog 225 LJ:=
 mf (m:=fun x=>kB.cn x 0) (oi SD (fun _=>rfl)) (fun _=>rfl) (fun _ _=>rfl) (fun x=>aL (inl:=(fun f=>f==214||f==213||f==216||f==217||f==219||f==1000000+232)) (ann:=aR) (ab ba (ab bn (ab eN au))) (aE cw aA) (cZ fS) (E8 x.1) (by kernel_rfl)) (fun x=>aL (inl:=(fun f=>f==214||f==213||f==216||f==217||f==219||f==1000000+232)) (ann:=aR) (ab ba (ab bn (ab eN au))) (aE cw aA) (cZ fS) (Fw x.1) (by kernel_rfl)) fun L x hL _ _=>Jp L x.1 hL
theorem Gk (k:Key) (kind:Int):
 true=true/\true=true/\((!decide (0<ah []))=true->void=ev [] k kind/\1=dv [] k kind)/\((!decide (0<ah []))=false->true=true/\((!(aQ [] k&&decide (k.kind=
  4)))=true->void=ev [] k kind/\190=dv [] k kind)/\((!(aQ [] k&&decide (k.kind=4)))=false->true=true/\((!(decide (((aa [] k).slots.at 0).kind=1)&&decide (((aa []
  k).slots.at 1).kind=1)&&decide (0<=((aa [] k).slots.at 0).value)&&decide (((aa [] k).slots.at 0).value<=((aa [] k).slots.at 1).value)&&decide (((aa [] k).slots.at 1).value<
  ah [])))=true->void=ev [] k kind/\220=dv [] k kind)/\((!(decide (((aa [] k).slots.at 0).kind=1)&&decide (((aa [] k).slots.at 1).kind=1)&&decide (0<=((aa []
  k).slots.at 0).value)&&decide (((aa [] k).slots.at 0).value<=((aa [] k).slots.at 1).value)&&decide (((aa [] k).slots.at 1).value<ah [])))=false->true=true/\((!(decide (kind
  =1)||decide (kind=2)))=true->void=ev [] k kind/\2=dv [] k kind)/\((!(decide (kind=1)||decide (kind=2)))=false->true=true/\true=true/\true=true/\∀(r0:Loop),
  False)))):=by
 exact⟨rfl,rfl,fun h=>(tQ (oS (DM h) (by omega)) (by omega)).1,fun h=>absurd h (by decide)⟩
theorem Gf (k:Key) (kind:Int):
 true=true/\true=true/\((!decide (0<ah []))=true->void=ev [] k kind/\1=dv [] k kind)/\((!decide (0<ah []))=false->true=true/\((!(aQ [] k&&decide (k.kind=
  4)))=true->void=ev [] k kind/\190=dv [] k kind)/\((!(aQ [] k&&decide (k.kind=4)))=false->true=true/\((!(decide (((aa [] k).slots.at 0).kind=1)&&decide (((aa []
  k).slots.at 1).kind=1)&&decide (0<=((aa [] k).slots.at 0).value)&&decide (((aa [] k).slots.at 0).value<=((aa [] k).slots.at 1).value)&&decide (((aa [] k).slots.at 1).value<
  ah [])))=true->void=ev [] k kind/\220=dv [] k kind)/\((!(decide (((aa [] k).slots.at 0).kind=1)&&decide (((aa [] k).slots.at 1).kind=1)&&decide (0<=((aa []
  k).slots.at 0).value)&&decide (((aa [] k).slots.at 0).value<=((aa [] k).slots.at 1).value)&&decide (((aa [] k).slots.at 1).value<ah [])))=false->true=true/\((!(decide (kind
  =1)||decide (kind=2)))=true->void=ev [] k kind/\2=dv [] k kind)/\((!(decide (kind=1)||decide (kind=2)))=false->true=true/\true=true/\true=true/\∀(r0:Loop),
  False)))):=by
 exact⟨rfl,rfl,fun h=>(tQ (oS (DM h) (by omega)) (by omega)).1,fun h=>absurd h (by decide)⟩
theorem JG (L:List Sx.Obj) (k:Key) (kind:Int) (hL:ar L):
 true=true/\true=true/\((!decide (0<ah L))=true->(void=ev L k kind/\1=dv L k kind)/\L=fG L k kind)/\((!decide (0<ah L))=false->true=true/\((!(aQ L k&&
  decide (k.kind=4)))=true->(void=ev L k kind/\190=dv L k kind)/\L=fG L k kind)/\((!(aQ L k&&decide (k.kind=4)))=false->true=true/\((!(decide (((aa L k).slots.at
  0).kind=1)&&decide (((aa L k).slots.at 1).kind=1)&&decide (0<=((aa L k).slots.at 0).value)&&decide (((aa L k).slots.at 0).value<=((aa L k).slots.at 1).value)&&decide
  (((aa L k).slots.at 1).value<ah L)))=true->(void=ev L k kind/\220=dv L k kind)/\L=fG L k kind)/\((!(decide (((aa L k).slots.at 0).kind=1)&&decide (((aa L
  k).slots.at 1).kind=1)&&decide (0<=((aa L k).slots.at 0).value)&&decide (((aa L k).slots.at 0).value<=((aa L k).slots.at 1).value)&&decide (((aa L k).slots.at 1).value<
  ah L)))=false->true=true/\((!(decide (kind=1)||decide (kind=2)))=true->(void=ev L k kind/\2=dv L k kind)/\L=fG L k kind)/\((!(decide (kind=1)||decide (kind=
  2)))=false->true=true/\true=true/\true=true/\∀(r0:Loop),(∃g,hS L k g/\((aa L k).slots.at 0).value=g/\L=bJ L (aD L k) g/\k=k/\void=void/\k=k/\aa L k
  =aa L k/\k.oid=k.oid/\((aa L k).slots.at 0).value=((aa L k).slots.at 0).value/\((aa L k).slots.at 1).value=((aa L k).slots.at 1).value/\aa L k=aa L k/\(aa
  L k).slots.at 0=(aa L k).slots.at 0/\(aa L k).slots.at 1=(aa L k).slots.at 1/\aa L k=aa L k/\k.oid=k.oid/\((aa L k).slots.at 0).value=((aa L k).slots.at
  0).value/\((aa L k).slots.at 1).value=((aa L k).slots.at 1).value/\aa L k=aa L k/\k.oid=k.oid/\((aa L k).slots.at 0).value=((aa L k).slots.at 0).value/\((aa L
  k).slots.at 1).value=((aa L k).slots.at 1).value/\kind=kind/\void=void/\false=false/\aa L k=aa L k/\k.oid=k.oid/\((aa L k).slots.at 0).value=((aa L k).slots.at
  0).value/\((aa L k).slots.at 1).value=((aa L k).slots.at 1).value/\r0=r0)/\∀(g:Int),hS L k g->(decide (g<=((aa L k).slots.at 1).value)=true->r0=r0/\r0=r0/\
  ((!decide ((aC (bJ L (aD L k) g) g).kind=0))=true->r0=r0/\aM IntKind.i64 (g+1)/\∃g',hS L k g'/\(aH L k+1-g').toNat<(aH L k+1-g).toNat/\g+1=g'/\
  bJ L (aD L k) g=bJ L (aD L k) g'/\k=k/\void=void/\k=k/\aa L k=aa L k/\k.oid=k.oid/\((aa L k).slots.at 0).value=((aa L k).slots.at 0).value/\((aa L
  k).slots.at 1).value=((aa L k).slots.at 1).value/\aa L k=aa L k/\(aa L k).slots.at 0=(aa L k).slots.at 0/\(aa L k).slots.at 1=(aa L k).slots.at 1/\aa L k=
  aa L k/\k.oid=k.oid/\((aa L k).slots.at 0).value=((aa L k).slots.at 0).value/\((aa L k).slots.at 1).value=((aa L k).slots.at 1).value/\aa L k=aa L k/\k.oid=
  k.oid/\((aa L k).slots.at 0).value=((aa L k).slots.at 0).value/\((aa L k).slots.at 1).value=((aa L k).slots.at 1).value/\kind=kind/\void=void/\false=false/\aa L k=
  aa L k/\k.oid=k.oid/\((aa L k).slots.at 0).value=((aa L k).slots.at 0).value/\((aa L k).slots.at 1).value=((aa L k).slots.at 1).value/\r0=r0)/\((!decide ((aC (bJ
  L (aD L k) g) g).kind=0))=false->(decide ((aC (bJ L (aD L k) g) g).count=4294967295)=true->true=true/\r0=r0/\aM IntKind.i64 (g+1)/\∃g',hS L k g'/\(aH L k
  +1-g').toNat<(aH L k+1-g).toNat/\g+1=g'/\bO (bJ L (aD L k) g) g (Obj.mk 3 (aC (bJ L (aD L k) g) g).count free.calls free.slots free.bytes)=bJ L (aD L k)
  g'/\k=k/\void=void/\k=k/\aa L k=aa L k/\k.oid=k.oid/\((aa L k).slots.at 0).value=((aa L k).slots.at 0).value/\((aa L k).slots.at 1).value=((aa L k).slots.at
  1).value/\aa L k=aa L k/\(aa L k).slots.at 0=(aa L k).slots.at 0/\(aa L k).slots.at 1=(aa L k).slots.at 1/\aa L k=aa L k/\k.oid=k.oid/\((aa L
  k).slots.at 0).value=((aa L k).slots.at 0).value/\((aa L k).slots.at 1).value=((aa L k).slots.at 1).value/\aa L k=aa L k/\k.oid=k.oid/\((aa L k).slots.at 0).value=
  ((aa L k).slots.at 0).value/\((aa L k).slots.at 1).value=((aa L k).slots.at 1).value/\kind=kind/\void=void/\false=false/\aa L k=aa L k/\k.oid=k.oid/\((aa L
  k).slots.at 0).value=((aa L k).slots.at 0).value/\((aa L k).slots.at 1).value=((aa L k).slots.at 1).value/\r0=r0)/\(decide ((aC (bJ L (aD L k) g) g).count=4294967295)=
  false->aM IntKind.i64 ((aC (bJ L (aD L k) g) g).count+1)/\true=true/\aM IntKind.i64 ((aC (bJ L (aD L k) g) g).count+1)/\r0=r0/\true=true/\(bX kind g ((aC
  (bJ L (aD L k) g) g).count+1)=ev L k kind/\0=dv L k kind)/\bO (bJ L (aD L k) g) g (Obj.mk kind ((aC (bJ L (aD L k) g) g).count+1) free.calls free.slots
  free.bytes)=fG L k kind)))/\(decide (g<=((aa L k).slots.at 1).value)=false->true=true/\(void=ev L k kind/\221=dv L k kind)/\bJ L (aD L k) g=fG L k kind))))):=by
 refine⟨rfl,rfl,fun h=>tQ (oS (DM h) (by omega)) (by omega),fun h=>⟨rfl,fun h2=>tQ (oS (Tm h h2) (by omega)) (by omega),fun h2=>⟨rfl,fun h3=>tQ (oS (Sr h h2 h3) (by omega)) (by omega),fun h3=>⟨rfl,fun h4=>tQ (It (LX h h2 h3).1 h4) (by omega),fun h4=>⟨rfl,rfl,rfl,fun r0=>?_⟩⟩⟩⟩⟩
 obtain⟨e,e1,e2⟩:=LX h h2 h3;obtain⟨_,a0,a1,a2,_⟩:=nK e;rw[e1,e2]
 have hk:kind=1\/kind=2:=by
  simp only[Bool.not_eq_false',Bool.or_eq_true,VH]at h4;exact h4
 have hlen:=jm hL;have hin:∀g:Int,aD L k<=g->g<=aH L k->aM IntKind.i64 (g+1):=fun g h1 h2=>by simp only[aM,cj];omega
 have hcnt:∀j:Nat,j<L.length->0<=(ak L j free).count/\(ak L j free).count<=4294967295:=fun j hj=>⟨(jN (cH hL j hj)).1,(jN (cH hL j hj)).2.1⟩
 have hci:∀j:Nat,j<L.length->aM IntKind.i64 ((ak L j free).count+1):=fun j hj=>by have:=hcnt j hj;simp only[aM,cj];omega
 refine⟨⟨aD L k,⟨by omega,by omega,vM⟩,rfl,AR,(by(repeat' apply And.intro)<;>rfl)⟩,fun g hg=>⟨fun hgl=>?_,fun hgl=>?_⟩⟩
 ·obtain⟨g0,g1,g2⟩:=hg;have hgl:=VK hgl;have hgn:g.toNat<L.length:=by omega
  have hgz:(bJ L (aD L k) g).length=L.length:=lu;have hgt:aC (bJ L (aD L k) g) g=ak L g.toNat free:=by rw[fO (by omega) (by omega),CF (by omega)]
  rw[hgt];refine⟨rfl,rfl,fun hk0=>?_,fun hk0=>⟨fun hc=>?_,fun hc=>?_⟩⟩
  ·obtain⟨f1,f2⟩:=Ep (o:=ak L g.toNat free) (by simpa using hk0)
   exact⟨rfl,hin g g0 hgl,g+1,⟨by omega,by omega,oD g2 f2⟩,by omega,rfl,(Br (by omega) f1).symm,(by(repeat' apply And.intro)<;>rfl)⟩
  ·obtain⟨f1,f2⟩:=Ks (o:=ak L g.toNat free) (by simpa using hk0) (by have:=VK hc;omega)
   have hp:=(kr (L:=bJ L (aD L k) g) (i:=g) (by omega) (by omega) (hgz▸zW (cH hL g.toNat hgn))).1
   exact⟨rfl,rfl,hin g g0 hgl,g+1,⟨by omega,by omega,oD g2 f2⟩,by omega,rfl,hp.trans (Ew (by omega) (by omega) g0 f1),(by(repeat' apply And.intro)<;>rfl)⟩
  ·have hc:=VJ hc;have:=hcnt _ hgn;obtain⟨f1,f2⟩:=Kq (o:=ak L g.toNat free) (by simpa using hk0) (by omega)
   obtain⟨m1,m2,m3⟩:=EL kind a0 g0 hgl (by omega) g2 f2
   obtain⟨n1,n2,n3,n4⟩:=MY (kind:=kind) e hk (by rw[m1];omega)
   have hp:=(kr (L:=bJ L (aD L k) g) (i:=g) (by omega) (by omega) (hgz▸zp (cH hL g.toNat hgn) f2 hk)).1
   refine⟨hci _ hgn,rfl,hci _ hgn,rfl,rfl,⟨?_,n3⟩,hp.trans (m3.symm.trans n4)⟩;have hK:ev L k kind=bX kind (fa L (aD L k) (aH L k)) ((ak L (fa L (aD L k) (aH L k)).toNat free).count+1):=by unfold ev;rw[VN n3.symm]
   rw[hK,m1]
 ·obtain⟨g0,g1,g2⟩:=hg;have hgl:=VJ hgl;have:g=aH L k+1:=by omega
  subst this;obtain⟨m1,m2,m3⟩:=JR kind g2;obtain⟨n1,n2,n3,n4⟩:=KN (kind:=kind) e hk m1;exact⟨rfl,⟨n2,n3⟩,m2.symm.trans n4⟩
theorem JN (L:List Sx.Obj) (k:Key) (kind:Int) (hL:ar L):aj Tryz.prog 211 [.lp 0 0,.key k,.it .i64 kind] [.store tS eS L] (zt (.tp [.key (ev L k kind),.it .i64 (dv L k kind)]) (fG L k kind)) (fun _ _=>False):=
 aL (inl:=(fun f=>f==214||f==213||f==218||f==219||f==1000000+232)) (ann:=(kV [(3000+232,1,UB [0,1] (fun g=> [(3,.it .i64 g)]) 0 (fun g=> .store tS eS (bJ L (aD L k) g)) (hS L k) (AM (aH L k) 1))])) (ab ba (ab bn (ab eN (ab p8 au)))) (aE cw aA) (cZ fS) (JG L k kind hL) (by kernel_rfl)
theorem Bc:oP Tryz.prog 211 Oh:=
 mf (m:=fun x=>Tk.cn x 0) (oi H4 (fun _=>rfl)) (fun _=>rfl) (fun _ _=>rfl) (fun x=>aL (inl:=(fun f=>f==214||f==213||f==218||f==219||f==1000000+232)) (ann:=aR) (ab ba (ab bn (ab eN (ab p8 au)))) (aE cw aA) (cZ fS) (Gk x.1 x.2.1) (by kernel_rfl)) (fun x=>aL (inl:=(fun f=>f==214||f==213||f==218||f==219||f==1000000+232)) (ann:=aR) (ab ba (ab bn (ab eN (ab p8 au)))) (aE cw aA) (cZ fS) (Gf x.1 x.2.1) (by kernel_rfl)) fun L x hL _ _=>JN L x.1 x.2.1 hL
end Go.Proofs.YtlblcfaclmpekaaGreat
