import Derived.Test.YtlblcfaclmpekaaGreatCP
import Derived.Test.YtlblcfaclmpekaaGreatSpB
import Derived.Test.YtlblcfaclmpekaaGreatKS
import Derived.Test.YtlblcfaclmpekaaGreatCV
set_option linter.unusedSimpArgs false
set_option linter.unusedVariables false
namespace Go.Proofs.YtlblcfaclmpekaaGreat
open Go.Sx
end Go.Proofs.YtlblcfaclmpekaaGreat
namespace Go.Proofs.YtlblcfaclmpekaaGreat
open Go.Sx
set_option maxRecDepth 100000
theorem N2 (kind oid count:Int):
 (decide (kind=2)=true->Key.mk 3 oid count void.call void.rights void.value=bZ kind oid count)/\(decide (kind=2)=false->Key.mk 2 oid count void.call void.rights void.value=bZ kind
  oid count):=by
 unfold bZ;exact⟨fun h=>by rw[Xv (Xs h)];rfl,fun h=>by rw[Xu (Xr h)];rfl⟩
theorem qe:cV Tryz.prog 231 RD:=
 J0 (gi .i64) (gi .i64) (gi .i64) (fun _ _ _=>rfl) fun i j k _ _ _=>bd (inl:=bS) (ann:=aO) an (N2 i j k) (by kernel_rfl)
theorem GU (k v:Key):
 true=true/\true=true/\((!decide (0<ah []))=true->false=mD [] k v/\1=aV [] k)/\((!decide (0<ah []))=false->true=true/\((!(aI [] k&&decide (k.kind=4)))=
  true->false=mD [] k v/\190=aV [] k)/\((!(aI [] k&&decide (k.kind=4)))=false->true=true/\((!(decide (((aa [] k).slots.at 0).kind=1)&&decide (((aa [] k).slots.at
  1).kind=1)&&decide (0<=((aa [] k).slots.at 0).value)&&decide (((aa [] k).slots.at 0).value<=((aa [] k).slots.at 1).value)&&decide (((aa [] k).slots.at 1).value<ah [])))
  =true->false=mD [] k v/\220=aV [] k)/\((!(decide (((aa [] k).slots.at 0).kind=1)&&decide (((aa [] k).slots.at 1).kind=1)&&decide (0<=((aa [] k).slots.at 0).value)&&
  decide (((aa [] k).slots.at 0).value<=((aa [] k).slots.at 1).value)&&decide (((aa [] k).slots.at 1).value<ah [])))=false->true=true/\(aI [] v&&(decide (v.kind=2)||
  decide (v.kind=3))&&decide (((aa [] k).slots.at 0).value<=bG v)&&decide (bG v<=((aa [] k).slots.at 1).value))=mD [] k v/\0=aV [] k))):=by
 exact⟨rfl,rfl,fun h=>AM (FK h) (by omega),fun h=>absurd h (by decide)⟩
theorem JL (L:List Sx.Obj) (k v:Key):
 true=true/\true=true/\((!decide (0<ah L))=true->false=mD L k v/\1=aV L k)/\((!decide (0<ah L))=false->true=true/\((!(aI L k&&decide (k.kind=4)))=true->
  false=mD L k v/\190=aV L k)/\((!(aI L k&&decide (k.kind=4)))=false->true=true/\((!(decide (((aa L k).slots.at 0).kind=1)&&decide (((aa L k).slots.at 1).kind=1)&&
  decide (0<=((aa L k).slots.at 0).value)&&decide (((aa L k).slots.at 0).value<=((aa L k).slots.at 1).value)&&decide (((aa L k).slots.at 1).value<ah L)))=true->false=
  mD L k v/\220=aV L k)/\((!(decide (((aa L k).slots.at 0).kind=1)&&decide (((aa L k).slots.at 1).kind=1)&&decide (0<=((aa L k).slots.at 0).value)&&decide (((aa L
  k).slots.at 0).value<=((aa L k).slots.at 1).value)&&decide (((aa L k).slots.at 1).value<ah L)))=false->true=true/\(aI L v&&(decide (v.kind=2)||decide (v.kind=3))&&
  decide (((aa L k).slots.at 0).value<=bG v)&&decide (bG v<=((aa L k).slots.at 1).value))=mD L k v/\0=aV L k))):=by
 refine⟨rfl,rfl,fun h=>AM (FK h) (by omega),fun h=>⟨rfl,fun h2=>AM (TS h h2) (by omega),fun h2=>⟨rfl,fun h3=>AM (T3 h h2 h3) (by omega),fun h3=>⟨rfl,?_,(Oa h h2 h3).1.symm⟩⟩⟩⟩
 obtain⟨e,e1,e2⟩:=Oa h h2 h3;rw[e1,e2];unfold mD iv;rw[e];cases hi:aI L v with
 |false=>simp
 |true=>
  cases hk:(decide (v.kind=2)||decide (v.kind=3))with
  |false=>simp
  |true=>
   have hn:bG v=v.oid:=RE hi;rw[hn];simp
theorem Ie:cV Tryz.prog 224 PX:=
 jT (aM qQ JN) (fun _=>rfl) fun a hq hok=>by
  obtain⟨S,k,v,_⟩:=a;cases S with
  |none=>exact aK (inl:=(fun f=>f==214||f==213||f==215)) (ann:=aO) (ab aY (ab bk (ab cF an))) az (cW fR) (GU k v) (by kernel_rfl)
  |some L=>exact aK (inl:=(fun f=>f==214||f==213||f==215)) (ann:=aO) (ab aY (ab bk (ab cF an))) az (cW fR) (JL L k v) (by kernel_rfl)
theorem Ln (k v:Key):
 true=true/\true=true/\((!decide (0<ah []))=true->1=dE [] k v)/\((!decide (0<ah []))=false->true=true/\((!(aI [] k&&decide (k.kind=4)))=true->190=dE [] k
  v)/\((!(aI [] k&&decide (k.kind=4)))=false->true=true/\((!(decide (((aa [] k).slots.at 0).kind=1)&&decide (((aa [] k).slots.at 1).kind=1)&&decide (0<=((aa []
  k).slots.at 0).value)&&decide (((aa [] k).slots.at 0).value<=((aa [] k).slots.at 1).value)&&decide (((aa [] k).slots.at 1).value<ah [])))=true->220=dE [] k v)/\
  ((!(decide (((aa [] k).slots.at 0).kind=1)&&decide (((aa [] k).slots.at 1).kind=1)&&decide (0<=((aa [] k).slots.at 0).value)&&decide (((aa [] k).slots.at 0).value<=((aa
  [] k).slots.at 1).value)&&decide (((aa [] k).slots.at 1).value<ah [])))=false->true=true/\true=true/\((!(aI [] v&&(decide (v.kind=2)||decide (v.kind=3))))=true->5=
  dE [] k v)/\((!(aI [] v&&(decide (v.kind=2)||decide (v.kind=3))))=false->true=true/\true=true/\((!(decide (((aa [] k).slots.at 0).value<=v.oid)&&decide (v.oid<=((aa
  [] k).slots.at 1).value)&& !decide (v.oid=k.oid)))=true->4=dE [] k v)/\((!(decide (((aa [] k).slots.at 0).value<=v.oid)&&decide (v.oid<=((aa [] k).slots.at 1).value)&& !decide
  (v.oid=k.oid)))=false->true=true/\true=true/\0=dE [] k v))))):=by
 exact⟨rfl,rfl,fun h=>(rj (pS (FK h) (by omega)) (by omega)).1,fun h=>absurd h (by decide)⟩
theorem HA (k v:Key):
 true=true/\true=true/\((!decide (0<ah []))=true->1=dE [] k v)/\((!decide (0<ah []))=false->true=true/\((!(aI [] k&&decide (k.kind=4)))=true->190=dE [] k
  v)/\((!(aI [] k&&decide (k.kind=4)))=false->true=true/\((!(decide (((aa [] k).slots.at 0).kind=1)&&decide (((aa [] k).slots.at 1).kind=1)&&decide (0<=((aa []
  k).slots.at 0).value)&&decide (((aa [] k).slots.at 0).value<=((aa [] k).slots.at 1).value)&&decide (((aa [] k).slots.at 1).value<ah [])))=true->220=dE [] k v)/\
  ((!(decide (((aa [] k).slots.at 0).kind=1)&&decide (((aa [] k).slots.at 1).kind=1)&&decide (0<=((aa [] k).slots.at 0).value)&&decide (((aa [] k).slots.at 0).value<=((aa
  [] k).slots.at 1).value)&&decide (((aa [] k).slots.at 1).value<ah [])))=false->true=true/\true=true/\((!(aI [] v&&(decide (v.kind=2)||decide (v.kind=3))))=true->5=
  dE [] k v)/\((!(aI [] v&&(decide (v.kind=2)||decide (v.kind=3))))=false->true=true/\true=true/\((!(decide (((aa [] k).slots.at 0).value<=v.oid)&&decide (v.oid<=((aa
  [] k).slots.at 1).value)&& !decide (v.oid=k.oid)))=true->4=dE [] k v)/\((!(decide (((aa [] k).slots.at 0).value<=v.oid)&&decide (v.oid<=((aa [] k).slots.at 1).value)&& !decide
  (v.oid=k.oid)))=false->true=true/\true=true/\False))))):=by
 exact⟨rfl,rfl,fun h=>(rj (pS (FK h) (by omega)) (by omega)).1,fun h=>absurd h (by decide)⟩
theorem Oh (L:List Sx.Obj) (k v:Key) (hL:aq L):
 true=true/\true=true/\((!decide (0<ah L))=true->1=dE L k v/\L=h9 L k v)/\((!decide (0<ah L))=false->true=true/\((!(aI L k&&decide (k.kind=4)))=true->
  190=dE L k v/\L=h9 L k v)/\((!(aI L k&&decide (k.kind=4)))=false->true=true/\((!(decide (((aa L k).slots.at 0).kind=1)&&decide (((aa L k).slots.at 1).kind=1)&&
  decide (0<=((aa L k).slots.at 0).value)&&decide (((aa L k).slots.at 0).value<=((aa L k).slots.at 1).value)&&decide (((aa L k).slots.at 1).value<ah L)))=true->220=dE
  L k v/\L=h9 L k v)/\((!(decide (((aa L k).slots.at 0).kind=1)&&decide (((aa L k).slots.at 1).kind=1)&&decide (0<=((aa L k).slots.at 0).value)&&decide (((aa L
  k).slots.at 0).value<=((aa L k).slots.at 1).value)&&decide (((aa L k).slots.at 1).value<ah L)))=false->true=true/\true=true/\((!(aI L v&&(decide (v.kind=2)||decide
  (v.kind=3))))=true->5=dE L k v/\L=h9 L k v)/\((!(aI L v&&(decide (v.kind=2)||decide (v.kind=3))))=false->true=true/\true=true/\((!(decide (((aa L k).slots.at
  0).value<=v.oid)&&decide (v.oid<=((aa L k).slots.at 1).value)&& !decide (v.oid=k.oid)))=true->4=dE L k v/\L=h9 L k v)/\((!(decide (((aa L k).slots.at 0).value<=v.oid)
  &&decide (v.oid<=((aa L k).slots.at 1).value)&& !decide (v.oid=k.oid)))=false->true=true/\true=true/\0=dE L k v/\bN L v.oid (Obj.mk free.kind (au L v.oid).count
  free.calls free.slots free.bytes)=h9 L k v))))):=by
 refine⟨rfl,rfl,fun h=>rj (pS (FK h) (by omega)) (by omega),fun h=>⟨rfl,fun h2=>rj (pS (TS h h2) (by omega)) (by omega),fun h2=>⟨rfl,fun h3=>rj (pS (T3 h h2 h3) (by omega)) (by omega),fun h3=>⟨rfl,rfl,fun h4=>?_,fun h4=>⟨rfl,rfl,fun h5=>?_,fun h5=>⟨rfl,rfl,?_⟩⟩⟩⟩⟩⟩
 ·obtain⟨e,e1,e2⟩:=Oa h h2 h3;have ht:iv L v=false:=by have h4':(!iv L v)=true:=h4;simpa using h4'
  exact rj (by unfold dE;rw[Xv e,ht];rfl) (by omega)
 ·obtain⟨e,e1,e2⟩:=Oa h h2 h3;have ht:iv L v=true:=by have h4':(!iv L v)=false:=h4;simpa using h4'
  rw[e1,e2]at h5
  exact rj (by
   unfold dE;rw[Xv e,ht,Xv rfl,Xu];intro hh;simp only[Bool.not_eq_true',Bool.and_eq_false_iff,Bool.not_eq_false',decide_eq_false_iff_not,Xp]at h5;omega) (by omega)
 ·obtain⟨e,e1,e2⟩:=Oa h h2 h3;have ht:iv L v=true:=by have h4':(!iv L v)=false:=h4;simpa using h4'
  rw[e1,e2]at h5
  have hE:dE L k v=0:=by
   unfold dE;rw[Xv e,ht,Xv rfl,Xv];simp only[Bool.not_eq_false',Xo,Bool.not_eq_true',Xp,decide_eq_false_iff_not]at h5;omega
  obtain⟨_,b2,b3,_⟩:=ej (Cx ht);rw[fu b2 b3];refine⟨hE.symm,?_⟩;unfold h9;rw[Xv hE];exact(ki b2 b3 (vO (cm hL v.oid.toNat (by omega)))).1
theorem MZ (L:List Sx.Obj) (k v:Key) (hL:aq L):aj Tryz.prog 167 [.lp 0 0,.key k,.key v] [.store tS eS L] (AA (.it .i64 (dE L k v)) (h9 L k v)) (fun _ _=>False):=
 aK (inl:=(fun f=>f==214||f==213||f==215||f==216||f==217)) (ann:=aO) (ab aY (ab bk (ab eG an))) (aC cw az) (cW fR) (Oh L k v hL) (by kernel_rfl)
theorem NY:oU Tryz.prog 167 RO:=
 lW (m:=fun x=>Vo.cn x 0) (nM JN (fun _=>rfl)) (fun _=>rfl) (fun _ _=>rfl) (fun x=>aK (inl:=(fun f=>f==214||f==213||f==215||f==216||f==217)) (ann:=aO) (ab aY (ab bk (ab eG an))) (aC cw az) (cW fR) (Ln x.1 x.2.1) (by kernel_rfl)) (fun x=>aK (inl:=(fun f=>f==214||f==213||f==215||f==216||f==217)) (ann:=aO) (ab aY (ab bk (ab eG an))) (aC cw az) (cW fR) (HA x.1 x.2.1) (by kernel_rfl)) fun L x hL _ _=>MZ L x.1 x.2.1 hL
theorem GI (k:Key):
 true=true/\true=true/\((!decide (0<ah []))=true->0=iJ [] k/\1=aV [] k)/\((!decide (0<ah []))=false->true=true/\((!(aI [] k&&decide (k.kind=4)))=true->0
  =iJ [] k/\190=aV [] k)/\((!(aI [] k&&decide (k.kind=4)))=false->true=true/\((!(decide (((aa [] k).slots.at 0).kind=1)&&decide (((aa [] k).slots.at 1).kind=1)&&
  decide (0<=((aa [] k).slots.at 0).value)&&decide (((aa [] k).slots.at 0).value<=((aa [] k).slots.at 1).value)&&decide (((aa [] k).slots.at 1).value<ah [])))=true->0=
  iJ [] k/\220=aV [] k)/\((!(decide (((aa [] k).slots.at 0).kind=1)&&decide (((aa [] k).slots.at 1).kind=1)&&decide (0<=((aa [] k).slots.at 0).value)&&decide (((aa
  [] k).slots.at 0).value<=((aa [] k).slots.at 1).value)&&decide (((aa [] k).slots.at 1).value<ah [])))=false->true=true/\true=true/\∀(r0:Loop),False))):=by
 exact⟨rfl,rfl,fun h=>(wq (FK h) (by omega)).1,fun h=>absurd h (by decide)⟩
theorem GF (k:Key):
 true=true/\true=true/\((!decide (0<ah []))=true->0=iJ [] k/\1=aV [] k)/\((!decide (0<ah []))=false->true=true/\((!(aI [] k&&decide (k.kind=4)))=true->0
  =iJ [] k/\190=aV [] k)/\((!(aI [] k&&decide (k.kind=4)))=false->true=true/\((!(decide (((aa [] k).slots.at 0).kind=1)&&decide (((aa [] k).slots.at 1).kind=1)&&
  decide (0<=((aa [] k).slots.at 0).value)&&decide (((aa [] k).slots.at 0).value<=((aa [] k).slots.at 1).value)&&decide (((aa [] k).slots.at 1).value<ah [])))=true->0=
  iJ [] k/\220=aV [] k)/\((!(decide (((aa [] k).slots.at 0).kind=1)&&decide (((aa [] k).slots.at 1).kind=1)&&decide (0<=((aa [] k).slots.at 0).value)&&decide (((aa
  [] k).slots.at 0).value<=((aa [] k).slots.at 1).value)&&decide (((aa [] k).slots.at 1).value<ah [])))=false->true=true/\true=true/\∀(r0:Loop),False))):=by
 exact⟨rfl,rfl,fun h=>(wq (FK h) (by omega)).1,fun h=>absurd h (by decide)⟩
theorem Jp (L:List Sx.Obj) (k:Key) (hL:aq L):
 true=true/\true=true/\((!decide (0<ah L))=true->(0=iJ L k/\1=aV L k)/\L=jc L k)/\((!decide (0<ah L))=false->true=true/\((!(aI L k&&decide (k.kind=
  4)))=true->(0=iJ L k/\190=aV L k)/\L=jc L k)/\((!(aI L k&&decide (k.kind=4)))=false->true=true/\((!(decide (((aa L k).slots.at 0).kind=1)&&decide (((aa L
  k).slots.at 1).kind=1)&&decide (0<=((aa L k).slots.at 0).value)&&decide (((aa L k).slots.at 0).value<=((aa L k).slots.at 1).value)&&decide (((aa L k).slots.at 1).value<
  ah L)))=true->(0=iJ L k/\220=aV L k)/\L=jc L k)/\((!(decide (((aa L k).slots.at 0).kind=1)&&decide (((aa L k).slots.at 1).kind=1)&&decide (0<=((aa L
  k).slots.at 0).value)&&decide (((aa L k).slots.at 0).value<=((aa L k).slots.at 1).value)&&decide (((aa L k).slots.at 1).value<ah L)))=false->true=true/\true=true/\∀(r0
  :Loop),(∃g,qA L k g/\((aa L k).slots.at 0).value=g/\L=fI L (aB L k) g k.oid/\k=k/\0=gE L (aB L k) g k.oid/\k=k/\aa L k=aa L k/\k.oid=k.oid/\
  ((aa L k).slots.at 0).value=((aa L k).slots.at 0).value/\((aa L k).slots.at 1).value=((aa L k).slots.at 1).value/\aa L k=aa L k/\(aa L k).slots.at 0=(aa L
  k).slots.at 0/\(aa L k).slots.at 1=(aa L k).slots.at 1/\aa L k=aa L k/\k.oid=k.oid/\((aa L k).slots.at 0).value=((aa L k).slots.at 0).value/\((aa L k).slots.at
  1).value=((aa L k).slots.at 1).value/\aa L k=aa L k/\k.oid=k.oid/\((aa L k).slots.at 0).value=((aa L k).slots.at 0).value/\((aa L k).slots.at 1).value=((aa L
  k).slots.at 1).value/\r0=r0)/\∀(g:Int),qA L k g->(decide (g<=((aa L k).slots.at 1).value)=true->r0=r0/\r0=r0/\((decide ((au (fI L (aB L k) g k.oid) g).kind=1)||
  decide ((au (fI L (aB L k) g k.oid) g).kind=2))=true->true=true/\((decide (((aa L k).slots.at 0).value<=g)&&decide (g<=((aa L k).slots.at 1).value)&& !decide (g=k.oid))
  =true->true=true/\true=true/\aL IntKind.i64 (gE L (aB L k) g k.oid+1)/\r0=r0/\aL IntKind.i64 (g+1)/\∃g',qA L k g'/\(aE L k+1-g').toNat<(aE L k+1-
  g).toNat/\g+1=g'/\bN (fI L (aB L k) g k.oid) g (Obj.mk free.kind (au (fI L (aB L k) g k.oid) g).count free.calls free.slots free.bytes)=fI L (aB L k) g' k.oid/\k=
  k/\gE L (aB L k) g k.oid+1=gE L (aB L k) g' k.oid/\k=k/\aa L k=aa L k/\k.oid=k.oid/\((aa L k).slots.at 0).value=((aa L k).slots.at 0).value/\((aa L
  k).slots.at 1).value=((aa L k).slots.at 1).value/\aa L k=aa L k/\(aa L k).slots.at 0=(aa L k).slots.at 0/\(aa L k).slots.at 1=(aa L k).slots.at 1/\aa L k=
  aa L k/\k.oid=k.oid/\((aa L k).slots.at 0).value=((aa L k).slots.at 0).value/\((aa L k).slots.at 1).value=((aa L k).slots.at 1).value/\aa L k=aa L k/\k.oid=
  k.oid/\((aa L k).slots.at 0).value=((aa L k).slots.at 0).value/\((aa L k).slots.at 1).value=((aa L k).slots.at 1).value/\r0=r0)/\((decide (((aa L k).slots.at 0).value<=g)
  &&decide (g<=((aa L k).slots.at 1).value)&& !decide (g=k.oid))=false->r0=r0/\aL IntKind.i64 (g+1)/\∃g',qA L k g'/\(aE L k+1-g').toNat<(aE L k+1-g).toNat/\
  g+1=g'/\fI L (aB L k) g k.oid=fI L (aB L k) g' k.oid/\k=k/\gE L (aB L k) g k.oid=gE L (aB L k) g' k.oid/\k=k/\aa L k=aa L k/\k.oid=k.oid/\
  ((aa L k).slots.at 0).value=((aa L k).slots.at 0).value/\((aa L k).slots.at 1).value=((aa L k).slots.at 1).value/\aa L k=aa L k/\(aa L k).slots.at 0=(aa L
  k).slots.at 0/\(aa L k).slots.at 1=(aa L k).slots.at 1/\aa L k=aa L k/\k.oid=k.oid/\((aa L k).slots.at 0).value=((aa L k).slots.at 0).value/\((aa L k).slots.at
  1).value=((aa L k).slots.at 1).value/\aa L k=aa L k/\k.oid=k.oid/\((aa L k).slots.at 0).value=((aa L k).slots.at 0).value/\((aa L k).slots.at 1).value=((aa L
  k).slots.at 1).value/\r0=r0))/\((decide ((au (fI L (aB L k) g k.oid) g).kind=1)||decide ((au (fI L (aB L k) g k.oid) g).kind=2))=false->r0=r0/\aL IntKind.i64 (g+
  1)/\∃g',qA L k g'/\(aE L k+1-g').toNat<(aE L k+1-g).toNat/\g+1=g'/\fI L (aB L k) g k.oid=fI L (aB L k) g' k.oid/\k=k/\gE L (aB L k) g k.oid=
  gE L (aB L k) g' k.oid/\k=k/\aa L k=aa L k/\k.oid=k.oid/\((aa L k).slots.at 0).value=((aa L k).slots.at 0).value/\((aa L k).slots.at 1).value=((aa L
  k).slots.at 1).value/\aa L k=aa L k/\(aa L k).slots.at 0=(aa L k).slots.at 0/\(aa L k).slots.at 1=(aa L k).slots.at 1/\aa L k=aa L k/\k.oid=k.oid/\
  ((aa L k).slots.at 0).value=((aa L k).slots.at 0).value/\((aa L k).slots.at 1).value=((aa L k).slots.at 1).value/\aa L k=aa L k/\k.oid=k.oid/\((aa L k).slots.at
  0).value=((aa L k).slots.at 0).value/\((aa L k).slots.at 1).value=((aa L k).slots.at 1).value/\r0=r0))/\(decide (g<=((aa L k).slots.at 1).value)=false->(gE L (aB L
  k) g k.oid=iJ L k/\0=aV L k)/\fI L (aB L k) g k.oid=jc L k)))):=by
 refine⟨rfl,rfl,fun h=>wq (FK h) (by omega),fun h=>⟨rfl,fun h2=>wq (TS h h2) (by omega),fun h2=>⟨rfl,fun h3=>wq (T3 h h2 h3) (by omega),fun h3=>⟨rfl,rfl,fun r0=>?_⟩⟩⟩⟩
 obtain⟨e,e1,e2⟩:=Oa h h2 h3;obtain⟨_,a0,a1,a2,_⟩:=lZ e;rw[e1,e2];have hlen:=gf hL;have hin:∀g:Int,aB L k<=g->g<=aE L k->aL IntKind.i64 (g+1):=fun g h1 h2=>by simp only[aL,cg];omega
 have hnn:∀g:Int,aL IntKind.i64 (gE L (aB L k) g k.oid+1):=fun g=>by
  have:=Du (L:=L) (f:=aB L k) (g:=g) (oid:=k.oid);have:=R4 (L:=L) (f:=aB L k) (g:=g) (oid:=k.oid);simp only[aL,cg];omega
 refine⟨⟨aB L k,⟨by omega,by omega⟩,rfl,L5,rfl,Bb.symm,(by(repeat' apply And.intro)<;>rfl)⟩,fun g hg=>⟨fun hgl=>?_,fun hgl=>?_⟩⟩
 ·obtain⟨g0,g1⟩:=hg;have hgl:=Xs hgl;have hgz:(fI L (aB L k) g k.oid).length=L.length:=zQ;have hgt:au (fI L (aB L k) g k.oid) g=ai L g.toNat free:=by rw[fu (by omega) (by omega),R1 (by omega)]
  rw[hgt];refine⟨rfl,rfl,fun hk=>⟨rfl,fun hb=>?_,fun hb=>?_⟩,fun hk=>?_⟩
  ·have hne:¬g=k.oid:=by
    simp only[Xo,Bool.not_eq_true',decide_eq_false_iff_not]at hb;exact hb.2
   have hh:jt L g k.oid=true:=by unfold jt kX;rw[hk];simp[hne]
   have hs:=LK (L:=L) (f:=aB L k) (oid:=k.oid) (by omega:0<=g) (by omega) g0 hh
   have hs2:=O4 (L:=L) (f:=aB L k) (oid:=k.oid) (by omega:0<=g) (by omega) g0 hh
   have hp:=(ki (L:=fI L (aB L k) g k.oid) (i:=g) (by omega) (by omega) (hgz▸vO (cm hL g.toNat (by omega)))).1
   exact⟨rfl,rfl,hnn g,rfl,hin g g0 hgl,g+1,⟨by omega,by omega⟩,by omega,rfl,hp.trans hs2,rfl,hs.symm,(by(repeat' apply And.intro)<;>rfl)⟩
  ·have hh:jt L g k.oid=false:=by
    have e3:decide (aB L k<=g)=true:=by simp;omega
    have e4:decide (g<=aE L k)=true:=by simp;omega
    rw[e3,e4]at hb;unfold jt;rw[Bool.and_eq_false_iff];right
    simpa using hb
   have hs:=Bv (L:=L) (f:=aB L k) (oid:=k.oid) (by omega:0<=g) g0 hh
   have hs2:=Bd (L:=L) (f:=aB L k) (oid:=k.oid) (by omega:0<=g) g0 hh
   exact⟨rfl,hin g g0 hgl,g+1,⟨by omega,by omega⟩,by omega,rfl,hs2.symm,rfl,hs.symm,(by(repeat' apply And.intro)<;>rfl)⟩
  ·have hh:jt L g k.oid=false:=by unfold jt kX;rw[hk];rfl
   have hs:=Bv (L:=L) (f:=aB L k) (oid:=k.oid) (by omega:0<=g) g0 hh
   have hs2:=Bd (L:=L) (f:=aB L k) (oid:=k.oid) (by omega:0<=g) g0 hh
   exact⟨rfl,hin g g0 hgl,g+1,⟨by omega,by omega⟩,by omega,rfl,hs2.symm,rfl,hs.symm,(by(repeat' apply And.intro)<;>rfl)⟩
 ·obtain⟨g0,g1⟩:=hg;have hgl:=Xr hgl;have:g=aE L k+1:=by omega
  subst this;exact⟨⟨by unfold iJ;rw[Xv e],e.symm⟩,by unfold jc;rw[Xv e]⟩
theorem Kw (L:List Sx.Obj) (k:Key) (hL:aq L):aj Tryz.prog 225 [.lp 0 0,.key k] [.store tS eS L] (AA (.tp [.it .i64 (iJ L k),.it .i64 (aV L k)]) (jc L k)) (fun _ _=>False):=
 aK (inl:=(fun f=>f==214||f==213||f==216||f==217||f==219||f==1000000+232)) (ann:=(kg [(5000+232,1,V0 [0,1] (fun(g:Int)=> [(3,.it .i64 g)]) (fun g=> [(0,.store tS eS (fI L (aB L k) g k.oid)),(2,.blk 3 (.it .i64 (gE L (aB L k) g k.oid)))]) (qA L k) (fun g=>oV (sf (Cc (aE L k) 1) g)))])) (ab aY (ab bk (ab eG an))) (aC cw az) (cW fR) (Jp L k hL) (by kernel_rfl)
theorem HZ:oU Tryz.prog 225 ON:=
 lW (m:=fun x=>kB.cn x 0) (nM Ut (fun _=>rfl)) (fun _=>rfl) (fun _ _=>rfl) (fun x=>aK (inl:=(fun f=>f==214||f==213||f==216||f==217||f==219||f==1000000+232)) (ann:=aO) (ab aY (ab bk (ab eG an))) (aC cw az) (cW fR) (GI x.1) (by kernel_rfl)) (fun x=>aK (inl:=(fun f=>f==214||f==213||f==216||f==217||f==219||f==1000000+232)) (ann:=aO) (ab aY (ab bk (ab eG an))) (aC cw az) (cW fR) (GF x.1) (by kernel_rfl)) fun L x hL _ _=>Kw L x.1 hL
theorem FR (k:Key) (kind:Int):
 true=true/\true=true/\((!decide (0<ah []))=true->void=ez [] k kind/\1=dw [] k kind)/\((!decide (0<ah []))=false->true=true/\((!(aI [] k&&decide (k.kind=
  4)))=true->void=ez [] k kind/\190=dw [] k kind)/\((!(aI [] k&&decide (k.kind=4)))=false->true=true/\((!(decide (((aa [] k).slots.at 0).kind=1)&&decide (((aa []
  k).slots.at 1).kind=1)&&decide (0<=((aa [] k).slots.at 0).value)&&decide (((aa [] k).slots.at 0).value<=((aa [] k).slots.at 1).value)&&decide (((aa [] k).slots.at 1).value<
  ah [])))=true->void=ez [] k kind/\220=dw [] k kind)/\((!(decide (((aa [] k).slots.at 0).kind=1)&&decide (((aa [] k).slots.at 1).kind=1)&&decide (0<=((aa []
  k).slots.at 0).value)&&decide (((aa [] k).slots.at 0).value<=((aa [] k).slots.at 1).value)&&decide (((aa [] k).slots.at 1).value<ah [])))=false->true=true/\((!(decide (kind
  =1)||decide (kind=2)))=true->void=ez [] k kind/\2=dw [] k kind)/\((!(decide (kind=1)||decide (kind=2)))=false->true=true/\true=true/\true=true/\∀(r0:Loop),
  False)))):=by
 exact⟨rfl,rfl,fun h=>(uA (pg (FK h) (by omega)) (by omega)).1,fun h=>absurd h (by decide)⟩
theorem Hk (k:Key) (kind:Int):
 true=true/\true=true/\((!decide (0<ah []))=true->void=ez [] k kind/\1=dw [] k kind)/\((!decide (0<ah []))=false->true=true/\((!(aI [] k&&decide (k.kind=
  4)))=true->void=ez [] k kind/\190=dw [] k kind)/\((!(aI [] k&&decide (k.kind=4)))=false->true=true/\((!(decide (((aa [] k).slots.at 0).kind=1)&&decide (((aa []
  k).slots.at 1).kind=1)&&decide (0<=((aa [] k).slots.at 0).value)&&decide (((aa [] k).slots.at 0).value<=((aa [] k).slots.at 1).value)&&decide (((aa [] k).slots.at 1).value<
  ah [])))=true->void=ez [] k kind/\220=dw [] k kind)/\((!(decide (((aa [] k).slots.at 0).kind=1)&&decide (((aa [] k).slots.at 1).kind=1)&&decide (0<=((aa []
  k).slots.at 0).value)&&decide (((aa [] k).slots.at 0).value<=((aa [] k).slots.at 1).value)&&decide (((aa [] k).slots.at 1).value<ah [])))=false->true=true/\((!(decide (kind
  =1)||decide (kind=2)))=true->void=ez [] k kind/\2=dw [] k kind)/\((!(decide (kind=1)||decide (kind=2)))=false->true=true/\true=true/\true=true/\∀(r0:Loop),
  False)))):=by
 exact⟨rfl,rfl,fun h=>(uA (pg (FK h) (by omega)) (by omega)).1,fun h=>absurd h (by decide)⟩
theorem Ls (L:List Sx.Obj) (k:Key) (kind:Int) (hL:aq L):
 true=true/\true=true/\((!decide (0<ah L))=true->(void=ez L k kind/\1=dw L k kind)/\L=fi L k kind)/\((!decide (0<ah L))=false->true=true/\((!(aI L k&&
  decide (k.kind=4)))=true->(void=ez L k kind/\190=dw L k kind)/\L=fi L k kind)/\((!(aI L k&&decide (k.kind=4)))=false->true=true/\((!(decide (((aa L k).slots.at
  0).kind=1)&&decide (((aa L k).slots.at 1).kind=1)&&decide (0<=((aa L k).slots.at 0).value)&&decide (((aa L k).slots.at 0).value<=((aa L k).slots.at 1).value)&&decide
  (((aa L k).slots.at 1).value<ah L)))=true->(void=ez L k kind/\220=dw L k kind)/\L=fi L k kind)/\((!(decide (((aa L k).slots.at 0).kind=1)&&decide (((aa L
  k).slots.at 1).kind=1)&&decide (0<=((aa L k).slots.at 0).value)&&decide (((aa L k).slots.at 0).value<=((aa L k).slots.at 1).value)&&decide (((aa L k).slots.at 1).value<
  ah L)))=false->true=true/\((!(decide (kind=1)||decide (kind=2)))=true->(void=ez L k kind/\2=dw L k kind)/\L=fi L k kind)/\((!(decide (kind=1)||decide (kind=
  2)))=false->true=true/\true=true/\true=true/\∀(r0:Loop),(∃g,iw L k g/\((aa L k).slots.at 0).value=g/\L=bI L (aB L k) g/\k=k/\void=void/\k=k/\aa L k
  =aa L k/\k.oid=k.oid/\((aa L k).slots.at 0).value=((aa L k).slots.at 0).value/\((aa L k).slots.at 1).value=((aa L k).slots.at 1).value/\aa L k=aa L k/\(aa
  L k).slots.at 0=(aa L k).slots.at 0/\(aa L k).slots.at 1=(aa L k).slots.at 1/\aa L k=aa L k/\k.oid=k.oid/\((aa L k).slots.at 0).value=((aa L k).slots.at
  0).value/\((aa L k).slots.at 1).value=((aa L k).slots.at 1).value/\aa L k=aa L k/\k.oid=k.oid/\((aa L k).slots.at 0).value=((aa L k).slots.at 0).value/\((aa L
  k).slots.at 1).value=((aa L k).slots.at 1).value/\kind=kind/\void=void/\false=false/\aa L k=aa L k/\k.oid=k.oid/\((aa L k).slots.at 0).value=((aa L k).slots.at
  0).value/\((aa L k).slots.at 1).value=((aa L k).slots.at 1).value/\r0=r0)/\∀(g:Int),iw L k g->(decide (g<=((aa L k).slots.at 1).value)=true->r0=r0/\r0=r0/\
  ((!decide ((au (bI L (aB L k) g) g).kind=0))=true->r0=r0/\aL IntKind.i64 (g+1)/\∃g',iw L k g'/\(aE L k+1-g').toNat<(aE L k+1-g).toNat/\g+1=g'/\
  bI L (aB L k) g=bI L (aB L k) g'/\k=k/\void=void/\k=k/\aa L k=aa L k/\k.oid=k.oid/\((aa L k).slots.at 0).value=((aa L k).slots.at 0).value/\((aa L
  k).slots.at 1).value=((aa L k).slots.at 1).value/\aa L k=aa L k/\(aa L k).slots.at 0=(aa L k).slots.at 0/\(aa L k).slots.at 1=(aa L k).slots.at 1/\aa L k=
  aa L k/\k.oid=k.oid/\((aa L k).slots.at 0).value=((aa L k).slots.at 0).value/\((aa L k).slots.at 1).value=((aa L k).slots.at 1).value/\aa L k=aa L k/\k.oid=
  k.oid/\((aa L k).slots.at 0).value=((aa L k).slots.at 0).value/\((aa L k).slots.at 1).value=((aa L k).slots.at 1).value/\kind=kind/\void=void/\false=false/\aa L k=
  aa L k/\k.oid=k.oid/\((aa L k).slots.at 0).value=((aa L k).slots.at 0).value/\((aa L k).slots.at 1).value=((aa L k).slots.at 1).value/\r0=r0)/\((!decide ((au (bI
  L (aB L k) g) g).kind=0))=false->(decide ((au (bI L (aB L k) g) g).count=4294967295)=true->true=true/\r0=r0/\aL IntKind.i64 (g+1)/\∃g',iw L k g'/\(aE L k
  +1-g').toNat<(aE L k+1-g).toNat/\g+1=g'/\bN (bI L (aB L k) g) g (Obj.mk 3 (au (bI L (aB L k) g) g).count free.calls free.slots free.bytes)=bI L (aB L k)
  g'/\k=k/\void=void/\k=k/\aa L k=aa L k/\k.oid=k.oid/\((aa L k).slots.at 0).value=((aa L k).slots.at 0).value/\((aa L k).slots.at 1).value=((aa L k).slots.at
  1).value/\aa L k=aa L k/\(aa L k).slots.at 0=(aa L k).slots.at 0/\(aa L k).slots.at 1=(aa L k).slots.at 1/\aa L k=aa L k/\k.oid=k.oid/\((aa L
  k).slots.at 0).value=((aa L k).slots.at 0).value/\((aa L k).slots.at 1).value=((aa L k).slots.at 1).value/\aa L k=aa L k/\k.oid=k.oid/\((aa L k).slots.at 0).value=
  ((aa L k).slots.at 0).value/\((aa L k).slots.at 1).value=((aa L k).slots.at 1).value/\kind=kind/\void=void/\false=false/\aa L k=aa L k/\k.oid=k.oid/\((aa L
  k).slots.at 0).value=((aa L k).slots.at 0).value/\((aa L k).slots.at 1).value=((aa L k).slots.at 1).value/\r0=r0)/\(decide ((au (bI L (aB L k) g) g).count=4294967295)=
  false->aL IntKind.i64 ((au (bI L (aB L k) g) g).count+1)/\true=true/\aL IntKind.i64 ((au (bI L (aB L k) g) g).count+1)/\r0=r0/\true=true/\(bZ kind g ((au
  (bI L (aB L k) g) g).count+1)=ez L k kind/\0=dw L k kind)/\bN (bI L (aB L k) g) g (Obj.mk kind ((au (bI L (aB L k) g) g).count+1) free.calls free.slots
  free.bytes)=fi L k kind)))/\(decide (g<=((aa L k).slots.at 1).value)=false->true=true/\(void=ez L k kind/\221=dw L k kind)/\bI L (aB L k) g=fi L k kind))))):=by
 refine⟨rfl,rfl,fun h=>uA (pg (FK h) (by omega)) (by omega),fun h=>⟨rfl,fun h2=>uA (pg (TS h h2) (by omega)) (by omega),fun h2=>⟨rfl,fun h3=>uA (pg (T3 h h2 h3) (by omega)) (by omega),fun h3=>⟨rfl,fun h4=>uA (HX (Oa h h2 h3).1 h4) (by omega),fun h4=>⟨rfl,rfl,rfl,fun r0=>?_⟩⟩⟩⟩⟩
 obtain⟨e,e1,e2⟩:=Oa h h2 h3;obtain⟨_,a0,a1,a2,_⟩:=lZ e;rw[e1,e2]
 have hk:kind=1\/kind=2:=by
  simp only[Bool.not_eq_false',Bool.or_eq_true,Xp]at h4;exact h4
 have hlen:=gf hL;have hin:∀g:Int,aB L k<=g->g<=aE L k->aL IntKind.i64 (g+1):=fun g h1 h2=>by simp only[aL,cg];omega
 have hcnt:∀j:Nat,j<L.length->0<=(ai L j free).count/\(ai L j free).count<=4294967295:=fun j hj=>⟨(j6 (cm hL j hj)).1,(j6 (cm hL j hj)).2.1⟩
 have hci:∀j:Nat,j<L.length->aL IntKind.i64 ((ai L j free).count+1):=fun j hj=>by have:=hcnt j hj;simp only[aL,cg];omega
 refine⟨⟨aB L k,⟨by omega,by omega,xd⟩,rfl,Bw,(by(repeat' apply And.intro)<;>rfl)⟩,fun g hg=>⟨fun hgl=>?_,fun hgl=>?_⟩⟩
 ·obtain⟨g0,g1,g2⟩:=hg;have hgl:=Xs hgl;have hgn:g.toNat<L.length:=by omega
  have hgz:(bI L (aB L k) g).length=L.length:=kF;have hgt:au (bI L (aB L k) g) g=ai L g.toNat free:=by rw[fu (by omega) (by omega),C6 (by omega)]
  rw[hgt];refine⟨rfl,rfl,fun hk0=>?_,fun hk0=>⟨fun hc=>?_,fun hc=>?_⟩⟩
  ·obtain⟨f1,f2⟩:=E0 (o:=ai L g.toNat free) (by simpa using hk0)
   exact⟨rfl,hin g g0 hgl,g+1,⟨by omega,by omega,nY g2 f2⟩,by omega,rfl,(CK (by omega) f1).symm,(by(repeat' apply And.intro)<;>rfl)⟩
  ·obtain⟨f1,f2⟩:=IP (o:=ai L g.toNat free) (by simpa using hk0) (by have:=Xs hc;omega)
   have hp:=(ki (L:=bI L (aB L k) g) (i:=g) (by omega) (by omega) (hgz▸AQ (cm hL g.toNat hgn))).1
   exact⟨rfl,rfl,hin g g0 hgl,g+1,⟨by omega,by omega,nY g2 f2⟩,by omega,rfl,hp.trans (Fc (by omega) (by omega) g0 f1),(by(repeat' apply And.intro)<;>rfl)⟩
  ·have hc:=Xr hc;have:=hcnt _ hgn;obtain⟨f1,f2⟩:=Kc (o:=ai L g.toNat free) (by simpa using hk0) (by omega)
   obtain⟨m1,m2,m3⟩:=Fw kind a0 g0 hgl (by omega) g2 f2
   obtain⟨n1,n2,n3,n4⟩:=Nf (kind:=kind) e hk (by rw[m1];omega)
   have hp:=(ki (L:=bI L (aB L k) g) (i:=g) (by omega) (by omega) (hgz▸Ai (cm hL g.toNat hgn) f2 hk)).1
   refine⟨hci _ hgn,rfl,hci _ hgn,rfl,rfl,⟨?_,n3⟩,hp.trans (m3.symm.trans n4)⟩;have hK:ez L k kind=bZ kind (fc L (aB L k) (aE L k)) ((ai L (fc L (aB L k) (aE L k)).toNat free).count+1):=by unfold ez;rw[Xv n3.symm]
   rw[hK,m1]
 ·obtain⟨g0,g1,g2⟩:=hg;have hgl:=Xr hgl;have:g=aE L k+1:=by omega
  subst this;obtain⟨m1,m2,m3⟩:=Lt kind g2;obtain⟨n1,n2,n3,n4⟩:=I4 (kind:=kind) e hk m1;exact⟨rfl,⟨n2,n3⟩,m2.symm.trans n4⟩
theorem KM (L:List Sx.Obj) (k:Key) (kind:Int) (hL:aq L):aj Tryz.prog 211 [.lp 0 0,.key k,.it .i64 kind] [.store tS eS L] (AA (.tp [.key (ez L k kind),.it .i64 (dw L k kind)]) (fi L k kind)) (fun _ _=>False):=
 aK (inl:=(fun f=>f==214||f==213||f==218||f==219||f==1000000+232)) (ann:=(kg [(3000+232,1,VB [0,1] (fun g=> [(3,.it .i64 g)]) 0 (fun g=> .store tS eS (bI L (aB L k) g)) (iw L k) (Cc (aE L k) 1))])) (ab aY (ab bk (ab eG (ab qe an)))) (aC cw az) (cW fR) (Ls L k kind hL) (by kernel_rfl)
theorem BF:oU Tryz.prog 211 Ov:=
 lW (m:=fun x=>Uo.cn x 0) (nM Jk (fun _=>rfl)) (fun _=>rfl) (fun _ _=>rfl) (fun x=>aK (inl:=(fun f=>f==214||f==213||f==218||f==219||f==1000000+232)) (ann:=aO) (ab aY (ab bk (ab eG (ab qe an)))) (aC cw az) (cW fR) (FR x.1 x.2.1) (by kernel_rfl)) (fun x=>aK (inl:=(fun f=>f==214||f==213||f==218||f==219||f==1000000+232)) (ann:=aO) (ab aY (ab bk (ab eG (ab qe an)))) (aC cw az) (cW fR) (Hk x.1 x.2.1) (by kernel_rfl)) fun L x hL _ _=>KM L x.1 x.2.1 hL
end Go.Proofs.YtlblcfaclmpekaaGreat
