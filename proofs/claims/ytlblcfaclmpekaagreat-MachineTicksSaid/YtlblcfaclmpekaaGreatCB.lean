import Derived.Test.YtlblcfaclmpekaaGreatCP
import Derived.Test.YtlblcfaclmpekaaGreatSpB
import Derived.Test.YtlblcfaclmpekaaGreatKS
import Derived.Test.YtlblcfaclmpekaaGreatCV
set_option linter.unusedSimpArgs false
set_option linter.unusedVariables false
namespace Go.Proofs.YtlblcfaclmpekaaGreat
open Go.Sx
end Go.Proofs.YtlblcfaclmpekaaGreat
namespace Go.Proofs.YtlblcfaclmpekaaGreat
open Go.Sx
set_option maxRecDepth 100000
theorem Mn (kind oid count:Int):
 (decide (kind=2)=true->Key.mk 3 oid count void.call void.rights void.value=bT kind oid count)/\(decide (kind=2)=false->Key.mk 2 oid count void.call void.rights void.value=bT kind
  oid count):=by
 unfold bT;exact⟨fun h=>by rw[U0 (UX h)];rfl,fun h=>by rw[UZ (UW h)];rfl⟩
theorem p6:dA Tryz.prog 231 PV:=
 GC (gF .i64) (gF .i64) (gF .i64) (fun _ _ _=>rfl) fun i j k _ _ _=>bx (inl:=cw) (ann:=aQ) aq (Mn i j k) (by kernel_rfl)
theorem EK (k v:Key):
 true=true/\true=true/\((!decide (0<ah []))=true->false=lH [] k v/\1=aV [] k)/\((!decide (0<ah []))=false->true=true/\((!(aO [] k&&decide (k.kind=4)))=
  true->false=lH [] k v/\190=aV [] k)/\((!(aO [] k&&decide (k.kind=4)))=false->true=true/\((!(decide (((aa [] k).slots.at 0).kind=1)&&decide (((aa [] k).slots.at
  1).kind=1)&&decide (0<=((aa [] k).slots.at 0).value)&&decide (((aa [] k).slots.at 0).value<=((aa [] k).slots.at 1).value)&&decide (((aa [] k).slots.at 1).value<ah [])))
  =true->false=lH [] k v/\220=aV [] k)/\((!(decide (((aa [] k).slots.at 0).kind=1)&&decide (((aa [] k).slots.at 1).kind=1)&&decide (0<=((aa [] k).slots.at 0).value)&&
  decide (((aa [] k).slots.at 0).value<=((aa [] k).slots.at 1).value)&&decide (((aa [] k).slots.at 1).value<ah [])))=false->true=true/\(aO [] v&&(decide (v.kind=2)||
  decide (v.kind=3))&&decide (((aa [] k).slots.at 0).value<=bE v)&&decide (bE v<=((aa [] k).slots.at 1).value))=lH [] k v/\0=aV [] k))):=by
 exact⟨rfl,rfl,fun h=>y8 (DI h) (by omega),fun h=>absurd h (by decide)⟩
theorem Hi (L:List Sx.Obj) (k v:Key):
 true=true/\true=true/\((!decide (0<ah L))=true->false=lH L k v/\1=aV L k)/\((!decide (0<ah L))=false->true=true/\((!(aO L k&&decide (k.kind=4)))=true->
  false=lH L k v/\190=aV L k)/\((!(aO L k&&decide (k.kind=4)))=false->true=true/\((!(decide (((aa L k).slots.at 0).kind=1)&&decide (((aa L k).slots.at 1).kind=1)&&
  decide (0<=((aa L k).slots.at 0).value)&&decide (((aa L k).slots.at 0).value<=((aa L k).slots.at 1).value)&&decide (((aa L k).slots.at 1).value<ah L)))=true->false=
  lH L k v/\220=aV L k)/\((!(decide (((aa L k).slots.at 0).kind=1)&&decide (((aa L k).slots.at 1).kind=1)&&decide (0<=((aa L k).slots.at 0).value)&&decide (((aa L
  k).slots.at 0).value<=((aa L k).slots.at 1).value)&&decide (((aa L k).slots.at 1).value<ah L)))=false->true=true/\(aO L v&&(decide (v.kind=2)||decide (v.kind=3))&&
  decide (((aa L k).slots.at 0).value<=bE v)&&decide (bE v<=((aa L k).slots.at 1).value))=lH L k v/\0=aV L k))):=by
 refine⟨rfl,rfl,fun h=>y8 (DI h) (by omega),fun h=>⟨rfl,fun h2=>y8 (Rm h h2) (by omega),fun h2=>⟨rfl,fun h3=>y8 (Sg h h2 h3) (by omega),fun h3=>⟨rfl,?_,(LQ h h2 h3).1.symm⟩⟩⟩⟩
 obtain⟨e,e1,e2⟩:=LQ h h2 h3;rw[e1,e2];unfold lH jL;rw[e];cases hi:aO L v with
 |false=>simp
 |true=>
  cases hk:(decide (v.kind=2)||decide (v.kind=3))with
  |false=>simp
  |true=>
   have hn:bE v=v.oid:=PS hi;rw[hn];simp
theorem Gk:dA Tryz.prog 224 L1:=
 jB (aK qs JK) (fun _=>rfl) fun a hq hok=>by
  obtain⟨S,k,v,_⟩:=a;cases S with
  |none=>exact aJ (inl:=(fun f=>f==214||f==213||f==215)) (ann:=aQ) (ab aW (ab bj (ab cy aq))) ay (cN fI) (EK k v) (by kernel_rfl)
  |some L=>exact aJ (inl:=(fun f=>f==214||f==213||f==215)) (ann:=aQ) (ab aW (ab bj (ab cy aq))) ay (cN fI) (Hi L k v) (by kernel_rfl)
theorem Ij (k v:Key):
 true=true/\true=true/\((!decide (0<ah []))=true->1=du [] k v)/\((!decide (0<ah []))=false->true=true/\((!(aO [] k&&decide (k.kind=4)))=true->190=du [] k
  v)/\((!(aO [] k&&decide (k.kind=4)))=false->true=true/\((!(decide (((aa [] k).slots.at 0).kind=1)&&decide (((aa [] k).slots.at 1).kind=1)&&decide (0<=((aa []
  k).slots.at 0).value)&&decide (((aa [] k).slots.at 0).value<=((aa [] k).slots.at 1).value)&&decide (((aa [] k).slots.at 1).value<ah [])))=true->220=du [] k v)/\
  ((!(decide (((aa [] k).slots.at 0).kind=1)&&decide (((aa [] k).slots.at 1).kind=1)&&decide (0<=((aa [] k).slots.at 0).value)&&decide (((aa [] k).slots.at 0).value<=((aa
  [] k).slots.at 1).value)&&decide (((aa [] k).slots.at 1).value<ah [])))=false->true=true/\true=true/\((!(aO [] v&&(decide (v.kind=2)||decide (v.kind=3))))=true->5=
  du [] k v)/\((!(aO [] v&&(decide (v.kind=2)||decide (v.kind=3))))=false->true=true/\true=true/\((!(decide (((aa [] k).slots.at 0).value<=v.oid)&&decide (v.oid<=((aa
  [] k).slots.at 1).value)&& !decide (v.oid=k.oid)))=true->4=du [] k v)/\((!(decide (((aa [] k).slots.at 0).value<=v.oid)&&decide (v.oid<=((aa [] k).slots.at 1).value)&& !decide
  (v.oid=k.oid)))=false->true=true/\true=true/\0=du [] k v))))):=by
 exact⟨rfl,rfl,fun h=>(qT (oK (DI h) (by omega)) (by omega)).1,fun h=>absurd h (by decide)⟩
theorem HO (k v:Key):
 true=true/\true=true/\((!decide (0<ah []))=true->1=du [] k v)/\((!decide (0<ah []))=false->true=true/\((!(aO [] k&&decide (k.kind=4)))=true->190=du [] k
  v)/\((!(aO [] k&&decide (k.kind=4)))=false->true=true/\((!(decide (((aa [] k).slots.at 0).kind=1)&&decide (((aa [] k).slots.at 1).kind=1)&&decide (0<=((aa []
  k).slots.at 0).value)&&decide (((aa [] k).slots.at 0).value<=((aa [] k).slots.at 1).value)&&decide (((aa [] k).slots.at 1).value<ah [])))=true->220=du [] k v)/\
  ((!(decide (((aa [] k).slots.at 0).kind=1)&&decide (((aa [] k).slots.at 1).kind=1)&&decide (0<=((aa [] k).slots.at 0).value)&&decide (((aa [] k).slots.at 0).value<=((aa
  [] k).slots.at 1).value)&&decide (((aa [] k).slots.at 1).value<ah [])))=false->true=true/\true=true/\((!(aO [] v&&(decide (v.kind=2)||decide (v.kind=3))))=true->5=
  du [] k v)/\((!(aO [] v&&(decide (v.kind=2)||decide (v.kind=3))))=false->true=true/\true=true/\((!(decide (((aa [] k).slots.at 0).value<=v.oid)&&decide (v.oid<=((aa
  [] k).slots.at 1).value)&& !decide (v.oid=k.oid)))=true->4=du [] k v)/\((!(decide (((aa [] k).slots.at 0).value<=v.oid)&&decide (v.oid<=((aa [] k).slots.at 1).value)&& !decide
  (v.oid=k.oid)))=false->true=true/\true=true/\False))))):=by
 exact⟨rfl,rfl,fun h=>(qT (oK (DI h) (by omega)) (by omega)).1,fun h=>absurd h (by decide)⟩
theorem Mu (L:List Sx.Obj) (k v:Key) (hL:an L):
 true=true/\true=true/\((!decide (0<ah L))=true->1=du L k v/\L=iJ L k v)/\((!decide (0<ah L))=false->true=true/\((!(aO L k&&decide (k.kind=4)))=true->
  190=du L k v/\L=iJ L k v)/\((!(aO L k&&decide (k.kind=4)))=false->true=true/\((!(decide (((aa L k).slots.at 0).kind=1)&&decide (((aa L k).slots.at 1).kind=1)&&
  decide (0<=((aa L k).slots.at 0).value)&&decide (((aa L k).slots.at 0).value<=((aa L k).slots.at 1).value)&&decide (((aa L k).slots.at 1).value<ah L)))=true->220=du
  L k v/\L=iJ L k v)/\((!(decide (((aa L k).slots.at 0).kind=1)&&decide (((aa L k).slots.at 1).kind=1)&&decide (0<=((aa L k).slots.at 0).value)&&decide (((aa L
  k).slots.at 0).value<=((aa L k).slots.at 1).value)&&decide (((aa L k).slots.at 1).value<ah L)))=false->true=true/\true=true/\((!(aO L v&&(decide (v.kind=2)||decide
  (v.kind=3))))=true->5=du L k v/\L=iJ L k v)/\((!(aO L v&&(decide (v.kind=2)||decide (v.kind=3))))=false->true=true/\true=true/\((!(decide (((aa L k).slots.at
  0).value<=v.oid)&&decide (v.oid<=((aa L k).slots.at 1).value)&& !decide (v.oid=k.oid)))=true->4=du L k v/\L=iJ L k v)/\((!(decide (((aa L k).slots.at 0).value<=v.oid)
  &&decide (v.oid<=((aa L k).slots.at 1).value)&& !decide (v.oid=k.oid)))=false->true=true/\true=true/\0=du L k v/\bO L v.oid (Obj.mk free.kind (az L v.oid).count
  free.calls free.slots free.bytes)=iJ L k v))))):=by
 refine⟨rfl,rfl,fun h=>qT (oK (DI h) (by omega)) (by omega),fun h=>⟨rfl,fun h2=>qT (oK (Rm h h2) (by omega)) (by omega),fun h2=>⟨rfl,fun h3=>qT (oK (Sg h h2 h3) (by omega)) (by omega),fun h3=>⟨rfl,rfl,fun h4=>?_,fun h4=>⟨rfl,rfl,fun h5=>?_,fun h5=>⟨rfl,rfl,?_⟩⟩⟩⟩⟩⟩
 ·obtain⟨e,e1,e2⟩:=LQ h h2 h3;have ht:jL L v=false:=by have h4':(!jL L v)=true:=h4;simpa using h4'
  exact qT (by unfold du;rw[U0 e,ht];rfl) (by omega)
 ·obtain⟨e,e1,e2⟩:=LQ h h2 h3;have ht:jL L v=true:=by have h4':(!jL L v)=false:=h4;simpa using h4'
  rw[e1,e2]at h5
  exact qT (by
   unfold du;rw[U0 e,ht,U0 rfl,UZ];intro hh;simp only[Bool.not_eq_true',Bool.and_eq_false_iff,Bool.not_eq_false',decide_eq_false_iff_not,UT]at h5;omega) (by omega)
 ·obtain⟨e,e1,e2⟩:=LQ h h2 h3;have ht:jL L v=true:=by have h4':(!jL L v)=false:=h4;simpa using h4'
  rw[e1,e2]at h5
  have hE:du L k v=0:=by
   unfold du;rw[U0 e,ht,U0 rfl,U0];simp only[Bool.not_eq_false',US,Bool.not_eq_true',UT,decide_eq_false_iff_not]at h5;omega
  obtain⟨_,b2,b3,_⟩:=er (J5 ht);rw[fG b2 b3];refine⟨hE.symm,?_⟩;unfold iJ;rw[U0 hE];exact(jV b2 b3 (uP (cz hL v.oid.toNat (by omega)))).1
theorem NG (L:List Sx.Obj) (k v:Key) (hL:an L):aj Tryz.prog 167 [.lp 0 0,.key k,.key v] [.store tS eS L] (yZ (.it .i64 (du L k v)) (iJ L k v)) (fun _ _=>False):=
 aJ (inl:=(fun f=>f==214||f==213||f==215||f==216||f==217)) (ann:=aQ) (ab aW (ab bj (ab ez aq))) (aB bY ay) (cN fI) (Mu L k v hL) (by kernel_rfl)
theorem Ls:p5 Tryz.prog 167 QG:=
 lg (m:=fun x=>Ti.cn x 0) (nU JK (fun _=>rfl)) (fun _=>rfl) (fun _ _=>rfl) (fun x=>aJ (inl:=(fun f=>f==214||f==213||f==215||f==216||f==217)) (ann:=aQ) (ab aW (ab bj (ab ez aq))) (aB bY ay) (cN fI) (Ij x.1 x.2.1) (by kernel_rfl)) (fun x=>aJ (inl:=(fun f=>f==214||f==213||f==215||f==216||f==217)) (ann:=aQ) (ab aW (ab bj (ab ez aq))) (aB bY ay) (cN fI) (HO x.1 x.2.1) (by kernel_rfl)) fun L x hL _ _=>NG L x.1 x.2.1 hL
theorem FK (k:Key):
 true=true/\true=true/\((!decide (0<ah []))=true->0=ir [] k/\1=aV [] k)/\((!decide (0<ah []))=false->true=true/\((!(aO [] k&&decide (k.kind=4)))=true->0
  =ir [] k/\190=aV [] k)/\((!(aO [] k&&decide (k.kind=4)))=false->true=true/\((!(decide (((aa [] k).slots.at 0).kind=1)&&decide (((aa [] k).slots.at 1).kind=1)&&
  decide (0<=((aa [] k).slots.at 0).value)&&decide (((aa [] k).slots.at 0).value<=((aa [] k).slots.at 1).value)&&decide (((aa [] k).slots.at 1).value<ah [])))=true->0=
  ir [] k/\220=aV [] k)/\((!(decide (((aa [] k).slots.at 0).kind=1)&&decide (((aa [] k).slots.at 1).kind=1)&&decide (0<=((aa [] k).slots.at 0).value)&&decide (((aa
  [] k).slots.at 0).value<=((aa [] k).slots.at 1).value)&&decide (((aa [] k).slots.at 1).value<ah [])))=false->true=true/\true=true/\∀(r0:Loop),False))):=by
 exact⟨rfl,rfl,fun h=>(wG (DI h) (by omega)).1,fun h=>absurd h (by decide)⟩
theorem FJ (k:Key):
 true=true/\true=true/\((!decide (0<ah []))=true->0=ir [] k/\1=aV [] k)/\((!decide (0<ah []))=false->true=true/\((!(aO [] k&&decide (k.kind=4)))=true->0
  =ir [] k/\190=aV [] k)/\((!(aO [] k&&decide (k.kind=4)))=false->true=true/\((!(decide (((aa [] k).slots.at 0).kind=1)&&decide (((aa [] k).slots.at 1).kind=1)&&
  decide (0<=((aa [] k).slots.at 0).value)&&decide (((aa [] k).slots.at 0).value<=((aa [] k).slots.at 1).value)&&decide (((aa [] k).slots.at 1).value<ah [])))=true->0=
  ir [] k/\220=aV [] k)/\((!(decide (((aa [] k).slots.at 0).kind=1)&&decide (((aa [] k).slots.at 1).kind=1)&&decide (0<=((aa [] k).slots.at 0).value)&&decide (((aa
  [] k).slots.at 0).value<=((aa [] k).slots.at 1).value)&&decide (((aa [] k).slots.at 1).value<ah [])))=false->true=true/\true=true/\∀(r0:Loop),False))):=by
 exact⟨rfl,rfl,fun h=>(wG (DI h) (by omega)).1,fun h=>absurd h (by decide)⟩
theorem H6 (L:List Sx.Obj) (k:Key) (hL:an L):
 true=true/\true=true/\((!decide (0<ah L))=true->(0=ir L k/\1=aV L k)/\L=jo L k)/\((!decide (0<ah L))=false->true=true/\((!(aO L k&&decide (k.kind=
  4)))=true->(0=ir L k/\190=aV L k)/\L=jo L k)/\((!(aO L k&&decide (k.kind=4)))=false->true=true/\((!(decide (((aa L k).slots.at 0).kind=1)&&decide (((aa L
  k).slots.at 1).kind=1)&&decide (0<=((aa L k).slots.at 0).value)&&decide (((aa L k).slots.at 0).value<=((aa L k).slots.at 1).value)&&decide (((aa L k).slots.at 1).value<
  ah L)))=true->(0=ir L k/\220=aV L k)/\L=jo L k)/\((!(decide (((aa L k).slots.at 0).kind=1)&&decide (((aa L k).slots.at 1).kind=1)&&decide (0<=((aa L
  k).slots.at 0).value)&&decide (((aa L k).slots.at 0).value<=((aa L k).slots.at 1).value)&&decide (((aa L k).slots.at 1).value<ah L)))=false->true=true/\true=true/\∀(r0
  :Loop),(∃g,pU L k g/\((aa L k).slots.at 0).value=g/\L=fD L (aC L k) g k.oid/\k=k/\0=gp L (aC L k) g k.oid/\k=k/\aa L k=aa L k/\k.oid=k.oid/\
  ((aa L k).slots.at 0).value=((aa L k).slots.at 0).value/\((aa L k).slots.at 1).value=((aa L k).slots.at 1).value/\aa L k=aa L k/\(aa L k).slots.at 0=(aa L
  k).slots.at 0/\(aa L k).slots.at 1=(aa L k).slots.at 1/\aa L k=aa L k/\k.oid=k.oid/\((aa L k).slots.at 0).value=((aa L k).slots.at 0).value/\((aa L k).slots.at
  1).value=((aa L k).slots.at 1).value/\aa L k=aa L k/\k.oid=k.oid/\((aa L k).slots.at 0).value=((aa L k).slots.at 0).value/\((aa L k).slots.at 1).value=((aa L
  k).slots.at 1).value/\r0=r0)/\∀(g:Int),pU L k g->(decide (g<=((aa L k).slots.at 1).value)=true->r0=r0/\r0=r0/\((decide ((az (fD L (aC L k) g k.oid) g).kind=1)||
  decide ((az (fD L (aC L k) g k.oid) g).kind=2))=true->true=true/\((decide (((aa L k).slots.at 0).value<=g)&&decide (g<=((aa L k).slots.at 1).value)&& !decide (g=k.oid))
  =true->true=true/\true=true/\aL IntKind.i64 (gp L (aC L k) g k.oid+1)/\r0=r0/\aL IntKind.i64 (g+1)/\∃g',pU L k g'/\(aE L k+1-g').toNat<(aE L k+1-
  g).toNat/\g+1=g'/\bO (fD L (aC L k) g k.oid) g (Obj.mk free.kind (az (fD L (aC L k) g k.oid) g).count free.calls free.slots free.bytes)=fD L (aC L k) g' k.oid/\k=
  k/\gp L (aC L k) g k.oid+1=gp L (aC L k) g' k.oid/\k=k/\aa L k=aa L k/\k.oid=k.oid/\((aa L k).slots.at 0).value=((aa L k).slots.at 0).value/\((aa L
  k).slots.at 1).value=((aa L k).slots.at 1).value/\aa L k=aa L k/\(aa L k).slots.at 0=(aa L k).slots.at 0/\(aa L k).slots.at 1=(aa L k).slots.at 1/\aa L k=
  aa L k/\k.oid=k.oid/\((aa L k).slots.at 0).value=((aa L k).slots.at 0).value/\((aa L k).slots.at 1).value=((aa L k).slots.at 1).value/\aa L k=aa L k/\k.oid=
  k.oid/\((aa L k).slots.at 0).value=((aa L k).slots.at 0).value/\((aa L k).slots.at 1).value=((aa L k).slots.at 1).value/\r0=r0)/\((decide (((aa L k).slots.at 0).value<=g)
  &&decide (g<=((aa L k).slots.at 1).value)&& !decide (g=k.oid))=false->r0=r0/\aL IntKind.i64 (g+1)/\∃g',pU L k g'/\(aE L k+1-g').toNat<(aE L k+1-g).toNat/\
  g+1=g'/\fD L (aC L k) g k.oid=fD L (aC L k) g' k.oid/\k=k/\gp L (aC L k) g k.oid=gp L (aC L k) g' k.oid/\k=k/\aa L k=aa L k/\k.oid=k.oid/\
  ((aa L k).slots.at 0).value=((aa L k).slots.at 0).value/\((aa L k).slots.at 1).value=((aa L k).slots.at 1).value/\aa L k=aa L k/\(aa L k).slots.at 0=(aa L
  k).slots.at 0/\(aa L k).slots.at 1=(aa L k).slots.at 1/\aa L k=aa L k/\k.oid=k.oid/\((aa L k).slots.at 0).value=((aa L k).slots.at 0).value/\((aa L k).slots.at
  1).value=((aa L k).slots.at 1).value/\aa L k=aa L k/\k.oid=k.oid/\((aa L k).slots.at 0).value=((aa L k).slots.at 0).value/\((aa L k).slots.at 1).value=((aa L
  k).slots.at 1).value/\r0=r0))/\((decide ((az (fD L (aC L k) g k.oid) g).kind=1)||decide ((az (fD L (aC L k) g k.oid) g).kind=2))=false->r0=r0/\aL IntKind.i64 (g+
  1)/\∃g',pU L k g'/\(aE L k+1-g').toNat<(aE L k+1-g).toNat/\g+1=g'/\fD L (aC L k) g k.oid=fD L (aC L k) g' k.oid/\k=k/\gp L (aC L k) g k.oid=
  gp L (aC L k) g' k.oid/\k=k/\aa L k=aa L k/\k.oid=k.oid/\((aa L k).slots.at 0).value=((aa L k).slots.at 0).value/\((aa L k).slots.at 1).value=((aa L
  k).slots.at 1).value/\aa L k=aa L k/\(aa L k).slots.at 0=(aa L k).slots.at 0/\(aa L k).slots.at 1=(aa L k).slots.at 1/\aa L k=aa L k/\k.oid=k.oid/\
  ((aa L k).slots.at 0).value=((aa L k).slots.at 0).value/\((aa L k).slots.at 1).value=((aa L k).slots.at 1).value/\aa L k=aa L k/\k.oid=k.oid/\((aa L k).slots.at
  0).value=((aa L k).slots.at 0).value/\((aa L k).slots.at 1).value=((aa L k).slots.at 1).value/\r0=r0))/\(decide (g<=((aa L k).slots.at 1).value)=false->(gp L (aC L
  k) g k.oid=ir L k/\0=aV L k)/\fD L (aC L k) g k.oid=jo L k)))):=by
 refine⟨rfl,rfl,fun h=>wG (DI h) (by omega),fun h=>⟨rfl,fun h2=>wG (Rm h h2) (by omega),fun h2=>⟨rfl,fun h3=>wG (Sg h h2 h3) (by omega),fun h3=>⟨rfl,rfl,fun r0=>?_⟩⟩⟩⟩
 obtain⟨e,e1,e2⟩:=LQ h h2 h3;obtain⟨_,a0,a1,a2,_⟩:=nE e;rw[e1,e2];have hlen:=jy hL;have hin:∀g:Int,aC L k<=g->g<=aE L k->aL IntKind.i64 (g+1):=fun g h1 h2=>by simp only[aL,b7];omega
 have hnn:∀g:Int,aL IntKind.i64 (gp L (aC L k) g k.oid+1):=fun g=>by
  have:=Dj (L:=L) (f:=aC L k) (g:=g) (oid:=k.oid);have:=Qq (L:=L) (f:=aC L k) (g:=g) (oid:=k.oid);simp only[aL,b7];omega
 refine⟨⟨aC L k,⟨by omega,by omega⟩,rfl,Ht,rfl,BQ.symm,(by(repeat' apply And.intro)<;>rfl)⟩,fun g hg=>⟨fun hgl=>?_,fun hgl=>?_⟩⟩
 ·obtain⟨g0,g1⟩:=hg;have hgl:=UX hgl;have hgz:(fD L (aC L k) g k.oid).length=L.length:=Em;have hgt:az (fD L (aC L k) g k.oid) g=ai L g.toNat free:=by rw[fG (by omega) (by omega),Qm (by omega)]
  rw[hgt];refine⟨rfl,rfl,fun hk=>⟨rfl,fun hb=>?_,fun hb=>?_⟩,fun hk=>?_⟩
  ·have hne:¬g=k.oid:=by
    simp only[US,Bool.not_eq_true',decide_eq_false_iff_not]at hb;exact hb.2
   have hh:iZ L g k.oid=true:=by unfold iZ lI;rw[hk];simp[hne]
   have hs:=IL (L:=L) (f:=aC L k) (oid:=k.oid) (by omega:0<=g) (by omega) g0 hh
   have hs2:=MT (L:=L) (f:=aC L k) (oid:=k.oid) (by omega:0<=g) (by omega) g0 hh
   have hp:=(jV (L:=fD L (aC L k) g k.oid) (i:=g) (by omega) (by omega) (hgz▸uP (cz hL g.toNat (by omega)))).1
   exact⟨rfl,rfl,hnn g,rfl,hin g g0 hgl,g+1,⟨by omega,by omega⟩,by omega,rfl,hp.trans hs2,rfl,hs.symm,(by(repeat' apply And.intro)<;>rfl)⟩
  ·have hh:iZ L g k.oid=false:=by
    have e3:decide (aC L k<=g)=true:=by simp;omega
    have e4:decide (g<=aE L k)=true:=by simp;omega
    rw[e3,e4]at hb;unfold iZ;rw[Bool.and_eq_false_iff];right
    simpa using hb
   have hs:=BO (L:=L) (f:=aC L k) (oid:=k.oid) (by omega:0<=g) g0 hh
   have hs2:=A8 (L:=L) (f:=aC L k) (oid:=k.oid) (by omega:0<=g) g0 hh
   exact⟨rfl,hin g g0 hgl,g+1,⟨by omega,by omega⟩,by omega,rfl,hs2.symm,rfl,hs.symm,(by(repeat' apply And.intro)<;>rfl)⟩
  ·have hh:iZ L g k.oid=false:=by unfold iZ lI;rw[hk];rfl
   have hs:=BO (L:=L) (f:=aC L k) (oid:=k.oid) (by omega:0<=g) g0 hh
   have hs2:=A8 (L:=L) (f:=aC L k) (oid:=k.oid) (by omega:0<=g) g0 hh
   exact⟨rfl,hin g g0 hgl,g+1,⟨by omega,by omega⟩,by omega,rfl,hs2.symm,rfl,hs.symm,(by(repeat' apply And.intro)<;>rfl)⟩
 ·obtain⟨g0,g1⟩:=hg;have hgl:=UW hgl;have:g=aE L k+1:=by omega
  subst this;exact⟨⟨by unfold ir;rw[U0 e],e.symm⟩,by unfold jo;rw[U0 e]⟩
theorem JI (L:List Sx.Obj) (k:Key) (hL:an L):aj Tryz.prog 225 [.lp 0 0,.key k] [.store tS eS L] (yZ (.tp [.it .i64 (ir L k),.it .i64 (aV L k)]) (jo L k)) (fun _ _=>False):=
 aJ (inl:=(fun f=>f==214||f==213||f==216||f==217||f==219||f==1000000+232)) (ann:=(kW [(5000+232,1,Us [0,1] (fun(g:Int)=> [(3,.it .i64 g)]) (fun g=> [(0,.store tS eS (fD L (aC L k) g k.oid)),(2,.blk 3 (.it .i64 (gp L (aC L k) g k.oid)))]) (pU L k) (fun g=>pI (uv (Ai (aE L k) 1) g)))])) (ab aW (ab bj (ab ez aq))) (aB bY ay) (cN fI) (H6 L k hL) (by kernel_rfl)
theorem GN:p5 Tryz.prog 225 Nf:=
 lg (m:=fun x=>kB.cn x 0) (nU SH (fun _=>rfl)) (fun _=>rfl) (fun _ _=>rfl) (fun x=>aJ (inl:=(fun f=>f==214||f==213||f==216||f==217||f==219||f==1000000+232)) (ann:=aQ) (ab aW (ab bj (ab ez aq))) (aB bY ay) (cN fI) (FK x.1) (by kernel_rfl)) (fun x=>aJ (inl:=(fun f=>f==214||f==213||f==216||f==217||f==219||f==1000000+232)) (ann:=aQ) (ab aW (ab bj (ab ez aq))) (aB bY ay) (cN fI) (FJ x.1) (by kernel_rfl)) fun L x hL _ _=>JI L x.1 hL
theorem Fc (k:Key) (kind:Int):
 true=true/\true=true/\((!decide (0<ah []))=true->void=ei [] k kind/\1=cZ [] k kind)/\((!decide (0<ah []))=false->true=true/\((!(aO [] k&&decide (k.kind=
  4)))=true->void=ei [] k kind/\190=cZ [] k kind)/\((!(aO [] k&&decide (k.kind=4)))=false->true=true/\((!(decide (((aa [] k).slots.at 0).kind=1)&&decide (((aa []
  k).slots.at 1).kind=1)&&decide (0<=((aa [] k).slots.at 0).value)&&decide (((aa [] k).slots.at 0).value<=((aa [] k).slots.at 1).value)&&decide (((aa [] k).slots.at 1).value<
  ah [])))=true->void=ei [] k kind/\220=cZ [] k kind)/\((!(decide (((aa [] k).slots.at 0).kind=1)&&decide (((aa [] k).slots.at 1).kind=1)&&decide (0<=((aa []
  k).slots.at 0).value)&&decide (((aa [] k).slots.at 0).value<=((aa [] k).slots.at 1).value)&&decide (((aa [] k).slots.at 1).value<ah [])))=false->true=true/\((!(decide (kind
  =1)||decide (kind=2)))=true->void=ei [] k kind/\2=cZ [] k kind)/\((!(decide (kind=1)||decide (kind=2)))=false->true=true/\true=true/\true=true/\∀(r0:Loop),
  False)))):=by
 exact⟨rfl,rfl,fun h=>(tc (oP (DI h) (by omega)) (by omega)).1,fun h=>absurd h (by decide)⟩
theorem ET (k:Key) (kind:Int):
 true=true/\true=true/\((!decide (0<ah []))=true->void=ei [] k kind/\1=cZ [] k kind)/\((!decide (0<ah []))=false->true=true/\((!(aO [] k&&decide (k.kind=
  4)))=true->void=ei [] k kind/\190=cZ [] k kind)/\((!(aO [] k&&decide (k.kind=4)))=false->true=true/\((!(decide (((aa [] k).slots.at 0).kind=1)&&decide (((aa []
  k).slots.at 1).kind=1)&&decide (0<=((aa [] k).slots.at 0).value)&&decide (((aa [] k).slots.at 0).value<=((aa [] k).slots.at 1).value)&&decide (((aa [] k).slots.at 1).value<
  ah [])))=true->void=ei [] k kind/\220=cZ [] k kind)/\((!(decide (((aa [] k).slots.at 0).kind=1)&&decide (((aa [] k).slots.at 1).kind=1)&&decide (0<=((aa []
  k).slots.at 0).value)&&decide (((aa [] k).slots.at 0).value<=((aa [] k).slots.at 1).value)&&decide (((aa [] k).slots.at 1).value<ah [])))=false->true=true/\((!(decide (kind
  =1)||decide (kind=2)))=true->void=ei [] k kind/\2=cZ [] k kind)/\((!(decide (kind=1)||decide (kind=2)))=false->true=true/\true=true/\true=true/\∀(r0:Loop),
  False)))):=by
 exact⟨rfl,rfl,fun h=>(tc (oP (DI h) (by omega)) (by omega)).1,fun h=>absurd h (by decide)⟩
theorem IW (L:List Sx.Obj) (k:Key) (kind:Int) (hL:an L):
 true=true/\true=true/\((!decide (0<ah L))=true->(void=ei L k kind/\1=cZ L k kind)/\L=fz L k kind)/\((!decide (0<ah L))=false->true=true/\((!(aO L k&&
  decide (k.kind=4)))=true->(void=ei L k kind/\190=cZ L k kind)/\L=fz L k kind)/\((!(aO L k&&decide (k.kind=4)))=false->true=true/\((!(decide (((aa L k).slots.at
  0).kind=1)&&decide (((aa L k).slots.at 1).kind=1)&&decide (0<=((aa L k).slots.at 0).value)&&decide (((aa L k).slots.at 0).value<=((aa L k).slots.at 1).value)&&decide
  (((aa L k).slots.at 1).value<ah L)))=true->(void=ei L k kind/\220=cZ L k kind)/\L=fz L k kind)/\((!(decide (((aa L k).slots.at 0).kind=1)&&decide (((aa L
  k).slots.at 1).kind=1)&&decide (0<=((aa L k).slots.at 0).value)&&decide (((aa L k).slots.at 0).value<=((aa L k).slots.at 1).value)&&decide (((aa L k).slots.at 1).value<
  ah L)))=false->true=true/\((!(decide (kind=1)||decide (kind=2)))=true->(void=ei L k kind/\2=cZ L k kind)/\L=fz L k kind)/\((!(decide (kind=1)||decide (kind=
  2)))=false->true=true/\true=true/\true=true/\∀(r0:Loop),(∃g,gT L k g/\((aa L k).slots.at 0).value=g/\L=bF L (aC L k) g/\k=k/\void=void/\k=k/\aa L k
  =aa L k/\k.oid=k.oid/\((aa L k).slots.at 0).value=((aa L k).slots.at 0).value/\((aa L k).slots.at 1).value=((aa L k).slots.at 1).value/\aa L k=aa L k/\(aa
  L k).slots.at 0=(aa L k).slots.at 0/\(aa L k).slots.at 1=(aa L k).slots.at 1/\aa L k=aa L k/\k.oid=k.oid/\((aa L k).slots.at 0).value=((aa L k).slots.at
  0).value/\((aa L k).slots.at 1).value=((aa L k).slots.at 1).value/\aa L k=aa L k/\k.oid=k.oid/\((aa L k).slots.at 0).value=((aa L k).slots.at 0).value/\((aa L
  k).slots.at 1).value=((aa L k).slots.at 1).value/\kind=kind/\void=void/\false=false/\aa L k=aa L k/\k.oid=k.oid/\((aa L k).slots.at 0).value=((aa L k).slots.at
  0).value/\((aa L k).slots.at 1).value=((aa L k).slots.at 1).value/\r0=r0)/\∀(g:Int),gT L k g->(decide (g<=((aa L k).slots.at 1).value)=true->r0=r0/\r0=r0/\
  ((!decide ((az (bF L (aC L k) g) g).kind=0))=true->r0=r0/\aL IntKind.i64 (g+1)/\∃g',gT L k g'/\(aE L k+1-g').toNat<(aE L k+1-g).toNat/\g+1=g'/\
  bF L (aC L k) g=bF L (aC L k) g'/\k=k/\void=void/\k=k/\aa L k=aa L k/\k.oid=k.oid/\((aa L k).slots.at 0).value=((aa L k).slots.at 0).value/\((aa L
  k).slots.at 1).value=((aa L k).slots.at 1).value/\aa L k=aa L k/\(aa L k).slots.at 0=(aa L k).slots.at 0/\(aa L k).slots.at 1=(aa L k).slots.at 1/\aa L k=
  aa L k/\k.oid=k.oid/\((aa L k).slots.at 0).value=((aa L k).slots.at 0).value/\((aa L k).slots.at 1).value=((aa L k).slots.at 1).value/\aa L k=aa L k/\k.oid=
  k.oid/\((aa L k).slots.at 0).value=((aa L k).slots.at 0).value/\((aa L k).slots.at 1).value=((aa L k).slots.at 1).value/\kind=kind/\void=void/\false=false/\aa L k=
  aa L k/\k.oid=k.oid/\((aa L k).slots.at 0).value=((aa L k).slots.at 0).value/\((aa L k).slots.at 1).value=((aa L k).slots.at 1).value/\r0=r0)/\((!decide ((az (bF
  L (aC L k) g) g).kind=0))=false->(decide ((az (bF L (aC L k) g) g).count=4294967295)=true->true=true/\r0=r0/\aL IntKind.i64 (g+1)/\∃g',gT L k g'/\(aE L k
  +1-g').toNat<(aE L k+1-g).toNat/\g+1=g'/\bO (bF L (aC L k) g) g (Obj.mk 3 (az (bF L (aC L k) g) g).count free.calls free.slots free.bytes)=bF L (aC L k)
  g'/\k=k/\void=void/\k=k/\aa L k=aa L k/\k.oid=k.oid/\((aa L k).slots.at 0).value=((aa L k).slots.at 0).value/\((aa L k).slots.at 1).value=((aa L k).slots.at
  1).value/\aa L k=aa L k/\(aa L k).slots.at 0=(aa L k).slots.at 0/\(aa L k).slots.at 1=(aa L k).slots.at 1/\aa L k=aa L k/\k.oid=k.oid/\((aa L
  k).slots.at 0).value=((aa L k).slots.at 0).value/\((aa L k).slots.at 1).value=((aa L k).slots.at 1).value/\aa L k=aa L k/\k.oid=k.oid/\((aa L k).slots.at 0).value=
  ((aa L k).slots.at 0).value/\((aa L k).slots.at 1).value=((aa L k).slots.at 1).value/\kind=kind/\void=void/\false=false/\aa L k=aa L k/\k.oid=k.oid/\((aa L
  k).slots.at 0).value=((aa L k).slots.at 0).value/\((aa L k).slots.at 1).value=((aa L k).slots.at 1).value/\r0=r0)/\(decide ((az (bF L (aC L k) g) g).count=4294967295)=
  false->aL IntKind.i64 ((az (bF L (aC L k) g) g).count+1)/\true=true/\aL IntKind.i64 ((az (bF L (aC L k) g) g).count+1)/\r0=r0/\true=true/\(bT kind g ((az
  (bF L (aC L k) g) g).count+1)=ei L k kind/\0=cZ L k kind)/\bO (bF L (aC L k) g) g (Obj.mk kind ((az (bF L (aC L k) g) g).count+1) free.calls free.slots
  free.bytes)=fz L k kind)))/\(decide (g<=((aa L k).slots.at 1).value)=false->true=true/\(void=ei L k kind/\221=cZ L k kind)/\bF L (aC L k) g=fz L k kind))))):=by
 refine⟨rfl,rfl,fun h=>tc (oP (DI h) (by omega)) (by omega),fun h=>⟨rfl,fun h2=>tc (oP (Rm h h2) (by omega)) (by omega),fun h2=>⟨rfl,fun h3=>tc (oP (Sg h h2 h3) (by omega)) (by omega),fun h3=>⟨rfl,fun h4=>tc (Iq (LQ h h2 h3).1 h4) (by omega),fun h4=>⟨rfl,rfl,rfl,fun r0=>?_⟩⟩⟩⟩⟩
 obtain⟨e,e1,e2⟩:=LQ h h2 h3;obtain⟨_,a0,a1,a2,_⟩:=nE e;rw[e1,e2]
 have hk:kind=1\/kind=2:=by
  simp only[Bool.not_eq_false',Bool.or_eq_true,UT]at h4;exact h4
 have hlen:=jy hL;have hin:∀g:Int,aC L k<=g->g<=aE L k->aL IntKind.i64 (g+1):=fun g h1 h2=>by simp only[aL,b7];omega
 have hcnt:∀j:Nat,j<L.length->0<=(ai L j free).count/\(ai L j free).count<=4294967295:=fun j hj=>⟨(js (cz hL j hj)).1,(js (cz hL j hj)).2.1⟩
 have hci:∀j:Nat,j<L.length->aL IntKind.i64 ((ai L j free).count+1):=fun j hj=>by have:=hcnt j hj;simp only[aL,b7];omega
 refine⟨⟨aC L k,⟨by omega,by omega,vH⟩,rfl,Bp,(by(repeat' apply And.intro)<;>rfl)⟩,fun g hg=>⟨fun hgl=>?_,fun hgl=>?_⟩⟩
 ·obtain⟨g0,g1,g2⟩:=hg;have hgl:=UX hgl;have hgn:g.toNat<L.length:=by omega
  have hgz:(bF L (aC L k) g).length=L.length:=kV;have hgt:az (bF L (aC L k) g) g=ai L g.toNat free:=by rw[fG (by omega) (by omega),CU (by omega)]
  rw[hgt];refine⟨rfl,rfl,fun hk0=>?_,fun hk0=>⟨fun hc=>?_,fun hc=>?_⟩⟩
  ·obtain⟨f1,f2⟩:=Dm (o:=ai L g.toNat free) (by simpa using hk0)
   exact⟨rfl,hin g g0 hgl,g+1,⟨by omega,by omega,nt g2 f2⟩,by omega,rfl,(AY (by omega) f1).symm,(by(repeat' apply And.intro)<;>rfl)⟩
  ·obtain⟨f1,f2⟩:=JE (o:=ai L g.toNat free) (by simpa using hk0) (by have:=UX hc;omega)
   have hp:=(jV (L:=bF L (aC L k) g) (i:=g) (by omega) (by omega) (hgz▸zH (cz hL g.toNat hgn))).1
   exact⟨rfl,rfl,hin g g0 hgl,g+1,⟨by omega,by omega,nt g2 f2⟩,by omega,rfl,hp.trans (Dv (by omega) (by omega) g0 f1),(by(repeat' apply And.intro)<;>rfl)⟩
  ·have hc:=UW hc;have:=hcnt _ hgn;obtain⟨f1,f2⟩:=Jx (o:=ai L g.toNat free) (by simpa using hk0) (by omega)
   obtain⟨m1,m2,m3⟩:=DT kind a0 g0 hgl (by omega) g2 f2
   obtain⟨n1,n2,n3,n4⟩:=Mc (kind:=kind) e hk (by rw[m1];omega)
   have hp:=(jV (L:=bF L (aC L k) g) (i:=g) (by omega) (by omega) (hgz▸zd (cz hL g.toNat hgn) f2 hk)).1
   refine⟨hci _ hgn,rfl,hci _ hgn,rfl,rfl,⟨?_,n3⟩,hp.trans (m3.symm.trans n4)⟩;have hK:ei L k kind=bT kind (eQ L (aC L k) (aE L k)) ((ai L (eQ L (aC L k) (aE L k)).toNat free).count+1):=by unfold ei;rw[U0 n3.symm]
   rw[hK,m1]
 ·obtain⟨g0,g1,g2⟩:=hg;have hgl:=UW hgl;have:g=aE L k+1:=by omega
  subst this;obtain⟨m1,m2,m3⟩:=GR kind g2;obtain⟨n1,n2,n3,n4⟩:=KO (kind:=kind) e hk m1;exact⟨rfl,⟨n2,n3⟩,m2.symm.trans n4⟩
theorem Ky (L:List Sx.Obj) (k:Key) (kind:Int) (hL:an L):aj Tryz.prog 211 [.lp 0 0,.key k,.it .i64 kind] [.store tS eS L] (yZ (.tp [.key (ei L k kind),.it .i64 (cZ L k kind)]) (fz L k kind)) (fun _ _=>False):=
 aJ (inl:=(fun f=>f==214||f==213||f==218||f==219||f==1000000+232)) (ann:=(kW [(3000+232,1,TU [0,1] (fun g=> [(3,.it .i64 g)]) 0 (fun g=> .store tS eS (bF L (aC L k) g)) (gT L k) (Ai (aE L k) 1))])) (ab aW (ab bj (ab ez (ab p6 aq)))) (aB bY ay) (cN fI) (IW L k kind hL) (by kernel_rfl)
theorem Bz:p5 Tryz.prog 211 LD:=
 lg (m:=fun x=>SJ.cn x 0) (nU G6 (fun _=>rfl)) (fun _=>rfl) (fun _ _=>rfl) (fun x=>aJ (inl:=(fun f=>f==214||f==213||f==218||f==219||f==1000000+232)) (ann:=aQ) (ab aW (ab bj (ab ez (ab p6 aq)))) (aB bY ay) (cN fI) (Fc x.1 x.2.1) (by kernel_rfl)) (fun x=>aJ (inl:=(fun f=>f==214||f==213||f==218||f==219||f==1000000+232)) (ann:=aQ) (ab aW (ab bj (ab ez (ab p6 aq)))) (aB bY ay) (cN fI) (ET x.1 x.2.1) (by kernel_rfl)) fun L x hL _ _=>Ky L x.1 x.2.1 hL
end Go.Proofs.YtlblcfaclmpekaaGreat
