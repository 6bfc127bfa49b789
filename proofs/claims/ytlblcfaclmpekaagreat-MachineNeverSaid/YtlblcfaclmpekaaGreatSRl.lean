import Derived.Test.YtlblcfaclmpekaaGreatSpB
import Derived.Test.YtlblcfaclmpekaaGreatKS
import Derived.Test.YtlblcfaclmpekaaGreatSW
import Derived.Test.YtlblcfaclmpekaaGreatSpP
import Derived.Test.YtlblcfaclmpekaaGreatSpQl
import Derived.Test.YtlblcfaclmpekaaGreatSpRd
set_option linter.unusedSimpArgs false
set_option linter.unusedVariables false
namespace Go.Sx
def Dm (o o':Obj):Prop:=(o'.kind=o.kind/\o'.count=o.count/\o'.calls=o.calls)\/(o.kind=0/\o'.kind=3/\o'.count=o.count)\/(o.kind=0/\(o'.kind=1\/o'.kind=2)/\o'.count=o.count+1)\/((o.kind=1\/o.kind=2)/\o'.kind=0/\o'.count=o.count)
def Cf (L L':List Obj):Prop:=L'.length=L.length/\∀j,j<L.length->Dm (ai L j free) (ai L' j free)
def jR (g:Int):Prop:=0<=g/\g<=64
end Go.Sx
namespace Go.Sx
theorem qj (o:Obj):Dm o o:= .inl ⟨rfl,rfl,rfl⟩
theorem yI {o o' o'':Obj} (h:Dm o o') (h1:o''.kind=o'.kind) (h2:o''.count=o'.count) (h3:o''.calls=o'.calls):Dm o o'':=by
 unfold Dm at h⊢;rw[h1,h2,h3];exact h
theorem qw (L:List Obj):Cf L L:=⟨rfl,fun j _=>qj _⟩
theorem Uu {L:List Obj} {f g:Int} {j:Nat} (hj:j<L.length):Dm (ai L j free) (ai (bI L f g) j free):=by
 unfold bI;rw[gS hj];split
 ·rename_i h;simp only[iR,Xo,Xp]at h;exact .inr (.inl ⟨h.2.1,rfl,rfl⟩)
 ·exact qj _
theorem Fh {L:List Obj} {f l kind:Int} (h0:0<=f) (hk:kind=1\/kind=2):Cf L (j3 L f l kind):=by
 refine⟨Ab,fun j hj=>?_⟩
 unfold j3;split
 ·exact Uu hj
 ·rename_i hi;rcases uF (L:=L) (l:=l) h0 with e|⟨a,b,c,d⟩
  ·exact absurd e hi
  ·rw[dA (by rw[kF];omega)]
   split
   ·rename_i e;rw[<-e]at d;unfold dX at d;simp only[Xo,Xp]at d;refine .inr (.inr (.inl ⟨d.1,hk,?_⟩));rw[<-e];rfl
   ·exact Uu hj
theorem IZ {L:List Obj} {k:Key} {kind:Int} (h:fE L k kind=0):aV L k=0/\(kind=1\/kind=2):=by
 have he:aV L k=0:=by
  unfold fE at h;split at h
  ·assumption
  ·rename_i h';exact absurd h h'
 refine⟨he,?_⟩;unfold fE at h;rw[Xv he]at h;split at h
 ·assumption
 ·omega
theorem IY {L:List Obj} {k:Key} {kind:Int}:Cf L (fi L k kind):=by
 unfold fi;split
 ·rename_i h;obtain⟨he,hk⟩:=IZ h;exact Fh (lZ he).2.1 hk
 ·exact qw _
theorem IV {L:List Obj} {k:Key}:Cf L (jc L k):=by
 unfold jc;split
 ·refine⟨zQ,fun j hj=>?_⟩
  unfold fI;rw[gS hj];split
  ·rename_i h;simp only[jL,kX,Xo,Bool.or_eq_true,Xp]at h;exact .inr (.inr (.inr ⟨h.1.2,rfl,rfl⟩))
  ·exact qj _
 ·exact qw _
theorem De {L:List Obj} {v:Key} (h:iv L v=true):0<=v.oid/\v.oid<(L.length:Int)/\((ai L v.oid.toNat free).kind=1\/(ai L v.oid.toNat free).kind=2):=by
 have hi:=Cx h;obtain⟨_,h0,h1,_,hk⟩:=ej hi;refine⟨h0,h1,?_⟩;rw[hk];unfold iv at h;simp only[Xo,Bool.or_eq_true,Xp]at h;have hnm:aR v=true:=by unfold aI at hi;simp only[Xo]at hi;exact hi.1.1
 have hn:0<=bF v:=by
  rcases iM v with⟨_,e,h'⟩|⟨e,_⟩
  ·omega
  ·rw[e]at hnm;simp at hnm
 unfold gK;rw[Xu (by omega)]
 split
 ·exact .inr rfl
 ·exact .inl rfl
theorem LG {L:List Obj} {k v:Key}:Cf L (h9 L k v):=by
 unfold h9;split
 ·rename_i h
  have ht:iv L v=true:=by
   unfold dE at h;split at h
   ·split at h
    ·rename_i h';exact h'
    ·omega
   ·rename_i h';exact absurd h h'
  obtain⟨h0,h1,h2⟩:=De ht;refine⟨eT,fun j hj=>?_⟩
  rw[dA (by omega)]
  split
  ·rename_i e;rw[e];exact .inr (.inr (.inr ⟨h2,rfl,rfl⟩))
  ·exact qj _
 ·exact qw _
theorem Lf {L:List Obj} {k:Key} {n:Int} (h:b7 L k n=0):aV L k=0/\0<=eQ L k:=by
 have he:aV L k=0:=Decidable.byContradiction fun he=>by
  rw[Bh he]at h;exact he h
 refine⟨he,?_⟩;unfold b7 at h;split at h
 ·split at h
  ·omega
  ·rename_i h';omega
 ·rename_i h';exact absurd h h'
theorem PH {L:List Obj} {k:Key} {n:Int}:Cf L (bj L k n):=by
 unfold bj;split
 ·rename_i h;obtain⟨he,hI⟩:=Lf h;obtain⟨_,a0,a1,a2,a3,a4⟩:=lZ he;have hM:Cf L (dt L k):=Fh a0 (.inl rfl);have hl:(dt L k).length=L.length:=hM.1;rcases uF (L:=L) (l:=aE L k) a0 with e|⟨i1,i2,i3,i4⟩
  ·have:eQ L k= -1:=e;omega
  have i3:eQ L k<(L.length:Int):=i3;refine⟨by rw[eT,eT];exact hl,fun j hj=>?_⟩
  rw[dA (by rw[eT];omega)]
  split
  ·rename_i e;rw[e];exact yI (hM.2 k.oid.toNat (by omega)) rfl rfl rfl
  ·rw[dA (by omega)]
   split
   ·rename_i e;rw[e];exact yI (hM.2 (eQ L k).toNat (by omega)) rfl rfl rfl
   ·exact hM.2 j hj
 ·exact qw _
theorem HP {L:List Obj} {k:Key} (h:aI L k=true):k.oid.toNat<L.length/\(ai L k.oid.toNat free).count=k.count/\((ai L k.oid.toNat free).kind=1\/(ai L k.oid.toNat free).kind=2):=by
 obtain⟨_,h0,h1,_,hk⟩:=ej h;have h':=h;unfold aI at h';simp only[Xo]at h'
 have hn:0<=bF k:=by
  rcases iM k with⟨_,e,h'⟩|⟨e,_⟩
  ·omega
  ·rw[e]at h';simp at h'
 have hc:=h'.2;unfold bL at hc;simp only[Xo,Bool.or_eq_true,Xp]at hc;refine⟨by omega,?_,?_⟩
 ·rcases hc.2 with h|h
  ·omega
  ·exact h.1.2
 ·rw[hk];unfold gK;rw[Xu (by omega)]
  split
  ·exact .inr rfl
  ·exact .inl rfl
theorem vU {D:List Bool} {n:Nat} {v:Bool} (hn:n<D.length) (j:Nat):ai (bX D n v) j false=if j=n then v else ai D j false:=by
 unfold ai bX;by_cases e:j=n
 ·subst e;simp[Xt,hn]
 ·rw[Xu e,Xt,Xt,List.getElem?_set_ne (Ne.symm e)]
theorem IU {L:List Obj} {k:Key} (hL:aq L):aq (jc L k):=by
 unfold jc;split
 ·exact Fm hL fun o ho=>vO ho
 ·exact hL
theorem OD {L:List Obj} {k v:Key} (hL:aq L):aq (h9 L k v):=by
 unfold h9;split
 ·by_cases h:v.oid.toNat<L.length
  ·exact jS hL (vO (cm hL _ h))
  ·have:bX L v.oid.toNat (wV (ai L v.oid.toNat free))=L:=by unfold bX;exact List.set_eq_of_length_le (by omega)
   rw[this];exact hL
 ·exact hL
theorem SW {L:List Obj} {k:Key} {n:Int} (hL:aq L):aq (bj L k n):=by
 by_cases h:b7 L k n=0
 ·exact(Iv hL (Lf h).1 h).1
 ·unfold bj;rw[Xu h];exact hL
theorem Mz {n:Nat} {b:Bool}:(nk n b).length=n:=by simp[nk]
theorem OJ {n i:Nat}:ai (nk n false) i false=false:=by
 unfold ai nk;rw[Xt,List.getElem?_replicate];split<;>rfl
end Go.Sx
namespace Go.Sx
theorem AL {L:List Obj} {k:Key} {b:Bytes} (hL:aq L) (h:aI L k=true) (h2:k.kind=3):aq (pL L k b):=(pP hL h h2).2.2
theorem Ei {L:List Obj} {a:Ui} (hL:aq L) (h:z6 L a=true):aq (Ma L a):=by
 unfold z6 at h;unfold Ma;split at h
 ·simp at h
 ·rename_i h1;rw[Xu h1];split at h
  ·rename_i h2;rw[Xv h2];have h:=Xs h
   have hp:br L a.key true=0:=by
    unfold cX at h;split at h
    ·assumption
    ·rename_i h3;exact absurd h h3
   obtain⟨a1,a2,_⟩:=vQ hp;unfold eR;rw[Xv h];exact AL hL a1 a2
  ·rename_i h2;rw[Xu h2];split at h
   ·rename_i h3;rw[Xv h3];have h:=Xs h;obtain⟨a1,a2,_⟩:=vQ h;unfold fg;rw[Xv h];exact AL hL a1 a2
   ·rename_i h3;rw[Xu h3];have h:=Xs h
    have hp:br L a.key true=0:=by
     unfold cY at h;split at h
     ·assumption
     ·rename_i h3;exact absurd h h3
    obtain⟨a1,a2,_⟩:=vQ hp;unfold fz;rw[Xv h];exact AL hL a1 a2
end Go.Sx
namespace Go.Sx
theorem A9 {L:List Obj} {k v:Key} {i:Int} (hL:aq L):aq (dg L k i v):=by
 by_cases h:bx L k i v=0
 ·exact we (a:=⟨2,i,k,v⟩) hL (by simp[wJ,h])
 ·unfold dg;rw[Xu h];exact hL
theorem LD {L:List Obj} {k:Key} (hL:aq L):aq (fF L k):=by
 by_cases h:aQ L k 2 true=0
 ·exact we (a:=⟨3,0,k,k⟩) hL (by simp[wJ,h])
 ·unfold fF;rw[Xu h];exact hL
theorem Mj {L:List Obj} {t f:Key} (hL:aq L):aq (eY L t f):=by
 by_cases h:cq L t f=0
 ·exact we (a:=⟨4,0,t,f⟩) hL (by simp[wJ,h])
 ·unfold eY;rw[Xu h];exact hL
theorem Mt {L:List Obj} {k:Key} (hL:aq L):aq (fg L k):=by
 by_cases h:br L k true=0
 ·exact Ei (a:=⟨3,0,0,k,k,⟨#[]⟩⟩) hL (by simp[z6,h])
 ·unfold fg;rw[Xu h];exact hL
theorem Nj {L:List Obj} {t f:Key} (hL:aq L):aq (fz L t f):=by
 by_cases h:cY L t f=0
 ·exact Ei (a:=⟨4,0,0,t,f,⟨#[]⟩⟩) hL (by simp[z6,h])
 ·unfold fz;rw[Xu h];exact hL
theorem dY {c:Prop} [Decidable c] {a b:Ql} (ha:aq a.2.2) (hb:aq b.2.2):aq (if c then a else b).2.2:=by split<;>assumption
theorem Uk {L:List Obj} {k:Key} {m:bh} (hL:aq L):aq (hS L k m).2.2:=by
 unfold hS;exact dY hL (dY (A9 hL) (dY (LD hL) (dY (Mj hL) (dY hL hL))))
theorem T5 {L:List Obj} {k:Key} {m:bh} (hL:aq L):aq (gM L k m).2.2:=by
 unfold gM;exact dY hL (dY (EX hL) (dY (Mt hL) (dY (Nj hL) hL)))
theorem TU {L:List Obj} {k:Key} {m:bh} (hL:aq L):aq (hJ L k m).2.2:=by
 unfold hJ;exact dY (FG hL) (dY (FG hL) (dY (OD hL) (dY (SW hL) (dY hL (IU hL)))))
theorem UX {L:List Obj} {k:Key} {m:bh} (hL:aq L):aq (fS L k m).2.2:=by
 have hC:aq (if aX m<0\/11<aX m then L else dg L (eZ k) (aX m+4) m.k0):=by
  split
  ·exact hL
  ·exact A9 hL
 unfold fS;exact dY hL (dY hC (dY hL (dY hL (dY (DZ hL) (dY hL (Ra hL))))))
theorem Rc {L:List Obj} {n:Int} {k:Key} {m:bh} (hL:aq L):aq (dU L n k m).2.2:=by
 unfold dU;exact dY hL (dY (Uk hL) (dY (T5 hL) (dY (TU hL) (dY (UX hL) (dY hL (dY hL hL))))))
theorem QX {L:List Obj} {n:Int} {k:Key} {m:bh} (hL:aq L):aq (dG L n k m):=by
 unfold dG cZ;exact dY hL (dY hL (dY hL (Rc hL)))
theorem KN {L:List Obj} {n:Int} {k:Key} {m:bh} (hL:aq L):aq (lb L n k m):=by
 unfold lb;split
 ·exact QX hL
 ·exact hL
structure Xj where
 key:Key
 msg:bh
 now:Int
end Go.Sx
