import Derived.Test.YtlblcfaclmpekaaGreatSpQl
set_option linter.unusedSimpArgs false
set_option linter.unusedVariables false
set_option maxRecDepth 100000
namespace Go.Sx
def mG (L M:List Obj):Prop:=M.length=L.length/\∀j,j<L.length->(ai M j free).kind=(ai L j free).kind/\(ai M j free).count=(ai L j free).count/\(ai L j free).calls<=(ai M j free).calls
theorem gy (L:List Obj):mG L L:=⟨rfl,fun j _=>⟨rfl,rfl,Int.le_refl _⟩⟩
theorem xe {L M N:List Obj} (h:mG L M) (h':mG M N):mG L N:=⟨h'.1.trans h.1,fun j hj=>by
 obtain⟨a,b,c⟩:=h.2 j hj;obtain⟨d,e,f⟩:=h'.2 j (by rw[h.1];exact hj)
 exact⟨d.trans a,e.trans b,by omega⟩⟩
theorem ti {L:List Obj} {i:Nat} {o:Obj} (hi:i<L.length) (h1:o.kind=(ai L i free).kind) (h2:o.count=(ai L i free).count) (h3:(ai L i free).calls<=o.calls):mG L (bX L i o):=
 ⟨by rw[eT],fun j hj=>by
  rw[dA hi];split
  ·rename_i e;rw[e];exact⟨h1,h2,h3⟩
  ·exact⟨rfl,rfl,Int.le_refl _⟩⟩
theorem yZ {o:Obj} {m:bh} {a:Key}:(oP o m a).kind=o.kind/\(oP o m a).count=o.count/\(oP o m a).calls=o.calls:=by simp only[oP,and_self]
theorem za {o:Obj} {st:Int}:(sR o st).kind=o.kind/\(sR o st).count=o.count/\(sR o st).calls=o.calls:=by simp only[sR,and_self]
section
variable {L:List Obj} {i:Int} {k:Key} {md:Int} {m:bh}
theorem RI (hL:aq L) (hE:b8 L i k md m=0):mG L (ga L i k md):=by
 obtain⟨⟨⟨i0,i1⟩,_,_⟩,⟨⟨k0,k1⟩,_,_⟩,_,⟨_,l1⟩,_⟩:=sB hL hE;have h1:mG L (gw L i md):=ti (by omega) za.1 za.2.1 (by rw[za.2.2];exact Int.le_refl _)
 unfold ga;split
 ·exact xe h1 (ti (by omega) (by simp only[Ce]) (by simp only[Ce]) (by simp only[Ce];omega))
 ·exact h1
theorem Sf (hE:b8 L i k md m=0):eN L i k md m=bX (ga L i k md) k.oid.toNat (oP (ai (ga L i k md) k.oid.toNat free) (ld L m) (jK L i md)):=by
 unfold eN Bs;rw[Xv hE]
theorem QN (hL:aq L):mG L (eN L i k md m):=by
 by_cases hE:b8 L i k md m=0
 ·obtain⟨_,⟨⟨k0,k1⟩,_,_⟩,_,_,⟨_,l2⟩,_⟩:=sB hL hE;rw[Sf hE];exact xe (RI hL hE) (ti (by omega) yZ.1 yZ.2.1 (by rw[yZ.2.2];exact Int.le_refl _))
 ·rw[<-(lh rfl hE).2];exact gy _
theorem Py {o:Obj} (h:bL k o=true) (hn:¬bF k<0) (h7:k.kind=7):o.calls=k.call:=by
 unfold bL at h;simp only[Xo,Bool.or_eq_true,Xp,Bool.not_eq_true',decide_eq_false_iff_not]at h;rcases h.2 with h|h
 ·exact absurd h hn
 ·rcases h.2 with h|h
  ·exact absurd h7 h
  ·exact h
end
theorem vU {D:List Bool} {n:Nat} {v:Bool} (hn:n<D.length) (j:Nat):ai (bX D n v) j false=if j=n then v else ai D j false:=by
 unfold ai bX;by_cases e:j=n
 ·subst e;simp[Xt,hn]
 ·rw[Xu e,Xt,Xt,List.getElem?_set_ne (Ne.symm e)]
end Go.Sx
