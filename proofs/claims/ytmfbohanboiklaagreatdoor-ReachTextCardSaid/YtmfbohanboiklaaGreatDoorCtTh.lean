import Derived.Test.YtmfbohanboiklaaGreatDoorCtTe
import Derived.Test.YtmfbohanboiklaaGreatDoorSpHe
set_option linter.unusedSimpArgs false
set_option linter.unusedVariables false
namespace Go.Proofs.YtmfbohanboiklaaGreatDoor
open Go.Sx
set_option maxRecDepth 100000
theorem Ik(x y:Sx.Key):
 ((!aP x|| !aP y)=true->false=ia x y)/\((!aP x|| !aP y)=false->((decide (x.kind=0)||CM x y)=true->true=ia x y)/\((decide (x.kind=0)||CM x y)=
   false->(dL x.kind&&decide (x.kind=y.kind)&&decide (x.oid=y.oid)&&decide (x.count=y.count)&&decide (cG BinOp.andNot IntKind.i64 y.rights x.rights=0))=ia x y)):=by
 unfold ia;refine⟨fun h=>?_,fun h=>⟨fun h2=>?_,fun h2=>?_⟩⟩
 ·cases hx:aP x<;>cases hy:aP y<;>simp[hx,hy]at h⊢
 ·have hb:(aP x&&aP y)=true:=by cases hx:aP x<;>cases hy:aP y<;>simp[hx,hy]at h⊢
  rw[hb,h2];rfl
 ·have hb:(aP x&&aP y)=true:=by cases hx:aP x<;>cases hy:aP y<;>simp[hx,hy]at h⊢
  rw[hb,h2,Bool.true_and,Bool.false_or]
theorem Iu[Fen]:cI Tryz.prog 22 G1:=pg ju ju (fun _ _=>rfl) fun a b _ _=>bG (inl:=cq) (ann:=cH) (aS sb bf) (Ik a b) (by kernel_rfl)
theorem HK(k:Sx.Key)(l:List Cp)(h5:mN l):
 true=true/\true=true/\(∃g,iN k l g/\cW (aN l)=cW (aN l)/\0=g/\l=l/\k.kind=k.kind/\k.oid=k.oid/\k.count=k.count/\k.call=k.call/\k.rights=k.rights)/\∀(g:
  Int),iN k l g->(decide (g<cW (aN l))=true->(0<=g/\g< ↑(aN l))/\g.toNat<aN l/\true=true/\true=true/\true=true/\(ia (Key.mk k.kind k.oid k.count k.call k.rights
  void.value) (Key.mk (cr l g.toNat 0) (cr l g.toNat 1) (cr l g.toNat 2) (cr l g.toNat 3) (cr l g.toNat 4) void.value)=true->decide (0<=g)=fS k l)/\(ia (Key.mk k.kind k.oid k.count
  k.call k.rights void.value) (Key.mk (cr l g.toNat 0) (cr l g.toNat 1) (cr l g.toNat 2) (cr l g.toNat 3) (cr l g.toNat 4) void.value)=false->dI IntKind.i64 (g+1)/\∃g',iN k l g'/\
  (cW (aN l)-g').toNat<(cW (aN l)-g).toNat/\cW (aN l)=cW (aN l)/\g+1=g'/\l=l/\k.kind=k.kind/\k.oid=k.oid/\k.count=k.count/\k.call=k.call/\k.rights=k.rights))/\
  (decide (g<cW (aN l))=false->false=fS k l):=by
 have e1:cW (aN l)=(l.length:Int):=rfl;rw[e1];have hb:=h5.2;refine⟨rfl,rfl,⟨0,⟨by omega,Int.natCast_nonneg _,fun j hj=>by omega⟩,rfl,rfl,rfl,rfl,rfl,rfl,rfl,rfl⟩,fun g hg=>⟨fun hlt=>?_,fun hge=>?_⟩⟩
 ·have hlt:=an hlt;obtain⟨h0,h1,h2⟩:=hg;have hj:g.toNat<l.length:=by omega
  refine⟨⟨h0,hlt⟩,hj,rfl,rfl,rfl,fun hw=>?_,fun hw=>⟨by simp only[dI,bU];omega,g+1,⟨by omega,by show g+1<=(l.length:Int);omega,fun j hj'=>?_⟩,by omega,rfl,rfl,rfl,rfl,rfl,rfl,rfl,rfl⟩⟩
  ·rw[decide_eq_true h0];symm
   unfold fS;rw[List.any_eq_true];exact⟨gI l g.toNat,(at_mem hj).1,hw⟩
  ·by_cases hjg:(j:Int)<g
   ·exact h2 j hjg
   ·have:j=g.toNat:=by omega
    subst this;exact hw
 ·have hge:=ak hge;obtain⟨h0,h1,h2⟩:=hg;symm
  unfold fS;rw[List.any_eq_false];intro x hx;obtain⟨j,hj,rfl⟩:=List.getElem_of_mem hx;have hm:=(at_mem hj).2;rw[List.getElem?_eq_getElem hj]at hm;rw[Option.some.inj hm,h2 j (by omega)]
  simp
theorem Hq[Fen](k:Sx.Key)(l:List Cp)(h5:mN l):aJ Tryz.prog 9 [ye k,.sa 0] [.ro (.arr none 5 (.qs 5 l))] (pz (.bo (fS k l))) (fun _ _=>False):=
 bG (inl:=(fun f=>f==20||f==33||f==21||f==15)) (ann:=(qJ [(33,2,Jw [0,1,7] (fun g=> [(8,.it .i64 g)]) (iN k l) (cW (aN l)))])) (aS Iu bf) (HK k l h5) (by kernel_rfl)
theorem IF[Fen]:cI Tryz.prog 9 Ce:=kT (bL me (bL DN ea)) (fun _=>rfl) fun a hq _=>by
  obtain⟨x,l,_⟩:=a;exact Hq (nf x) l hq
end Go.Proofs.YtmfbohanboiklaaGreatDoor
