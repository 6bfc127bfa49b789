import Derived.Test.YtmfbohanboiklaaGreatDoorCtTh
import Derived.Test.YtmfbohanboiklaaGreatDoorSpHo
set_option linter.unusedSimpArgs false
set_option linter.unusedVariables false
namespace Go.Proofs.YtmfbohanboiklaaGreatDoor
open Go.Sx
set_option maxRecDepth 100000
theorem DA(x y:Sx.Key)(hx:x.wf)(hy:y.wf):
 ((!decide (aU x=0)|| !decide (aU y=0))=true->false=ia x y)/\((!decide (aU x=0)|| !decide (aU y=0))=false->((decide (x.kind=0)||CM x y)=true->true=ia x
   y)/\((decide (x.kind=0)||CM x y)=false->((decide (x.kind=2)||decide (x.kind=3))&&decide (x.kind=y.kind)&&decide (x.oid=y.oid)&&decide (x.count=y.count)&&decide (il
   x.rights y.rights=x.rights))=ia x y)):=by
 unfold ia aU;cases ha1:aP x
 ·simp
 cases hb1:aP y
 ·simp
 refine⟨fun h=>by simp at h,fun _=>⟨fun h=>by rw[h];rfl,fun h=>?_⟩⟩
 rw[h,AU ha1 hb1];simp only[Bool.true_and,Bool.false_or];rfl
theorem DU:cI Tryz.prog 23 G1:=
 pg ju ju (fun _ _=>rfl) fun a b ha hb=>bG (inl:=cq) (ann:=cH) (aS zp (aS BK bf)) (DA a b ha hb) (by kernel_rfl)
theorem Gg(k:Sx.Key)(l:List Cp)(h5:mN l):
 (∃g,iN k l g/\0=g/\l=l/\k.kind=k.kind/\k.oid=k.oid/\k.count=k.count/\k.call=k.call/\k.rights=k.rights)/\∀(g:Int),iN k l g->(decide (g<cW (aN l))=true->(0
  <=g/\g< ↑(aN l))/\g.toNat<aN l/\(ia (Key.mk k.kind k.oid k.count k.call k.rights 0) (Key.mk (cr l g.toNat 0) (cr l g.toNat 1) (cr l g.toNat 2) (cr l g.toNat 3) (cr l g.toNat 4) 0)=
  true->true=fS k l)/\(ia (Key.mk k.kind k.oid k.count k.call k.rights 0) (Key.mk (cr l g.toNat 0) (cr l g.toNat 1) (cr l g.toNat 2) (cr l g.toNat 3) (cr l g.toNat 4) 0)=false->dI
  IntKind.i64 (g+1)/\∃g',iN k l g'/\(cW (aN l)-g').toNat<(cW (aN l)-g).toNat/\g+1=g'/\l=l/\k.kind=k.kind/\k.oid=k.oid/\k.count=k.count/\k.call=k.call/\k.rights
  =k.rights))/\(decide (g<cW (aN l))=false->false=fS k l):=by
 have e1:cW (aN l)=(l.length:Int):=rfl;rw[e1];have hb:=h5.2;refine⟨⟨0,⟨by omega,Int.natCast_nonneg _,fun j hj=>by omega⟩,rfl,rfl,rfl,rfl,rfl,rfl,rfl⟩,fun g hg=>⟨fun hlt=>?_,fun hge=>?_⟩⟩
 ·have hlt:=an hlt;obtain⟨h0,h1,h2⟩:=hg;have hj:g.toNat<l.length:=by omega
  refine⟨⟨h0,hlt⟩,hj,fun hw=>?_,fun hw=>⟨by simp only[dI,bU];omega,g+1,⟨by omega,by show g+1<=(l.length:Int);omega,fun j hj'=>?_⟩,by omega,rfl,rfl,rfl,rfl,rfl,rfl,rfl⟩⟩
  ·symm
   unfold fS;rw[List.any_eq_true];exact⟨gI l g.toNat,(at_mem hj).1,hw⟩
  ·by_cases hjg:(j:Int)<g
   ·exact h2 j hjg
   ·have:j=g.toNat:=by omega
    subst this;exact hw
 ·have hge:=ak hge;obtain⟨h0,h1,h2⟩:=hg;symm
  unfold fS;rw[List.any_eq_false];intro x hx;obtain⟨j,hj,rfl⟩:=List.getElem_of_mem hx;have hm:=(at_mem hj).2;rw[List.getElem?_eq_getElem hj]at hm;rw[Option.some.inj hm];have:=h2 j (by omega)
  simpa using this
theorem FV(k:Sx.Key)(l:List Cp)(h5:mN l):aJ Tryz.prog 10 [ye k,.sa 0] [.ro (.arr none 5 (.qs 5 l))] (pz (.bo (fS k l))) (fun _ _=>False):=
 bG (inl:=cq) (ann:=(qJ [(10,2,Jw [1,2] (fun g=> [(5,.it .i64 g)]) (iN k l) (cW (aN l)))])) (aS wc (aS DU bf)) (Gg k l h5) (by kernel_rfl)
theorem EB:cI Tryz.prog 10 Ce:=kT (bL me (bL DN ea)) (fun _=>rfl) fun a hq _=>by
  obtain⟨x,l,_⟩:=a;exact FV (nf x) l hq
end Go.Proofs.YtmfbohanboiklaaGreatDoor
