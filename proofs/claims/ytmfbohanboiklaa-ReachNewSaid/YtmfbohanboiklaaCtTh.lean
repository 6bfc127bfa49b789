import Derived.Test.YtmfbohanboiklaaCtTe
import Derived.Test.YtmfbohanboiklaaSpHe
set_option linter.unusedSimpArgs false
set_option linter.unusedVariables false
namespace Go.Proofs.Ytmfbohanboiklaa
open Go.Sx
set_option maxRecDepth 100000
theorem Hm (x y:Sx.Key):
 ((!au x|| !au y)=true->false=fm x y)/\((!au x|| !au y)=false->((decide (x.kind=0)||yX x y)=true->true=fm x y)/\((decide (x.kind=0)||yX x y)=
   false->(lz x.kind&&decide (x.kind=y.kind)&&decide (x.oid=y.oid)&&decide (x.count=y.count)&&decide (cG BinOp.andNot IntKind.i64 y.rights x.rights=0))=fm x y)):=by
 unfold fm;refine⟨fun h=>?_,fun h=>⟨fun h2=>?_,fun h2=>?_⟩⟩
 ·cases hx:au x<;>cases hy:au y<;>simp[hx,hy]at h⊢
 ·have hb:(au x&&au y)=true:=by cases hx:au x<;>cases hy:au y<;>simp[hx,hy]at h⊢
  rw[hb,h2];rfl
 ·have hb:(au x&&au y)=true:=by cases hx:au x<;>cases hy:au y<;>simp[hx,hy]at h⊢
  rw[hb,h2,Bool.true_and,Bool.false_or]
theorem G8:bV Try.prog 36 CN:=lh fL fL (fun _ _=>rfl) fun a b _ _=>aL (inl:=bz) (ann:=bW) (an vY aB) (Hm a b) (by kernel_rfl)
theorem Gm (k:Sx.Key) (l:List Cp) (h5:cm l):
 true=true/\true=true/\(∃g,iV k l g/\aG (aa l)=aG (aa l)/\0=g/\l=l/\k.kind=k.kind/\k.oid=k.oid/\k.count=k.count/\k.call=k.call/\k.rights=k.rights)/\∀(g:
  Int),iV k l g->(decide (g<aG (aa l))=true->(0<=g/\g< ↑(aa l))/\g.toNat<aa l/\true=true/\true=true/\true=true/\(fm (Key.mk k.kind k.oid k.count k.call k.rights
  void.value) (Key.mk (aT l g.toNat 0) (aT l g.toNat 1) (aT l g.toNat 2) (aT l g.toNat 3) (aT l g.toNat 4) void.value)=true->decide (0<=g)=cZ k l)/\(fm (Key.mk k.kind k.oid k.count
  k.call k.rights void.value) (Key.mk (aT l g.toNat 0) (aT l g.toNat 1) (aT l g.toNat 2) (aT l g.toNat 3) (aT l g.toNat 4) void.value)=false->aU IntKind.i64 (g+1)/\∃g',iV k l g'/\
  (aG (aa l)-g').toNat<(aG (aa l)-g).toNat/\aG (aa l)=aG (aa l)/\g+1=g'/\l=l/\k.kind=k.kind/\k.oid=k.oid/\k.count=k.count/\k.call=k.call/\k.rights=k.rights))/\
  (decide (g<aG (aa l))=false->false=cZ k l):=by
 have e1:aG (aa l)=(l.length:Int):=rfl;rw[e1];have hb:=h5.2;refine⟨rfl,rfl,⟨0,⟨by omega,Int.natCast_nonneg _,fun j hj=>by omega⟩,rfl,rfl,rfl,rfl,rfl,rfl,rfl,rfl⟩,fun g hg=>⟨fun hlt=>?_,fun hge=>?_⟩⟩
 ·have hlt:=N7 hlt;obtain⟨h0,h1,h2⟩:=hg;have hj:g.toNat<l.length:=by omega
  refine⟨⟨h0,hlt⟩,hj,rfl,rfl,rfl,fun hw=>?_,fun hw=>⟨by simp only[aU,bG];omega,g+1,⟨by omega,by show g+1<=(l.length:Int);omega,fun j hj'=>?_⟩,by omega,rfl,rfl,rfl,rfl,rfl,rfl,rfl,rfl⟩⟩
  ·rw[decide_eq_true h0];symm
   unfold cZ;rw[List.any_eq_true];exact⟨cw l g.toNat,(at_mem hj).1,hw⟩
  ·by_cases hjg:(j:Int)<g
   ·exact h2 j hjg
   ·have:j=g.toNat:=by omega
    subst this;exact hw
 ·have hge:=N6 hge;obtain⟨h0,h1,h2⟩:=hg;symm
  unfold cZ;rw[List.any_eq_false];intro x hx;obtain⟨j,hj,rfl⟩:=List.getElem_of_mem hx;have hm:=(at_mem hj).2;rw[List.getElem?_eq_getElem hj]at hm;rw[Option.some.inj hm,h2 j (by omega)]
  simp
theorem Gw (k:Sx.Key) (l:List Cp) (h5:cm l):aj Try.prog 17 [JO k,.sa 0] [.ro (.arr none 5 (.qs 5 l))] (pW (.bo (cZ k l))) (fun _ _=>False):=
 aL (inl:=(fun f=>f==34||f==60||f==35||f==37)) (ann:=(jM [(60,2,FL [0,1,7] (fun g=> [(8,.it .i64 g)]) (iV k l) (aG (aa l)))])) (an G8 aB) (Gm k l h5) (by kernel_rfl)
theorem GD:bV Try.prog 17 Eo:=lT (aI mz (aI py cM)) (fun _=>rfl) fun a hq _=>by
  obtain⟨x,l,_⟩:=a;exact Gw (qG x) l hq
end Go.Proofs.Ytmfbohanboiklaa
