import Derived.Test.YtmfbohanboiklaaCtTe
import Derived.Test.YtmfbohanboiklaaSpHe
set_option linter.unusedSimpArgs false
set_option linter.unusedVariables false
namespace Go.Proofs.Ytmfbohanboiklaa
open Go.Sx
set_option maxRecDepth 100000
theorem GL (x y:Sx.Key):
 ((!aw x|| !aw y)=true->false=je x y)/\((!aw x|| !aw y)=false->((decide (x.kind=0)||tX x y)=true->true=je x y)/\((decide (x.kind=0)||tX x y)=
   false->(lE x.kind&&decide (x.kind=y.kind)&&decide (x.oid=y.oid)&&decide (x.count=y.count)&&decide (b7 BinOp.andNot IntKind.i64 y.rights x.rights=0))=je x y)):=by
 unfold je;refine⟨fun h=>?_,fun h=>⟨fun h2=>?_,fun h2=>?_⟩⟩
 ·cases hx:aw x<;>cases hy:aw y<;>simp[hx,hy]at h⊢
 ·have hb:(aw x&&aw y)=true:=by cases hx:aw x<;>cases hy:aw y<;>simp[hx,hy]at h⊢
  rw[hb,h2];rfl
 ·have hb:(aw x&&aw y)=true:=by cases hx:aw x<;>cases hy:aw y<;>simp[hx,hy]at h⊢
  rw[hb,h2,Bool.true_and,Bool.false_or]
theorem FZ:bW Try.prog 36 Js:=np gf gf (fun _ _=>rfl) fun a b _ _=>aM (inl:=bu) (ann:=bZ) (ak vm aA) (GL a b) (by kernel_rfl)
theorem Hh (k:Sx.Key) (l:List Cp) (h5:c9 l):
 true=true/\true=true/\(∃g,qX k l g/\aJ (aa l)=aJ (aa l)/\0=g/\l=l/\k.kind=k.kind/\k.oid=k.oid/\k.count=k.count/\k.call=k.call/\k.rights=k.rights)/\∀(g:
  Int),qX k l g->(decide (g<aJ (aa l))=true->(0<=g/\g< ↑(aa l))/\g.toNat<aa l/\true=true/\true=true/\true=true/\(je (Key.mk k.kind k.oid k.count k.call k.rights
  void.value) (Key.mk (aK l g.toNat 0) (aK l g.toNat 1) (aK l g.toNat 2) (aK l g.toNat 3) (aK l g.toNat 4) void.value)=true->decide (0<=g)=il k l)/\(je (Key.mk k.kind k.oid k.count
  k.call k.rights void.value) (Key.mk (aK l g.toNat 0) (aK l g.toNat 1) (aK l g.toNat 2) (aK l g.toNat 3) (aK l g.toNat 4) void.value)=false->aO IntKind.i64 (g+1)/\∃g',qX k l g'/\
  (aJ (aa l)-g').toNat<(aJ (aa l)-g).toNat/\aJ (aa l)=aJ (aa l)/\g+1=g'/\l=l/\k.kind=k.kind/\k.oid=k.oid/\k.count=k.count/\k.call=k.call/\k.rights=k.rights))/\
  (decide (g<aJ (aa l))=false->false=il k l):=by
 have e1:aJ (aa l)=(l.length:Int):=rfl;rw[e1];have hb:=h5.2;refine⟨rfl,rfl,⟨0,⟨by omega,Int.natCast_nonneg _,fun j hj=>by omega⟩,rfl,rfl,rfl,rfl,rfl,rfl,rfl,rfl⟩,fun g hg=>⟨fun hlt=>?_,fun hge=>?_⟩⟩
 ·have hlt:=NU hlt;obtain⟨h0,h1,h2⟩:=hg;have hj:g.toNat<l.length:=by omega
  refine⟨⟨h0,hlt⟩,hj,rfl,rfl,rfl,fun hw=>?_,fun hw=>⟨by simp only[aO,bE];omega,g+1,⟨by omega,by show g+1<=(l.length:Int);omega,fun j hj'=>?_⟩,by omega,rfl,rfl,rfl,rfl,rfl,rfl,rfl,rfl⟩⟩
  ·rw[decide_eq_true h0];symm
   unfold il;rw[List.any_eq_true];exact⟨cJ l g.toNat,(at_mem hj).1,hw⟩
  ·by_cases hjg:(j:Int)<g
   ·exact h2 j hjg
   ·have:j=g.toNat:=by omega
    subst this;exact hw
 ·have hge:=NT hge;obtain⟨h0,h1,h2⟩:=hg;symm
  unfold il;rw[List.any_eq_false];intro x hx;obtain⟨j,hj,rfl⟩:=List.getElem_of_mem hx;have hm:=(at_mem hj).2;rw[List.getElem?_eq_getElem hj]at hm;rw[Option.some.inj hm,h2 j (by omega)]
  simp
theorem HX (k:Sx.Key) (l:List Cp) (h5:c9 l):ai Try.prog 17 [K7 k,.sa 0] [.ro (.arr none 5 (.qs 5 l))] (nc (.bo (il k l))) (fun _ _=>False):=
 aM (inl:=(fun f=>f==34||f==60||f==35||f==37)) (ann:=(jb [(60,2,FL [0,1,7] (fun g=> [(8,.it .i64 g)]) (qX k l) (aJ (aa l)))])) (ak FZ aA) (Hh k l h5) (by kernel_rfl)
theorem F2:bW Try.prog 17 J4:=nB (a8 oz (a8 rL dn)) (fun _=>rfl) fun a hq _=>by
  obtain⟨x,l,_⟩:=a;exact HX (rX x) l hq
end Go.Proofs.Ytmfbohanboiklaa
