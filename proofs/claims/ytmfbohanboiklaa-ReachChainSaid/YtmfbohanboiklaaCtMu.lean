import Derived.Test.YtmfbohanboiklaaCtTd
set_option linter.unusedSimpArgs false
set_option linter.unusedVariables false
namespace Go.Proofs.Ytmfbohanboiklaa
open Go.Sx
set_option maxRecDepth 100000
theorem Dk (M:List Sx.Obj):
 true=true/\true=true/\∀(r0:Loop),(∃g,j5 [] M g/\c9 []=c9 []/\0=g/\M=M/\false=false/\0=g/\Value.pointer none=Value.pointer none/\r0=r0)/\∀(g:Int),j5
  [] M g->(decide (g<c9 [])=true->False)/\(decide (g<c9 [])=false->decide (g=aK (aa M))=hJ [] M):=by
 refine⟨rfl,rfl,fun r0=>⟨⟨0,⟨by omega,by unfold aa;omega,by omega,fun j hj=>by omega⟩,by(repeat' apply And.intro)<;>rfl⟩,fun g hg=>⟨fun hlt=>?_,fun _=>tG hg (by simp only[aa,List.length_nil];exact hg.1)⟩⟩⟩
 have h0:g<0:=Nc hlt;exact absurd hg.1 (by omega)
theorem CO (M:List Sx.Obj):ai Try.prog 16 [o9,.sa 0] [.ro (.arr none 163 (.ob M))] (nz (.bo (hJ [] M))) (fun _ _=>False):=aL (inl:=(fun f=>f==33)) (ann:=(kg [(4000+59,1,Lz [0,1,5] (fun g=> [(6,.it .i64 g)]) 3 (fun g=> .blk 3 (.it .i64 g)) (j5 [] M) 0)])) (an z7 az) (Dk M) (by kernel_rfl)
theorem Du (L M:List Sx.Obj) (hL:L.length<=9223372036854775807):
 true=true/\true=true/\∀(r0:Loop),(∃g,j5 L M g/\c9 L=c9 L/\0=g/\M=M/\L=L/\false=false/\0=g/\r0=r0)/\∀(g:Int),j5 L M g->(decide (g<c9 L)=
  true->(0<=g/\g< ↑(aa L))/\g.toNat<aa L/\g.toNat<aa L/\r0=r0/\r0=r0/\((!(!decide (g=g)||decide (aK (aa M)<=g)))=true->0<=g/\g< ↑(aa M))/\((!(!decide (g=g)||
  decide (aK (aa M)<=g)))=true->g.toNat<aa M)/\((!decide (g=g)||decide (aK (aa M)<=g)|| !Fb (au L g.toNat free) (au M g.toNat free))=true->r0=r0/\false=hJ L M)/\
  ((!decide (g=g)||decide (aK (aa M)<=g)|| !Fb (au L g.toNat free) (au M g.toNat free))=false->aP IntKind.i64 (g+1)/\r0=r0/\aP IntKind.i64 (g+1)/\∃g',j5 L M g'/\(aK
  (aa L)-g').toNat<(aK (aa L)-g).toNat/\c9 L=c9 L/\g+1=g'/\M=M/\L=L/\false=false/\g+1=g'/\r0=r0))/\(decide (g<c9 L)=false->decide (g=aK (aa M))
  =hJ L M):=by
 refine⟨rfl,rfl,fun r0=>⟨⟨0,⟨by omega,by unfold aa;omega,by omega,fun j hj=>by omega⟩,by(repeat' apply And.intro)<;>rfl⟩,fun g hg=>⟨fun hlt=>?_,fun hge=>?_⟩⟩⟩
 ·have hg':=hg;obtain⟨g0,g1,g2,g3⟩:=hg;have hlt:g<c9 L:=Nc hlt;have hle:=lr L;have hlm:=lr M;have hq:c9 L=(L.length:Int):=rfl;rw[hq]at hlt;have hz:∀b:Bool,(!decide (g=g)||b)=b:=by simp
  rw[hz];refine⟨⟨g0,by omega⟩,by omega,by omega,rfl,rfl,fun h=>?_,fun h=>?_,fun h=>⟨rfl,?_⟩,fun h=>?_⟩
  ·have h:¬(aK (aa M)<=g):=by simpa using h
   rw[fw]at h;exact⟨g0,by omega⟩
  ·have h:¬(aK (aa M)<=g):=by simpa using h
   rw[fw]at h;omega
  ·unfold hJ;symm
   rw[decide_eq_false_iff_not];rintro rfl
   rw[Bool.or_eq_true,M9,fw]at h;rcases h with h|h
   ·omega
   ·simp[Fb]at h
  ·rw[Bool.or_eq_false_iff,decide_eq_false_iff_not,fw]at h;obtain⟨h1,h2⟩:=h;have h2:au L g.toNat free=au M g.toNat free:=by simpa[Fb]using h2
   have hr:aP IntKind.i64 (g+1):=by simp only[aP,bC];omega
   refine⟨hr,rfl,hr,g+1,⟨by omega,by omega,by omega,fun j hj=>?_⟩,by rw[fw];omega,by(repeat' apply And.intro)<;>rfl⟩
   by_cases e:(j:Int)<g
   ·exact g3 j e
   ·rw[show j=g.toNat by omega];exact h2
 ·have hge:¬g<c9 L:=Nb hge;exact tG hg (by unfold c9 at hge;omega)
theorem GJ:bW Try.prog 16 Jf:=
 Gx (fun _ _=>rfl) (fun M _ _=>CO M) (fun L M _ hL _ _=>aL (inl:=(fun f=>f==33)) (ann:=(kg [(4000+59,1,Lz [0,1,5] (fun g=> [(6,.it .i64 g)]) 6 (fun g=> .blk 3 (.it .i64 g)) (j5 L M) (aK (aa L)))])) (an z7 az) (Du L M hL) (by kernel_rfl))
end Go.Proofs.Ytmfbohanboiklaa
