import Derived.Test.YtmfbohanboiklaaCtTd
set_option linter.unusedSimpArgs false
set_option linter.unusedVariables false
namespace Go.Proofs.Ytmfbohanboiklaa
open Go.Sx
set_option maxRecDepth 100000
theorem CB (M:List Sx.Obj):
 true=true/\true=true/\∀(r0:Loop),(∃g,kc [] M g/\dg []=dg []/\0=g/\M=M/\false=false/\0=g/\Value.pointer none=Value.pointer none/\r0=r0)/\∀(g:Int),kc
  [] M g->(decide (g<dg [])=true->False)/\(decide (g<dg [])=false->decide (g=aJ (aa M))=hJ [] M):=by
 refine⟨rfl,rfl,fun r0=>⟨⟨0,⟨by omega,by unfold aa;omega,by omega,fun j hj=>by omega⟩,by(repeat' apply And.intro)<;>rfl⟩,fun g hg=>⟨fun hlt=>?_,fun _=>uk hg (by simp only[aa,List.length_nil];exact hg.1)⟩⟩⟩
 have h0:g<0:=NU hlt;exact absurd hg.1 (by omega)
theorem CL (M:List Sx.Obj):ai Try.prog 16 [pK,.sa 0] [.ro (.arr none 163 (.ob M))] (nc (.bo (hJ [] M))) (fun _ _=>False):=aM (inl:=(fun f=>f==33)) (ann:=(jb [(4000+59,1,Mh [0,1,5] (fun g=> [(6,.it .i64 g)]) 3 (fun g=> .blk 3 (.it .i64 g)) (kc [] M) 0)])) (ak Ab aA) (CB M) (by kernel_rfl)
theorem E2 (L M:List Sx.Obj) (hL:L.length<=9223372036854775807):
 true=true/\true=true/\∀(r0:Loop),(∃g,kc L M g/\dg L=dg L/\0=g/\M=M/\L=L/\false=false/\0=g/\r0=r0)/\∀(g:Int),kc L M g->(decide (g<dg L)=
  true->(0<=g/\g< ↑(aa L))/\g.toNat<aa L/\g.toNat<aa L/\r0=r0/\r0=r0/\((!(!decide (g=g)||decide (aJ (aa M)<=g)))=true->0<=g/\g< ↑(aa M))/\((!(!decide (g=g)||
  decide (aJ (aa M)<=g)))=true->g.toNat<aa M)/\((!decide (g=g)||decide (aJ (aa M)<=g)|| !FH (aq L g.toNat free) (aq M g.toNat free))=true->r0=r0/\false=hJ L M)/\
  ((!decide (g=g)||decide (aJ (aa M)<=g)|| !FH (aq L g.toNat free) (aq M g.toNat free))=false->aO IntKind.i64 (g+1)/\r0=r0/\aO IntKind.i64 (g+1)/\∃g',kc L M g'/\(aJ
  (aa L)-g').toNat<(aJ (aa L)-g).toNat/\dg L=dg L/\g+1=g'/\M=M/\L=L/\false=false/\g+1=g'/\r0=r0))/\(decide (g<dg L)=false->decide (g=aJ (aa M))
  =hJ L M):=by
 refine⟨rfl,rfl,fun r0=>⟨⟨0,⟨by omega,by unfold aa;omega,by omega,fun j hj=>by omega⟩,by(repeat' apply And.intro)<;>rfl⟩,fun g hg=>⟨fun hlt=>?_,fun hge=>?_⟩⟩⟩
 ·have hg':=hg;obtain⟨g0,g1,g2,g3⟩:=hg;have hlt:g<dg L:=NU hlt;have hle:=kL L;have hlm:=kL M;have hq:dg L=(L.length:Int):=rfl;rw[hq]at hlt;have hz:∀b:Bool,(!decide (g=g)||b)=b:=by simp
  rw[hz];refine⟨⟨g0,by omega⟩,by omega,by omega,rfl,rfl,fun h=>?_,fun h=>?_,fun h=>⟨rfl,?_⟩,fun h=>?_⟩
  ·have h:¬(aJ (aa M)<=g):=by simpa using h
   rw[fB]at h;exact⟨g0,by omega⟩
  ·have h:¬(aJ (aa M)<=g):=by simpa using h
   rw[fB]at h;omega
  ·unfold hJ;symm
   rw[decide_eq_false_iff_not];rintro rfl
   rw[Bool.or_eq_true,NQ,fB]at h;rcases h with h|h
   ·omega
   ·simp[FH]at h
  ·rw[Bool.or_eq_false_iff,decide_eq_false_iff_not,fB]at h;obtain⟨h1,h2⟩:=h;have h2:aq L g.toNat free=aq M g.toNat free:=by simpa[FH]using h2
   have hr:aO IntKind.i64 (g+1):=by simp only[aO,bE];omega
   refine⟨hr,rfl,hr,g+1,⟨by omega,by omega,by omega,fun j hj=>?_⟩,by rw[fB];omega,by(repeat' apply And.intro)<;>rfl⟩
   by_cases e:(j:Int)<g
   ·exact g3 j e
   ·rw[show j=g.toNat by omega];exact h2
 ·have hge:¬g<dg L:=NT hge;exact uk hg (by unfold dg at hge;omega)
theorem Gu:bW Try.prog 16 Km:=
 Gi (fun _ _=>rfl) (fun M _ _=>CL M) (fun L M _ hL _ _=>aM (inl:=(fun f=>f==33)) (ann:=(jb [(4000+59,1,Mh [0,1,5] (fun g=> [(6,.it .i64 g)]) 6 (fun g=> .blk 3 (.it .i64 g)) (kc L M) (aJ (aa L)))])) (ak Ab aA) (E2 L M hL) (by kernel_rfl))
end Go.Proofs.Ytmfbohanboiklaa
