import Derived.Test.YtghpaegglbbocaaGreatCtRc
set_option linter.unusedSimpArgs false
set_option linter.unusedVariables false
namespace Go.Proofs.YtghpaegglbbocaaGreat
open Go.Sx
set_option maxRecDepth 100000
theorem Jo (M:List Sx.Obj):
 true=true/\true=true/\∀(r0:Loop),(∃g,oQ [] M g/\ak []=ak []/\0=g/\M=M/\false=false/\0=g/\Value.pointer none=Value.pointer none/\r0=r0)/\∀(g:Int),oQ
  [] M g->(decide (g<ak [])=true->False)/\(decide (g<ak [])=false->decide (g=cw (aj M))=jN [] M):=by
 refine⟨rfl,rfl,fun r0=>⟨⟨0,⟨by omega,by unfold aj;omega,by omega,fun j hj=>by omega⟩,by(repeat' apply And.intro)<;>rfl⟩,fun g hg=>⟨fun hlt=>?_,fun _=>zV hg (by simp only[aj,List.length_nil];exact hg.1)⟩⟩⟩
 have h0:g<0:=XO hlt;exact absurd hg.1 (by omega)
theorem Lw (M:List Sx.Obj):ai Tryz.prog 19 [k9,.sa 0] [.ro (.arr none 163 (.ob M))] (nz (.bo (jN [] M))) (fun _ _=>False):=aW (inl:=(fun f=>f==31)) (ann:=(jC [(4000+55,1,Uh [0,1,5] (fun g=> [(6,.it .i64 g)]) 3 (fun g=> .blk 3 (.it .i64 g)) (oQ [] M) 0)])) (ae bB an) (Jo M) (by kernel_rfl)
theorem Ih (L M:List Sx.Obj) (hL:L.length<=9223372036854775807):
 true=true/\true=true/\∀(r0:Loop),(∃g,oQ L M g/\ak L=ak L/\0=g/\M=M/\L=L/\false=false/\0=g/\r0=r0)/\∀(g:Int),oQ L M g->(decide (g<ak L)=
  true->(0<=g/\g< ↑(aj L))/\g.toNat<aj L/\g.toNat<aj L/\r0=r0/\r0=r0/\((!(!decide (g=g)||decide (cw (aj M)<=g)))=true->0<=g/\g< ↑(aj M))/\((!(!decide (g=g)||
  decide (cw (aj M)<=g)))=true->g.toNat<aj M)/\((!decide (g=g)||decide (cw (aj M)<=g)|| !BH (ah L g.toNat free) (ah M g.toNat free))=true->r0=r0/\false=jN L M)/\
  ((!decide (g=g)||decide (cw (aj M)<=g)|| !BH (ah L g.toNat free) (ah M g.toNat free))=false->aI IntKind.i64 (g+1)/\r0=r0/\aI IntKind.i64 (g+1)/\∃g',oQ L M g'/\(cw
  (aj L)-g').toNat<(cw (aj L)-g).toNat/\ak L=ak L/\g+1=g'/\M=M/\L=L/\false=false/\g+1=g'/\r0=r0))/\(decide (g<ak L)=false->decide (g=cw (aj M))
  =jN L M):=by
 refine⟨rfl,rfl,fun r0=>⟨⟨0,⟨by omega,by unfold aj;omega,by omega,fun j hj=>by omega⟩,by(repeat' apply And.intro)<;>rfl⟩,fun g hg=>⟨fun hlt=>?_,fun hge=>?_⟩⟩⟩
 ·have hg':=hg;obtain⟨g0,g1,g2,g3⟩:=hg;have hlt:g<ak L:=XO hlt;have hle:=lf L;have hlm:=lf M;have hq:ak L=(L.length:Int):=rfl;rw[hq]at hlt;have hz:∀b:Bool,(!decide (g=g)||b)=b:=by simp
  rw[hz];refine⟨⟨g0,by omega⟩,by omega,by omega,rfl,rfl,fun h=>?_,fun h=>?_,fun h=>⟨rfl,?_⟩,fun h=>?_⟩
  ·have h:¬(cw (aj M)<=g):=by simpa using h
   rw[gk]at h;exact⟨g0,by omega⟩
  ·have h:¬(cw (aj M)<=g):=by simpa using h
   rw[gk]at h;omega
  ·unfold jN;symm
   rw[decide_eq_false_iff_not];rintro rfl
   rw[Bool.or_eq_true,XL,gk]at h;rcases h with h|h
   ·omega
   ·simp[BH]at h
  ·rw[Bool.or_eq_false_iff,decide_eq_false_iff_not,gk]at h;obtain⟨h1,h2⟩:=h;have h2:ah L g.toNat free=ah M g.toNat free:=by simpa[BH]using h2
   have hr:aI IntKind.i64 (g+1):=by simp only[aI,cg];omega
   refine⟨hr,rfl,hr,g+1,⟨by omega,by omega,by omega,fun j hj=>?_⟩,by rw[gk];omega,by(repeat' apply And.intro)<;>rfl⟩
   by_cases e:(j:Int)<g
   ·exact g3 j e
   ·rw[show j=g.toNat by omega];exact h2
 ·have hge:¬g<ak L:=XN hge;exact zV hg (by unfold ak at hge;omega)
theorem Nr:cj Tryz.prog 19 Sq:=
 NI (fun _ _=>rfl) (fun M _ _=>Lw M) (fun L M _ hL _ _=>aW (inl:=(fun f=>f==31)) (ann:=(jC [(4000+55,1,Uh [0,1,5] (fun g=> [(6,.it .i64 g)]) 6 (fun g=> .blk 3 (.it .i64 g)) (oQ L M) (cw (aj L)))])) (ae bB an) (Ih L M hL) (by kernel_rfl))
end Go.Proofs.YtghpaegglbbocaaGreat
