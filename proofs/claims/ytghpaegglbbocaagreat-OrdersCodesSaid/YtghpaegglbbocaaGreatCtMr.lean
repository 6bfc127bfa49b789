import Derived.Test.YtghpaegglbbocaaGreatCtRc
set_option linter.unusedSimpArgs false
set_option linter.unusedVariables false
namespace Go.Proofs.YtghpaegglbbocaaGreat
open Go.Sx
set_option maxRecDepth 100000
theorem Km (M:List Sx.Obj):
 true=true/\true=true/\∀(r0:Loop),(∃g,oE [] M g/\an []=an []/\0=g/\M=M/\false=false/\0=g/\Value.pointer none=Value.pointer none/\r0=r0)/\∀(g:Int),oE
  [] M g->(decide (g<an [])=true->False)/\(decide (g<an [])=false->decide (g=b9 (aj M))=ev [] M):=by
 refine⟨rfl,rfl,fun r0=>⟨⟨0,⟨by omega,by unfold aj;omega,by omega,fun j hj=>by omega⟩,by(repeat' apply And.intro)<;>rfl⟩,fun g hg=>⟨fun hlt=>?_,fun _=>zN hg (by simp only[aj,List.length_nil];exact hg.1)⟩⟩⟩
 have h0:g<0:=Ys hlt;exact absurd hg.1 (by omega)
theorem Js (M:List Sx.Obj):ai Tryz.prog 19 [lh,.sa 0] [.ro (.arr none 163 (.ob M))] (mG (.bo (ev [] M))) (fun _ _=>False):=aV (inl:=(fun f=>f==31)) (ann:=(iz [(4000+55,1,UP [0,1,5] (fun g=> [(6,.it .i64 g)]) 3 (fun g=> .blk 3 (.it .i64 g)) (oE [] M) 0)])) (ab bB ak) (Km M) (by kernel_rfl)
theorem Ij (L M:List Sx.Obj) (hL:L.length<=9223372036854775807):
 true=true/\true=true/\∀(r0:Loop),(∃g,oE L M g/\an L=an L/\0=g/\M=M/\L=L/\false=false/\0=g/\r0=r0)/\∀(g:Int),oE L M g->(decide (g<an L)=
  true->(0<=g/\g< ↑(aj L))/\g.toNat<aj L/\g.toNat<aj L/\r0=r0/\r0=r0/\((!(!decide (g=g)||decide (b9 (aj M)<=g)))=true->0<=g/\g< ↑(aj M))/\((!(!decide (g=g)||
  decide (b9 (aj M)<=g)))=true->g.toNat<aj M)/\((!decide (g=g)||decide (b9 (aj M)<=g)|| !Dm (ah L g.toNat free) (ah M g.toNat free))=true->r0=r0/\false=ev L M)/\
  ((!decide (g=g)||decide (b9 (aj M)<=g)|| !Dm (ah L g.toNat free) (ah M g.toNat free))=false->aG IntKind.i64 (g+1)/\r0=r0/\aG IntKind.i64 (g+1)/\∃g',oE L M g'/\(b9
  (aj L)-g').toNat<(b9 (aj L)-g).toNat/\an L=an L/\g+1=g'/\M=M/\L=L/\false=false/\g+1=g'/\r0=r0))/\(decide (g<an L)=false->decide (g=b9 (aj M))
  =ev L M):=by
 refine⟨rfl,rfl,fun r0=>⟨⟨0,⟨by omega,by unfold aj;omega,by omega,fun j hj=>by omega⟩,by(repeat' apply And.intro)<;>rfl⟩,fun g hg=>⟨fun hlt=>?_,fun hge=>?_⟩⟩⟩
 ·have hg':=hg;obtain⟨g0,g1,g2,g3⟩:=hg;have hlt:g<an L:=Ys hlt;have hle:=lk L;have hlm:=lk M;have hq:an L=(L.length:Int):=rfl;rw[hq]at hlt;have hz:∀b:Bool,(!decide (g=g)||b)=b:=by simp
  rw[hz];refine⟨⟨g0,by omega⟩,by omega,by omega,rfl,rfl,fun h=>?_,fun h=>?_,fun h=>⟨rfl,?_⟩,fun h=>?_⟩
  ·have h:¬(b9 (aj M)<=g):=by simpa using h
   rw[gu]at h;exact⟨g0,by omega⟩
  ·have h:¬(b9 (aj M)<=g):=by simpa using h
   rw[gu]at h;omega
  ·unfold ev;symm
   rw[decide_eq_false_iff_not];rintro rfl
   rw[Bool.or_eq_true,Yp,gu]at h;rcases h with h|h
   ·omega
   ·simp[Dm]at h
  ·rw[Bool.or_eq_false_iff,decide_eq_false_iff_not,gu]at h;obtain⟨h1,h2⟩:=h;have h2:ah L g.toNat free=ah M g.toNat free:=by simpa[Dm]using h2
   have hr:aG IntKind.i64 (g+1):=by simp only[aG,bY];omega
   refine⟨hr,rfl,hr,g+1,⟨by omega,by omega,by omega,fun j hj=>?_⟩,by rw[gu];omega,by(repeat' apply And.intro)<;>rfl⟩
   by_cases e:(j:Int)<g
   ·exact g3 j e
   ·rw[show j=g.toNat by omega];exact h2
 ·have hge:¬g<an L:=Yr hge;exact zN hg (by unfold an at hge;omega)
theorem wK:ck Tryz.prog 19 SG:=
 O1 (fun _ _=>rfl) (fun M _ _=>Js M) (fun L M _ hL _ _=>aV (inl:=(fun f=>f==31)) (ann:=(iz [(4000+55,1,UP [0,1,5] (fun g=> [(6,.it .i64 g)]) 6 (fun g=> .blk 3 (.it .i64 g)) (oE L M) (b9 (aj L)))])) (ab bB ak) (Ij L M hL) (by kernel_rfl))
end Go.Proofs.YtghpaegglbbocaaGreat
