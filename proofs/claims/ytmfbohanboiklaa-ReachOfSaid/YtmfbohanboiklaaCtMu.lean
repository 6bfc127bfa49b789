import Derived.Test.YtmfbohanboiklaaCtTd
set_option linter.unusedSimpArgs false
set_option linter.unusedVariables false
namespace Go.Proofs.Ytmfbohanboiklaa
open Go.Sx
set_option maxRecDepth 100000
theorem Dt (M:List Sx.Obj):
 true=true/\true=true/\∀(r0:Loop),(∃g,jB [] M g/\cW []=cW []/\0=g/\M=M/\false=false/\0=g/\Value.pointer none=Value.pointer none/\r0=r0)/\∀(g:Int),jB
  [] M g->(decide (g<cW [])=true->False)/\(decide (g<cW [])=false->decide (g=aZ (ae M))=gO [] M):=by
 refine⟨rfl,rfl,fun r0=>⟨⟨0,⟨by omega,by unfold ae;omega,by omega,fun j hj=>by omega⟩,by(repeat' apply And.intro)<;>rfl⟩,fun g hg=>⟨fun hlt=>?_,fun _=>tB hg (by simp only[ae,List.length_nil];exact hg.1)⟩⟩⟩
 have h0:g<0:=My hlt;exact absurd hg.1 (by omega)
theorem C7 (M:List Sx.Obj):ai Try.prog 16 [oH,.sa 0] [.ro (.arr none 163 (.ob M))] (oB (.bo (gO [] M))) (fun _ _=>False):=aK (inl:=(fun f=>f==33)) (ann:=(kQ [(4000+59,1,K4 [0,1,5] (fun g=> [(6,.it .i64 g)]) 3 (fun g=> .blk 3 (.it .i64 g)) (jB [] M) 0)])) (an yY az) (Dt M) (by kernel_rfl)
theorem DA (L M:List Sx.Obj) (hL:L.length<=9223372036854775807):
 true=true/\true=true/\∀(r0:Loop),(∃g,jB L M g/\cW L=cW L/\0=g/\M=M/\L=L/\false=false/\0=g/\r0=r0)/\∀(g:Int),jB L M g->(decide (g<cW L)=
  true->(0<=g/\g< ↑(ae L))/\g.toNat<ae L/\g.toNat<ae L/\r0=r0/\r0=r0/\((!(!decide (g=g)||decide (aZ (ae M)<=g)))=true->0<=g/\g< ↑(ae M))/\((!(!decide (g=g)||
  decide (aZ (ae M)<=g)))=true->g.toNat<ae M)/\((!decide (g=g)||decide (aZ (ae M)<=g)|| !EA (ay L g.toNat free) (ay M g.toNat free))=true->r0=r0/\false=gO L M)/\
  ((!decide (g=g)||decide (aZ (ae M)<=g)|| !EA (ay L g.toNat free) (ay M g.toNat free))=false->br IntKind.i64 (g+1)/\r0=r0/\br IntKind.i64 (g+1)/\∃g',jB L M g'/\(aZ
  (ae L)-g').toNat<(aZ (ae L)-g).toNat/\cW L=cW L/\g+1=g'/\M=M/\L=L/\false=false/\g+1=g'/\r0=r0))/\(decide (g<cW L)=false->decide (g=aZ (ae M))
  =gO L M):=by
 refine⟨rfl,rfl,fun r0=>⟨⟨0,⟨by omega,by unfold ae;omega,by omega,fun j hj=>by omega⟩,by(repeat' apply And.intro)<;>rfl⟩,fun g hg=>⟨fun hlt=>?_,fun hge=>?_⟩⟩⟩
 ·have hg':=hg;obtain⟨g0,g1,g2,g3⟩:=hg;have hlt:g<cW L:=My hlt;have hle:=lr L;have hlm:=lr M;have hq:cW L=(L.length:Int):=rfl;rw[hq]at hlt;have hz:∀b:Bool,(!decide (g=g)||b)=b:=by simp
  rw[hz];refine⟨⟨g0,by omega⟩,by omega,by omega,rfl,rfl,fun h=>?_,fun h=>?_,fun h=>⟨rfl,?_⟩,fun h=>?_⟩
  ·have h:¬(aZ (ae M)<=g):=by simpa using h
   rw[fo]at h;exact⟨g0,by omega⟩
  ·have h:¬(aZ (ae M)<=g):=by simpa using h
   rw[fo]at h;omega
  ·unfold gO;symm
   rw[decide_eq_false_iff_not];rintro rfl
   rw[Bool.or_eq_true,Mv,fo]at h;rcases h with h|h
   ·omega
   ·simp[EA]at h
  ·rw[Bool.or_eq_false_iff,decide_eq_false_iff_not,fo]at h;obtain⟨h1,h2⟩:=h;have h2:ay L g.toNat free=ay M g.toNat free:=by simpa[EA]using h2
   have hr:br IntKind.i64 (g+1):=by simp only[br,bJ];omega
   refine⟨hr,rfl,hr,g+1,⟨by omega,by omega,by omega,fun j hj=>?_⟩,by rw[fo];omega,by(repeat' apply And.intro)<;>rfl⟩
   by_cases e:(j:Int)<g
   ·exact g3 j e
   ·rw[show j=g.toNat by omega];exact h2
 ·have hge:¬g<cW L:=Mx hge;exact tB hg (by unfold cW at hge;omega)
theorem Ga:bW Try.prog 16 Io:=
 Fw (fun _ _=>rfl) (fun M _ _=>C7 M) (fun L M _ hL _ _=>aK (inl:=(fun f=>f==33)) (ann:=(kQ [(4000+59,1,K4 [0,1,5] (fun g=> [(6,.it .i64 g)]) 6 (fun g=> .blk 3 (.it .i64 g)) (jB L M) (aZ (ae L)))])) (an yY az) (DA L M hL) (by kernel_rfl))
end Go.Proofs.Ytmfbohanboiklaa
