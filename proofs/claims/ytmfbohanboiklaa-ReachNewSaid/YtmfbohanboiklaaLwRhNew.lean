import Derived.Test.YtmfbohanboiklaaRows
import Derived.Test.YtmfbohanboiklaaCtTj
import Derived.Test.YtmfbohanboiklaaGlA
import Derived.WalkKit
import Derived.OpenShut
import Derived.JoinedOf
set_option linter.unusedSimpArgs false
set_option linter.unusedVariables false
set_option maxRecDepth 100000
namespace Go.Proofs.Ytmfbohanboiklaa.reachNew
open Go.Sx Go.ChangeShapes Go.WideShapes Go.RowKit
theorem contract (H:Type) (enc:TypeId×Value->H) (W:World) (base:Nat) (args:Array Value) (ds gs:List (DataW H)) (before:List MemPlace)
  (hval:∀(j:Nat) t v,Try.f7.params[j]? =some t->args[j]? =some v->Value.okWide Try.prog W .any base t v)
  (hW:DataW.Whole enc Try.prog Try.f7.params.toList Rows.reachNewSpec.vars false W args.toList ds gs before):
  Calls Try.prog 7 args W fun e W'=>∃v,e= .returned v/\Rows.reachNewSpec.post enc Try.prog Try.f7 false true false false W args v W':=by
 have hW':=hW;obtain⟨p,q,hA0,hV,rfl,hfz,hnd⟩:=hW;have hA:DataW.TrodAll enc Try.prog W 0 (fun _=>true) true Try.f7.params.toList args.toList ds p:=hA0
 rw[Try.params7]at hA hval;obtain⟨v0,vs0,d0,ds0,p0,q0,hargs,rfl,rfl,h0,r0⟩:=trodAll_cons hA;obtain⟨v1,vs1,d1,ds1,p1,q1,rfl,rfl,rfl,h1,r1⟩:=trodAll_cons r0;obtain⟨v2,vs2,d2,ds2,p2,q2,rfl,rfl,rfl,h2,r2⟩:=trodAll_cons r1;obtain⟨rfl,rfl,rfl⟩:=trodAll_nil r2;obtain rfl:args= #[v0,v1,v2]:=by cases args;simp_all
 obtain⟨rfl,rfl⟩:=trodVars_none hV;obtain⟨a0,w0,s0⟩:=pw TL.ob free Try.underlying22 (by kernel_rfl:flatK Try.prog 8 33=some DW) (by kernel_rfl) (by decide) EA (fun l=>⟨rfl,fun i=>rfl⟩) (hval 0 22 v0 rfl rfl) h0
 have s0:oK W v0 163 (.ob a0):=s0;obtain⟨a1,w1,s1⟩:=pw TL.ob free Try.underlying22 (by kernel_rfl:flatK Try.prog 8 33=some DW) (by kernel_rfl) (by decide) EA (fun l=>⟨rfl,fun i=>rfl⟩) (hval 1 22 v1 rfl rfl) h1
 have s1:oK W v1 163 (.ob a1):=s1;obtain⟨a2,w2,s2⟩:=pw (TL.it .i64) 0 Try.underlying52 (by kernel_rfl:flatK Try.prog 8 3=some [Kd.i .i64]) (by kernel_rfl) (by decide) (Lg .i64) (fun l=>⟨rfl,fun i=>rfl⟩) (hval 2 52 v2 rfl rfl) h2
 have s2:oK W v2 1 (.it .i64 a2):=s2
 have hs:∀a∈([(v0,163,.ob a0),(v1,163,.ob a1),(v2,1,.it .i64 a2)]:List (Value×Nat×TL)),oK W a.1 a.2.1 a.2.2:=by
  simp only[List.mem_cons,List.not_mem_nil,or_false,forall_eq_or_imp,forall_eq];exact⟨s0,s1,s2⟩
 have k0:=wa hs (i:=0) (a:=(v0,163,.ob a0)) rfl;have k1:=wa hs (i:=1) (a:=(v1,163,.ob a1)) rfl;have k2:=wa hs (i:=2) (a:=(v2,1,.it .i64 a2)) rfl;have hc:=BF (Dt a0 a1 a2) (F3 (ES hs) BS) ⟨tc rfl,tc rfl,tc rfl,trivial⟩
 have e:(aD (nt [(v0,163,.ob a0),(v1,163,.ob a1),(v2,1,.it .i64 a2)]) [.sa 0,.sa 1,.sa 2]).toArray= #[v0,v1,v2]:=by
  simp only[aD,k0.1,k1.1,k2.1]
 rw[e]at hc;exact hc.mono fun e W' ⟨he,hB⟩=>⟨_,he,DK hW' rfl hB K9 (by rw[Try.params7];simp only[List.mem_cons,List.not_mem_nil,or_false,forall_eq_or_imp,forall_eq];exact⟨⟨by kernel_rfl,by decide+kernel⟩,⟨by kernel_rfl,by decide+kernel⟩,⟨by kernel_rfl,by decide+kernel⟩⟩) (by kernel_rfl) Try.underlying4 ⟨rfl,rfl,rfl⟩⟩
set_option maxRecDepth 100000 in
theorem lifted (os:Os) (started:os.Started) (H:Type) (enc:TypeId×Value->H):
  ReturnsInHanded {} Try.checked os 7 .any (Rows.reachNewSpec.pre6 enc Try.prog Try.f7 Rows.reachNewRow.domain false) (Rows.reachNewSpec.post enc Try.prog Try.f7 false true false false):=by
 refine returnsInHanded_of_change (C:=Try.checked) M7 started (by kernel_rfl) Try.func7
  (ChangeSpec.witness6 (enc:=enc) (C:=Try.checked) false ⟨#[], #[.slice none 0 0,.slice none 0 0,.slice none 0 0],[]⟩ 8 (by kernel_rfl) (by kernel_rfl) (by kernel_rfl) (by kernel_rfl)) ?_
 intro W base args ds gs before hval hW _ _;exact contract H enc W base args ds gs before hval hW
theorem over:Rows.reachNewRow.holds Try.pinned (OpenSpec.ofChange Rows.reachNewSpec):=
 OpenClaim.holds_of_wide 7 Try.f7 rfl rfl rfl rfl rfl rfl rfl ⟨rfl,rfl,rfl,rfl,rfl⟩ rfl rfl rfl rfl rfl (by kernel_rfl) Try.func7 (by kernel_rfl)
  (N7 (by kernel_rfl)) (by unfold Func.isWrapper;first| (rw[Oa (by decide+kernel)];kernel_rfl)| (rw[N9 (by decide+kernel)];exact⟨rfl,rfl⟩))
  (fun os started H enc _=>lifted os started H enc)
theorem proved:Rows.ReachNewSaid:=
 over
#print axioms proved
end Go.Proofs.Ytmfbohanboiklaa.reachNew
