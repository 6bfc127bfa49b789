import Derived.Test.YtmfbohanboiklaaRows
import Derived.Test.YtmfbohanboiklaaCtTg
import Derived.Test.YtmfbohanboiklaaGlA
import Derived.WalkKit
import Derived.OpenShut
import Derived.JoinedOf
set_option linter.unusedSimpArgs false
set_option linter.unusedVariables false
set_option maxRecDepth 100000
namespace Go.Proofs.Ytmfbohanboiklaa.reachChain
open Go.Sx Go.ChangeShapes Go.WideShapes Go.RowKit
theorem contract (H:Type) (enc:TypeId×Value->H) (W:World) (base:Nat) (args:Array Value) (ds gs:List (DataW H)) (before:List MemPlace)
  (hval:∀(j:Nat) t v,Try.f5.params[j]? =some t->args[j]? =some v->Value.okWide Try.prog W .any base t v)
  (hW:DataW.Whole enc Try.prog Try.f5.params.toList Rows.reachChainSpec.vars false W args.toList ds gs before):
  Calls Try.prog 5 args W fun e W'=>∃v,e= .returned v/\Rows.reachChainSpec.post enc Try.prog Try.f5 false true false false W args v W':=by
 have hW':=hW;obtain⟨p,q,hA0,hV,rfl,hfz,hnd⟩:=hW;have hA:DataW.TrodAll enc Try.prog W 0 (fun _=>true) true Try.f5.params.toList args.toList ds p:=hA0
 rw[Try.params5]at hA hval;obtain⟨v0,vs0,d0,ds0,p0,q0,hargs,rfl,rfl,h0,r0⟩:=trodAll_cons hA;obtain⟨v1,vs1,d1,ds1,p1,q1,rfl,rfl,rfl,h1,r1⟩:=trodAll_cons r0;obtain⟨rfl,rfl,rfl⟩:=trodAll_nil r1;obtain rfl:args= #[v0,v1]:=by cases args;simp_all
 obtain⟨rfl,rfl⟩:=trodVars_none hV;obtain⟨a0,w0,s0⟩:=oP (TL.it .u8) 0 Try.underlying49 (by kernel_rfl:flatK Try.prog 8 5=some [Kd.i .u8]) (by kernel_rfl) (by decide) (Kw .u8) (fun l=>⟨rfl,fun i=>rfl⟩) (hval 0 49 v0 rfl rfl) h0
 have s0:lD W v0 1 (.it .u8 a0):=s0;obtain⟨a1,w1,e1⟩:=xU Try.underlying26 (by kernel_rfl:flatK Try.prog 8 26=some vV) qv (fun _=>rfl) (hval 1 26 v1 rfl rfl) h1
 have hs:∀a∈([(v0,1,.it .u8 a0)]:List (Value×Nat×TL)),lD W a.1 a.2.1 a.2.2:=by
  simp only[List.mem_cons,List.not_mem_nil,or_false,forall_eq_or_imp,forall_eq];exact s0
 have k0:=u5 hs (i:=0) (a:=(v0,1,.it .u8 a0)) rfl;have hc:=pH (A8 a0 a1 (HZ w0)) (vK (rz hs) oT) ⟨sW rfl,cB (qv.2 _ w1).1,trivial⟩
 have e:(aA (jU [(v0,1,.it .u8 a0)]) [.sa 0,.key a1]).toArray= #[v0,v1]:=by
  simp only[aA,k0.1,<-e1]
 rw[e]at hc;exact hc.mono fun e W' ⟨he,hB⟩=>⟨_,he,r8 hW' rfl hB DI (by rw[Try.params5];simp only[List.mem_cons,List.not_mem_nil,or_false,forall_eq_or_imp,forall_eq];exact⟨⟨by kernel_rfl,by decide+kernel⟩,⟨by kernel_rfl,by decide+kernel⟩⟩) (by kernel_rfl) Try.underlying4 ⟨rfl,rfl,rfl⟩⟩
set_option maxRecDepth 100000 in
theorem lifted (os:Os) (started:os.Started) (H:Type) (enc:TypeId×Value->H):
  ReturnsInHanded {} Try.checked os 5 .any (Rows.reachChainSpec.pre6 enc Try.prog Try.f5 Rows.reachChainRow.domain false) (Rows.reachChainSpec.post enc Try.prog Try.f5 false true false false):=by
 refine returnsInHanded_of_change (C:=Try.checked) Jk started (by kernel_rfl) Try.func5
  (ChangeSpec.witness6 (enc:=enc) (C:=Try.checked) false ⟨#[], #[.slice none 0 0,den Env.zero (.key void)],[]⟩ 8 (by kernel_rfl) (by kernel_rfl) (by kernel_rfl) (by kernel_rfl)) ?_
 intro W base args ds gs before hval hW _ _;exact contract H enc W base args ds gs before hval hW
theorem over:Rows.reachChainRow.holds Try.pinned (OpenSpec.ofChange Rows.reachChainSpec):=
 OpenClaim.holds_of_wide 5 Try.f5 rfl rfl rfl rfl rfl rfl rfl ⟨rfl,rfl,rfl,rfl,rfl⟩ rfl rfl rfl rfl rfl (by kernel_rfl) Try.func5 (by kernel_rfl)
  (Nc (by kernel_rfl)) (by unfold Func.isWrapper;first| (rw[Ng (by decide+kernel)];kernel_rfl)| (rw[Nf (by decide+kernel)];exact⟨rfl,rfl⟩))
  (fun os started H enc _=>lifted os started H enc)
theorem proved:Rows.ReachChainSaid:=
 over
#print axioms proved
end Go.Proofs.Ytmfbohanboiklaa.reachChain
