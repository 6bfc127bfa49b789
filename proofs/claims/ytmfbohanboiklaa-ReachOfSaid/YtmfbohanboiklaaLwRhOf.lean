import Derived.Test.YtmfbohanboiklaaRows
import Derived.Test.YtmfbohanboiklaaCtTe
import Derived.Test.YtmfbohanboiklaaGlA
import Derived.WalkKit
import Derived.OpenShut
import Derived.JoinedOf
set_option linter.unusedSimpArgs false
set_option linter.unusedVariables false
set_option maxRecDepth 100000
namespace Go.Proofs.Ytmfbohanboiklaa.reachOf
open Go.Sx Go.ChangeShapes Go.WideShapes Go.RowKit
theorem contract (H:Type) (enc:TypeId×Value->H) (W:World) (base:Nat) (args:Array Value) (ds gs:List (DataW H)) (before:List MemPlace)
  (hval:∀(j:Nat) t v,Try.f4.params[j]? =some t->args[j]? =some v->Value.okWide Try.prog W .any base t v)
  (hW:DataW.Whole enc Try.prog Try.f4.params.toList Rows.reachOfSpec.vars false W args.toList ds gs before):
  Calls Try.prog 4 args W fun e W'=>∃v,e= .returned v/\Rows.reachOfSpec.post enc Try.prog Try.f4 false true false false W args v W':=by
 have hW':=hW;obtain⟨p,q,hA0,hV,rfl,hfz,hnd⟩:=hW;have hA:DataW.TrodAll enc Try.prog W 0 (fun _=>true) true Try.f4.params.toList args.toList ds p:=hA0
 rw[Try.params4]at hA hval;obtain⟨v0,vs0,d0,ds0,p0,q0,hargs,rfl,rfl,h0,r0⟩:=trodAll_cons hA;obtain⟨rfl,rfl,rfl⟩:=trodAll_nil r0;obtain rfl:args= #[v0]:=by cases args;simp_all
 obtain⟨rfl,rfl⟩:=trodVars_none hV;obtain⟨a0,w0,s0⟩:=zW TL.ob free Try.underlying22 (by kernel_rfl:flatK Try.prog 8 33=some EF) (by kernel_rfl) (by decide) H8 (fun l=>⟨rfl,fun i=>rfl⟩) (hval 0 22 v0 rfl rfl) h0
 have s0:qP W v0 163 (.ob a0):=s0
 have hs:∀a∈([(v0,163,.ob a0)]:List (Value×Nat×TL)),qP W a.1 a.2.1 a.2.2:=by
  simp only[List.mem_cons,List.not_mem_nil,or_false,forall_eq_or_imp,forall_eq];exact s0
 have k0:=E5 hs (i:=0) (a:=(v0,163,.ob a0)) rfl;have hc:=Br (Fs a0) (Gv (DV hs) AA) ⟨De rfl,trivial⟩
 have e:(aB (mG [(v0,163,.ob a0)]) [.sa 0]).toArray= #[v0]:=by
  simp only[aB,k0.1]
 rw[e]at hc;exact hc.mono fun e W' ⟨he,hB⟩=>⟨_,he,Ew hW' rfl hB JB (by rw[Try.params4];simp only[List.mem_cons,List.not_mem_nil,or_false,forall_eq_or_imp,forall_eq];exact⟨by kernel_rfl,by decide+kernel⟩) (by kernel_rfl) Try.underlying4 ⟨rfl,rfl,rfl⟩⟩
set_option maxRecDepth 100000 in
theorem lifted (os:Os) (started:os.Started) (H:Type) (enc:TypeId×Value->H):
  ReturnsInHanded {} Try.checked os 4 .any (Rows.reachOfSpec.pre6 enc Try.prog Try.f4 Rows.reachOfRow.domain false) (Rows.reachOfSpec.post enc Try.prog Try.f4 false true false false):=by
 refine returnsInHanded_of_change (C:=Try.checked) Lh started (by kernel_rfl) Try.func4
  (ChangeSpec.witness6 (enc:=enc) (C:=Try.checked) false ⟨#[], #[.slice none 0 0],[]⟩ 8 (by kernel_rfl) (by kernel_rfl) (by kernel_rfl) (by kernel_rfl)) ?_
 intro W base args ds gs before hval hW _ _;exact contract H enc W base args ds gs before hval hW
theorem over:Rows.reachOfRow.holds Try.pinned (OpenSpec.ofChange Rows.reachOfSpec):=
 OpenClaim.holds_of_wide 4 Try.f4 rfl rfl rfl rfl rfl rfl rfl ⟨rfl,rfl,rfl,rfl,rfl⟩ rfl rfl rfl rfl rfl (by kernel_rfl) Try.func4 (by kernel_rfl)
  (My (by kernel_rfl)) (by unfold Func.isWrapper;first| (rw[MB (by decide+kernel)];kernel_rfl)| (rw[MA (by decide+kernel)];exact⟨rfl,rfl⟩))
  (fun os started H enc _=>lifted os started H enc)
theorem proved:Rows.ReachOfSaid:=
 over
#print axioms proved
end Go.Proofs.Ytmfbohanboiklaa.reachOf
