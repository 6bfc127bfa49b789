/- SpacesNil: the given statement. No condition. -/
import Derived.Test.YtijgfnpbojfmdaaRows
import Derived.Test.YtijgfnpbojfmdaaCtWe
import Derived.Test.YtijgfnpbojfmdaaGlA
import Derived.Test.YtijgfnpbojfmdaaGlW
import Derived.WalkKit
import Derived.OpenShut
import Derived.JoinedOf
set_option linter.unusedVariables false
set_option linter.unusedSimpArgs false
set_option maxRecDepth 100000
namespace Go.Proofs.Ytijgfnpbojfmdaa.spacesNil
open Go.Sx Go.ChangeShapes Go.WideShapes Go.RowKit
theorem contract (H : Type) (enc : TypeId × Value → H) (W : World) (base : Nat) (args : Array Value) (ds gs : List (DataW H)) (before : List MemPlace)
    (hval : ∀ (j : Nat) t v, Try.f8.params[j]? = some t → args[j]? = some v → Value.okWide Try.prog W .any base t v)
    (hW : DataW.Whole enc Try.prog Try.f8.params.toList Rows.spacesNilSpec.vars false W args.toList ds gs before) :
    Calls Try.prog 8 args W fun e W' => ∃ v, e = .returned v ∧ Rows.spacesNilSpec.post enc Try.prog Try.f8 false true false false W args v W' := by
  have hW' := hW
  obtain ⟨p, q, hA0, hV, rfl, hfz, hnd⟩ := hW
  have hA : DataW.TrodAll enc Try.prog W 0 (fun _ => true) true Try.f8.params.toList args.toList ds p := hA0
  rw [Try.params8] at hA hval
  obtain ⟨v0, vs0, d0, ds0, p0, q0, hargs, rfl, rfl, h0, r0⟩ := trodAll_cons hA
  obtain ⟨rfl, rfl, rfl⟩ := trodAll_nil r0
  obtain rfl : args = #[v0] := by cases args; simp_all
  obtain ⟨rfl, rfl⟩ := trodVars_none hV
  obtain ⟨a0, w0, e0⟩ := arg_flat Try.underlying73 (by kernel_rfl : flatK Try.prog 8 73 = some kAcs) opnAcs (fun _ => rfl) (hval 0 73 v0 rfl rfl) h0
  have hs : ∀ a ∈ ([] : List (Value × Nat × TL)), ArgTL W a.1 a.2.1 a.2.2 := by
    simp
  have hc := callBelow (cl_snil a0 w0.2.2.2.2.1) (ro_hrep (arg_hrep hs) arg_known) ⟨ok_empty (opnAcs.2 _ w0).1, trivial⟩
  have e : (denL (argEnv []) [acsV a0]).toArray = #[v0] := by
    simp only [denL, ← e0]
  rw [e] at hc
  exact hc.mono fun e W' ⟨he, hB⟩ => ⟨_, he, law_post hW' rfl hB laidP (by rw [Try.params8]; simp only [List.mem_cons, List.not_mem_nil, or_false, forall_eq_or_imp, forall_eq]; exact ⟨by kernel_rfl, by decide +kernel⟩) (by kernel_rfl) Try.underlying4 ⟨rfl, rfl, rfl⟩⟩

set_option maxRecDepth 100000 in
theorem lifted (os : Os) (started : os.Started) (H : Type) (enc : TypeId × Value → H) :
    ReturnsInHanded {} Try.checked os 8 .any (Rows.spacesNilSpec.pre6 enc Try.prog Try.f8 Rows.spacesNilRow.domain false) (Rows.spacesNilSpec.post enc Try.prog Try.f8 false true false false) := by
  refine returnsInHanded_of_change (C := Try.checked) ownP started (by kernel_rfl) Try.func8
    (ChangeSpec.witness6 (enc := enc) (C := Try.checked) false ⟨#[], #[den Env.zero (acsV acs0)], []⟩ 8 (by kernel_rfl) (by kernel_rfl) (by kernel_rfl) (by kernel_rfl)) ?_
  intro W base args ds gs before hval hW _ _
  exact contract H enc W base args ds gs before hval hW

theorem over : Rows.spacesNilRow.holds Try.pinned (OpenSpec.ofChange Rows.spacesNilSpec) :=
  OpenClaim.holds_of_wide 8 Try.f8 rfl rfl rfl rfl rfl rfl rfl ⟨rfl, rfl, rfl, rfl, rfl⟩ rfl rfl rfl rfl rfl (by kernel_rfl) Try.func8 (by kernel_rfl)
    (of_decide_eq_true (by kernel_rfl)) (by unfold Func.isWrapper; first | (rw [if_pos (by decide +kernel)]; kernel_rfl) | (rw [if_neg (by decide +kernel)]; exact ⟨rfl, rfl⟩))
    (fun os started H enc _ => lifted os started H enc)

theorem proved : Rows.SpacesNilSaid :=
  over
#print axioms proved
end Go.Proofs.Ytijgfnpbojfmdaa.spacesNil
