/- ProcsNil: the given statement. No condition. -/
import Derived.Test.YtfalhknkaebfoaaRows
import Derived.Test.YtfalhknkaebfoaaCtQg
import Derived.Test.YtfalhknkaebfoaaGlQ
import Derived.WalkKit
import Derived.OpenShut
import Derived.JoinedOf
set_option linter.unusedVariables false
set_option linter.unusedSimpArgs false
set_option maxRecDepth 100000
namespace Go.Proofs.Ytfalhknkaebfoaa.procsNil
open Go.Sx Go.ChangeShapes Go.WideShapes Go.RowKit
theorem contract (H : Type) (enc : TypeId × Value → H) (W : World) (base : Nat) (args : Array Value) (ds gs : List (DataW H)) (before : List MemPlace)
    (hval : ∀ (j : Nat) t v, Try.f11.params[j]? = some t → args[j]? = some v → Value.okWide Try.prog W .any base t v)
    (hW : DataW.Whole enc Try.prog Try.f11.params.toList Rows.procsNilSpec.vars false W args.toList ds gs before) :
    Calls Try.prog 11 args W fun e W' => ∃ v, e = .returned v ∧ Rows.procsNilSpec.post enc Try.prog Try.f11 false true false false W args v W' := by
  have hW' := hW
  obtain ⟨p, q, hA0, hV, rfl, hfz, hnd⟩ := hW
  have hA : DataW.TrodAll enc Try.prog W 0 (fun _ => true) true Try.f11.params.toList args.toList ds p := hA0
  rw [Try.params11] at hA hval
  obtain ⟨v0, vs0, d0, ds0, p0, q0, hargs, rfl, rfl, h0, r0⟩ := trodAll_cons hA
  obtain ⟨rfl, rfl, rfl⟩ := trodAll_nil r0
  obtain rfl : args = #[v0] := by cases args; simp_all
  obtain ⟨rfl, rfl⟩ := trodVars_none hV
  obtain ⟨a0, w0, e0⟩ := arg_flat Try.underlying93 (by kernel_rfl : flatK Try.prog 8 93 = some kPac) opnPac (fun _ => rfl) (hval 0 93 v0 rfl rfl) h0
  have hs : ∀ a ∈ ([] : List (Value × Nat × TL)), ArgTL W a.1 a.2.1 a.2.2 := by
    simp
  have hc := callBelow (cl_qnil a0 w0.2.2.2.2.2.1.2.1) (ro_hrep (arg_hrep hs) arg_known) ⟨ok_empty (opnPac.2 _ w0).1, trivial⟩
  have e : (denL (argEnv []) [pcaV a0]).toArray = #[v0] := by
    simp only [denL, ← e0]
  rw [e] at hc
  exact hc.mono fun e W' ⟨he, hB⟩ => ⟨_, he, law_post hW' rfl hB laidP (by rw [Try.params11]; simp only [List.mem_cons, List.not_mem_nil, or_false, forall_eq_or_imp, forall_eq]; exact ⟨by kernel_rfl, by decide +kernel⟩) (by kernel_rfl) Try.underlying4 ⟨rfl, rfl, rfl⟩⟩

set_option maxRecDepth 100000 in
theorem lifted (os : Os) (started : os.Started) (H : Type) (enc : TypeId × Value → H) :
    ReturnsInHanded {} Try.checked os 11 .any (Rows.procsNilSpec.pre6 enc Try.prog Try.f11 Rows.procsNilRow.domain false) (Rows.procsNilSpec.post enc Try.prog Try.f11 false true false false) := by
  refine returnsInHanded_of_change (C := Try.checked) ownP started (by kernel_rfl) Try.func11
    (ChangeSpec.witness6 (enc := enc) (C := Try.checked) false ⟨#[], #[den Env.zero (pcaV pac0)], []⟩ 8 (by kernel_rfl) (by kernel_rfl) (by kernel_rfl) (by kernel_rfl)) ?_
  intro W base args ds gs before hval hW _ _
  exact contract H enc W base args ds gs before hval hW

theorem over : Rows.procsNilRow.holds Try.pinned (OpenSpec.ofChange Rows.procsNilSpec) :=
  OpenClaim.holds_of_wide 11 Try.f11 rfl rfl rfl rfl rfl rfl rfl ⟨rfl, rfl, rfl, rfl, rfl⟩ rfl rfl rfl rfl rfl (by kernel_rfl) Try.func11 (by kernel_rfl)
    (of_decide_eq_true (by kernel_rfl)) (by unfold Func.isWrapper; first | (rw [if_pos (by decide +kernel)]; kernel_rfl) | (rw [if_neg (by decide +kernel)]; exact ⟨rfl, rfl⟩))
    (fun os started H enc _ => lifted os started H enc)

theorem proved : Rows.ProcsNilSaid :=
  over
#print axioms proved
end Go.Proofs.Ytfalhknkaebfoaa.procsNil
