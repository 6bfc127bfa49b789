/- ProcsBack: the given statement. No condition. -/
import Derived.Test.YtfalhknkaebfoaaRows
import Derived.Test.YtfalhknkaebfoaaCtQh
import Derived.Test.YtfalhknkaebfoaaGlQ
import Derived.WalkKit
import Derived.OpenShut
import Derived.JoinedOf
set_option linter.unusedVariables false
set_option linter.unusedSimpArgs false
set_option maxRecDepth 100000
namespace Go.Proofs.Ytfalhknkaebfoaa.procsBack
open Go.Sx Go.ChangeShapes Go.WideShapes Go.RowKit
theorem contract (H : Type) (enc : TypeId × Value → H) (W : World) (base : Nat) (args : Array Value) (ds gs : List (DataW H)) (before : List MemPlace)
    (hval : ∀ (j : Nat) t v, Try.f5.params[j]? = some t → args[j]? = some v → Value.okWide Try.prog W .any base t v)
    (hW : DataW.Whole enc Try.prog Try.f5.params.toList Rows.procsBackSpec.vars false W args.toList ds gs before) :
    Calls Try.prog 5 args W fun e W' => ∃ v, e = .returned v ∧ Rows.procsBackSpec.post enc Try.prog Try.f5 false true false false W args v W' := by
  have hW' := hW
  obtain ⟨p, q, hA0, hV, rfl, hfz, hnd⟩ := hW
  have hA : DataW.TrodAll enc Try.prog W 0 (fun _ => true) true Try.f5.params.toList args.toList ds p := hA0
  rw [Try.params5] at hA hval
  obtain ⟨v0, vs0, d0, ds0, p0, q0, hargs, rfl, rfl, h0, r0⟩ := trodAll_cons hA
  obtain ⟨v1, vs1, d1, ds1, p1, q1, rfl, rfl, rfl, h1, r1⟩ := trodAll_cons r0
  obtain ⟨v2, vs2, d2, ds2, p2, q2, rfl, rfl, rfl, h2, r2⟩ := trodAll_cons r1
  obtain ⟨rfl, rfl, rfl⟩ := trodAll_nil r2
  obtain rfl : args = #[v0, v1, v2] := by cases args; simp_all
  obtain ⟨rfl, rfl⟩ := trodVars_none hV
  obtain ⟨a0, w0, e0⟩ := arg_flat Try.underlying55 (by kernel_rfl : flatK Try.prog 8 55 = some kMsg) opnMsg (fun _ => rfl) (hval 0 55 v0 rfl rfl) h0
  obtain ⟨a1, w1, e1⟩ := arg_flat Try.underlying55 (by kernel_rfl : flatK Try.prog 8 55 = some kMsg) opnMsg (fun _ => rfl) (hval 1 55 v1 rfl rfl) h1
  obtain ⟨a2, w2, e2⟩ := arg_flat Try.underlying57 (by kernel_rfl : flatK Try.prog 8 57 = some kAhead) opnAhead (fun _ => rfl) (hval 2 57 v2 rfl rfl) h2
  have hs : ∀ a ∈ ([] : List (Value × Nat × TL)), ArgTL W a.1 a.2.1 a.2.2 := by
    simp
  have hc := callBelow (cl_qback a0 a1 a2.1 a2.2.1 w0.2.1 w1.2.1) (ro_hrep (arg_hrep hs) arg_known) ⟨ok_empty (opnMsg.2 _ w0).1, ok_empty (opnMsg.2 _ w1).1, ok_empty (opnAhead.2 _ w2).1, trivial⟩
  have e : (denL (argEnv []) [msgV a0, msgV a1, .ag [.it .i64 a2.1, .it .i64 a2.2.1]]).toArray = #[v0, v1, v2] := by
    simp only [denL, ← e0, ← e1, ← e2]
  rw [e] at hc
  exact hc.mono fun e W' ⟨he, hB⟩ => ⟨_, he, law_post hW' rfl hB laidP (by rw [Try.params5]; simp only [List.mem_cons, List.not_mem_nil, or_false, forall_eq_or_imp, forall_eq]; exact ⟨⟨by kernel_rfl, by decide +kernel⟩, ⟨by kernel_rfl, by decide +kernel⟩, ⟨by kernel_rfl, by decide +kernel⟩⟩) (by kernel_rfl) Try.underlying4 ⟨rfl, rfl, rfl⟩⟩

set_option maxRecDepth 100000 in
theorem lifted (os : Os) (started : os.Started) (H : Type) (enc : TypeId × Value → H) :
    ReturnsInHanded {} Try.checked os 5 .any (Rows.procsBackSpec.pre6 enc Try.prog Try.f5 Rows.procsBackRow.domain false) (Rows.procsBackSpec.post enc Try.prog Try.f5 false true false false) := by
  refine returnsInHanded_of_change (C := Try.checked) ownP started (by kernel_rfl) Try.func5
    (ChangeSpec.witness6 (enc := enc) (C := Try.checked) false ⟨#[], #[den Env.zero (msgV msg0), den Env.zero (msgV msg0), den Env.zero (.ag [.it .i64 0, .it .i64 0])], []⟩ 8 (by kernel_rfl) (by kernel_rfl) (by kernel_rfl) (by kernel_rfl)) ?_
  intro W base args ds gs before hval hW _ _
  exact contract H enc W base args ds gs before hval hW

theorem over : Rows.procsBackRow.holds Try.pinned (OpenSpec.ofChange Rows.procsBackSpec) :=
  OpenClaim.holds_of_wide 5 Try.f5 rfl rfl rfl rfl rfl rfl rfl ⟨rfl, rfl, rfl, rfl, rfl⟩ rfl rfl rfl rfl rfl (by kernel_rfl) Try.func5 (by kernel_rfl)
    (of_decide_eq_true (by kernel_rfl)) (by unfold Func.isWrapper; first | (rw [if_pos (by decide +kernel)]; kernel_rfl) | (rw [if_neg (by decide +kernel)]; exact ⟨rfl, rfl⟩))
    (fun os started H enc _ => lifted os started H enc)

theorem proved : Rows.ProcsBackSaid :=
  over
#print axioms proved
end Go.Proofs.Ytfalhknkaebfoaa.procsBack
