/- SpacesBack: the given statement. No condition. -/
import Derived.Test.YtijgfnpbojfmdaaRows
import Derived.Test.YtijgfnpbojfmdaaCtWf
import Derived.Test.YtijgfnpbojfmdaaGlA
import Derived.Test.YtijgfnpbojfmdaaGlW
import Derived.WalkKit
import Derived.OpenShut
import Derived.JoinedOf
set_option linter.unusedVariables false
set_option linter.unusedSimpArgs false
set_option maxRecDepth 100000
namespace Go.Proofs.Ytijgfnpbojfmdaa.spacesBack
open Go.Sx Go.ChangeShapes Go.WideShapes Go.RowKit
theorem contract (H : Type) (enc : TypeId × Value → H) (W : World) (base : Nat) (args : Array Value) (ds gs : List (DataW H)) (before : List MemPlace)
    (hval : ∀ (j : Nat) t v, Try.f7.params[j]? = some t → args[j]? = some v → Value.okWide Try.prog W .any base t v)
    (hW : DataW.Whole enc Try.prog Try.f7.params.toList Rows.spacesBackSpec.vars false W args.toList ds gs before) :
    Calls Try.prog 7 args W fun e W' => ∃ v, e = .returned v ∧ Rows.spacesBackSpec.post enc Try.prog Try.f7 false true false false W args v W' := by
  have hW' := hW
  obtain ⟨p, q, hA0, hV, rfl, hfz, hnd⟩ := hW
  have hA : DataW.TrodAll enc Try.prog W 0 (fun _ => true) true Try.f7.params.toList args.toList ds p := hA0
  rw [Try.params7] at hA hval
  obtain ⟨v0, vs0, d0, ds0, p0, q0, hargs, rfl, rfl, h0, r0⟩ := trodAll_cons hA
  obtain ⟨v1, vs1, d1, ds1, p1, q1, rfl, rfl, rfl, h1, r1⟩ := trodAll_cons r0
  obtain ⟨v2, vs2, d2, ds2, p2, q2, rfl, rfl, rfl, h2, r2⟩ := trodAll_cons r1
  obtain ⟨rfl, rfl, rfl⟩ := trodAll_nil r2
  obtain rfl : args = #[v0, v1, v2] := by cases args; simp_all
  obtain ⟨rfl, rfl⟩ := trodVars_none hV
  obtain ⟨a0, w0, s0⟩ := arg_flats TL.ob free Try.underlying26 (by kernel_rfl : flatK Try.prog 8 53 = some kOb) (by kernel_rfl) (by decide) opn_ob (fun l => ⟨rfl, fun i => rfl⟩) (hval 0 26 v0 rfl rfl) h0
  have s0 : ArgTL W v0 163 (.ob a0) := s0
  obtain ⟨a1, w1, e1⟩ := arg_flat Try.underlying66 (by kernel_rfl : flatK Try.prog 8 66 = some kTwo) opnTwo (fun _ => rfl) (hval 1 66 v1 rfl rfl) h1
  obtain ⟨a2, w2, rfl⟩ := arg_str Try.underlying9 (hval 2 9 v2 rfl rfl) h2
  have hs : ∀ a ∈ ([(v0, 163, .ob a0)] : List (Value × Nat × TL)), ArgTL W a.1 a.2.1 a.2.2 := by
    simp only [List.mem_cons, List.not_mem_nil, or_false, forall_eq_or_imp, forall_eq]; exact s0
  have k0 := arg_den hs (i := 0) (a := (v0, 163, .ob a0)) rfl
  have hc := callBelow (cl_sback a0 a1.1 a1.2.1 a1.2.2.1 a1.2.2.2.1 a2 w2) (ro_hrep (arg_hrep hs) arg_known) ⟨known_ro rfl, ok_empty (opnTwo.2 _ w1).1, trivial, trivial⟩
  have e : (denL (argEnv [(v0, 163, .ob a0)]) [.sa 0, .ag [.key a1.1, .key a1.2.1, .it .i64 a1.2.2.1, .it .i64 a1.2.2.2.1], .st a2]).toArray = #[v0, v1, .string a2] := by
    simp only [denL, k0.1, ← e1]; rfl
  rw [e] at hc
  exact hc.mono fun e W' ⟨he, hB⟩ => ⟨_, he, law_post hW' rfl hB laidP (by rw [Try.params7]; simp only [List.mem_cons, List.not_mem_nil, or_false, forall_eq_or_imp, forall_eq]; exact ⟨⟨by kernel_rfl, by decide +kernel⟩, ⟨by kernel_rfl, by decide +kernel⟩, ⟨by kernel_rfl, by decide +kernel⟩⟩) (by kernel_rfl) Try.underlying4 ⟨rfl, rfl, rfl⟩⟩

set_option maxRecDepth 100000 in
theorem lifted (os : Os) (started : os.Started) (H : Type) (enc : TypeId × Value → H) :
    ReturnsInHanded {} Try.checked os 7 .any (Rows.spacesBackSpec.pre6 enc Try.prog Try.f7 Rows.spacesBackRow.domain false) (Rows.spacesBackSpec.post enc Try.prog Try.f7 false true false false) := by
  refine returnsInHanded_of_change (C := Try.checked) ownP started (by kernel_rfl) Try.func7
    (ChangeSpec.witness6 (enc := enc) (C := Try.checked) false ⟨#[], #[.slice none 0 0, den Env.zero (.ag [.key void, .key void, .it .i64 0, .it .i64 0]), .string ByteArray.empty], []⟩ 8 (by kernel_rfl) (by kernel_rfl) (by kernel_rfl) (by kernel_rfl)) ?_
  intro W base args ds gs before hval hW _ _
  exact contract H enc W base args ds gs before hval hW

theorem over : Rows.spacesBackRow.holds Try.pinned (OpenSpec.ofChange Rows.spacesBackSpec) :=
  OpenClaim.holds_of_wide 7 Try.f7 rfl rfl rfl rfl rfl rfl rfl ⟨rfl, rfl, rfl, rfl, rfl⟩ rfl rfl rfl rfl rfl (by kernel_rfl) Try.func7 (by kernel_rfl)
    (of_decide_eq_true (by kernel_rfl)) (by unfold Func.isWrapper; first | (rw [if_pos (by decide +kernel)]; kernel_rfl) | (rw [if_neg (by decide +kernel)]; exact ⟨rfl, rfl⟩))
    (fun os started H enc _ => lifted os started H enc)

theorem proved : Rows.SpacesBackSaid :=
  over
#print axioms proved
end Go.Proofs.Ytijgfnpbojfmdaa.spacesBack
