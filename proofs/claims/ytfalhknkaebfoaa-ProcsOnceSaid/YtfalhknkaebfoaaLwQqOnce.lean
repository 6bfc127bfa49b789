/- ProcsOnce: the given statement. No condition. -/
import Derived.Test.YtfalhknkaebfoaaRows
import Derived.Test.YtfalhknkaebfoaaCtQj
import Derived.Test.YtfalhknkaebfoaaGlQ
import Derived.WalkKit
import Derived.OpenShut
import Derived.JoinedOf
set_option linter.unusedVariables false
set_option linter.unusedSimpArgs false
set_option maxRecDepth 100000
namespace Go.Proofs.Ytfalhknkaebfoaa.procsOnce
open Go.Sx Go.ChangeShapes Go.WideShapes Go.RowKit
theorem contract (H : Type) (enc : TypeId × Value → H) (W : World) (base : Nat) (args : Array Value) (ds gs : List (DataW H)) (before : List MemPlace)
    (hval : ∀ (j : Nat) t v, Try.f13.params[j]? = some t → args[j]? = some v → Value.okWide Try.prog W .any base t v)
    (hW : DataW.Whole enc Try.prog Try.f13.params.toList Rows.procsOnceSpec.vars false W args.toList ds gs before) :
    Calls Try.prog 13 args W fun e W' => ∃ v, e = .returned v ∧ Rows.procsOnceSpec.post enc Try.prog Try.f13 false true false false W args v W' := by
  have hW' := hW
  obtain ⟨p, q, hA0, hV, rfl, hfz, hnd⟩ := hW
  have hA : DataW.TrodAll enc Try.prog W 0 (fun _ => true) true Try.f13.params.toList args.toList ds p := hA0
  rw [Try.params13] at hA hval
  obtain ⟨v0, vs0, d0, ds0, p0, q0, hargs, rfl, rfl, h0, r0⟩ := trodAll_cons hA
  obtain ⟨v1, vs1, d1, ds1, p1, q1, rfl, rfl, rfl, h1, r1⟩ := trodAll_cons r0
  obtain ⟨v2, vs2, d2, ds2, p2, q2, rfl, rfl, rfl, h2, r2⟩ := trodAll_cons r1
  obtain ⟨rfl, rfl, rfl⟩ := trodAll_nil r2
  obtain rfl : args = #[v0, v1, v2] := by cases args; simp_all
  obtain ⟨rfl, rfl⟩ := trodVars_none hV
  obtain ⟨a0, w0, s0⟩ := arg_flats TL.ob free Try.underlying33 (by kernel_rfl : flatK Try.prog 8 32 = some kOb) (by kernel_rfl) (by decide) opn_ob (fun l => ⟨rfl, fun i => rfl⟩) (hval 0 33 v0 rfl rfl) h0
  have s0 : ArgTL W v0 163 (.ob a0) := s0
  obtain ⟨a1, w1, s1⟩ := arg_flats pcas pac0 Try.underlying89 (by kernel_rfl : flatK Try.prog 8 93 = some kPac) (by kernel_rfl) (by decide) opnPac (fun l => ⟨rfl, fun i => rfl⟩) (hval 1 89 v1 rfl rfl) h1
  have s1 : ArgTL W v1 30 (pcas a1) := s1
  obtain ⟨a2, w2, s2⟩ := arg_flats TL.key void Try.underlying80 (by kernel_rfl : flatK Try.prog 8 28 = some kKey) (by kernel_rfl) (by decide) opn_key (fun l => ⟨rfl, fun i => rfl⟩) (hval 2 80 v2 rfl rfl) h2
  have s2 : ArgTL W v2 6 (.key a2) := s2
  have hs : ∀ a ∈ ([(v0, 163, .ob a0), (v1, 30, pcas a1), (v2, 6, .key a2)] : List (Value × Nat × TL)), ArgTL W a.1 a.2.1 a.2.2 := by
    simp only [List.mem_cons, List.not_mem_nil, or_false, forall_eq_or_imp, forall_eq]; exact ⟨s0, s1, s2⟩
  have k0 := arg_den hs (i := 0) (a := (v0, 163, .ob a0)) rfl
  have k1 := arg_den hs (i := 1) (a := (v1, 30, pcas a1)) rfl
  have k2 := arg_den hs (i := 2) (a := (v2, 6, .key a2)) rfl
  have hc := callBelow (cl_qonce a0 a1 a2 fun i hi => (all_get w1 pac0 i hi).2.2.2.2.2.1.2.1) (ro_hrep (arg_hrep hs) arg_known) ⟨known_ro rfl, known_ro rfl, known_ro rfl, trivial⟩
  have e : (denL (argEnv [(v0, 163, .ob a0), (v1, 30, pcas a1), (v2, 6, .key a2)]) [.sa 0, .sa 1, .sa 2]).toArray = #[v0, v1, v2] := by
    simp only [denL, k0.1, k1.1, k2.1]
  rw [e] at hc
  exact hc.mono fun e W' ⟨he, hB⟩ => ⟨_, he, law_post hW' rfl hB laidP (by rw [Try.params13]; simp only [List.mem_cons, List.not_mem_nil, or_false, forall_eq_or_imp, forall_eq]; exact ⟨⟨by kernel_rfl, by decide +kernel⟩, ⟨by kernel_rfl, by decide +kernel⟩, ⟨by kernel_rfl, by decide +kernel⟩⟩) (by kernel_rfl) Try.underlying4 ⟨rfl, rfl, rfl⟩⟩

set_option maxRecDepth 100000 in
theorem lifted (os : Os) (started : os.Started) (H : Type) (enc : TypeId × Value → H) :
    ReturnsInHanded {} Try.checked os 13 .any (Rows.procsOnceSpec.pre6 enc Try.prog Try.f13 Rows.procsOnceRow.domain false) (Rows.procsOnceSpec.post enc Try.prog Try.f13 false true false false) := by
  refine returnsInHanded_of_change (C := Try.checked) ownP started (by kernel_rfl) Try.func13
    (ChangeSpec.witness6 (enc := enc) (C := Try.checked) false ⟨#[], #[.slice none 0 0, .slice none 0 0, .slice none 0 0], []⟩ 8 (by kernel_rfl) (by kernel_rfl) (by kernel_rfl) (by kernel_rfl)) ?_
  intro W base args ds gs before hval hW _ _
  exact contract H enc W base args ds gs before hval hW

theorem over : Rows.procsOnceRow.holds Try.pinned (OpenSpec.ofChange Rows.procsOnceSpec) :=
  OpenClaim.holds_of_wide 13 Try.f13 rfl rfl rfl rfl rfl rfl rfl ⟨rfl, rfl, rfl, rfl, rfl⟩ rfl rfl rfl rfl rfl (by kernel_rfl) Try.func13 (by kernel_rfl)
    (of_decide_eq_true (by kernel_rfl)) (by unfold Func.isWrapper; first | (rw [if_pos (by decide +kernel)]; kernel_rfl) | (rw [if_neg (by decide +kernel)]; exact ⟨rfl, rfl⟩))
    (fun os started H enc _ => lifted os started H enc)

theorem proved : Rows.ProcsOnceSaid :=
  over
#print axioms proved
end Go.Proofs.Ytfalhknkaebfoaa.procsOnce
