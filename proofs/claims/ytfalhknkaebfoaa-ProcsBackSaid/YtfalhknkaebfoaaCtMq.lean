/- Is a store a list of objects? No condition. The statements vc_.. are printed by a program of the claimant's own. -/
import Derived.Test.YtfalhknkaebfoaaCtQe
namespace Go.Proofs.Ytfalhknkaebfoaa
open Go.Sx
set_option maxRecDepth 100000
set_option linter.unusedVariables false
set_option linter.unusedSimpArgs false
theorem vc_same0 (M : List Sx.Obj) :
  true = true ∧ true = true ∧ ∀ (r0 : Loop), (∃ g, q_invS [] M g ∧ q_size [] = q_size [] ∧ 0 = g ∧ M = M ∧ false = false ∧ 0 = g ∧ Value.pointer none = Value.pointer none ∧ r0 = r0) ∧ ∀ (g : Int), q_invS
    [] M g → (decide (g < q_size []) = true → False) ∧ (decide (g < q_size []) = false → decide (g = n2i (llen M)) = q_same [] M) := by
  refine ⟨rfl, rfl, fun r0 => ⟨⟨0, ⟨by omega, by unfold llen; omega, by omega, fun j hj => by omega⟩, by (repeat' apply And.intro) <;> rfl⟩, fun g hg => ⟨fun hlt => ?_, fun _ => same_end2 hg (by simp only [llen, List.length_nil]; exact hg.1)⟩⟩⟩
  have h0 : g < 0 := of_decide_eq_true hlt
  exact absurd hg.1 (by omega)
theorem cl_same0 (M : List Sx.Obj) : CallTo Try.prog 37 [nilp, .sa 0] [.ro (.arr none 163 (.ob M))] (isV (.bo (q_same [] M))) (fun _ _ => False) := vc_call (inl := (fun f => f == 18)) (ann := (annL [(4000 + 52, 1, lpR [0, 1, 5] (fun g => [(6, .it .i64 g)]) 3 (fun g => .blk 3 (.it .i64 g)) (q_invS [] M) 0)])) (oks_cons ct_size oks_nil) (vc_same0 M) (by kernel_rfl)
theorem vc_same1 (L M : List Sx.Obj) (hL : L.length ≤ 9223372036854775807) :
  true = true ∧ true = true ∧ ∀ (r0 : Loop), (∃ g, q_invS L M g ∧ q_size L = q_size L ∧ 0 = g ∧ M = M ∧ L = L ∧ false = false ∧ 0 = g ∧ r0 = r0) ∧ ∀ (g : Int), q_invS L M g → (decide (g < q_size L) =
    true → (0 ≤ g ∧ g < ↑(llen L)) ∧ g.toNat < llen L ∧ g.toNat < llen L ∧ r0 = r0 ∧ r0 = r0 ∧ ((!(!decide (g = g) || decide (n2i (llen M) ≤ g))) = true → 0 ≤ g ∧ g < ↑(llen M)) ∧ ((!(!decide (g = g) ||
    decide (n2i (llen M) ≤ g))) = true → g.toNat < llen M) ∧ ((!decide (g = g) || decide (n2i (llen M) ≤ g) || !oeq (lget L g.toNat free) (lget M g.toNat free)) = true → r0 = r0 ∧ false = q_same L M) ∧
    ((!decide (g = g) || decide (n2i (llen M) ≤ g) || !oeq (lget L g.toNat free) (lget M g.toNat free)) = false → inRo IntKind.i64 (g + 1) ∧ r0 = r0 ∧ inRo IntKind.i64 (g + 1) ∧ ∃ g', q_invS L M g' ∧ (n2i
    (llen L) - g').toNat < (n2i (llen L) - g).toNat ∧ q_size L = q_size L ∧ g + 1 = g' ∧ M = M ∧ L = L ∧ false = false ∧ g + 1 = g' ∧ r0 = r0)) ∧ (decide (g < q_size L) = false → decide (g = n2i (llen M))
    = q_same L M) := by
  refine ⟨rfl, rfl, fun r0 => ⟨⟨0, ⟨by omega, by unfold llen; omega, by omega, fun j hj => by omega⟩, by (repeat' apply And.intro) <;> rfl⟩, fun g hg => ⟨fun hlt => ?_, fun hge => ?_⟩⟩⟩
  · have hg' := hg
    obtain ⟨g0, g1, g2, g3⟩ := hg
    have hlt : g < q_size L := of_decide_eq_true hlt
    have hle := len_cast L
    have hlm := len_cast M
    have hq : q_size L = (L.length : Int) := rfl
    rw [hq] at hlt
    have hz : ∀ b : Bool, (!decide (g = g) || b) = b := by simp
    rw [hz]
    refine ⟨⟨g0, by omega⟩, by omega, by omega, rfl, rfl, fun h => ?_, fun h => ?_, fun h => ⟨rfl, ?_⟩, fun h => ?_⟩
    · have h : ¬ (n2i (llen M) ≤ g) := by simpa using h
      rw [len_llen] at h; exact ⟨g0, by omega⟩
    · have h : ¬ (n2i (llen M) ≤ g) := by simpa using h
      rw [len_llen] at h; omega
    · unfold q_same
      symm
      rw [decide_eq_false_iff_not]
      rintro rfl
      rw [Bool.or_eq_true, decide_eq_true_eq, len_llen] at h
      rcases h with h | h
      · omega
      · simp [oeq] at h
    · rw [Bool.or_eq_false_iff, decide_eq_false_iff_not, len_llen] at h
      obtain ⟨h1, h2⟩ := h
      have h2 : lget L g.toNat free = lget M g.toNat free := by simpa [oeq] using h2
      have hr : inRo IntKind.i64 (g + 1) := by simp only [inRo, inR]; omega
      refine ⟨hr, rfl, hr, g + 1, ⟨by omega, by omega, by omega, fun j hj => ?_⟩, by rw [len_llen]; omega, by (repeat' apply And.intro) <;> rfl⟩
      by_cases e : (j : Int) < g
      · exact g3 j e
      · rw [show j = g.toNat by omega]; exact h2
  · have hge : ¬ g < q_size L := of_decide_eq_false hge
    exact same_end2 hg (by unfold q_size at hge; omega)
theorem ct_same : CtOK Try.prog 37 g_same :=
  mkSA_ok (fun _ _ => rfl) (fun M _ _ => cl_same0 M) (fun L M _ hL _ _ => vc_call (inl := (fun f => f == 18)) (ann := (annL [(4000 + 52, 1, lpR [0, 1, 5] (fun g => [(6, .it .i64 g)]) 6 (fun g => .blk 3 (.it .i64 g)) (q_invS L M) (n2i (llen L)))])) (oks_cons ct_size oks_nil) (vc_same1 L M hL) (by kernel_rfl))
end Go.Proofs.Ytfalhknkaebfoaa
