/- Contracts of whether an object may be. No condition. The statements vc_.. are printed by a program of the claimant's own. -/
import Derived.Test.YtjpcaplhblomcaaSpO
namespace Go.Proofs.Ytjpcaplhblomcaa
open Go.Sx
set_option maxRecDepth 100000
set_option linter.unusedVariables false
set_option linter.unusedSimpArgs false
theorem vc_bare (o : Sx.Obj) (b : Bool) :
  (sleq o.slots noSlots && (b || byeq o.bytes noBytes) && decide (o.calls = 0)) = q_bare o b := by
  unfold q_bare sleq byeq; rfl
theorem ct_bare : CtOK Try.prog 65 g_bare :=
  mk2_ok rO_ok rB_ok (fun _ _ => rfl) fun o b _ _ => vc_call (inl := noInl) (ann := noAnn) oks_nil (vc_bare o b) (by kernel_rfl)
theorem vc_rochk (o : Sx.Obj) (n : Int) :
  ((decide (n < 1) || decide (64 < n) || decide (o.kind < 0) || decide (3 < o.kind) || decide (o.count < 0) ||
                decide (4294967295 < o.count) ||
              decide (o.calls < 0) ||
            decide (4294967295 < o.calls) ||
          !decide (o.kind = 1) && !decide (o.calls = 0)) =
        true →
      2 = q_ochk o n) ∧
    ((decide (n < 1) || decide (64 < n) || decide (o.kind < 0) || decide (3 < o.kind) || decide (o.count < 0) ||
                decide (4294967295 < o.count) ||
              decide (o.calls < 0) ||
            decide (4294967295 < o.calls) ||
          !decide (o.kind = 1) && !decide (o.calls = 0)) =
        false →
      (∃ g, q_inv1 o n g ∧ n = n ∧ o.kind = o.kind ∧ 0 = g ∧ o = o) ∧
        ∀ (g : Int),
          q_inv1 o n g →
            (decide (g < 16) = true →
                (0 ≤ g ∧ g < ↑16) ∧
                  ((!!decide (q_chk (o.slots.at g.toNat) = 0)) = true → 0 ≤ g ∧ g < ↑16) ∧
                    ((!decide (o.kind = 1) &&
                            !(!decide (q_chk (o.slots.at g.toNat) = 0) ||
                                decide (n ≤ q_names (o.slots.at g.toNat)))) =
                          true →
                        0 ≤ g ∧ g < ↑16) ∧
                      ((!decide (q_chk (o.slots.at g.toNat) = 0) || decide (n ≤ q_names (o.slots.at g.toNat)) ||
                              !decide (o.kind = 1) && !keq (o.slots.at g.toNat) void) =
                            true →
                          2 = q_ochk o n) ∧
                        ((!decide (q_chk (o.slots.at g.toNat) = 0) || decide (n ≤ q_names (o.slots.at g.toNat)) ||
                              !decide (o.kind = 1) && !keq (o.slots.at g.toNat) void) =
                            false →
                          inRo IntKind.i64 (g + 1) ∧
                            ∃ g',
                              q_inv1 o n g' ∧
                                (16 - g').toNat < (16 - g).toNat ∧ n = n ∧ o.kind = o.kind ∧ g + 1 = g' ∧ o = o)) ∧
              (decide (g < 16) = false →
                (∃ g, q_inv2 o n g ∧ n = n ∧ o.kind = o.kind ∧ 0 = g ∧ o = o) ∧
                  ∀ (g : Int),
                    q_inv2 o n g →
                      (decide (g < 64) = true →
                          ((!decide (o.kind = 1) && !decide (o.kind = 2)) = true → 0 ≤ g ∧ g < ↑64) ∧
                            ((!decide (o.kind = 1) && !decide (o.kind = 2) &&
                                    !decide (b2i (o.bytes.at g.toNat) = 0)) =
                                  true →
                                2 = q_ochk o n) ∧
                              ((!decide (o.kind = 1) && !decide (o.kind = 2) &&
                                    !decide (b2i (o.bytes.at g.toNat) = 0)) =
                                  false →
                                inRo IntKind.i64 (g + 1) ∧
                                  ∃ g',
                                    q_inv2 o n g' ∧
                                      (64 - g').toNat < (64 - g).toNat ∧
                                        n = n ∧ o.kind = o.kind ∧ g + 1 = g' ∧ o = o)) ∧
                        (decide (g < 64) = false → 0 = q_ochk o n))) := by
  refine ⟨fun h => ochk_no fun hh => ?_, fun h => ⟨⟨0, ⟨by omega, by omega, fun j hj => by omega⟩, rfl, rfl, rfl, rfl⟩, fun g hg => ⟨fun hlt => ?_, fun hge => ?_⟩⟩⟩
  · have := objOk_iff.1 hh
    simp only [Bool.or_eq_true, Bool.and_eq_true, Bool.not_eq_true', decide_eq_true_eq, decide_eq_false_iff_not] at h
    omega
  · obtain ⟨g0, g1, g2⟩ := hg
    have hlt := of_decide_eq_true hlt
    rw [slot_cond]
    refine ⟨⟨g0, by omega⟩, fun _ => ⟨g0, by omega⟩, fun _ => ⟨g0, by omega⟩, fun hbad => ochk_no fun hh => ?_, fun hok => ⟨?_, g + 1, ⟨by omega, by omega, fun j hj => ?_⟩, by omega, rfl, rfl, rfl, rfl⟩⟩
    · have := (objOk_iff.1 hh).2.2.2.2.2.2.2.2.2.1 g.toNat (by omega)
      rw [this] at hbad; simp at hbad
    · simp only [inRo, inR]; omega
    · by_cases e : (j : Int) < g
      · exact g2 j e
      · have : j = g.toNat := by omega
        subst this
        simpa using hok
  · obtain ⟨g0, g1, g2⟩ := hg
    have hge : ¬ g < 16 := of_decide_eq_false hge
    refine ⟨⟨0, ⟨by omega, by omega, fun j hj => g2 j (by omega), fun j hj => by omega⟩, rfl, rfl, rfl, rfl⟩, fun g hg => ⟨fun hlt => ?_, fun hge => ochk_yes ?_⟩⟩
    · obtain ⟨k0, k1, k2, k3⟩ := hg
      have hlt := of_decide_eq_true hlt
      simp only [b2i_eq0]
      refine ⟨fun _ => ⟨k0, by omega⟩, fun hbad => ochk_no fun hh => ?_, fun hok => ⟨?_, g + 1, ⟨by omega, by omega, k2, fun j hj => ?_⟩, by omega, by simp⟩⟩
      · have := (objOk_iff.1 hh).2.2.2.2.2.2.2.2.2.2 g.toNat (by omega)
        simp only [Bool.and_eq_true, Bool.not_eq_true', decide_eq_false_iff_not] at hbad
        grind
      · simp only [inRo, inR]; omega
      · by_cases e : (j : Int) < g
        · exact k3 j e
        · have : j = g.toNat := by omega
          subst this
          simp only [Bool.and_eq_false_iff, Bool.not_eq_false', decide_eq_true_eq] at hok
          grind
    · obtain ⟨k0, k1, k2, k3⟩ := hg
      have hge : ¬ g < 64 := of_decide_eq_false hge
      simp only [Bool.or_eq_false_iff, Bool.and_eq_false_iff, Bool.not_eq_false', decide_eq_true_eq, decide_eq_false_iff_not] at h
      refine objOk_iff.2 ⟨by omega, by omega, by omega, by omega, by omega, by omega, by omega, by omega, by omega, k2, fun i hi => ?_⟩
      have := k3 i (by omega)
      grind
theorem ct_rochk : CtOK Try.prog 48 g_ochk :=
  mk2_ok rO_ok (rI_ok .i64) (fun _ _ => rfl) fun o n _ _ => vc_call (inl := noInl) (ann := (annL [(48, 5, lpI [1, 2, 5] 6 (q_inv1 o n) 16), (48, 10, lpI [1, 2, 5] 7 (q_inv2 o n) 64)])) (oks_cons ct_rchk (oks_cons ct_rnames oks_nil)) (vc_rochk o n) (by kernel_rfl)
theorem vc_ochk (o : Sx.Obj) (n : Int) :
  ((decide (n < 1) || decide (64 < n) || decide (o.count < 0) || decide (4294967295 < o.count) ||
            decide (o.calls < 0) ||
          decide (4294967295 < o.calls)) =
        true →
      2 = q_ochk o n) ∧
    ((decide (n < 1) || decide (64 < n) || decide (o.count < 0) || decide (4294967295 < o.count) ||
            decide (o.calls < 0) ||
          decide (4294967295 < o.calls)) =
        false →
      (decide (o.kind = 0) = true →
          ((!q_bare o false) = true → 2 = q_ochk o n) ∧ ((!q_bare o false) = false → 0 = q_ochk o n)) ∧
        (decide (o.kind = 0) = false →
          (decide (o.kind = 3) = true →
              ((!q_bare o false) = true → 2 = q_ochk o n) ∧ ((!q_bare o false) = false → 0 = q_ochk o n)) ∧
            (decide (o.kind = 3) = false →
              (decide (o.kind = 2) = true →
                  ((!q_bare o true) = true → 2 = q_ochk o n) ∧ ((!q_bare o true) = false → 0 = q_ochk o n)) ∧
                (decide (o.kind = 2) = false →
                  (decide (o.kind = 1) = true →
                      (∃ g, q_inv3 g ∧ n = n ∧ true = q_fin o n g ∧ o.slots = o.slots ∧ 0 = g ∧ o = o) ∧
                        ∀ (g : Int),
                          q_inv3 g →
                            (decide (g < 16) = true →
                                (0 ≤ g ∧ g < ↑16) ∧
                                  inRo IntKind.i64 (g + 1) ∧
                                    ∃ g',
                                      q_inv3 g' ∧
                                        (16 - g').toNat < (16 - g).toNat ∧
                                          n = n ∧
                                            (q_fin o n g && decide (q_chk (o.slots.at g.toNat) = 0) &&
                                                  (!q_named (o.slots.at g.toNat) ||
                                                    decide (q_oid (o.slots.at g.toNat) < n))) =
                                                q_fin o n g' ∧
                                              o.slots = o.slots ∧ g + 1 = g' ∧ o = o) ∧
                              (decide (g < 16) = false →
                                ((!q_fin o n g) = true → 2 = q_ochk o n) ∧ ((!q_fin o n g) = false → 0 = q_ochk o n))) ∧
                    (decide (o.kind = 1) = false → 2 = q_ochk o n))))) := by
  refine ⟨fun h => ochk_no fun hh => ?_, fun h => ?_⟩
  · have := objOk_iff.1 hh
    simp only [Bool.or_eq_true, decide_eq_true_eq] at h
    omega
  · simp only [Bool.or_eq_false_iff, decide_eq_false_iff_not] at h
    have hb : ∀ (b : Bool), (0 ≤ o.kind ∧ o.kind ≤ 3 ∧ o.kind ≠ 1) → b = decide (o.kind = 2) → ((!q_bare o b) = true → 2 = q_ochk o n) ∧ ((!q_bare o b) = false → 0 = q_ochk o n) := fun b h1 h2 => by
      have he := objOk_bare (o := o) (n := n) (b := b) (by omega) (by omega) (by omega) (by omega) (by omega) (by omega) h1 h2
      exact ⟨fun hn => ochk_no (by rw [he]; simpa using hn), fun hy => ochk_yes (by rw [he]; simpa using hy)⟩
    refine ⟨fun h0 => ?_, fun h0 => ⟨fun h3 => ?_, fun h3 => ⟨fun h2 => ?_, fun h2 => ⟨fun h1 => ⟨⟨0, ⟨by omega, by omega⟩, rfl, rfl, rfl, rfl, rfl⟩, fun g hg => ⟨fun hlt => ?_, fun hge => ?_⟩⟩, fun h1 => ochk_no fun hh => ?_⟩⟩⟩⟩
    · have h0 := of_decide_eq_true h0
      exact hb false (by omega) (by simp [h0])
    · have h3 := of_decide_eq_true h3
      exact hb false (by omega) (by simp [h3])
    · have h2 := of_decide_eq_true h2
      exact hb true (by omega) (by simp [h2])
    · obtain ⟨g0, g1⟩ := hg
      have hlt := of_decide_eq_true hlt
      refine ⟨⟨g0, by omega⟩, by simp only [inRo, inR]; omega, g + 1, ⟨by omega, by omega⟩, by omega, rfl, fin_step g0 (by omega), rfl, rfl, rfl⟩
    · obtain ⟨g0, g1⟩ := hg
      have hge : ¬ g < 16 := of_decide_eq_false hge
      have h1 := of_decide_eq_true h1
      have e : g = 16 := by omega
      subst e
      have he := objOk_node (o := o) (n := n) (by omega) (by omega) (by omega) (by omega) (by omega) (by omega) h1
      exact ⟨fun hn => ochk_no (by rw [he]; simpa using hn), fun hy => ochk_yes (by rw [he]; simpa using hy)⟩
    · have := objOk_iff.1 hh
      have h0 : ¬ o.kind = 0 := of_decide_eq_false h0
      have h1 : ¬ o.kind = 1 := of_decide_eq_false h1
      have h2 : ¬ o.kind = 2 := of_decide_eq_false h2
      have h3 : ¬ o.kind = 3 := of_decide_eq_false h3
      omega
theorem ct_ochk : CtOK Try.prog 60 g_ochk :=
  mk2_ok rO_ok (rI_ok .i64) (fun _ _ => rfl) fun o n _ _ => vc_call (inl := noInl) (ann := (annL [(60, 12, lpG [1, 2, 51] (fun g => [(52, .it .i64 g), (5, .bo (q_fin o n g))]) q_inv3 16)])) (oks_cons ct_bare (oks_cons ct_kchk (oks_cons ct_knames oks_nil))) (vc_ochk o n) (by kernel_rfl)
end Go.Proofs.Ytjpcaplhblomcaa
