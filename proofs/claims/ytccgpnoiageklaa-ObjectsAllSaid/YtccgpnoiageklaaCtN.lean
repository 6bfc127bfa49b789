/- Laws of layer 4: what they come to. No condition. The statements vc_.. are printed by a program of the claimant's own. -/
import Derived.Test.YtccgpnoiageklaaCtL
import Derived.Test.YtccgpnoiageklaaCtM
namespace Go.Proofs.Ytccgpnoiageklaa
open Go.Sx
set_option maxRecDepth 100000
set_option linter.unusedVariables false
set_option linter.unusedSimpArgs false
theorem vc_oof (l : List Sx.Obj) :
  (decide (70 < n2i (llen l)) = true → true = true) ∧
    (decide (70 < n2i (llen l)) = false →
      true = true ∧
        (q_right l = false → ((!q_right l) = true → true = true) ∧ ((!q_right l) = false → false = true)) ∧
          (q_right l = true →
            ((!q_right l) = true → false = true) ∧ ((!q_right l) = false → (q_same l l && true) = true))) := by
  refine ⟨fun _ => rfl, fun _ => ⟨rfl, fun h => ⟨fun _ => rfl, fun h2 => ?_⟩, fun h => ⟨fun h2 => ?_, fun _ => ?_⟩⟩⟩
  · rw [h] at h2; simp at h2
  · rw [h] at h2; simp at h2
  · unfold q_same; simp
theorem cl_oof (l : List Sx.Obj) : CallTo Try.prog 7 [.sa 0] [.arr none 163 (.ob l)] (isV (.bo true)) (fun _ _ => False) := vch_call (inl := noInl) (ann := noAnn) (oks_cons ct_known (oks_cons ct_right (oks_cons ct_same oks_nil))) (hoks_cons hc_of hoks_nil) (vc_oof l) (by kernel_rfl)
theorem vc_oall (l : List Sx.Obj) (n : Int) :
  ((decide (20 < n2i (llen l)) || !q_right l) = true → true = true) ∧
    ((decide (20 < n2i (llen l)) || !q_right l) = false →
      true = true ∧
        (q_right l = false → true = true ∧ false = true) ∧
          (q_right l = true →
            true = true ∧
              true = true ∧
                ∀ (r0 : Loop),
                  (∃ g, q_invA1 l n g ∧ q_size l = q_size l ∧ 0 = g ∧ l = l ∧ n = n ∧ 0 = g ∧ l = l ∧ r0 = r0) ∧
                    ∀ (g : Int),
                      q_invA1 l n g →
                        (decide (g < q_size l) = true →
                            (0 ≤ g ∧ g < ↑(llen l)) ∧
                              g.toNat < llen l ∧
                                g.toNat < llen l ∧
                                  r0 = r0 ∧
                                    r0 = r0 ∧
                                      inRo IntKind.i64 (g + 1) ∧
                                        (decide (n ≤ g + 1) = true →
                                            r0 = r0 ∧
                                              true = true ∧
                                                ∀ (r0 : Loop),
                                                  (∃ g_1,
                                                      q_invA2 l g_1 ∧
                                                        q_size l = q_size l ∧
                                                          0 = g_1 ∧
                                                            l = l ∧ n = n ∧ g + 1 = g + 1 ∧ 0 = g_1 ∧ l = l ∧ r0 = r0) ∧
                                                    ∀ (g_1 : Int),
                                                      q_invA2 l g_1 →
                                                        (decide (g_1 < q_size l) = true →
                                                            (0 ≤ g_1 ∧ g_1 < ↑(llen l)) ∧
                                                              g_1.toNat < llen l ∧
                                                                g_1.toNat < llen l ∧
                                                                  r0 = r0 ∧
                                                                    r0 = r0 ∧
                                                                      inRo IntKind.i64 (g_1 + 1) ∧
                                                                        r0 = r0 ∧
                                                                          inRo IntKind.i64 (g_1 + 1) ∧
                                                                            ∃ g',
                                                                              q_invA2 l g' ∧
                                                                                (n2i (llen l) - g').toNat <
                                                                                    (n2i (llen l) - g_1).toNat ∧
                                                                                  q_size l = q_size l ∧
                                                                                    g_1 + 1 = g' ∧
                                                                                      l = l ∧
                                                                                        n = n ∧
                                                                                          g + 1 = g + 1 ∧
                                                                                            g_1 + 1 = g' ∧
                                                                                              l = l ∧ r0 = r0) ∧
                                                          (decide (g_1 < q_size l) = false →
                                                            (decide (g_1 = n2i (llen l)) &&
                                                                  decide (g + 1 = imin g_1 (imax 1 n)) &&
                                                                true) =
                                                              true)) ∧
                                          (decide (n ≤ g + 1) = false →
                                            r0 = r0 ∧
                                              inRo IntKind.i64 (g + 1) ∧
                                                ∃ g',
                                                  q_invA1 l n g' ∧
                                                    (n2i (llen l) - g').toNat < (n2i (llen l) - g).toNat ∧
                                                      q_size l = q_size l ∧
                                                        g + 1 = g' ∧ l = l ∧ n = n ∧ g + 1 = g' ∧ l = l ∧ r0 = r0)) ∧
                          (decide (g < q_size l) = false →
                            true = true ∧
                              ∀ (r0 : Loop),
                                (∃ g_1,
                                    q_invA2 l g_1 ∧
                                      q_size l = q_size l ∧
                                        0 = g_1 ∧ l = l ∧ n = n ∧ g = g ∧ 0 = g_1 ∧ l = l ∧ r0 = r0) ∧
                                  ∀ (g_1 : Int),
                                    q_invA2 l g_1 →
                                      (decide (g_1 < q_size l) = true →
                                          (0 ≤ g_1 ∧ g_1 < ↑(llen l)) ∧
                                            g_1.toNat < llen l ∧
                                              g_1.toNat < llen l ∧
                                                r0 = r0 ∧
                                                  r0 = r0 ∧
                                                    inRo IntKind.i64 (g_1 + 1) ∧
                                                      r0 = r0 ∧
                                                        inRo IntKind.i64 (g_1 + 1) ∧
                                                          ∃ g',
                                                            q_invA2 l g' ∧
                                                              (n2i (llen l) - g').toNat < (n2i (llen l) - g_1).toNat ∧
                                                                q_size l = q_size l ∧
                                                                  g_1 + 1 = g' ∧
                                                                    l = l ∧
                                                                      n = n ∧ g = g ∧ g_1 + 1 = g' ∧ l = l ∧ r0 = r0) ∧
                                        (decide (g_1 < q_size l) = false →
                                          (decide (g_1 = n2i (llen l)) && decide (g = imin g_1 (imax 1 n)) && true) =
                                            true)))) := by
  refine ⟨fun _ => rfl, fun h20 => ⟨rfl, fun h => ⟨rfl, ?_⟩, fun h => ⟨rfl, rfl, fun r0 => ?_⟩⟩⟩
  · rw [h] at h20; simp at h20
  have hl : l.length ≤ 20 := by
    rw [Bool.or_eq_false_iff, decide_eq_false_iff_not, len_llen] at h20
    omega
  have hle := len_cast l
  have hn : n2i (llen l) = (l.length : Int) := len_llen l
  have hq : q_size l = (l.length : Int) := rfl
  refine ⟨⟨0, ⟨by omega, by omega, .inl rfl⟩, rfl, rfl, rfl, rfl, rfl, rfl, rfl⟩, fun g hg => ?_⟩
  obtain ⟨g0, g1, g2⟩ := hg
  refine ⟨fun hlt => ?_, fun hge => ?_⟩
  · have hlt : g < q_size l := of_decide_eq_true hlt
    rw [hq] at hlt
    have hr : inRo IntKind.i64 (g + 1) := by simp only [inRo, inR]; omega
    refine ⟨⟨g0, by omega⟩, by omega, by omega, rfl, rfl, hr, fun hbr => ⟨rfl, ?_⟩, fun hbr => ⟨rfl, hr, g + 1, ⟨by omega, by omega, ?_⟩, by rw [hn]; omega, rfl, rfl, rfl, rfl, rfl, rfl, rfl⟩⟩
    · have hbr : n ≤ g + 1 := of_decide_eq_true hbr
      refine ⟨rfl, fun r0 => ⟨⟨0, ⟨by omega, by omega⟩, rfl, rfl, rfl, rfl, rfl, rfl, rfl, rfl⟩, fun g2 hg2 => ?_⟩⟩
      obtain ⟨e0, e1⟩ := hg2
      refine ⟨fun hlt => ?_, fun hge => ?_⟩
      · have hlt : g2 < q_size l := of_decide_eq_true hlt
        rw [hq] at hlt
        have hr : inRo IntKind.i64 (g2 + 1) := by simp only [inRo, inR]; omega
        exact ⟨⟨e0, by omega⟩, by omega, by omega, rfl, rfl, hr, rfl, hr, g2 + 1, ⟨by omega, by omega⟩, by rw [hn]; omega, rfl, rfl, rfl, rfl, rfl, rfl, rfl, rfl⟩
      · have hge : ¬ g2 < q_size l := of_decide_eq_false hge
        rw [hq] at hge
        rw [Bool.and_true, Bool.and_eq_true, decide_eq_true_eq, decide_eq_true_eq, hn]
        refine ⟨by omega, ?_⟩
        unfold imin imax
        split <;> split <;> omega
    · have hbr : ¬ n ≤ g + 1 := of_decide_eq_false hbr
      exact .inr (by omega)
  · have hge : ¬ g < q_size l := of_decide_eq_false hge
    rw [hq] at hge
    refine ⟨rfl, fun r0 => ⟨⟨0, ⟨by omega, by omega⟩, rfl, rfl, rfl, rfl, rfl, rfl, rfl, rfl⟩, fun g2 hg2 => ?_⟩⟩
    obtain ⟨e0, e1⟩ := hg2
    refine ⟨fun hlt => ?_, fun hge => ?_⟩
    · have hlt : g2 < q_size l := of_decide_eq_true hlt
      rw [hq] at hlt
      have hr : inRo IntKind.i64 (g2 + 1) := by simp only [inRo, inR]; omega
      exact ⟨⟨e0, by omega⟩, by omega, by omega, rfl, rfl, hr, rfl, hr, g2 + 1, ⟨by omega, by omega⟩, by rw [hn]; omega, rfl, rfl, rfl, rfl, rfl, rfl, rfl, rfl⟩
    · have hge : ¬ g2 < q_size l := of_decide_eq_false hge
      rw [hq] at hge
      rw [Bool.and_true, Bool.and_eq_true, decide_eq_true_eq, decide_eq_true_eq, hn]
      refine ⟨by omega, ?_⟩
      unfold imin imax
      split <;> split <;> omega
theorem cl_oall (l : List Sx.Obj) (n : Int) : CallTo Try.prog 8 [.sa 0, .it .i64 n] [.arr none 163 (.ob l)] (isV (.bo true)) (fun _ _ => False) := vch_call (inl := (fun f => f == 25)) (ann := (annL [(10000 + 40, 1, lpR [0, 1, 5] (fun g => [(6, .it .i64 g)]) 4 (fun g => .blk 3 (.it .i64 g)) (q_invA1 l n) (n2i (llen l))), (14000 + 40, 1, lpR [0, 1, 5] (fun g => [(6, .it .i64 g)]) 9 (fun g => .blk 3 (.it .i64 g)) (q_invA2 l) (n2i (llen l)))])) (oks_cons ct_known (oks_cons ct_right (oks_cons ct_size oks_nil))) (hoks_cons hc_of hoks_nil) (vc_oall l n) (by kernel_rfl)
end Go.Proofs.Ytccgpnoiageklaa
