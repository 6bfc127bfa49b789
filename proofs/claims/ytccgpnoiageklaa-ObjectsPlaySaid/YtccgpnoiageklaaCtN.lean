/- Laws of layer 4: what they come to. No condition. The statements vc_.. are printed by a program of the claimant's own. -/
import Derived.Test.YtccgpnoiageklaaCtL
import Derived.Test.YtccgpnoiageklaaCtM
namespace Go.Proofs.Ytccgpnoiageklaa
open Go.Sx
set_option maxRecDepth 100000
set_option linter.unusedVariables false
set_option linter.unusedSimpArgs false
theorem vc_oof (l : List Sx.Obj) :
  (decide (70 < n2i (llen l)) = true → true = true) ∧
    (decide (70 < n2i (llen l)) = false →
      true = true ∧
        (q_right l = false → ((!q_right l) = true → true = true) ∧ ((!q_right l) = false → false = true)) ∧
          (q_right l = true →
            ((!q_right l) = true → false = true) ∧ ((!q_right l) = false → (q_same l l && true) = true))) := by
  refine ⟨fun _ => rfl, fun _ => ⟨rfl, fun h => ⟨fun _ => rfl, fun h2 => ?_⟩, fun h => ⟨fun h2 => ?_, fun _ => ?_⟩⟩⟩
  · rw [h] at h2; simp at h2
  · rw [h] at h2; simp at h2
  · unfold q_same; simp
theorem cl_oof (l : List Sx.Obj) : CallTo Try.prog 7 [.sa 0] [.arr none 163 (.ob l)] (isV (.bo true)) (fun _ _ => False) := vch_call (inl := noInl) (ann := noAnn) (oks_cons ct_known (oks_cons ct_right (oks_cons ct_same oks_nil))) (hoks_cons hc_of hoks_nil) (vc_oof l) (by kernel_rfl)
theorem vc_oall (l : List Sx.Obj) (n : Int) :
  ((decide (20 < n2i (llen l)) || !q_right l) = true → true = true) ∧
    ((decide (20 < n2i (llen l)) || !q_right l) = false →
      true = true ∧
        (q_right l = false → true = true ∧ false = true) ∧
          (q_right l = true →
            true = true ∧
              true = true ∧
                ∀ (r0 : Loop),
                  (∃ g, q_invA1 l n g ∧ q_size l = q_size l ∧ 0 = g ∧ l = l ∧ n = n ∧ 0 = g ∧ l = l ∧ r0 = r0) ∧
                    ∀ (g : Int),
                      q_invA1 l n g →
                        (decide (g < q_size l) = true →
                            (0 ≤ g ∧ g < ↑(llen l)) ∧
                              g.toNat < llen l ∧
                                g.toNat < llen l ∧
                                  r0 = r0 ∧
                                    r0 = r0 ∧
                                      inRo IntKind.i64 (g + 1) ∧
                                        (decide (n ≤ g + 1) = true →
                                            r0 = r0 ∧
                                              true = true ∧
                                                ∀ (r0 : Loop),
                                                  (∃ g_1,
                                                      q_invA2 l g_1 ∧
                                                        q_size l = q_size l ∧
                                                          0 = g_1 ∧
                                                            l = l ∧ n = n ∧ g + 1 = g + 1 ∧ 0 = g_1 ∧ l = l ∧ r0 = r0) ∧
                                                    ∀ (g_1 : Int),
                                                      q_invA2 l g_1 →
                                                        (decide (g_1 < q_size l) = true →
                                                            (0 ≤ g_1 ∧ g_1 < ↑(llen l)) ∧
                                                              g_1.toNat < llen l ∧
                                                                g_1.toNat < llen l ∧
                                                                  r0 = r0 ∧
                                                                    r0 = r0 ∧
                                                                      inRo IntKind.i64 (g_1 + 1) ∧
                                                                        r0 = r0 ∧
                                                                          inRo IntKind.i64 (g_1 + 1) ∧
                                                                            ∃ g',
                                                                              q_invA2 l g' ∧
                                                                                (n2i (llen l) - g').toNat <
                                                                                    (n2i (llen l) - g_1).toNat ∧
                                                                                  q_size l = q_size l ∧
                                                                                    g_1 + 1 = g' ∧
                                                                                      l = l ∧
                                                                                        n = n ∧
                                                                                          g + 1 = g + 1 ∧
                                                                                            g_1 + 1 = g' ∧
                                                                                              l = l ∧ r0 = r0) ∧
                                                          (decide (g_1 < q_size l) = false →
                                                            (decide (g_1 = n2i (llen l)) &&
                                                                  decide (g + 1 = imin g_1 (imax 1 n)) &&
                                                                true) =
                                                              true)) ∧
                                          (decide (n ≤ g + 1) = false →
                                            r0 = r0 ∧
                                              inRo IntKind.i64 (g + 1) ∧
                                                ∃ g',
                                                  q_invA1 l n g' ∧
                                                    (n2i (llen l) - g').toNat < (n2i (llen l) - g).toNat ∧
                                                      q_size l = q_size l ∧
                                                        g + 1 = g' ∧ l = l ∧ n = n ∧ g + 1 = g' ∧ l = l ∧ r0 = r0)) ∧
                          (decide (g < q_size l) = false →
                            true = true ∧
                              ∀ (r0 : Loop),
                                (∃ g_1,
                                    q_invA2 l g_1 ∧
                                      q_size l = q_size l ∧
                                        0 = g_1 ∧ l = l ∧ n = n ∧ g = g ∧ 0 = g_1 ∧ l = l ∧ r0 = r0) ∧
                                  ∀ (g_1 : Int),
                                    q_invA2 l g_1 →
                                      (decide (g_1 < q_size l) = true →
                                          (0 ≤ g_1 ∧ g_1 < ↑(llen l)) ∧
                                            g_1.toNat < llen l ∧
                                              g_1.toNat < llen l ∧
                                                r0 = r0 ∧
                                                  r0 = r0 ∧
                                                    inRo IntKind.i64 (g_1 + 1) ∧
                                                      r0 = r0 ∧
                                                        inRo IntKind.i64 (g_1 + 1) ∧
                                                          ∃ g',
                                                            q_invA2 l g' ∧
                                                              (n2i (llen l) - g').toNat < (n2i (llen l) - g_1).toNat ∧
                                                                q_size l = q_size l ∧
                                                                  g_1 + 1 = g' ∧
                                                                    l = l ∧
                                                                      n = n ∧ g = g ∧ g_1 + 1 = g' ∧ l = l ∧ r0 = r0) ∧
                                        (decide (g_1 < q_size l) = false →
                                          (decide (g_1 = n2i (llen l)) && decide (g = imin g_1 (imax 1 n)) && true) =
                                            true)))) := by
  refine ⟨fun _ => rfl, fun h20 => ⟨rfl, fun h => ⟨rfl, ?_⟩, fun h => ⟨rfl, rfl, fun r0 => ?_⟩⟩⟩
  · rw [h] at h20; simp at h20
  have hl : l.length ≤ 20 := by
    rw [Bool.or_eq_false_iff, decide_eq_false_iff_not, len_llen] at h20
    omega
  have hle := len_cast l
  have hn : n2i (llen l) = (l.length : Int) := len_llen l
  have hq : q_size l = (l.length : Int) := rfl
  refine ⟨⟨0, ⟨by omega, by omega, .inl rfl⟩, rfl, rfl, rfl, rfl, rfl, rfl, rfl⟩, fun g hg => ?_⟩
  obtain ⟨g0, g1, g2⟩ := hg
  refine ⟨fun hlt => ?_, fun hge => ?_⟩
  · have hlt : g < q_size l := of_decide_eq_true hlt
    rw [hq] at hlt
    have hr : inRo IntKind.i64 (g + 1) := by simp only [inRo, inR]; omega
    refine ⟨⟨g0, by omega⟩, by omega, by omega, rfl, rfl, hr, fun hbr => ⟨rfl, ?_⟩, fun hbr => ⟨rfl, hr, g + 1, ⟨by omega, by omega, ?_⟩, by rw [hn]; omega, rfl, rfl, rfl, rfl, rfl, rfl, rfl⟩⟩
    · have hbr : n ≤ g + 1 := of_decide_eq_true hbr
      refine ⟨rfl, fun r0 => ⟨⟨0, ⟨by omega, by omega⟩, rfl, rfl, rfl, rfl, rfl, rfl, rfl, rfl⟩, fun g2 hg2 => ?_⟩⟩
      obtain ⟨e0, e1⟩ := hg2
      refine ⟨fun hlt => ?_, fun hge => ?_⟩
      · have hlt : g2 < q_size l := of_decide_eq_true hlt
        rw [hq] at hlt
        have hr : inRo IntKind.i64 (g2 + 1) := by simp only [inRo, inR]; omega
        exact ⟨⟨e0, by omega⟩, by omega, by omega, rfl, rfl, hr, rfl, hr, g2 + 1, ⟨by omega, by omega⟩, by rw [hn]; omega, rfl, rfl, rfl, rfl, rfl, rfl, rfl, rfl⟩
      · have hge : ¬ g2 < q_size l := of_decide_eq_false hge
        rw [hq] at hge
        rw [Bool.and_true, Bool.and_eq_true, decide_eq_true_eq, decide_eq_true_eq, hn]
        refine ⟨by omega, ?_⟩
        unfold imin imax
        split <;> split <;> omega
    · have hbr : ¬ n ≤ g + 1 := of_decide_eq_false hbr
      exact .inr (by omega)
  · have hge : ¬ g < q_size l := of_decide_eq_false hge
    rw [hq] at hge
    refine ⟨rfl, fun r0 => ⟨⟨0, ⟨by omega, by omega⟩, rfl, rfl, rfl, rfl, rfl, rfl, rfl, rfl⟩, fun g2 hg2 => ?_⟩⟩
    obtain ⟨e0, e1⟩ := hg2
    refine ⟨fun hlt => ?_, fun hge => ?_⟩
    · have hlt : g2 < q_size l := of_decide_eq_true hlt
      rw [hq] at hlt
      have hr : inRo IntKind.i64 (g2 + 1) := by simp only [inRo, inR]; omega
      exact ⟨⟨e0, by omega⟩, by omega, by omega, rfl, rfl, hr, rfl, hr, g2 + 1, ⟨by omega, by omega⟩, by rw [hn]; omega, rfl, rfl, rfl, rfl, rfl, rfl, rfl, rfl⟩
    · have hge : ¬ g2 < q_size l := of_decide_eq_false hge
      rw [hq] at hge
      rw [Bool.and_true, Bool.and_eq_true, decide_eq_true_eq, decide_eq_true_eq, hn]
      refine ⟨by omega, ?_⟩
      unfold imin imax
      split <;> split <;> omega
theorem cl_oall (l : List Sx.Obj) (n : Int) : CallTo Try.prog 8 [.sa 0, .it .i64 n] [.arr none 163 (.ob l)] (isV (.bo true)) (fun _ _ => False) := vch_call (inl := (fun f => f == 25)) (ann := (annL [(10000 + 40, 1, lpR [0, 1, 5] (fun g => [(6, .it .i64 g)]) 4 (fun g => .blk 3 (.it .i64 g)) (q_invA1 l n) (n2i (llen l))), (14000 + 40, 1, lpR [0, 1, 5] (fun g => [(6, .it .i64 g)]) 9 (fun g => .blk 3 (.it .i64 g)) (q_invA2 l) (n2i (llen l)))])) (oks_cons ct_known (oks_cons ct_right (oks_cons ct_size oks_nil))) (hoks_cons hc_of hoks_nil) (vc_oall l n) (by kernel_rfl)
theorem vc_oplay (n : Int) (l : List Sx.Stp) :
  (decide (40 < n2i (llen l)) = true → true = true) ∧
    (decide (40 < n2i (llen l)) = false →
      true = true ∧
        (q_newOk n = false →
            ((decide (n < 1) || decide (64 < n)) = true → true = true) ∧
              ((decide (n < 1) || decide (64 < n)) = false → mkFit n n 856 ∧ false = true)) ∧
          (q_newOk n = true →
            ((decide (n < 1) || decide (64 < n)) = true → false = true) ∧
              ((decide (n < 1) || decide (64 < n)) = false →
                mkFit n n 856 ∧
                  ((!q_same (q_new n) (lrep n.toNat free)) = true → false = true) ∧
                    ((!q_same (q_new n) (lrep n.toNat free)) = false →
                      (∃ g,
                          q_invP l n g ∧
                            n = n ∧
                              false = false ∧
                                0 = g.fst ∧
                                  llen l = llen l ∧
                                    ((fun i =>
                                          V.ag
                                            [V.bo (lget l i stp0).puts, V.it IntKind.i64 (lget l i stp0).oid,
                                              V.ob (lget l i stp0).ob]) =
                                        fun i =>
                                        V.ag
                                          [V.bo (lget l i stp0).puts, V.it IntKind.i64 (lget l i stp0).oid,
                                            V.ob (lget l i stp0).ob]) ∧
                                      q_new n = g.snd ∧ lrep n.toNat free = g.snd) ∧
                        ∀ (g : Int × List Sx.Obj),
                          q_invP l n g →
                            (decide (g.fst < n2i (llen l)) = true →
                                (0 ≤ g.fst ∧ g.fst < ↑(llen l)) ∧
                                  g.fst.toNat < llen l ∧
                                    ((lget l g.fst.toNat stp0).puts = true →
                                        ((!(decide (0 ≤ (lget l g.fst.toNat stp0).oid) &&
                                                  decide ((lget l g.fst.toNat stp0).oid < n))) =
                                              true →
                                            true = true ∧
                                              ((!decide
                                                        (q_put g.snd (lget l g.fst.toNat stp0).oid
                                                            (lget l g.fst.toNat stp0).ob =
                                                          4)) =
                                                    true →
                                                  false = true) ∧
                                                ((!decide
                                                        (q_put g.snd (lget l g.fst.toNat stp0).oid
                                                            (lget l g.fst.toNat stp0).ob =
                                                          4)) =
                                                    false →
                                                  inRo IntKind.i64 (g.fst + 1) ∧
                                                    ∃ g',
                                                      q_invP l n g' ∧
                                                        q_muP l g' < q_muP l g ∧
                                                          n = n ∧
                                                            false = false ∧
                                                              g.fst + 1 = g'.fst ∧
                                                                llen l = llen l ∧
                                                                  ((fun i =>
                                                                        V.ag
                                                                          [V.bo (lget l i stp0).puts,
                                                                            V.it IntKind.i64 (lget l i stp0).oid,
                                                                            V.ob (lget l i stp0).ob]) =
                                                                      fun i =>
                                                                      V.ag
                                                                        [V.bo (lget l i stp0).puts,
                                                                          V.it IntKind.i64 (lget l i stp0).oid,
                                                                          V.ob (lget l i stp0).ob]) ∧
                                                                    q_putL g.snd (lget l g.fst.toNat stp0).oid
                                                                          (lget l g.fst.toNat stp0).ob =
                                                                        g'.snd ∧
                                                                      g.snd = g'.snd)) ∧
                                          ((!(decide (0 ≤ (lget l g.fst.toNat stp0).oid) &&
                                                  decide ((lget l g.fst.toNat stp0).oid < n))) =
                                              false →
                                            ((!decide (q_ochk (lget l g.fst.toNat stp0).ob n = 0)) = true →
                                                true = true ∧
                                                  ((!decide
                                                            (q_put g.snd (lget l g.fst.toNat stp0).oid
                                                                (lget l g.fst.toNat stp0).ob =
                                                              2)) =
                                                        true →
                                                      false = true) ∧
                                                    ((!decide
                                                            (q_put g.snd (lget l g.fst.toNat stp0).oid
                                                                (lget l g.fst.toNat stp0).ob =
                                                              2)) =
                                                        false →
                                                      inRo IntKind.i64 (g.fst + 1) ∧
                                                        ∃ g',
                                                          q_invP l n g' ∧
                                                            q_muP l g' < q_muP l g ∧
                                                              n = n ∧
                                                                false = false ∧
                                                                  g.fst + 1 = g'.fst ∧
                                                                    llen l = llen l ∧
                                                                      ((fun i =>
                                                                            V.ag
                                                                              [V.bo (lget l i stp0).puts,
                                                                                V.it IntKind.i64 (lget l i stp0).oid,
                                                                                V.ob (lget l i stp0).ob]) =
                                                                          fun i =>
                                                                          V.ag
                                                                            [V.bo (lget l i stp0).puts,
                                                                              V.it IntKind.i64 (lget l i stp0).oid,
                                                                              V.ob (lget l i stp0).ob]) ∧
                                                                        q_putL g.snd (lget l g.fst.toNat stp0).oid
                                                                              (lget l g.fst.toNat stp0).ob =
                                                                            g'.snd ∧
                                                                          g.snd = g'.snd)) ∧
                                              ((!decide (q_ochk (lget l g.fst.toNat stp0).ob n = 0)) = false →
                                                (0 ≤ (lget l g.fst.toNat stp0).oid ∧
                                                    (lget l g.fst.toNat stp0).oid < ↑(llen g.snd)) ∧
                                                  (lget l g.fst.toNat stp0).oid.toNat < llen g.snd ∧
                                                    true = true ∧
                                                      ((!decide
                                                                (q_put g.snd (lget l g.fst.toNat stp0).oid
                                                                    (lget l g.fst.toNat stp0).ob =
                                                                  0)) =
                                                            true →
                                                          false = true) ∧
                                                        ((!decide
                                                                (q_put g.snd (lget l g.fst.toNat stp0).oid
                                                                    (lget l g.fst.toNat stp0).ob =
                                                                  0)) =
                                                            false →
                                                          inRo IntKind.i64 (g.fst + 1) ∧
                                                            ∃ g',
                                                              q_invP l n g' ∧
                                                                q_muP l g' < q_muP l g ∧
                                                                  n = n ∧
                                                                    false = false ∧
                                                                      g.fst + 1 = g'.fst ∧
                                                                        llen l = llen l ∧
                                                                          ((fun i =>
                                                                                V.ag
                                                                                  [V.bo (lget l i stp0).puts,
                                                                                    V.it IntKind.i64
                                                                                      (lget l i stp0).oid,
                                                                                    V.ob (lget l i stp0).ob]) =
                                                                              fun i =>
                                                                              V.ag
                                                                                [V.bo (lget l i stp0).puts,
                                                                                  V.it IntKind.i64 (lget l i stp0).oid,
                                                                                  V.ob (lget l i stp0).ob]) ∧
                                                                            q_putL g.snd (lget l g.fst.toNat stp0).oid
                                                                                  (lget l g.fst.toNat stp0).ob =
                                                                                g'.snd ∧
                                                                              lset g.snd
                                                                                  (lget l g.fst.toNat stp0).oid.toNat
                                                                                  (lget l g.fst.toNat stp0).ob =
                                                                                g'.snd)))) ∧
                                      ((lget l g.fst.toNat stp0).puts = false →
                                        ((!(decide (0 ≤ (lget l g.fst.toNat stp0).oid) &&
                                                  decide ((lget l g.fst.toNat stp0).oid < n))) =
                                              true →
                                            ((!oeq (q_get g.snd (lget l g.fst.toNat stp0).oid) free ||
                                                    !decide (q_has g.snd (lget l g.fst.toNat stp0).oid = 4)) =
                                                  true →
                                                false = true) ∧
                                              ((!oeq (q_get g.snd (lget l g.fst.toNat stp0).oid) free ||
                                                    !decide (q_has g.snd (lget l g.fst.toNat stp0).oid = 4)) =
                                                  false →
                                                inRo IntKind.i64 (g.fst + 1) ∧
                                                  ∃ g',
                                                    q_invP l n g' ∧
                                                      q_muP l g' < q_muP l g ∧
                                                        n = n ∧
                                                          false = false ∧
                                                            g.fst + 1 = g'.fst ∧
                                                              llen l = llen l ∧
                                                                ((fun i =>
                                                                      V.ag
                                                                        [V.bo (lget l i stp0).puts,
                                                                          V.it IntKind.i64 (lget l i stp0).oid,
                                                                          V.ob (lget l i stp0).ob]) =
                                                                    fun i =>
                                                                    V.ag
                                                                      [V.bo (lget l i stp0).puts,
                                                                        V.it IntKind.i64 (lget l i stp0).oid,
                                                                        V.ob (lget l i stp0).ob]) ∧
                                                                  g.snd = g'.snd ∧ g.snd = g'.snd)) ∧
                                          ((!(decide (0 ≤ (lget l g.fst.toNat stp0).oid) &&
                                                  decide ((lget l g.fst.toNat stp0).oid < n))) =
                                              false →
                                            (0 ≤ (lget l g.fst.toNat stp0).oid ∧
                                                (lget l g.fst.toNat stp0).oid < ↑(llen g.snd)) ∧
                                              (lget l g.fst.toNat stp0).oid.toNat < llen g.snd ∧
                                                ((!oeq (q_get g.snd (lget l g.fst.toNat stp0).oid)
                                                            (lget g.snd (lget l g.fst.toNat stp0).oid.toNat free) ||
                                                        !decide (q_has g.snd (lget l g.fst.toNat stp0).oid = 0)) =
                                                      true →
                                                    false = true) ∧
                                                  ((!oeq (q_get g.snd (lget l g.fst.toNat stp0).oid)
                                                            (lget g.snd (lget l g.fst.toNat stp0).oid.toNat free) ||
                                                        !decide (q_has g.snd (lget l g.fst.toNat stp0).oid = 0)) =
                                                      false →
                                                    inRo IntKind.i64 (g.fst + 1) ∧
                                                      ∃ g',
                                                        q_invP l n g' ∧
                                                          q_muP l g' < q_muP l g ∧
                                                            n = n ∧
                                                              false = false ∧
                                                                g.fst + 1 = g'.fst ∧
                                                                  llen l = llen l ∧
                                                                    ((fun i =>
                                                                          V.ag
                                                                            [V.bo (lget l i stp0).puts,
                                                                              V.it IntKind.i64 (lget l i stp0).oid,
                                                                              V.ob (lget l i stp0).ob]) =
                                                                        fun i =>
                                                                        V.ag
                                                                          [V.bo (lget l i stp0).puts,
                                                                            V.it IntKind.i64 (lget l i stp0).oid,
                                                                            V.ob (lget l i stp0).ob]) ∧
                                                                      g.snd = g'.snd ∧ g.snd = g'.snd)))) ∧
                              (decide (g.fst < n2i (llen l)) = false → (q_same g.snd g.snd && true) = true))))) := by
  refine ⟨fun _ => rfl, fun h40 => ⟨rfl, fun h => ⟨fun _ => rfl, fun h2 => ?_⟩, fun h => ⟨fun h2 => ?_, fun h2 => ?_⟩⟩⟩
  · exfalso
    simp [q_newOk] at h h2; omega
  · exfalso
    simp [q_newOk] at h h2; omega
  have hn : 1 ≤ n ∧ n ≤ 64 := by simp [q_newOk] at h; exact h
  have hll : llen l ≤ 40 := by
    have := of_decide_eq_false h40
    rw [len_llen] at this; unfold llen; omega
  refine ⟨⟨rfl, by omega, by omega, by omega⟩, fun hs => ?_, fun _ => ⟨⟨(0, q_new n), ⟨Int.le_refl 0, by simp, ?_⟩, rfl, rfl, rfl, rfl, rfl, rfl, rfl⟩, fun g hg => ⟨fun hlt => ?_, fun _ => ?_⟩⟩⟩
  · have : q_same (q_new n) (lrep n.toNat free) = true := by unfold q_same; exact decide_eq_true rfl
    rw [this] at hs; simp at hs
  · simp only [q_new, llen, List.length_replicate]; omega
  · obtain ⟨i, L⟩ := g
    obtain ⟨g0, g1, g2⟩ := hg
    have hlt : i < n2i (llen l) := of_decide_eq_true hlt
    unfold n2i at hlt
    dsimp only at g0 g1 g2 ⊢
    have T : ∀ (F : Nat → V) (A B : List Sx.Obj), A = B → (llen B : Int) = n → inRo IntKind.i64 (i + 1) ∧ ∃ g' : Int × List Sx.Obj, q_invP l n g' ∧ q_muP l g' < q_muP l (i, L) ∧ n = n ∧ false = false ∧ i + 1 = g'.fst ∧ llen l = llen l ∧ F = F ∧ A = g'.snd ∧ B = g'.snd :=
      fun F A B e hB => ⟨by simp only [inRo, inR]; omega, (i + 1, B), ⟨by show 0 ≤ i + 1; omega, by show i + 1 ≤ _; omega, hB⟩, by show llen l - (i + 1).toNat < llen l - i.toNat; omega, rfl, rfl, rfl, rfl, rfl, e, rfl⟩
    generalize lget l i.toNat stp0 = x
    have hin : ∀ {b : Bool}, (!(decide (0 ≤ x.oid) && decide (x.oid < n))) = b → if b then q_has L x.oid = 4 else (0 ≤ x.oid ∧ x.oid < n) ∧ q_has L x.oid = 0 := by
      rintro b rfl
      unfold q_has
      by_cases c : 0 ≤ x.oid ∧ x.oid < n
      · simp [c.1, c.2]; omega
      · have : (!(decide (0 ≤ x.oid) && decide (x.oid < n))) = true := by simp; omega
        rw [this, if_pos rfl, if_neg (by omega), if_pos (by omega)]
    refine ⟨⟨g0, hlt⟩, by omega, fun hp => ⟨fun ht => ?_, fun ht => ?_⟩, fun hp => ⟨fun ht => ?_, fun ht => ?_⟩⟩
    · have h4 : q_has L x.oid = 4 := hin ht
      have e : q_put L x.oid x.ob = 4 := by unfold q_put; rw [h4]; rfl
      refine ⟨rfl, fun hh => ?_, fun _ => T _ _ _ ?_ g2⟩
      · rw [e] at hh; simp at hh
      · unfold q_putL; rw [h4, if_neg (by omega)]
    · obtain ⟨hr, h0⟩ : (0 ≤ x.oid ∧ x.oid < n) ∧ q_has L x.oid = 0 := by simpa using hin ht
      refine ⟨fun hc => ?_, fun hc => ?_⟩
      · have hc : q_ochk x.ob n = 2 := by
          unfold q_ochk at hc ⊢
          split at hc <;> simp_all
        have e : q_put L x.oid x.ob = 2 := by unfold q_put; rw [h0, g2, hc]; rfl
        refine ⟨rfl, fun hh => ?_, fun _ => T _ _ _ ?_ g2⟩
        · rw [e] at hh; simp at hh
        · unfold q_putL; rw [g2, hc, if_neg (by omega)]
      · have hc : q_ochk x.ob n = 0 := by simpa using hc
        have e : q_put L x.oid x.ob = 0 := by unfold q_put; rw [h0, g2, hc]; rfl
        refine ⟨⟨hr.1, by omega⟩, by omega, rfl, fun hh => ?_, fun _ => T _ _ _ ?_ ?_⟩
        · rw [e] at hh; simp at hh
        · unfold q_putL; rw [g2, hc, h0, if_pos ⟨rfl, rfl⟩]
        · simp only [llen, lset, List.length_set] at g2 ⊢; exact g2
    · have h4 : q_has L x.oid = 4 := hin ht
      refine ⟨fun hh => ?_, fun _ => T _ _ _ rfl g2⟩
      unfold q_get at hh
      rw [h4] at hh; simp [oeq] at hh
    · obtain ⟨hr, h0⟩ : (0 ≤ x.oid ∧ x.oid < n) ∧ q_has L x.oid = 0 := by simpa using hin ht
      refine ⟨⟨hr.1, by omega⟩, by omega, fun hh => ?_, fun _ => T _ _ _ rfl g2⟩
      unfold q_get at hh
      rw [h0] at hh; simp [oeq] at hh
  · unfold q_same; simp
theorem cl_oplay (n : Int) (l : List Sx.Stp) : CallTo Try.prog 5 [.it .i64 n, .sa 0] [.arr none 165 (stps l)] (isV (.bo true)) (fun _ _ => False) := vch_call (inl := noInl) (ann := (annL [(5, 10, lpT [0, 1, 4, 5, 7] (fun (g : Int × List Sx.Obj) => [(8, .it .i64 g.1)]) (fun g => [(1, .store tS eS g.2), (2, .arr (some 34) 163 (.ob g.2))]) (q_invP l n) (q_muP l))])) (oks_cons ct_known (oks_cons ct_rochk (oks_cons ct_same (oks_cons ct_get oks_nil)))) (hoks_cons hc_new (hoks_cons hc_put hoks_nil)) (vc_oplay n l) (by kernel_rfl)
end Go.Proofs.Ytccgpnoiageklaa
