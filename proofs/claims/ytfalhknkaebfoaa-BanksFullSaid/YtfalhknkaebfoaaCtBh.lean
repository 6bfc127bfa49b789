/- The laws of layer 12: a bank that is full. No condition. The statements vc_.. are printed by a program of the claimant's own. -/
import Derived.Test.YtfalhknkaebfoaaCtBf
import Derived.Test.YtfalhknkaebfoaaSpBf
namespace Go.Proofs.Ytfalhknkaebfoaa
open Go.Sx
set_option maxRecDepth 100000
set_option linter.unusedVariables false
set_option linter.unusedSimpArgs false
theorem vc_bfull (n : Int) (x : List Int) :
  ((decide (n < 1) || decide (18 < n) || decide (18 < n2i (llen x))) = true → true = true) ∧ ((decide (n < 1) || decide (18 < n) || decide (18 < n2i (llen x))) = false → (∃ g, q_invFu n x g ∧ n = n ∧ 0 =
    q_fuM x g ∧ 0 = g ∧ x = x ∧ q_fuB n = q_fuB n ∧ [q_fuB n] = q_fuL n x g) ∧ ∀ (g : Int), q_invFu n x g → (decide (g < n) = true → (decide (g < n2i (llen x)) = true → (0 ≤ g ∧ g < ↑(llen x)) ∧ g.toNat <
    llen x ∧ ((!decide (lget x g.toNat 0 < 0)) = true → 0 ≤ g ∧ g < ↑(llen x)) ∧ ((!decide (lget x g.toNat 0 < 0)) = true → g.toNat < llen x) ∧ ((decide (lget x g.toNat 0 < 0) || decide (4294967295 < lget
    x g.toNat 0)) = true → true = true) ∧ ((decide (lget x g.toNat 0 < 0) || decide (4294967295 < lget x g.toNat 0)) = false → (0 ≤ g ∧ g < ↑(llen x)) ∧ g.toNat < llen x ∧ (decide (lget x g.toNat 0 <
    4294967295) = true → inRo IntKind.i64 (q_fuM x g + 1) ∧ pFit (llen (q_fuL n x g)) 856 ∧ inRo IntKind.i64 (g + 1) ∧ ∃ g', q_invFu n x g' ∧ (n - g').toNat < (n - g).toNat ∧ n = n ∧ q_fuM x g + 1 = q_fuM
    x g' ∧ g + 1 = g' ∧ x = x ∧ q_fuB n = q_fuB n ∧ lapp (q_fuL n x g) (Obj.mk free.kind (lget x g.toNat 0) free.calls free.slots free.bytes) = q_fuL n x g') ∧ (decide (lget x g.toNat 0 < 4294967295) =
    false → pFit (llen (q_fuL n x g)) 856 ∧ inRo IntKind.i64 (g + 1) ∧ ∃ g', q_invFu n x g' ∧ (n - g').toNat < (n - g).toNat ∧ n = n ∧ q_fuM x g = q_fuM x g' ∧ g + 1 = g' ∧ x = x ∧ q_fuB n = q_fuB n ∧ lapp
    (q_fuL n x g) (Obj.mk free.kind (lget x g.toNat 0) free.calls free.slots free.bytes) = q_fuL n x g'))) ∧ (decide (g < n2i (llen x)) = false → (decide (free.count < 4294967295) = true → inRo IntKind.i64
    (q_fuM x g + 1) ∧ pFit (llen (q_fuL n x g)) 856 ∧ inRo IntKind.i64 (g + 1) ∧ ∃ g', q_invFu n x g' ∧ (n - g').toNat < (n - g).toNat ∧ n = n ∧ q_fuM x g + 1 = q_fuM x g' ∧ g + 1 = g' ∧ x = x ∧ q_fuB n =
    q_fuB n ∧ lapp (q_fuL n x g) free = q_fuL n x g') ∧ (decide (free.count < 4294967295) = false → pFit (llen (q_fuL n x g)) 856 ∧ inRo IntKind.i64 (g + 1) ∧ ∃ g', q_invFu n x g' ∧ (n - g').toNat < (n -
    g).toNat ∧ n = n ∧ q_fuM x g = q_fuM x g' ∧ g + 1 = g' ∧ x = x ∧ q_fuB n = q_fuB n ∧ lapp (q_fuL n x g) free = q_fuL n x g'))) ∧ (decide (g < n) = false → true = true ∧ True ∧ (q_made (q_fuL n x g) =
    false → false = true) ∧ (q_made (q_fuL n x g) = true → (∃ g_1, q_invFm n x g_1 ∧ q_fuM x g = q_fuM x g ∧ 0 = g_1.snd ∧ 0 = g_1.fst ∧ x = x ∧ q_fuB n = q_fuB n ∧ q_fuL n x g = q_fuL n x g ∧ q_fuL n x g
    = q_fuS (q_fuL n x n) g_1.snd ∧ q_fuK = q_fuK) ∧ ∀ (g_1 : Int × Int), q_invFm n x g_1 → (decide (g_1.fst < q_fuM x g) = true → true = true ∧ q_okL (q_fuS (q_fuL n x n) g_1.snd) ∧ ((!(!decide (q_bmkE
    (q_fuS (q_fuL n x n) g_1.snd) q_fuK 2 = 0) || decide ((q_bmkK (q_fuS (q_fuL n x n) g_1.snd) q_fuK 2).oid ≤ g_1.snd))) = true → 0 ≤ (q_bmkK (q_fuS (q_fuL n x n) g_1.snd) q_fuK 2).oid ∧ (q_bmkK (q_fuS
    (q_fuL n x n) g_1.snd) q_fuK 2).oid < ↑(llen (q_fuL n x g))) ∧ ((!(!decide (q_bmkE (q_fuS (q_fuL n x n) g_1.snd) q_fuK 2 = 0) || decide ((q_bmkK (q_fuS (q_fuL n x n) g_1.snd) q_fuK 2).oid ≤ g_1.snd)))
    = true → (q_bmkK (q_fuS (q_fuL n x n) g_1.snd) q_fuK 2).oid.toNat < llen (q_fuL n x g)) ∧ ((!(!decide (q_bmkE (q_fuS (q_fuL n x n) g_1.snd) q_fuK 2 = 0) || decide ((q_bmkK (q_fuS (q_fuL n x n) g_1.snd)
    q_fuK 2).oid ≤ g_1.snd))) = true → inRo IntKind.i64 ((lget (q_fuL n x g) (q_bmkK (q_fuS (q_fuL n x n) g_1.snd) q_fuK 2).oid.toNat free).count + 1)) ∧ ((!decide (q_bmkE (q_fuS (q_fuL n x n) g_1.snd)
    q_fuK 2 = 0) || decide ((q_bmkK (q_fuS (q_fuL n x n) g_1.snd) q_fuK 2).oid ≤ g_1.snd) || !decide ((q_bmkK (q_fuS (q_fuL n x n) g_1.snd) q_fuK 2).count = (lget (q_fuL n x g) (q_bmkK (q_fuS (q_fuL n x n)
    g_1.snd) q_fuK 2).oid.toNat free).count + 1)) = true → false = true) ∧ ((!decide (q_bmkE (q_fuS (q_fuL n x n) g_1.snd) q_fuK 2 = 0) || decide ((q_bmkK (q_fuS (q_fuL n x n) g_1.snd) q_fuK 2).oid ≤
    g_1.snd) || !decide ((q_bmkK (q_fuS (q_fuL n x n) g_1.snd) q_fuK 2).count = (lget (q_fuL n x g) (q_bmkK (q_fuS (q_fuL n x n) g_1.snd) q_fuK 2).oid.toNat free).count + 1)) = false → inRo IntKind.i64
    (g_1.fst + 1) ∧ ∃ g', q_invFm n x g' ∧ q_muFm n x g' < q_muFm n x g_1 ∧ q_fuM x g = q_fuM x g ∧ (q_bmkK (q_fuS (q_fuL n x n) g_1.snd) q_fuK 2).oid = g'.snd ∧ g_1.fst + 1 = g'.fst ∧ x = x ∧ q_fuB n =
    q_fuB n ∧ q_fuL n x g = q_fuL n x g ∧ q_bmkL (q_fuS (q_fuL n x n) g_1.snd) q_fuK 2 = q_fuS (q_fuL n x n) g'.snd ∧ q_fuK = q_fuK)) ∧ (decide (g_1.fst < q_fuM x g) = false → true = true ∧ q_okL (q_fuS
    (q_fuL n x n) g_1.snd) ∧ true = true ∧ q_okL (fuT n x g_1.snd) ∧ true = true ∧ q_okL (fuU n x g_1.snd) ∧ true = true ∧ true = true ∧ ∀ (r0 : Loop), (∃ g_2, q_invFl (fuV n x n) g_2 ∧ q_size (fuV n x
    g_1.snd) = q_size (fuV n x g_1.snd) ∧ 0 = g_2 ∧ x = x ∧ q_fuB n = q_fuB n ∧ q_fuL n x g = q_fuL n x g ∧ q_fuK = q_fuK ∧ q_bmkK (q_fuS (q_fuL n x n) g_1.snd) q_fuK 1 = q_bmkK (q_fuS (q_fuL n x n)
    g_1.snd) q_fuK 1 ∧ q_bmkK (fuU n x g_1.snd) q_fuK 1 = q_bmkK (fuU n x g_1.snd) q_fuK 1 ∧ 0 = q_fuF (fuV n x n) g_2 ∧ fuV n x g_1.snd = fuV n x g_1.snd ∧ r0 = r0) ∧ ∀ (g_2 : Int), q_invFl (fuV n x n)
    g_2 → (decide (g_2 < q_size (fuV n x g_1.snd)) = true → (0 ≤ g_2 ∧ g_2 < ↑(llen (fuV n x g_1.snd))) ∧ g_2.toNat < llen (fuV n x g_1.snd) ∧ g_2.toNat < llen (fuV n x g_1.snd) ∧ r0 = r0 ∧ r0 = r0 ∧
    ((decide ((lget (fuV n x g_1.snd) g_2.toNat free).kind = 0) && decide ((lget (fuV n x g_1.snd) g_2.toNat free).count < 4294967295)) = true → inRo IntKind.i64 (q_fuF (fuV n x n) g_2 + 1) ∧ r0 = r0 ∧
    inRo IntKind.i64 (g_2 + 1) ∧ ∃ g', q_invFl (fuV n x n) g' ∧ (n2i (llen (fuV n x n)) - g').toNat < (n2i (llen (fuV n x n)) - g_2).toNat ∧ q_size (fuV n x g_1.snd) = q_size (fuV n x g_1.snd) ∧ g_2 + 1 =
    g' ∧ x = x ∧ q_fuB n = q_fuB n ∧ q_fuL n x g = q_fuL n x g ∧ q_fuK = q_fuK ∧ q_bmkK (q_fuS (q_fuL n x n) g_1.snd) q_fuK 1 = q_bmkK (q_fuS (q_fuL n x n) g_1.snd) q_fuK 1 ∧ q_bmkK (fuU n x g_1.snd) q_fuK
    1 = q_bmkK (fuU n x g_1.snd) q_fuK 1 ∧ q_fuF (fuV n x n) g_2 + 1 = q_fuF (fuV n x n) g' ∧ fuV n x g_1.snd = fuV n x g_1.snd ∧ r0 = r0) ∧ ((decide ((lget (fuV n x g_1.snd) g_2.toNat free).kind = 0) &&
    decide ((lget (fuV n x g_1.snd) g_2.toNat free).count < 4294967295)) = false → r0 = r0 ∧ inRo IntKind.i64 (g_2 + 1) ∧ ∃ g', q_invFl (fuV n x n) g' ∧ (n2i (llen (fuV n x n)) - g').toNat < (n2i (llen
    (fuV n x n)) - g_2).toNat ∧ q_size (fuV n x g_1.snd) = q_size (fuV n x g_1.snd) ∧ g_2 + 1 = g' ∧ x = x ∧ q_fuB n = q_fuB n ∧ q_fuL n x g = q_fuL n x g ∧ q_fuK = q_fuK ∧ q_bmkK (q_fuS (q_fuL n x n)
    g_1.snd) q_fuK 1 = q_bmkK (q_fuS (q_fuL n x n) g_1.snd) q_fuK 1 ∧ q_bmkK (fuU n x g_1.snd) q_fuK 1 = q_bmkK (fuU n x g_1.snd) q_fuK 1 ∧ q_fuF (fuV n x n) g_2 = q_fuF (fuV n x n) g' ∧ fuV n x g_1.snd =
    fuV n x g_1.snd ∧ r0 = r0)) ∧ (decide (g_2 < q_size (fuV n x g_1.snd)) = false → (decide (q_bmkE (q_fuS (q_fuL n x n) g_1.snd) q_fuK 1 = 221) && decide (q_brzN (fuT n x g_1.snd) q_fuK = q_fuM x g) &&
    decide (q_bnkE (fuT n x g_1.snd) q_fuK = 0) && (decide (q_bmkE (fuU n x g_1.snd) q_fuK 1 = 0) || decide (q_fuF (fuV n x n) g_2 = 0)) && true) = true))))) := by
  refine ⟨fun _ => rfl, fun h => ?_⟩
  simp only [Bool.or_eq_false_iff, decide_eq_false_iff_not] at h
  obtain ⟨⟨hn1, hn2⟩, hx⟩ := h
  have hn1 : 1 ≤ n := by omega
  have hn2 : n ≤ 18 := by omega
  have hxl : x.length ≤ 18 := by have : ¬ (18 < (x.length : Int)) := hx; omega
  have hr : ∀ y : Int, -1000 ≤ y → y ≤ 5000000000 → inRo IntKind.i64 y := fun y h1 h2 => by simp only [inRo, inR]; omega
  have hfit : ∀ g : Int, 0 ≤ g → g ≤ 18 → pFit (llen (q_fuL n x g)) 856 := fun g h0 h1 => by unfold pFit llen; rw [fuL_len]; simp only [maxLen]; omega
  have hMb : ∀ g : Int, 0 ≤ g → g ≤ 18 → 0 ≤ q_fuM x g ∧ q_fuM x g ≤ 18 := fun g h0 h1 => by
    have := fuM_le (x := x) g.toNat
    rw [show ((g.toNat : Nat) : Int) = g by omega] at this
    omega
  refine ⟨⟨0, ⟨by omega, by omega, fun i hi => by omega⟩, rfl, rfl, rfl, rfl, rfl, rfl⟩, fun g hg => ⟨fun hlt => ?_, fun hge => ?_⟩⟩
  · obtain ⟨g0, g1, g2⟩ := hg
    have hlt := of_decide_eq_true hlt
    have hMg := hMb g g0 (by omega)
    have inv' : (0 ≤ fuC x g.toNat ∧ fuC x g.toNat ≤ 4294967295) → q_invFu n x (g + 1) := fun hv => ⟨by omega, by omega, fun i hi => by
      by_cases e : (i : Int) < g
      · exact g2 i e
      · rw [show i = g.toNat by omega]; exact hv⟩
    refine ⟨fun hc => ?_, fun hc => ?_⟩
    · have hc : g < (x.length : Int) := of_decide_eq_true hc
      have hcv : fuC x g.toNat = lget x g.toNat 0 := by unfold fuC; rw [if_pos (by omega)]
      have hO : Obj.mk free.kind (lget x g.toNat 0) free.calls free.slots free.bytes = fuO x g.toNat := by unfold fuO; rw [hcv]; rfl
      have hgt : g.toNat < llen x := by show g.toNat < x.length; omega
      rw [hO]
      refine ⟨⟨g0, hc⟩, hgt, fun _ => ⟨g0, hc⟩, fun _ => hgt, fun _ => rfl, fun hin => ?_⟩
      simp only [Bool.or_eq_false_iff, decide_eq_false_iff_not] at hin
      have hv := inv' (by rw [hcv]; omega)
      refine ⟨⟨g0, hc⟩, hgt, fun hm => ?_, fun hm => ?_⟩
      · have hm := of_decide_eq_true hm
        exact ⟨hr _ (by omega) (by omega), hfit g g0 (by omega), hr _ (by omega) (by omega), g + 1, hv, by omega, rfl, by rw [fuM_succ g0, if_pos (by rw [hcv]; exact hm)], rfl, rfl, rfl, fuL_app g0⟩
      · have hm := of_decide_eq_false hm
        exact ⟨hfit g g0 (by omega), hr _ (by omega) (by omega), g + 1, hv, by omega, rfl, by rw [fuM_succ g0, if_neg (by rw [hcv]; exact hm)]; omega, rfl, rfl, rfl, fuL_app g0⟩
    · have hc : ¬ g < (x.length : Int) := of_decide_eq_false hc
      have hcv : fuC x g.toNat = 0 := by unfold fuC; rw [if_neg (by omega)]
      have hO : free = fuO x g.toNat := by unfold fuO; rw [hcv]; rfl
      have hv := inv' (by rw [hcv]; omega)
      have hl : lapp (q_fuL n x g) free = q_fuL n x (g + 1) := by rw [hO]; exact fuL_app g0
      refine ⟨fun hm => ?_, fun hm => absurd hm (by decide)⟩
      exact ⟨hr _ (by omega) (by omega), hfit g g0 (by omega), hr _ (by omega) (by omega), g + 1, hv, by omega, rfl, by rw [fuM_succ g0, if_pos (by rw [hcv]; omega)], rfl, rfl, rfl, hl⟩
  · obtain ⟨g0, g1, g2⟩ := hg
    have hge := of_decide_eq_false hge
    have hgn : g = n := by omega
    rw [hgn] at g2
    rw [hgn]
    have hMn := hMb n (by omega) hn2
    refine ⟨rfl, trivial, fun hm => ?_, fun _ => ⟨⟨(0, 0), ⟨by simp, by simp only; omega, rfl⟩, rfl, rfl, rfl, rfl, rfl, rfl, fuS_none, rfl⟩, fun t ht => ⟨fun hlt => ?_, fun hge => ?_⟩⟩⟩
    · rw [fuL_made hn1 hn2 g2] at hm; simp at hm
    · obtain ⟨t0, t1, t2⟩ := ht
      have hlt := of_decide_eq_true hlt
      have hMt := hMb t.2 t0 (by omega)
      obtain ⟨q, q1, q2, q3, q4, q5, q6, q7⟩ := fu_more hn1 hn2 (x := x) t0 t1 (by rw [← t2]; exact hlt)
      have hqn : q.toNat = (q.toNat - 1) + 1 := by omega
      have hcb : (lget (q_fuL n x n) q.toNat free).count = fuC x (q.toNat - 1) := by rw [hqn, fuL_at (by omega)]; rfl
      have hcb2 := g2 (q.toNat - 1) (by omega)
      have hll : llen (q_fuL n x n) = n.toNat + 1 := fuL_len
      rw [q4, q5, q6, q7, hll]
      refine ⟨rfl, fuS_ok hn1 hn2 g2, fun _ => ⟨by omega, by omega⟩, fun _ => by omega, fun _ => hr _ (by rw [hcb]; omega) (by rw [hcb]; omega), fun hbad => ?_, fun _ => ⟨hr _ (by omega) (by omega), (t.1 + 1, q), ⟨by simp only; omega, by simp only; omega, by simp only; omega⟩, by unfold q_muFm; simp only; omega, rfl, rfl, rfl, rfl, rfl, rfl, rfl, rfl⟩⟩
      exfalso
      simp only [Bool.or_eq_true, Bool.not_eq_true', decide_eq_false_iff_not, decide_eq_true_eq, not_true_eq_false, false_or, or_false] at hbad
      omega
    · obtain ⟨t0, t1, t2⟩ := ht
      have hge := of_decide_eq_false hge
      have hM : ¬ q_fuM x t.2 < q_fuM x n := by rw [← t2]; exact hge
      obtain ⟨v1, v2, v3, v4, v5⟩ := fu_end hn1 hn2 t0 t1 hM
      obtain ⟨f1, f2⟩ := fu_full hn1 hn2 (x := x) t0 t1 hM
      have okT : q_okL (fuT n x t.2) := bmkL_ok (fuS_ok hn1 hn2 g2)
      have hsz : q_size (fuV n x n) = n + 1 := by unfold q_size llen; rw [v5]; omega
      have hsl : llen (fuV n x n) = n.toNat + 1 := v5
      rw [v1, f1, v2, v3]
      refine ⟨rfl, fuS_ok hn1 hn2 g2, rfl, okT, rfl, brzL_ok okT, rfl, rfl, fun r0 => ⟨⟨0, ⟨by omega, by omega⟩, (by (repeat' apply And.intro) <;> rfl)⟩, fun j hj => ⟨fun hjl => ?_, fun hjl => ?_⟩⟩⟩
      · obtain ⟨j0, j1⟩ := hj
        have hjl := of_decide_eq_true hjl
        rw [hsz] at hjl
        rw [hsl] at j1
        have hF := fuF_in (V := fuV n x n) j0
        have hu : n2i (llen (fuV n x n)) = n + 1 := by rw [hsl]; unfold n2i; omega
        have hs := fuF_succ (V := fuV n x n) j0
        rw [hu, hsl]
        refine ⟨⟨j0, by omega⟩, by omega, by omega, rfl, rfl, fun hw => ?_, fun hw => ?_⟩
        · have hw : q_isNew (lget (fuV n x n) j.toNat free) = true := hw
          rw [if_pos hw] at hs
          have hx := hs.symm
          refine ⟨hr _ (by omega) (by omega), rfl, hr _ (by omega) (by omega), j + 1, ⟨by omega, by rw [hsl]; omega⟩, by omega, ?_⟩
          (repeat' apply And.intro) <;> first | with_reducible rfl | exact hx
        · have hw : q_isNew (lget (fuV n x n) j.toNat free) = false := hw
          rw [if_neg (by rw [hw]; simp)] at hs
          have hx : q_fuF (fuV n x n) j = q_fuF (fuV n x n) (j + 1) := by omega
          refine ⟨rfl, hr _ (by omega) (by omega), j + 1, ⟨by omega, by rw [hsl]; omega⟩, by omega, ?_⟩
          (repeat' apply And.intro) <;> first | with_reducible rfl | exact hx
      · obtain ⟨j0, j1⟩ := hj
        have hjl := of_decide_eq_false hjl
        rw [hsz] at hjl
        rw [hsl] at j1
        by_cases hE : q_bmkE (fuU n x t.2) q_fuK 1 = 0
        · rw [hE]; simp
        · have := fuF_none (V := fuV n x n) (g := j) fun i hi => v4 hE i (by omega)
          rw [this]; simp
theorem cl_bfull (n : Int) (x : List Int)  : CallTo Try.prog 3 [.it .i64 n, .sa 0] [.ro (.arr none 1 (.it .i64 x))] (isV (.bo true)) (fun _ _ => False) :=
  vch_call (inl := (fun f => f == 18)) (ann := (annL [(3, 8, lpLS [0, 1] (fun g => [(7, .it .i64 (q_fuM x g)), (8, .it .i64 g)]) 6 tO (q_fuL n x) (q_invFu n x) n), (3, 24, lpT [6, 7, 10, 11] (fun (g : Int × Int) => [(12, .it .i64 g.2), (13, .it .i64 g.1)]) (fun g => [(4, .store tS eS (q_fuS (q_fuL n x n) g.2))]) (q_invFm n x) (q_muFm n x)), (36000 + 52, 1, lpR [0, 1, 5] (fun g => [(6, .it .i64 g)]) 8 (fun g => .blk 3 (.it .i64 (q_fuF (fuV n x (q_fuP n x)) g))) (q_invFl (fuV n x (q_fuP n x))) (n2i (llen (fuV n x (q_fuP n x)))))])) (oks_cons ct_known (oks_cons ct_size oks_nil)) (hoks_cons hc_made (hoks_cons hc_bmake (hoks_cons hc_braze hoks_nil))) (vc_bfull n x) (by kernel_rfl)
end Go.Proofs.Ytfalhknkaebfoaa
