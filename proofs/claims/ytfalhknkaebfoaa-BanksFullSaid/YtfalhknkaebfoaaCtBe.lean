/- The laws of layer 12: what they come to. No condition. The statements vc_.. are printed by a program of the claimant's own. -/
import Derived.Test.YtfalhknkaebfoaaCtBd
namespace Go.Proofs.Ytfalhknkaebfoaa
open Go.Sx
set_option maxRecDepth 100000
set_option linter.unusedVariables false
set_option linter.unusedSimpArgs false
theorem vc_bnil (a : Acb) :
  true = true ∧ true = true ∧ true = true ∧ true = true ∧ (decide (q_bmkE [] a.bank a.obj = 1) && decide (q_bdsE [] a.bank a.key = 1) && decide (q_bsE [] a.bank a.num = 1) && decide (q_bnkE [] a.bank =
    1) && decide (q_bnkE [] a.bank = 1) && decide (q_bnkE [] a.bank = 1) && true) = true := by
  have hb : ∀ k, q_bnkE [] k = 1 := fun k => bk1 rfl
  refine ⟨rfl, rfl, rfl, rfl, ?_⟩
  rw [show q_bmkE [] a.bank a.obj = 1 by unfold q_bmkE q_bmkE0; simp [hb], show q_bdsE [] a.bank a.key = 1 from bds_bank (hb _) (by omega), show q_bsE [] a.bank a.num = 1 from bs_bank (hb _) (by omega), hb]
  rfl
theorem cl_bnil (a : Acb) : CallTo Try.prog 6 [acbV a] [] (isV (.bo true)) (fun _ _ => False) := vch_call (inl := noInl) (ann := noAnn) (oks_cons ct_known (oks_cons ct_bowns (oks_cons ct_brange oks_nil))) (hoks_cons hc_bmake (hoks_cons hc_bdes (hoks_cons hc_bsplit (hoks_cons hc_braze hoks_nil)))) (vc_bnil a) (by kernel_rfl)
theorem vc_bspl (l : List Sx.Obj) (k : Key) (n : Int) (x : List Int) :
  true = true ∧ True ∧ (q_made l = false → true = true) ∧ (q_made l = true → (decide (10 < n2i (llen x)) = true → true = true) ∧ (decide (10 < n2i (llen x)) = false → true = true ∧ q_okL l ∧ ((!decide
    (q_bnkE l k = 0) || !decide (q_bsE l k n = 0)) = true → (!decide (q_bsE l k n = 0) && q_same (q_bsL l k n) l && true) = true) ∧ ((!decide (q_bnkE l k = 0) || !decide (q_bsE l k n = 0)) = false →
    ((!(!decide (q_bnkE (q_bsL l k n) k = 0) || !decide (q_bnkE (q_bsL l k n) (q_bsK l k n) = 0) || !decide (q_bnkX (q_bsL l k n) k = q_bnkX l k) || !decide (q_bnkY (q_bsL l k n) (q_bsK l k n) = q_bnkY l
    k))) = true → inRo IntKind.i64 (q_bnkY (q_bsL l k n) k + 1)) ∧ ((!(!decide (q_bnkE (q_bsL l k n) k = 0) || !decide (q_bnkE (q_bsL l k n) (q_bsK l k n) = 0) || !decide (q_bnkX (q_bsL l k n) k = q_bnkX l
    k) || !decide (q_bnkY (q_bsL l k n) (q_bsK l k n) = q_bnkY l k) || !decide (q_bnkX (q_bsL l k n) (q_bsK l k n) = q_bnkY (q_bsL l k n) k + 1))) = true → inRo IntKind.i64 (q_bnkY (q_bsL l k n) (q_bsK l k
    n) - q_bnkX (q_bsL l k n) (q_bsK l k n))) ∧ ((!(!decide (q_bnkE (q_bsL l k n) k = 0) || !decide (q_bnkE (q_bsL l k n) (q_bsK l k n) = 0) || !decide (q_bnkX (q_bsL l k n) k = q_bnkX l k) || !decide
    (q_bnkY (q_bsL l k n) (q_bsK l k n) = q_bnkY l k) || !decide (q_bnkX (q_bsL l k n) (q_bsK l k n) = q_bnkY (q_bsL l k n) k + 1))) = true → inRo IntKind.i64 (q_bnkY (q_bsL l k n) (q_bsK l k n) - q_bnkX
    (q_bsL l k n) (q_bsK l k n) + 1)) ∧ ((!decide (q_bnkE (q_bsL l k n) k = 0) || !decide (q_bnkE (q_bsL l k n) (q_bsK l k n) = 0) || !decide (q_bnkX (q_bsL l k n) k = q_bnkX l k) || !decide (q_bnkY (q_bsL
    l k n) (q_bsK l k n) = q_bnkY l k) || !decide (q_bnkX (q_bsL l k n) (q_bsK l k n) = q_bnkY (q_bsL l k n) k + 1) || !decide (q_bnkY (q_bsL l k n) (q_bsK l k n) - q_bnkX (q_bsL l k n) (q_bsK l k n) + 1 =
    n) || decide ((q_bsK l k n).oid < q_bnkX (q_bsL l k n) k) || decide (q_bnkY (q_bsL l k n) k < (q_bsK l k n).oid)) = true → false = true) ∧ ((!decide (q_bnkE (q_bsL l k n) k = 0) || !decide (q_bnkE
    (q_bsL l k n) (q_bsK l k n) = 0) || !decide (q_bnkX (q_bsL l k n) k = q_bnkX l k) || !decide (q_bnkY (q_bsL l k n) (q_bsK l k n) = q_bnkY l k) || !decide (q_bnkX (q_bsL l k n) (q_bsK l k n) = q_bnkY
    (q_bsL l k n) k + 1) || !decide (q_bnkY (q_bsL l k n) (q_bsK l k n) - q_bnkX (q_bsL l k n) (q_bsK l k n) + 1 = n) || decide ((q_bsK l k n).oid < q_bnkX (q_bsL l k n) k) || decide (q_bnkY (q_bsL l k n)
    k < (q_bsK l k n).oid)) = false → (∃ g, q_invBs l k n x g ∧ q_bnkX (q_bsL l k n) k = q_bnkX (q_bsL l k n) k ∧ q_bnkY (q_bsL l k n) k = q_bnkY (q_bsL l k n) k ∧ q_bnkX (q_bsL l k n) (q_bsK l k n) =
    q_bnkX (q_bsL l k n) (q_bsK l k n) ∧ q_bnkY (q_bsL l k n) (q_bsK l k n) = q_bnkY (q_bsL l k n) (q_bsK l k n) ∧ 0 = g.fst ∧ l = l ∧ x = x ∧ k = k ∧ n = n ∧ q_bsL l k n = g.snd ∧ q_bsK l k n = q_bsK l k
    n) ∧ ∀ (g : Int × List Sx.Obj), q_invBs l k n x g → (decide (g.fst < n2i (llen x)) = true → (pNe 2 ∧ inRo IntKind.i64 (g.fst.tmod 2)) ∧ (decide (g.fst.tmod 2 = 1) = true → (0 ≤ g.fst ∧ g.fst < ↑(llen
    x)) ∧ g.fst.toNat < llen x ∧ true = true ∧ q_okL g.snd ∧ ((decide (q_bmkE g.snd (q_bsK l k n) (lget x g.fst.toNat 0) = 0) && (decide ((q_bmkK g.snd (q_bsK l k n) (lget x g.fst.toNat 0)).oid < q_bnkX
    (q_bsL l k n) (q_bsK l k n)) || decide (q_bnkY (q_bsL l k n) (q_bsK l k n) < (q_bmkK g.snd (q_bsK l k n) (lget x g.fst.toNat 0)).oid))) = true → false = true) ∧ ((decide (q_bmkE g.snd (q_bsK l k n)
    (lget x g.fst.toNat 0) = 0) && (decide ((q_bmkK g.snd (q_bsK l k n) (lget x g.fst.toNat 0)).oid < q_bnkX (q_bsL l k n) (q_bsK l k n)) || decide (q_bnkY (q_bsL l k n) (q_bsK l k n) < (q_bmkK g.snd
    (q_bsK l k n) (lget x g.fst.toNat 0)).oid))) = false → inRo IntKind.i64 (g.fst + 1) ∧ ∃ g', q_invBs l k n x g' ∧ q_muBs x g' < q_muBs x g ∧ q_bnkX (q_bsL l k n) k = q_bnkX (q_bsL l k n) k ∧ q_bnkY
    (q_bsL l k n) k = q_bnkY (q_bsL l k n) k ∧ q_bnkX (q_bsL l k n) (q_bsK l k n) = q_bnkX (q_bsL l k n) (q_bsK l k n) ∧ q_bnkY (q_bsL l k n) (q_bsK l k n) = q_bnkY (q_bsL l k n) (q_bsK l k n) ∧ g.fst + 1
    = g'.fst ∧ l = l ∧ x = x ∧ k = k ∧ n = n ∧ q_bmkL g.snd (q_bsK l k n) (lget x g.fst.toNat 0) = g'.snd ∧ q_bsK l k n = q_bsK l k n)) ∧ (decide (g.fst.tmod 2 = 1) = false → (0 ≤ g.fst ∧ g.fst < ↑(llen
    x)) ∧ g.fst.toNat < llen x ∧ true = true ∧ q_okL g.snd ∧ ((decide (q_bmkE g.snd k (lget x g.fst.toNat 0) = 0) && (decide ((q_bmkK g.snd k (lget x g.fst.toNat 0)).oid < q_bnkX (q_bsL l k n) k) || decide
    (q_bnkY (q_bsL l k n) k < (q_bmkK g.snd k (lget x g.fst.toNat 0)).oid))) = true → false = true) ∧ ((decide (q_bmkE g.snd k (lget x g.fst.toNat 0) = 0) && (decide ((q_bmkK g.snd k (lget x g.fst.toNat
    0)).oid < q_bnkX (q_bsL l k n) k) || decide (q_bnkY (q_bsL l k n) k < (q_bmkK g.snd k (lget x g.fst.toNat 0)).oid))) = false → inRo IntKind.i64 (g.fst + 1) ∧ ∃ g', q_invBs l k n x g' ∧ q_muBs x g' <
    q_muBs x g ∧ q_bnkX (q_bsL l k n) k = q_bnkX (q_bsL l k n) k ∧ q_bnkY (q_bsL l k n) k = q_bnkY (q_bsL l k n) k ∧ q_bnkX (q_bsL l k n) (q_bsK l k n) = q_bnkX (q_bsL l k n) (q_bsK l k n) ∧ q_bnkY (q_bsL
    l k n) (q_bsK l k n) = q_bnkY (q_bsL l k n) (q_bsK l k n) ∧ g.fst + 1 = g'.fst ∧ l = l ∧ x = x ∧ k = k ∧ n = n ∧ q_bmkL g.snd k (lget x g.fst.toNat 0) = g'.snd ∧ q_bsK l k n = q_bsK l k n))) ∧ (decide
    (g.fst < n2i (llen x)) = false → true = true))))) := by
  refine ⟨rfl, trivial, fun _ => rfl, fun hm => ⟨fun _ => rfl, fun hlen => ⟨rfl, (made_ok hm).1, fun h => ?_, fun h => ?_⟩⟩⟩
  · have hE : q_bsE l k n ≠ 0 := fun h0 => by
      by_cases e : q_bnkE l k = 0
      · rw [e, h0] at h; simp at h
      · rw [bsE_bank e] at h0; exact e h0
    rw [show q_bsL l k n = l by unfold q_bsL; rw [if_neg hE], same_self]
    simp [hE]
  · have hL := (made_ok hm).1
    simp only [Bool.or_eq_false_iff, Bool.not_eq_false', decide_eq_true_eq] at h
    obtain ⟨he, hE⟩ := h
    obtain ⟨f1, f2, f3, f4, f5, f6, f7, f8, f9, f10, f11, f12, f13⟩ := bs_facts hL he hE
    obtain ⟨_, a0, a1, a2, a3, a4⟩ := bnk_ok he
    obtain ⟨x1, x2⟩ := okL_len hL
    obtain ⟨y1, y2⟩ := bnkXY he
    obtain ⟨z1, z2⟩ := bnkXY f3
    obtain ⟨w1, w2⟩ := bnkXY f6
    rw [y1, y2, z1, z2, w1, w2, f4, f5, f7, f8, f3, f6]
    have hr : ∀ x : Int, -1000 ≤ x → x ≤ 1000 → inRo IntKind.i64 x := fun x h1 h2 => by simp only [inRo, inR]; omega
    have hlen : (llen x : Int) ≤ 10 := by have := of_decide_eq_false hlen; unfold n2i at this; omega
    refine ⟨fun _ => hr _ (by omega) (by omega), fun _ => hr _ (by omega) (by omega), fun _ => hr _ (by omega) (by omega), fun hc => ?_, fun _ => ⟨⟨(0, q_bsL l k n), ⟨by simp, by simp, f1, f3, rfl, rfl, f6, rfl, rfl⟩, (by (repeat' apply And.intro) <;> rfl)⟩, fun g hg => ⟨fun hlt => ?_, fun _ => rfl⟩⟩⟩
    · exfalso
      simp only [Bool.or_eq_true, Bool.not_eq_true', decide_eq_false_iff_not, decide_eq_true_eq, not_true_eq_false, false_or] at hc
      omega
    · obtain ⟨g0, g1, g2, g3, g4, g5, g6, g7, g8⟩ := hg
      rw [f4] at g4
      rw [f5] at g5
      rw [f7] at g7
      rw [f8] at g8
      have hlt : g.1 < (llen x : Int) := of_decide_eq_true hlt
      have t0 := Int.tmod_nonneg 2 g0
      have t1 := Int.tmod_lt_of_pos g.1 (show (0 : Int) < 2 by omega)
      have inv : ∀ hh c, q_invBs l k n x (g.1 + 1, q_bmkL g.2 hh c) := fun hh c => by
        obtain ⟨b1, b2, b3⟩ := bmk_bnk (k := hh) (kind := c) g3
        obtain ⟨c1, c2, c3⟩ := bmk_bnk (k := hh) (kind := c) g6
        refine ⟨by simp only; omega, by simp only; omega, bmkL_ok g2, b1, ?_, ?_, c1, ?_, ?_⟩
        · rw [f4]; simp only; rw [b2, g4]
        · rw [f5]; simp only; rw [b3, g5]
        · rw [f7]; simp only; rw [c2, g7]
        · rw [f8]; simp only; rw [c3, g8]
      have no : ∀ hh c X Y, q_bnkA g.2 hh = X → q_bnkB g.2 hh = Y → (decide (q_bmkE g.2 hh c = 0) && (decide ((q_bmkK g.2 hh c).oid < X) || decide (Y < (q_bmkK g.2 hh c).oid))) = true → False := fun hh c X Y hX hY hc => by
        simp only [Bool.and_eq_true, Bool.or_eq_true, decide_eq_true_eq] at hc
        obtain ⟨_, _, e1, e2, _⟩ := bmkE_in hc.1
        omega
      have mu : q_muBs x (g.1 + 1, ([] : List Sx.Obj)) < q_muBs x g := by unfold q_muBs; simp only; omega
      refine ⟨⟨by unfold pNe; omega, hr _ (by omega) (by omega)⟩, fun _ => ⟨⟨g0, hlt⟩, by omega, rfl, g2, fun hc => (no _ _ _ _ g7 g8 hc).elim, fun _ => ⟨hr _ (by omega) (by omega), (g.1 + 1, q_bmkL g.2 (q_bsK l k n) (lget x g.1.toNat 0)), inv _ _, mu, (by (repeat' apply And.intro) <;> rfl)⟩⟩, fun _ => ⟨⟨g0, hlt⟩, by omega, rfl, g2, fun hc => (no _ _ _ _ g4 g5 hc).elim, fun _ => ⟨hr _ (by omega) (by omega), (g.1 + 1, q_bmkL g.2 k (lget x g.1.toNat 0)), inv _ _, mu, (by (repeat' apply And.intro) <;> rfl)⟩⟩⟩
theorem cl_bspl (l : List Sx.Obj) (k : Key) (n : Int) (x : List Int)  : CallTo Try.prog 4 [.sa 0, .key k, .ag [.it .i64 n, .sa 1]] [.ro (.arr none 163 (.ob l)), .ro (.arr none 1 (.it .i64 x))] (isV (.bo true)) (fun _ _ => False) :=
  vch_call (inl := noInl) (ann := (annL [(4, 13, lpT [4, 5, 7, 11, 13, 14, 16, 17] (fun (g : Int × List Sx.Obj) => [(19, .it .i64 g.1)]) (fun g => [(4, .store tS eS g.2)]) (q_invBs l k n x) (q_muBs x))])) (oks_cons ct_known (oks_cons ct_brange (oks_cons ct_same oks_nil))) (hoks_cons hc_made (hoks_cons hc_bmake (hoks_cons hc_bsplit hoks_nil))) (vc_bspl l k n x) (by kernel_rfl)
end Go.Proofs.Ytfalhknkaebfoaa
