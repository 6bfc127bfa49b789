/- The laws of layer 11: trees, chains, what is stored. No condition. The statements vc_.. are printed by a program of the claimant's own. -/
import Derived.Test.YtijgfnpbojfmdaaCtWc
import Derived.Test.YtijgfnpbojfmdaaCtWd
import Derived.Test.YtijgfnpbojfmdaaSpWf
namespace Go.Proofs.Ytijgfnpbojfmdaa
open Go.Sx
set_option maxRecDepth 100000
set_option linter.unusedVariables false
set_option linter.unusedSimpArgs false
theorem hc_made2 : HOK Try.prog 13 (hLit h_made) := hLit_ok hc_made
theorem vc_sback (l : List Sx.Obj) (k v : Key) (a e : Int) (s : ByteArray) (hs : q_strOk s) :
  true = true ∧ True ∧ (q_made l = false → true = true) ∧ (q_made l = true → inRo IntKind.i64 (szI s) ∧ (decide (64 < szI s) = true → true = true) ∧ (decide (64 < szI s) = false → true = true ∧ q_strOk s
    ∧ (q_okL l ∧ q_strOk s) ∧ ((!decide (q_aE l k a (szI s) = 0) || !decide (q_aF l k a (szI s) true = 0)) = true → (q_same (q_stL l k a s) l && true) = true) ∧ ((!decide (q_aE l k a (szI s) = 0) ||
    !decide (q_aF l k a (szI s) true = 0)) = false → ((!decide (q_wE l k a = 0) || !decide (q_uF (q_wR l k a) = 0) || !decide ((q_fP (q_wR l k a)).rights = 0)) = true → false = true) ∧ ((!decide (q_wE l k
    a = 0) || !decide (q_uF (q_wR l k a) = 0) || !decide ((q_fP (q_wR l k a)).rights = 0)) = false → (∃ g, q_inN (llen l) g ∧ s = s ∧ false = false ∧ q_wE l k a = q_wE l k a ∧ q_wE l v e = q_wE l v e ∧
    q_aE l k a (szI s) = q_aE l k a (szI s) ∧ 0 = g ∧ l = l ∧ k = k ∧ v = v ∧ a = a ∧ e = e ∧ q_stL l k a s = q_stL l k a s ∧ q_fP (q_wR l k a) = q_fP (q_wR l k a) ∧ q_fA (q_wR l k a) = q_fA (q_wR l k a) ∧
    q_fK (q_wR l k a) = q_fK (q_wR l k a) ∧ q_fD (q_wR l k a) = q_fD (q_wR l k a) ∧ q_uF (q_wR l k a) = q_uF (q_wR l k a) ∧ q_uK (q_wR l k a) = q_uK (q_wR l k a) ∧ q_uA (q_wR l k a) a = q_uA (q_wR l k a) a
    ∧ q_fP (q_wR l v e) = q_fP (q_wR l v e) ∧ q_fA (q_wR l v e) = q_fA (q_wR l v e) ∧ q_fK (q_wR l v e) = q_fK (q_wR l v e) ∧ q_fD (q_wR l v e) = q_fD (q_wR l v e) ∧ q_uF (q_wR l v e) = q_uF (q_wR l v e) ∧
    q_uK (q_wR l v e) = q_uK (q_wR l v e) ∧ q_uA (q_wR l v e) e = q_uA (q_wR l v e) e ∧ q_aF l k a (szI s) true = q_aF l k a (szI s) true ∧ q_aP l k a (szI s) true = q_aP l k a (szI s) true ∧ q_aA l k a
    (szI s) true = q_aA l k a (szI s) true) ∧ ∀ (g : Int), q_inN (llen l) g → (decide (g < n2i (llen l)) = true → ((!decide (g = (q_fP (q_wR l k a)).oid)) = true → 0 ≤ g ∧ g < ↑(llen l)) ∧ ((!decide (g =
    (q_fP (q_wR l k a)).oid)) = true → g.toNat < llen l) ∧ ((!decide (g = (q_fP (q_wR l k a)).oid) && !oeq (q_get (q_stL l k a s) g) (lget l g.toNat free)) = true → false = true) ∧ ((!decide (g = (q_fP
    (q_wR l k a)).oid) && !oeq (q_get (q_stL l k a s) g) (lget l g.toNat free)) = false → inRo IntKind.i64 (g + 1) ∧ ∃ g', q_inN (llen l) g' ∧ (n2i (llen l) - g').toNat < (n2i (llen l) - g).toNat ∧ s = s ∧
    false = false ∧ q_wE l k a = q_wE l k a ∧ q_wE l v e = q_wE l v e ∧ q_aE l k a (szI s) = q_aE l k a (szI s) ∧ g + 1 = g' ∧ l = l ∧ k = k ∧ v = v ∧ a = a ∧ e = e ∧ q_stL l k a s = q_stL l k a s ∧ q_fP
    (q_wR l k a) = q_fP (q_wR l k a) ∧ q_fA (q_wR l k a) = q_fA (q_wR l k a) ∧ q_fK (q_wR l k a) = q_fK (q_wR l k a) ∧ q_fD (q_wR l k a) = q_fD (q_wR l k a) ∧ q_uF (q_wR l k a) = q_uF (q_wR l k a) ∧ q_uK
    (q_wR l k a) = q_uK (q_wR l k a) ∧ q_uA (q_wR l k a) a = q_uA (q_wR l k a) a ∧ q_fP (q_wR l v e) = q_fP (q_wR l v e) ∧ q_fA (q_wR l v e) = q_fA (q_wR l v e) ∧ q_fK (q_wR l v e) = q_fK (q_wR l v e) ∧
    q_fD (q_wR l v e) = q_fD (q_wR l v e) ∧ q_uF (q_wR l v e) = q_uF (q_wR l v e) ∧ q_uK (q_wR l v e) = q_uK (q_wR l v e) ∧ q_uA (q_wR l v e) e = q_uA (q_wR l v e) e ∧ q_aF l k a (szI s) true = q_aF l k a
    (szI s) true ∧ q_aP l k a (szI s) true = q_aP l k a (szI s) true ∧ q_aA l k a (szI s) true = q_aA l k a (szI s) true)) ∧ (decide (g < n2i (llen l)) = false → inRo IntKind.i64 (szI s) ∧ ((!steq (q_ldS
    (q_stL l k a s) k a (szI s)) s || !decide (q_aF (q_stL l k a s) k a (szI s) false = 0) || !decide (q_aE (q_stL l k a s) k a (szI s) = 0)) = true → false = true) ∧ ((!steq (q_ldS (q_stL l k a s) k a
    (szI s)) s || !decide (q_aF (q_stL l k a s) k a (szI s) false = 0) || !decide (q_aE (q_stL l k a s) k a (szI s) = 0)) = false → ((decide (q_wE l v e = 0) && decide (q_uF (q_wR l v e) = 0) && decide
    ((q_fP (q_wR l v e)).oid = (q_fP (q_wR l k a)).oid) && decide (q_fA (q_wR l v e) = q_fA (q_wR l k a))) = true → inRo IntKind.i64 (szI s) ∧ (steq (q_ldS (q_stL l k a s) v e (szI s)) s && decide (q_aF
    (q_stL l k a s) v e (szI s) false = 0) && decide (q_aE (q_stL l k a s) v e (szI s) = 0) && true) = true) ∧ ((decide (q_wE l v e = 0) && decide (q_uF (q_wR l v e) = 0) && decide ((q_fP (q_wR l v e)).oid
    = (q_fP (q_wR l k a)).oid) && decide (q_fA (q_wR l v e) = q_fA (q_wR l k a))) = false → true = true))))))) := by
  simp only [keq_self, steq_self, oeq_self, same_self, decide_true, Bool.and_true, Bool.not_true, Bool.or_false, Bool.not_false, Bool.false_eq_true, Bool.true_eq_false, false_implies, implies_true, true_implies, true_and, and_true, and_self]
  rw [aC_not]
  refine fun hm => ?_
  have hsz : inRo IntKind.i64 (szI s) := by unfold q_strOk at hs; simp only [inRo, inR, szI]; omega
  have hL := (made_ok hm).1
  have hlen := (made_ok hm).2
  refine ⟨hsz, fun _ => ⟨hs, ⟨hL, hs⟩, fun hc => ?_, fun hc => ?_⟩⟩
  · rw [Bool.not_eq_true'] at hc
    rw [stL_no hc, same_self]
  rw [Bool.not_eq_false'] at hc
  obtain ⟨⟨b1, b2, b3⟩, b4, ⟨b5, b6, b7⟩, b8⟩ := sback_facts (v := v) (e := e) hc
  simp only [b1, b2, b3, b5, b6, b7, steq_self, decide_true, Bool.not_true, Bool.or_false, Bool.false_eq_true, false_implies, true_implies, true_and]
  refine ⟨⟨0, ⟨by omega, by omega⟩, rfl⟩, fun g hg => ⟨fun hlt => ?_, fun _ => ⟨hsz, fun h => ⟨hsz, ?_⟩⟩⟩⟩
  · obtain ⟨g0, g1⟩ := hg
    have hlt : g < (llen l : Int) := of_decide_eq_true hlt
    have hl : (llen l : Int) = (l.length : Int) := rfl
    refine ⟨fun _ => ⟨g0, hlt⟩, fun _ => by omega, fun h => ?_, fun _ => ⟨by simp only [inRo, inR]; omega, g + 1, ⟨by omega, by omega⟩, by unfold n2i; omega, rfl⟩⟩
    rw [Bool.and_eq_true, Bool.not_eq_true', decide_eq_false_iff_not] at h
    rw [b4 g h.1 g0 (by omega), oeq_self] at h
    simp at h
  · simp only [Bool.and_eq_true, decide_eq_true_eq] at h
    obtain ⟨⟨⟨h1, h2⟩, h3⟩, h4⟩ := h
    obtain ⟨c1, c2, c3⟩ := b8 h1 h2 h3 h4
    rw [c1, c2, c3, steq_self]; rfl
theorem cl_sback (l : List Sx.Obj) (k v : Key) (a e : Int) (s : ByteArray) (hs : q_strOk s) : CallTo Try.prog 7 [.sa 0, .ag [.key k, .key v, .it .i64 a, .it .i64 e], .st s] [.ro (.arr none 163 (.ob l))] (isV (.bo true)) (fun _ _ => False) :=
  vch_call (inl := noInl) (ann := (annL [(7, 12, lpG [0, 2, 4, 6, 7, 8, 9, 10, 11, 12, 13, 14, 15] (fun g => [(16, .it .i64 g)]) (q_inN (llen l)) (n2i (llen l)))])) (oks_cons ct_known (oks_cons ct_same (oks_cons ct_ld (oks_cons ct_walk (oks_cons ct_get oks_nil))))) (hoks_cons hc_made (hoks_cons hc_sst hoks_nil)) (vc_sback l k v a e s hs) (by kernel_rfl)
theorem vc_stree (x y a p q : Int) :
  ((decide (x < 0) || decide (13 < x) || decide (y < 0) || decide (13 < y) || decide (a < 0) || decide (63 < a) || decide (p < 0) || decide (7 < p) || decide (q < 0) || decide (7 < q)) = true → true =
    true) ∧ ((decide (x < 0) || decide (13 < x) || decide (y < 0) || decide (13 < y) || decide (a < 0) || decide (63 < a) || decide (p < 0) || decide (7 < p) || decide (q < 0) || decide (7 < q)) = false →
    (0 ≤ x ∧ x < ↑16) ∧ (0 ≤ y ∧ y < ↑16) ∧ true = true ∧ True ∧ (q_made (q_trL x y q) = false → inRo IntKind.i64 (x * 1024) ∧ inRo IntKind.i64 (y * 64) ∧ inRo IntKind.i64 (x * 1024 + y * 64) ∧ inRo
    IntKind.i64 (q_trA x y a) ∧ true = true ∧ q_strOk q_z1 ∧ ((!decide (q_wE [] (q_trK p) (q_trA x y a) = 0) || !decide (q_aE [] (q_trK p) (q_trA x y a) (szI q_z1) = 0) || !decide (q_uF (q_wR [] (q_trK p)
    (q_trA x y a)) = 0) || !decide ((q_fP (q_wR [] (q_trK p) (q_trA x y a))).oid = 2) || !decide (q_fA (q_wR [] (q_trK p) (q_trA x y a)) = a) || !decide (q_fD (q_wR [] (q_trK p) (q_trA x y a)) = 2) ||
    !(!decide ((q_fP (q_wR [] (q_trK p) (q_trA x y a))).rights = 0)) == (!decide (bitsI BinOp.and IntKind.i64 p 3 = 0) || !decide (bitsI BinOp.and IntKind.i64 q 3 = 0))) = true → false = true) ∧ ((!decide
    (q_wE [] (q_trK p) (q_trA x y a) = 0) || !decide (q_aE [] (q_trK p) (q_trA x y a) (szI q_z1) = 0) || !decide (q_uF (q_wR [] (q_trK p) (q_trA x y a)) = 0) || !decide ((q_fP (q_wR [] (q_trK p) (q_trA x y
    a))).oid = 2) || !decide (q_fA (q_wR [] (q_trK p) (q_trA x y a)) = a) || !decide (q_fD (q_wR [] (q_trK p) (q_trA x y a)) = 2) || !(!decide ((q_fP (q_wR [] (q_trK p) (q_trA x y a))).rights = 0)) ==
    (!decide (bitsI BinOp.and IntKind.i64 p 3 = 0) || !decide (bitsI BinOp.and IntKind.i64 q 3 = 0))) = false → (decide (q_aF [] (q_trK p) (q_trA x y a) (szI q_z1) true = 6) == (!decide (bitsI BinOp.and
    IntKind.i64 p 3 = 0) || !decide (bitsI BinOp.and IntKind.i64 q 3 = 0)) && true) = true)) ∧ (q_made (q_trL x y q) = true → inRo IntKind.i64 (x * 1024) ∧ inRo IntKind.i64 (y * 64) ∧ inRo IntKind.i64 (x *
    1024 + y * 64) ∧ inRo IntKind.i64 (q_trA x y a) ∧ true = true ∧ q_strOk q_z1 ∧ (q_okL (q_trL x y q) ∧ q_strOk q_z1) ∧ ((!decide (q_wE (q_trL x y q) (q_trK p) (q_trA x y a) = 0) || !decide (q_aE (q_trL
    x y q) (q_trK p) (q_trA x y a) (szI q_z1) = 0) || !decide (q_uF (q_wR (q_trL x y q) (q_trK p) (q_trA x y a)) = 0) || !decide ((q_fP (q_wR (q_trL x y q) (q_trK p) (q_trA x y a))).oid = 2) || !decide
    (q_fA (q_wR (q_trL x y q) (q_trK p) (q_trA x y a)) = a) || !decide (q_fD (q_wR (q_trL x y q) (q_trK p) (q_trA x y a)) = 2) || !(!decide ((q_fP (q_wR (q_trL x y q) (q_trK p) (q_trA x y a))).rights = 0))
    == (!decide (bitsI BinOp.and IntKind.i64 p 3 = 0) || !decide (bitsI BinOp.and IntKind.i64 q 3 = 0))) = true → false = true) ∧ ((!decide (q_wE (q_trL x y q) (q_trK p) (q_trA x y a) = 0) || !decide (q_aE
    (q_trL x y q) (q_trK p) (q_trA x y a) (szI q_z1) = 0) || !decide (q_uF (q_wR (q_trL x y q) (q_trK p) (q_trA x y a)) = 0) || !decide ((q_fP (q_wR (q_trL x y q) (q_trK p) (q_trA x y a))).oid = 2) ||
    !decide (q_fA (q_wR (q_trL x y q) (q_trK p) (q_trA x y a)) = a) || !decide (q_fD (q_wR (q_trL x y q) (q_trK p) (q_trA x y a)) = 2) || !(!decide ((q_fP (q_wR (q_trL x y q) (q_trK p) (q_trA x y
    a))).rights = 0)) == (!decide (bitsI BinOp.and IntKind.i64 p 3 = 0) || !decide (bitsI BinOp.and IntKind.i64 q 3 = 0))) = false → (decide (q_aF (q_trL x y q) (q_trK p) (q_trA x y a) (szI q_z1) true = 6)
    == (!decide (bitsI BinOp.and IntKind.i64 p 3 = 0) || !decide (bitsI BinOp.and IntKind.i64 q 3 = 0)) && true) = true))) := by
  simp only [keq_self, steq_self, oeq_self, same_self, decide_true, Bool.and_true, Bool.not_true, Bool.or_false, Bool.not_false, Bool.false_eq_true, Bool.true_eq_false, false_implies, implies_true, true_implies, true_and, and_true, and_self]
  intro hb
  simp only [Bool.or_eq_false_iff, decide_eq_false_iff_not] at hb
  obtain ⟨⟨⟨⟨⟨⟨⟨⟨⟨x0, x1⟩, y0⟩, y1⟩, a0⟩, a1⟩, p0⟩, p1⟩, q0⟩, q1⟩ := hb
  have hm := trL_made (x := x) (y := y) (q := q) (by omega) (by omega) (by omega) (by omega) (by omega) (by omega)
  obtain ⟨hE, hR⟩ := tr_walk (x := x) (y := y) (a := a) (p := p) (q := q) (by omega) (by omega) (by omega) (by omega) (by omega) (by omega) (by omega) (by omega) (by omega) (by omega)
  obtain ⟨_, r1, r2⟩ := tr_r (p := p) (q := q) (by omega) (by omega) (by omega) (by omega)
  have hL := (made_ok hm).1
  have hz : szI q_z1 = 1 := rfl
  have hE1 : q_aE (q_trL x y q) (q_trK p) (q_trA x y a) (szI q_z1) = 0 := aE_0 hE (by rw [hz]; rfl)
  have hk : (q_wR (q_trL x y q) (q_trK p) (q_trA x y a)).kd = 0 := by rw [hR]
  have h5 : ¬ 64 < (q_wR (q_trL x y q) (q_trK p) (q_trA x y a)).adr + szI q_z1 := by rw [hR, hz]; show ¬ 64 < a + 1; omega
  have hF : decide (q_aF (q_trL x y q) (q_trK p) (q_trA x y a) (szI q_z1) true = 6) = !decide (q_trR p q = 0) := by
    by_cases e : q_trR p q = 0
    · rw [aF_0 hE1 hk h5 (by rw [hR]; show (true && !decide (q_trR p q = 0)) = false; rw [e]; rfl), e]; rfl
    · rw [aF_6 hE1 hk h5 (by rw [hR]; show (true && !decide (q_trR p q = 0)) = true; simpa using e)]; simp [e]
  have hfP : (q_fP (q_wR (q_trL x y q) (q_trK p) (q_trA x y a))).oid = 2 := by rw [hR]; rfl
  have hfR : (q_fP (q_wR (q_trL x y q) (q_trK p) (q_trA x y a))).rights = q_trR p q := by rw [hR]; rfl
  have hfA : q_fA (q_wR (q_trL x y q) (q_trK p) (q_trA x y a)) = a := by rw [hR]; rfl
  have hfD : q_fD (q_wR (q_trL x y q) (q_trK p) (q_trA x y a)) = 2 := by rw [hR]; rfl
  have huF : q_uF (q_wR (q_trL x y q) (q_trK p) (q_trA x y a)) = 0 := by rw [hR]; rfl
  have hbb : ∀ b : Bool, (b == b) = true := fun b => by cases b <;> rfl
  rw [hm, hE, hE1, hF, hfP, hfR, hfA, hfD, huF, r2]
  refine ⟨⟨by omega, by omega⟩, ⟨by omega, by omega⟩, fun h => by simp at h, fun _ => ⟨?_, ?_, ?_, ?_, by unfold q_strOk; decide, ⟨hL, by unfold q_strOk; decide⟩, fun h => ?_, fun _ => hbb _⟩⟩
  · simp only [inRo, inR]; omega
  · simp only [inRo, inR]; omega
  · simp only [inRo, inR]; omega
  · unfold q_trA; simp only [inRo, inR]; omega
  · rw [hbb] at h; simp at h
theorem cl_stree (x y a p q : Int)  : CallTo Try.prog 5 [.it .i64 x, .it .i64 y, .ag [.it .i64 a, .it .i64 p, .it .i64 q]] [] (isV (.bo true)) (fun _ _ => False) :=
  vch_call (inl := noInl) (ann := noAnn) (oks_cons ct_known (oks_cons ct_walk oks_nil)) (hoks_cons hc_made2 (hoks_cons hc_sst hoks_nil)) (vc_stree x y a p q) (by kernel_rfl)
theorem vc_schain (l : List Lnk) (a r : Int) :
  ((decide (n2i (llen l) < 1) || decide (10 < n2i (llen l)) || decide (a < -2000) || decide (2000 < a) || decide (r < 0) || decide (7 < r)) = true → true = true) ∧ ((decide (n2i (llen l) < 1) || decide
    (10 < n2i (llen l)) || decide (a < -2000) || decide (2000 < a) || decide (r < 0) || decide (7 < r)) = false → (∃ g, q_chK l g ∧ a = a ∧ r = r ∧ false = false ∧ 0 = g ∧ llen l = llen l ∧ (q_lnf l) =
    q_lnf l) ∧ ∀ (g : Int), q_chK l g → (decide (g < n2i (llen l)) = true → (0 ≤ g ∧ g < ↑(llen l)) ∧ g.toNat < llen l ∧ ((!decide ((q_la l g).hgt < 0)) = true → 0 ≤ g ∧ g < ↑(llen l)) ∧ ((!decide ((q_la l
    g).hgt < 0)) = true → g.toNat < llen l) ∧ ((!(decide ((q_la l g).hgt < 0) || decide (9 < (q_la l g).hgt))) = true → 0 ≤ g ∧ g < ↑(llen l)) ∧ ((!(decide ((q_la l g).hgt < 0) || decide (9 < (q_la l
    g).hgt))) = true → g.toNat < llen l) ∧ ((!(decide ((q_la l g).hgt < 0) || decide (9 < (q_la l g).hgt) || decide ((q_la l g).slot < 0))) = true → 0 ≤ g ∧ g < ↑(llen l)) ∧ ((!(decide ((q_la l g).hgt < 0)
    || decide (9 < (q_la l g).hgt) || decide ((q_la l g).slot < 0))) = true → g.toNat < llen l) ∧ ((!(decide ((q_la l g).hgt < 0) || decide (9 < (q_la l g).hgt) || decide ((q_la l g).slot < 0) || decide
    (13 < (q_la l g).slot))) = true → 0 ≤ g ∧ g < ↑(llen l)) ∧ ((!(decide ((q_la l g).hgt < 0) || decide (9 < (q_la l g).hgt) || decide ((q_la l g).slot < 0) || decide (13 < (q_la l g).slot))) = true →
    g.toNat < llen l) ∧ ((!(decide ((q_la l g).hgt < 0) || decide (9 < (q_la l g).hgt) || decide ((q_la l g).slot < 0) || decide (13 < (q_la l g).slot) || decide ((q_la l g).rts < 0))) = true → 0 ≤ g ∧ g <
    ↑(llen l)) ∧ ((!(decide ((q_la l g).hgt < 0) || decide (9 < (q_la l g).hgt) || decide ((q_la l g).slot < 0) || decide (13 < (q_la l g).slot) || decide ((q_la l g).rts < 0))) = true → g.toNat < llen l)
    ∧ ((decide ((q_la l g).hgt < 0) || decide (9 < (q_la l g).hgt) || decide ((q_la l g).slot < 0) || decide (13 < (q_la l g).slot) || decide ((q_la l g).rts < 0) || decide (7 < (q_la l g).rts)) = true →
    true = true) ∧ ((decide ((q_la l g).hgt < 0) || decide (9 < (q_la l g).hgt) || decide ((q_la l g).slot < 0) || decide (13 < (q_la l g).slot) || decide ((q_la l g).rts < 0) || decide (7 < (q_la l
    g).rts)) = false → inRo IntKind.i64 (g + 1) ∧ ∃ g', q_chK l g' ∧ (n2i (llen l) - g').toNat < (n2i (llen l) - g).toNat ∧ a = a ∧ r = r ∧ false = false ∧ g + 1 = g' ∧ llen l = llen l ∧ (q_lnf l) = q_lnf
    l)) ∧ (decide (g < n2i (llen l)) = false → true = true ∧ (∃ g, q_chI l g ∧ Value.slice none 0 0 = Value.slice none 0 0 ∧ 0 = q_chA l g ∧ 0 = g ∧ llen l = llen l ∧ ((q_lnf l) = q_lnf l) ∧ [] = q_chL l
    g) ∧ ∀ (g : Int), q_chI l g → (decide (g < n2i (llen l)) = true → (0 ≤ g ∧ g < ↑(llen l)) ∧ g.toNat < llen l ∧ inRo IntKind.i64 (g + 1) ∧ (0 ≤ g ∧ g < ↑(llen l)) ∧ g.toNat < llen l ∧ inRo IntKind.i64
    (n2i (llen l) - 1) ∧ (decide (g = n2i (llen l) - 1) = true → (0 ≤ g ∧ g < ↑(llen l)) ∧ g.toNat < llen l ∧ (0 ≤ g ∧ g < ↑(llen l)) ∧ g.toNat < llen l ∧ (0 ≤ (q_la l g).slot ∧ (q_la l g).slot < ↑16) ∧ (0
    ≤ g ∧ g < ↑(llen l)) ∧ g.toNat < llen l ∧ ((q_la l g).kept = true → pFit (llen (q_chL l g)) 856 ∧ (0 ≤ g ∧ g < ↑(llen l)) ∧ g.toNat < llen l ∧ (0 ≤ g ∧ g < ↑(llen l)) ∧ g.toNat < llen l ∧ q_eachQ (q_la
    l g).hgt ∧ inRo IntKind.i64 ((q_la l g).slot * q_each (q_la l g).hgt) ∧ inRo IntKind.i64 (q_chA l g + (q_la l g).slot * q_each (q_la l g).hgt) ∧ inRo IntKind.i64 (g + 1) ∧ ∃ g', q_chI l g' ∧ (n2i (llen
    l) - g').toNat < (n2i (llen l) - g).toNat ∧ Value.slice none 0 0 = Value.slice none 0 0 ∧ q_chA l g + (q_la l g).slot * q_each (q_la l g).hgt = q_chA l g' ∧ g + 1 = g' ∧ llen l = llen l ∧ ((q_lnf l) =
    q_lnf l) ∧ lapp (q_chL l g) (Obj.mk 1 1 free.calls (((free.slots.put 15 (Key.mk 1 void.oid void.count void.call void.rights (q_la l g).hgt)).put (q_la l g).slot.toNat (Key.mk 3 (g + 1) 1 void.call
    (bitsI BinOp.and IntKind.i64 (q_la l g).rts 1) void.value)).put 14 (Key.mk 6 g 1 void.call void.rights g)) free.bytes) = q_chL l g') ∧ ((q_la l g).kept = false → pFit (llen (q_chL l g)) 856 ∧ (0 ≤ g ∧
    g < ↑(llen l)) ∧ g.toNat < llen l ∧ (0 ≤ g ∧ g < ↑(llen l)) ∧ g.toNat < llen l ∧ q_eachQ (q_la l g).hgt ∧ inRo IntKind.i64 ((q_la l g).slot * q_each (q_la l g).hgt) ∧ inRo IntKind.i64 (q_chA l g +
    (q_la l g).slot * q_each (q_la l g).hgt) ∧ inRo IntKind.i64 (g + 1) ∧ ∃ g', q_chI l g' ∧ (n2i (llen l) - g').toNat < (n2i (llen l) - g).toNat ∧ Value.slice none 0 0 = Value.slice none 0 0 ∧ q_chA l g +
    (q_la l g).slot * q_each (q_la l g).hgt = q_chA l g' ∧ g + 1 = g' ∧ llen l = llen l ∧ ((q_lnf l) = q_lnf l) ∧ lapp (q_chL l g) (Obj.mk 1 1 free.calls ((free.slots.put 15 (Key.mk 1 void.oid void.count
    void.call void.rights (q_la l g).hgt)).put (q_la l g).slot.toNat (Key.mk 3 (g + 1) 1 void.call (bitsI BinOp.and IntKind.i64 (q_la l g).rts 1) void.value)) free.bytes) = q_chL l g')) ∧ (decide (g = n2i
    (llen l) - 1) = false → (0 ≤ g ∧ g < ↑(llen l)) ∧ g.toNat < llen l ∧ (0 ≤ (q_la l g).slot ∧ (q_la l g).slot < ↑16) ∧ (0 ≤ g ∧ g < ↑(llen l)) ∧ g.toNat < llen l ∧ ((q_la l g).kept = true → pFit (llen
    (q_chL l g)) 856 ∧ (0 ≤ g ∧ g < ↑(llen l)) ∧ g.toNat < llen l ∧ (0 ≤ g ∧ g < ↑(llen l)) ∧ g.toNat < llen l ∧ q_eachQ (q_la l g).hgt ∧ inRo IntKind.i64 ((q_la l g).slot * q_each (q_la l g).hgt) ∧ inRo
    IntKind.i64 (q_chA l g + (q_la l g).slot * q_each (q_la l g).hgt) ∧ inRo IntKind.i64 (g + 1) ∧ ∃ g', q_chI l g' ∧ (n2i (llen l) - g').toNat < (n2i (llen l) - g).toNat ∧ Value.slice none 0 0 =
    Value.slice none 0 0 ∧ q_chA l g + (q_la l g).slot * q_each (q_la l g).hgt = q_chA l g' ∧ g + 1 = g' ∧ llen l = llen l ∧ ((q_lnf l) = q_lnf l) ∧ lapp (q_chL l g) (Obj.mk 1 1 free.calls
    (((free.slots.put 15 (Key.mk 1 void.oid void.count void.call void.rights (q_la l g).hgt)).put (q_la l g).slot.toNat (Key.mk 2 (g + 1) 1 void.call (q_la l g).rts void.value)).put 14 (Key.mk 6 g 1
    void.call void.rights g)) free.bytes) = q_chL l g') ∧ ((q_la l g).kept = false → pFit (llen (q_chL l g)) 856 ∧ (0 ≤ g ∧ g < ↑(llen l)) ∧ g.toNat < llen l ∧ (0 ≤ g ∧ g < ↑(llen l)) ∧ g.toNat < llen l ∧
    q_eachQ (q_la l g).hgt ∧ inRo IntKind.i64 ((q_la l g).slot * q_each (q_la l g).hgt) ∧ inRo IntKind.i64 (q_chA l g + (q_la l g).slot * q_each (q_la l g).hgt) ∧ inRo IntKind.i64 (g + 1) ∧ ∃ g', q_chI l
    g' ∧ (n2i (llen l) - g').toNat < (n2i (llen l) - g).toNat ∧ Value.slice none 0 0 = Value.slice none 0 0 ∧ q_chA l g + (q_la l g).slot * q_each (q_la l g).hgt = q_chA l g' ∧ g + 1 = g' ∧ llen l = llen l
    ∧ ((q_lnf l) = q_lnf l) ∧ lapp (q_chL l g) (Obj.mk 1 1 free.calls ((free.slots.put 15 (Key.mk 1 void.oid void.count void.call void.rights (q_la l g).hgt)).put (q_la l g).slot.toNat (Key.mk 2 (g + 1) 1
    void.call (q_la l g).rts void.value)) free.bytes) = q_chL l g'))) ∧ (decide (g < n2i (llen l)) = false → pFit (llen (q_chL l g)) 856 ∧ true = true ∧ True ∧ (q_made (q_chF l g) = false → inRo
    IntKind.i64 (q_chA l g + a) ∧ inRo IntKind.i64 (q_chA l g + a) ∧ q_okL (q_chF l g) ∧ inRo IntKind.i64 (q_chA l g + a) ∧ true = true ∧ q_strOk q_ab ∧ inRo IntKind.i64 (q_chA l g + a) ∧ true = true ∧
    (q_okL (q_chF l g) ∧ q_strOk q_ab) ∧ (q_aC (q_chF l g) (q_trK r) (q_chA l g + a) (szI q_ab) true = false → (keq (q_fP (q_wR [] (q_trK r) (q_chA l g + a))) (q_fP (q_wR (q_chF l g) (q_trK r) (q_chA l g +
    a))) && (decide (q_fA (q_wR [] (q_trK r) (q_chA l g + a)) = q_fA (q_wR (q_chF l g) (q_trK r) (q_chA l g + a))) && (keq (q_fK (q_wR [] (q_trK r) (q_chA l g + a))) (q_fK (q_wR (q_chF l g) (q_trK r)
    (q_chA l g + a))) && (decide (q_fD (q_wR [] (q_trK r) (q_chA l g + a)) = q_fD (q_wR (q_chF l g) (q_trK r) (q_chA l g + a))) && true))) && (decide (q_uF (q_wR [] (q_trK r) (q_chA l g + a)) = q_uF (q_wR
    (q_chF l g) (q_trK r) (q_chA l g + a))) && (keq (q_uK (q_wR [] (q_trK r) (q_chA l g + a))) (q_uK (q_wR (q_chF l g) (q_trK r) (q_chA l g + a))) && (decide (q_uA (q_wR [] (q_trK r) (q_chA l g + a))
    (q_chA l g + a) = q_uA (q_wR (q_chF l g) (q_trK r) (q_chA l g + a)) (q_chA l g + a)) && true))) && decide (q_wE [] (q_trK r) (q_chA l g + a) = q_wE (q_chF l g) (q_trK r) (q_chA l g + a)) && (decide
    (q_aF [] (q_trK r) (q_chA l g + a) (szI q_ab) true = q_aF (q_chF l g) (q_trK r) (q_chA l g + a) (szI q_ab) true) && (keq (q_aP [] (q_trK r) (q_chA l g + a) (szI q_ab) true) (q_aP (q_chF l g) (q_trK r)
    (q_chA l g + a) (szI q_ab) true) && (decide (q_aA [] (q_trK r) (q_chA l g + a) (szI q_ab) true = q_aA (q_chF l g) (q_trK r) (q_chA l g + a) (szI q_ab) true) && true))) && decide (q_aE [] (q_trK r)
    (q_chA l g + a) (szI q_ab) = q_aE (q_chF l g) (q_trK r) (q_chA l g + a) (szI q_ab)) && q_same [] (q_chF l g) && true) = true) ∧ (q_aC (q_chF l g) (q_trK r) (q_chA l g + a) (szI q_ab) true = true → (keq
    (q_fP (q_wR [] (q_trK r) (q_chA l g + a))) (q_fP (q_wR (q_chF l g) (q_trK r) (q_chA l g + a))) && (decide (q_fA (q_wR [] (q_trK r) (q_chA l g + a)) = q_fA (q_wR (q_chF l g) (q_trK r) (q_chA l g + a)))
    && (keq (q_fK (q_wR [] (q_trK r) (q_chA l g + a))) (q_fK (q_wR (q_chF l g) (q_trK r) (q_chA l g + a))) && (decide (q_fD (q_wR [] (q_trK r) (q_chA l g + a)) = q_fD (q_wR (q_chF l g) (q_trK r) (q_chA l g
    + a))) && true))) && (decide (q_uF (q_wR [] (q_trK r) (q_chA l g + a)) = q_uF (q_wR (q_chF l g) (q_trK r) (q_chA l g + a))) && (keq (q_uK (q_wR [] (q_trK r) (q_chA l g + a))) (q_uK (q_wR (q_chF l g)
    (q_trK r) (q_chA l g + a))) && (decide (q_uA (q_wR [] (q_trK r) (q_chA l g + a)) (q_chA l g + a) = q_uA (q_wR (q_chF l g) (q_trK r) (q_chA l g + a)) (q_chA l g + a)) && true))) && decide (q_wE []
    (q_trK r) (q_chA l g + a) = q_wE (q_chF l g) (q_trK r) (q_chA l g + a)) && (decide (q_aF [] (q_trK r) (q_chA l g + a) (szI q_ab) true = q_aF (q_chF l g) (q_trK r) (q_chA l g + a) (szI q_ab) true) &&
    (keq (q_aP [] (q_trK r) (q_chA l g + a) (szI q_ab) true) (q_aP (q_chF l g) (q_trK r) (q_chA l g + a) (szI q_ab) true) && (decide (q_aA [] (q_trK r) (q_chA l g + a) (szI q_ab) true = q_aA (q_chF l g)
    (q_trK r) (q_chA l g + a) (szI q_ab) true) && true))) && decide (q_aE [] (q_trK r) (q_chA l g + a) (szI q_ab) = q_aE (q_chF l g) (q_trK r) (q_chA l g + a) (szI q_ab)) && q_same [] (q_stL (q_chF l g)
    (q_trK r) (q_chA l g + a) q_ab) && true) = true)) ∧ (q_made (q_chF l g) = true → inRo IntKind.i64 (q_chA l g + a) ∧ inRo IntKind.i64 (q_chA l g + a) ∧ q_okL (q_chF l g) ∧ inRo IntKind.i64 (q_chA l g +
    a) ∧ true = true ∧ q_strOk q_ab ∧ (q_okL (q_chF l g) ∧ q_strOk q_ab) ∧ inRo IntKind.i64 (q_chA l g + a) ∧ true = true ∧ (q_okL (q_chF l g) ∧ q_strOk q_ab) ∧ (q_aC (q_chF l g) (q_trK r) (q_chA l g + a)
    (szI q_ab) true = false → (keq (q_fP (q_wR (q_chF l g) (q_trK r) (q_chA l g + a))) (q_fP (q_wR (q_chF l g) (q_trK r) (q_chA l g + a))) && (decide (q_fA (q_wR (q_chF l g) (q_trK r) (q_chA l g + a)) =
    q_fA (q_wR (q_chF l g) (q_trK r) (q_chA l g + a))) && (keq (q_fK (q_wR (q_chF l g) (q_trK r) (q_chA l g + a))) (q_fK (q_wR (q_chF l g) (q_trK r) (q_chA l g + a))) && (decide (q_fD (q_wR (q_chF l g)
    (q_trK r) (q_chA l g + a)) = q_fD (q_wR (q_chF l g) (q_trK r) (q_chA l g + a))) && true))) && (decide (q_uF (q_wR (q_chF l g) (q_trK r) (q_chA l g + a)) = q_uF (q_wR (q_chF l g) (q_trK r) (q_chA l g +
    a))) && (keq (q_uK (q_wR (q_chF l g) (q_trK r) (q_chA l g + a))) (q_uK (q_wR (q_chF l g) (q_trK r) (q_chA l g + a))) && (decide (q_uA (q_wR (q_chF l g) (q_trK r) (q_chA l g + a)) (q_chA l g + a) = q_uA
    (q_wR (q_chF l g) (q_trK r) (q_chA l g + a)) (q_chA l g + a)) && true))) && decide (q_wE (q_chF l g) (q_trK r) (q_chA l g + a) = q_wE (q_chF l g) (q_trK r) (q_chA l g + a)) && (decide (q_aF (q_chF l g)
    (q_trK r) (q_chA l g + a) (szI q_ab) true = q_aF (q_chF l g) (q_trK r) (q_chA l g + a) (szI q_ab) true) && (keq (q_aP (q_chF l g) (q_trK r) (q_chA l g + a) (szI q_ab) true) (q_aP (q_chF l g) (q_trK r)
    (q_chA l g + a) (szI q_ab) true) && (decide (q_aA (q_chF l g) (q_trK r) (q_chA l g + a) (szI q_ab) true = q_aA (q_chF l g) (q_trK r) (q_chA l g + a) (szI q_ab) true) && true))) && decide (q_aE (q_chF l
    g) (q_trK r) (q_chA l g + a) (szI q_ab) = q_aE (q_chF l g) (q_trK r) (q_chA l g + a) (szI q_ab)) && q_same (q_stL (q_chF l g) (q_trK r) (q_chA l g + a) q_ab) (q_chF l g) && true) = true) ∧ (q_aC (q_chF
    l g) (q_trK r) (q_chA l g + a) (szI q_ab) true = true → (keq (q_fP (q_wR (q_chF l g) (q_trK r) (q_chA l g + a))) (q_fP (q_wR (q_chF l g) (q_trK r) (q_chA l g + a))) && (decide (q_fA (q_wR (q_chF l g)
    (q_trK r) (q_chA l g + a)) = q_fA (q_wR (q_chF l g) (q_trK r) (q_chA l g + a))) && (keq (q_fK (q_wR (q_chF l g) (q_trK r) (q_chA l g + a))) (q_fK (q_wR (q_chF l g) (q_trK r) (q_chA l g + a))) &&
    (decide (q_fD (q_wR (q_chF l g) (q_trK r) (q_chA l g + a)) = q_fD (q_wR (q_chF l g) (q_trK r) (q_chA l g + a))) && true))) && (decide (q_uF (q_wR (q_chF l g) (q_trK r) (q_chA l g + a)) = q_uF (q_wR
    (q_chF l g) (q_trK r) (q_chA l g + a))) && (keq (q_uK (q_wR (q_chF l g) (q_trK r) (q_chA l g + a))) (q_uK (q_wR (q_chF l g) (q_trK r) (q_chA l g + a))) && (decide (q_uA (q_wR (q_chF l g) (q_trK r)
    (q_chA l g + a)) (q_chA l g + a) = q_uA (q_wR (q_chF l g) (q_trK r) (q_chA l g + a)) (q_chA l g + a)) && true))) && decide (q_wE (q_chF l g) (q_trK r) (q_chA l g + a) = q_wE (q_chF l g) (q_trK r)
    (q_chA l g + a)) && (decide (q_aF (q_chF l g) (q_trK r) (q_chA l g + a) (szI q_ab) true = q_aF (q_chF l g) (q_trK r) (q_chA l g + a) (szI q_ab) true) && (keq (q_aP (q_chF l g) (q_trK r) (q_chA l g + a)
    (szI q_ab) true) (q_aP (q_chF l g) (q_trK r) (q_chA l g + a) (szI q_ab) true) && (decide (q_aA (q_chF l g) (q_trK r) (q_chA l g + a) (szI q_ab) true = q_aA (q_chF l g) (q_trK r) (q_chA l g + a) (szI
    q_ab) true) && true))) && decide (q_aE (q_chF l g) (q_trK r) (q_chA l g + a) (szI q_ab) = q_aE (q_chF l g) (q_trK r) (q_chA l g + a) (szI q_ab)) && q_same (q_stL (q_chF l g) (q_trK r) (q_chA l g + a)
    q_ab) (q_stL (q_chF l g) (q_trK r) (q_chA l g + a) q_ab) && true) = true))))) := by
  simp only [keq_self, steq_self, oeq_self, same_self, decide_true, Bool.and_true, Bool.not_true, Bool.or_false, Bool.not_false, Bool.false_eq_true, Bool.true_eq_false, false_implies, implies_true, true_implies, true_and, and_true, and_self]
  intro hb
  simp only [Bool.or_eq_false_iff, decide_eq_false_iff_not] at hb
  obtain ⟨⟨⟨⟨⟨n0, n1⟩, a0⟩, a1⟩, r0⟩, r1⟩ := hb
  have n0 : ¬ (llen l : Int) < 1 := n0
  have n1 : ¬ 10 < (llen l : Int) := n1
  refine ⟨⟨0, ⟨by omega, by omega, fun j hj => absurd hj (by simp)⟩, rfl⟩, fun g hg => ⟨fun hlt => ?_, fun hge => ?_⟩⟩
  · obtain ⟨g0, g1, g2⟩ := hg
    have hlt : g < (llen l : Int) := of_decide_eq_true hlt
    have A : 0 ≤ g ∧ g < (llen l : Int) := ⟨g0, hlt⟩
    have B : g.toNat < llen l := by omega
    refine ⟨A, B, fun _ => A, fun _ => B, fun _ => A, fun _ => B, fun _ => A, fun _ => B, fun _ => A, fun _ => B, fun _ => A, fun _ => B, fun h => ⟨by simp only [inRo, inR]; omega, g + 1, ⟨by omega, by omega, fun j hj => ?_⟩, by unfold n2i; omega, rfl⟩⟩
    simp only [Bool.or_eq_false_iff, decide_eq_false_iff_not] at h
    obtain ⟨⟨⟨⟨⟨h1, h2⟩, h3⟩, h4⟩, h5⟩, h6⟩ := h
    by_cases e : j = g.toNat
    · subst e
      exact ⟨by simpa [q_la] using h1, by simpa [q_la] using h2, by simpa [q_la] using h3, by simpa [q_la] using h4, by simpa [q_la] using h5, by simpa [q_la] using h6⟩
    · exact g2 j (by omega)
  obtain ⟨g0, g1, hl⟩ := hg
  have hge : ¬ g < (llen l : Int) := of_decide_eq_false hge
  have : g = (llen l : Int) := by omega
  subst this
  clear g0 g1 hge
  refine ⟨⟨0, ⟨by omega, by omega⟩, rfl, rfl, rfl⟩, fun g hg => ⟨fun hlt => ?_, fun hge => ?_⟩⟩
  · obtain ⟨g0, g1⟩ := hg
    have hlt : g < (llen l : Int) := of_decide_eq_true hlt
    have A : 0 ≤ g ∧ g < (llen l : Int) := ⟨g0, hlt⟩
    have B : g.toNat < llen l := by omega
    have hk : q_lnkOk (q_la l g) := hl g.toNat (by omega)
    obtain ⟨k1, k2, k3, k4, k5, k6⟩ := hk
    have hS : 0 ≤ (q_la l g).slot ∧ (q_la l g).slot < ((16 : Nat) : Int) := ⟨k3, by omega⟩
    have hin : inRo IntKind.i64 (g + 1) := by simp only [inRo, inR]; omega
    have he := each_le k2
    have hm : 0 ≤ (q_la l g).slot * q_each (q_la l g).hgt := Int.mul_nonneg k3 (by omega)
    have hm2 : (q_la l g).slot * q_each (q_la l g).hgt ≤ 13 * 274877906944 := Int.mul_le_mul k4 he.2 (by omega) (by omega)
    have hc := chA_in hl g.toNat (by omega)
    rw [show ((g.toNat : Nat) : Int) = g by omega] at hc
    have hs := chL_succ (l := l) g0
    have hlen : llen (q_chL l g) = g.toNat := chL_len
    have hfit : pFit (llen (q_chL l g)) 856 := by rw [hlen]; unfold pFit maxLen; omega
    have X1 : inRo IntKind.i64 ((q_la l g).slot * q_each (q_la l g).hgt) := by simp only [inRo, inR]; omega
    have X2 : inRo IntKind.i64 (q_chA l g + (q_la l g).slot * q_each (q_la l g).hgt) := by simp only [inRo, inR]; omega
    have nx : ∀ o, o = q_chO (q_la l g) g (llen l : Int) → ∃ g', q_chI l g' ∧ (n2i (llen l) - g').toNat < (n2i (llen l) - g).toNat ∧ q_chA l g + (q_la l g).slot * q_each (q_la l g).hgt = q_chA l g' ∧ g + 1 = g' ∧ lapp (q_chL l g) o = q_chL l g' := fun o ho => ⟨g + 1, ⟨by omega, by omega⟩, by unfold n2i; omega, chA_succ g0, rfl, by rw [ho]; exact hs⟩
    have hn : inRo IntKind.i64 (n2i (llen l) - 1) := by unfold n2i; simp only [inRo, inR]; omega
    have hQ : q_eachQ (q_la l g).hgt := ⟨k1, k2⟩
    simp only [A, B, hS, hin, hn, hfit, hQ, X1, X2, true_and, and_self]
    refine ⟨fun he => ⟨hS.2, fun kp => nx _ ?_, fun kp => nx _ ?_⟩, fun he => ⟨hS.2, fun kp => nx _ ?_, fun kp => nx _ ?_⟩⟩
    all_goals
      have e := he
      simp only [decide_eq_true_eq, decide_eq_false_iff_not] at e
      have e : _ := e
      unfold n2i at e
      unfold q_chO
      rw [kp]
      first | rw [if_pos e, if_pos e] | rw [if_neg e, if_neg e]
      rfl
  obtain ⟨g0, g1⟩ := hg
  have hge : ¬ g < (llen l : Int) := of_decide_eq_false hge
  have : g = (llen l : Int) := by omega
  subst this
  have hm := chF_made (by omega) (by omega) hl
  have hL := (made_ok hm).1
  have hc := chA_in hl (llen l) (Nat.le_refl _)
  have hin : inRo IntKind.i64 (q_chA l (llen l : Int) + a) := by simp only [inRo, inR]; omega
  have hfit : pFit (llen (q_chL l (llen l : Int))) 856 := by
    have : llen (q_chL l (llen l : Int)) = (llen l : Int).toNat := chL_len
    rw [this]; unfold pFit maxLen; omega
  have hs : q_strOk q_ab := by unfold q_strOk; decide
  refine ⟨hfit, fun h => by rw [hm] at h; simp at h, fun _ => ?_⟩
  simp only [hin, hL, hs, true_and, and_self]
  refine fun hc => ?_
  rw [stL_no hc, same_self]; rfl
theorem cl_schain (l : List Lnk) (a r : Int)  : CallTo Try.prog 6 [.sa 0, .it .i64 a, .it .i64 r] [.ro (.arr none 4 (lnks l))] (isV (.bo true)) (fun _ _ => False) :=
  vch_call (inl := (fun f => f == 18)) (ann := (annL [(6, 4, lpG [0, 1, 2, 6] (fun g => [(7, .it .i64 g)]) (q_chK l) (n2i (llen l))), (18, 4, lpS [0, 2, 3] (fun g => [(5, .it .i64 (q_chA l g)), (6, .it .i64 g)]) 4 tO 163 (fun g => .ob (q_chL l g)) (q_chI l) (n2i (llen l)))])) (oks_cons ct_known (oks_cons ct_same (oks_cons ct_walk (oks_cons ct_rwalk (oks_cons ct_reach oks_nil))))) (hoks_cons hc_made (hoks_cons hc_sst (hoks_cons hc_rst hoks_nil))) (vc_schain l a r) (by kernel_rfl)
end Go.Proofs.Ytijgfnpbojfmdaa
