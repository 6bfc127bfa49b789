/- Layer 11: bytes are loaded and stored, nodes get heights. No condition. The statements vc_.. are printed by a program of the claimant's own. -/
import Derived.Test.YtijgfnpbojfmdaaCtWb
import Derived.Test.YtijgfnpbojfmdaaSpWp
namespace Go.Proofs.Ytijgfnpbojfmdaa
open Go.Sx
set_option maxRecDepth 100000
set_option linter.unusedVariables false
set_option linter.unusedSimpArgs false
theorem vc_acc0 (k : Key) (a : Int) (n : Int) (w : Bool) :
  true = true ∧ (decide (q_size [] = 0) = true → void = q_fP (q_aR [] k a n w) ∧ 0 = q_fA (q_aR [] k a n w) ∧ void = q_fK (q_aR [] k a n w) ∧ 0 = q_fD (q_aR [] k a n w) ∧ 0 = q_aF [] k a n w ∧ void =
    q_aP [] k a n w ∧ 0 = q_aA [] k a n w ∧ 1 = q_aE [] k a n) ∧ (decide (q_size [] = 0) = false → ((!decide (q_chk k = 0) || q_named k && decide (q_size [] ≤ q_oid k)) = true → void = q_fP (q_aR [] k a n
    w) ∧ 0 = q_fA (q_aR [] k a n w) ∧ void = q_fK (q_aR [] k a n w) ∧ 0 = q_fD (q_aR [] k a n w) ∧ 0 = q_aF [] k a n w ∧ void = q_aP [] k a n w ∧ 0 = q_aA [] k a n w ∧ 2 = q_aE [] k a n) ∧ ((!decide (q_chk
    k = 0) || q_named k && decide (q_size [] ≤ q_oid k)) = false → (decide (a < 0) = true → void = q_fP (q_aR [] k a n w) ∧ 0 = q_fA (q_aR [] k a n w) ∧ void = q_fK (q_aR [] k a n w) ∧ 0 = q_fD (q_aR [] k
    a n w) ∧ 0 = q_aF [] k a n w ∧ void = q_aP [] k a n w ∧ 0 = q_aA [] k a n w ∧ 4 = q_aE [] k a n) ∧ (decide (a < 0) = false → ((decide (n < 0) || decide (64 < n)) = true → void = q_fP (q_aR [] k a n w)
    ∧ 0 = q_fA (q_aR [] k a n w) ∧ void = q_fK (q_aR [] k a n w) ∧ 0 = q_fD (q_aR [] k a n w) ∧ 0 = q_aF [] k a n w ∧ void = q_aP [] k a n w ∧ 0 = q_aA [] k a n w ∧ 4 = q_aE [] k a n) ∧ ((decide (n < 0) ||
    decide (64 < n)) = false → ((!decide (q_uF (q_wR [] k a) = 0)) = true → void = q_fP (q_aR [] k a n w) ∧ 0 = q_fA (q_aR [] k a n w) ∧ void = q_fK (q_aR [] k a n w) ∧ 0 = q_fD (q_aR [] k a n w) ∧ q_uF
    (q_wR [] k a) = q_aF [] k a n w ∧ q_uK (q_wR [] k a) = q_aP [] k a n w ∧ q_uA (q_wR [] k a) a = q_aA [] k a n w ∧ 0 = q_aE [] k a n) ∧ ((!decide (q_uF (q_wR [] k a) = 0)) = false → inRo IntKind.i64
    (q_fA (q_wR [] k a) + n) ∧ (decide (64 < q_fA (q_wR [] k a) + n) = true → true = true ∧ void = q_fP (q_aR [] k a n w) ∧ 0 = q_fA (q_aR [] k a n w) ∧ void = q_fK (q_aR [] k a n w) ∧ 0 = q_fD (q_aR [] k
    a n w) ∧ 5 = q_aF [] k a n w ∧ q_fK (q_wR [] k a) = q_aP [] k a n w ∧ a = q_aA [] k a n w ∧ 0 = q_aE [] k a n) ∧ (decide (64 < q_fA (q_wR [] k a) + n) = false → ((w && !decide (bitsI BinOp.and
    IntKind.i64 (q_fP (q_wR [] k a)).rights 1 = 0)) = true → true = true ∧ void = q_fP (q_aR [] k a n w) ∧ 0 = q_fA (q_aR [] k a n w) ∧ void = q_fK (q_aR [] k a n w) ∧ 0 = q_fD (q_aR [] k a n w) ∧ 6 = q_aF
    [] k a n w ∧ q_fK (q_wR [] k a) = q_aP [] k a n w ∧ a = q_aA [] k a n w ∧ 0 = q_aE [] k a n) ∧ ((w && !decide (bitsI BinOp.and IntKind.i64 (q_fP (q_wR [] k a)).rights 1 = 0)) = false → q_fP (q_wR [] k
    a) = q_fP (q_aR [] k a n w) ∧ q_fA (q_wR [] k a) = q_fA (q_aR [] k a n w) ∧ q_fK (q_wR [] k a) = q_fK (q_aR [] k a n w) ∧ q_fD (q_wR [] k a) = q_fD (q_aR [] k a n w) ∧ 0 = q_aF [] k a n w ∧ void = q_aP
    [] k a n w ∧ 0 = q_aA [] k a n w ∧ 0 = q_aE [] k a n))))))) := by
  exact ⟨rfl, fun h => acc_err (aE_w (wE1 h) (by omega)) (by omega), fun h => absurd h (by decide)⟩
theorem vc_acc (L : List Sx.Obj) (k : Key) (a : Int) (n : Int) (w : Bool) :
  true = true ∧ (decide (q_size L = 0) = true → void = q_fP (q_aR L k a n w) ∧ 0 = q_fA (q_aR L k a n w) ∧ void = q_fK (q_aR L k a n w) ∧ 0 = q_fD (q_aR L k a n w) ∧ 0 = q_aF L k a n w ∧ void = q_aP L k
    a n w ∧ 0 = q_aA L k a n w ∧ 1 = q_aE L k a n) ∧ (decide (q_size L = 0) = false → ((!decide (q_chk k = 0) || q_named k && decide (q_size L ≤ q_oid k)) = true → void = q_fP (q_aR L k a n w) ∧ 0 = q_fA
    (q_aR L k a n w) ∧ void = q_fK (q_aR L k a n w) ∧ 0 = q_fD (q_aR L k a n w) ∧ 0 = q_aF L k a n w ∧ void = q_aP L k a n w ∧ 0 = q_aA L k a n w ∧ 2 = q_aE L k a n) ∧ ((!decide (q_chk k = 0) || q_named k
    && decide (q_size L ≤ q_oid k)) = false → (decide (a < 0) = true → void = q_fP (q_aR L k a n w) ∧ 0 = q_fA (q_aR L k a n w) ∧ void = q_fK (q_aR L k a n w) ∧ 0 = q_fD (q_aR L k a n w) ∧ 0 = q_aF L k a n
    w ∧ void = q_aP L k a n w ∧ 0 = q_aA L k a n w ∧ 4 = q_aE L k a n) ∧ (decide (a < 0) = false → ((decide (n < 0) || decide (64 < n)) = true → void = q_fP (q_aR L k a n w) ∧ 0 = q_fA (q_aR L k a n w) ∧
    void = q_fK (q_aR L k a n w) ∧ 0 = q_fD (q_aR L k a n w) ∧ 0 = q_aF L k a n w ∧ void = q_aP L k a n w ∧ 0 = q_aA L k a n w ∧ 4 = q_aE L k a n) ∧ ((decide (n < 0) || decide (64 < n)) = false → ((!decide
    (q_uF (q_wR L k a) = 0)) = true → void = q_fP (q_aR L k a n w) ∧ 0 = q_fA (q_aR L k a n w) ∧ void = q_fK (q_aR L k a n w) ∧ 0 = q_fD (q_aR L k a n w) ∧ q_uF (q_wR L k a) = q_aF L k a n w ∧ q_uK (q_wR L
    k a) = q_aP L k a n w ∧ q_uA (q_wR L k a) a = q_aA L k a n w ∧ 0 = q_aE L k a n) ∧ ((!decide (q_uF (q_wR L k a) = 0)) = false → inRo IntKind.i64 (q_fA (q_wR L k a) + n) ∧ (decide (64 < q_fA (q_wR L k
    a) + n) = true → true = true ∧ void = q_fP (q_aR L k a n w) ∧ 0 = q_fA (q_aR L k a n w) ∧ void = q_fK (q_aR L k a n w) ∧ 0 = q_fD (q_aR L k a n w) ∧ 5 = q_aF L k a n w ∧ q_fK (q_wR L k a) = q_aP L k a
    n w ∧ a = q_aA L k a n w ∧ 0 = q_aE L k a n) ∧ (decide (64 < q_fA (q_wR L k a) + n) = false → ((w && !decide (bitsI BinOp.and IntKind.i64 (q_fP (q_wR L k a)).rights 1 = 0)) = true → true = true ∧ void
    = q_fP (q_aR L k a n w) ∧ 0 = q_fA (q_aR L k a n w) ∧ void = q_fK (q_aR L k a n w) ∧ 0 = q_fD (q_aR L k a n w) ∧ 6 = q_aF L k a n w ∧ q_fK (q_wR L k a) = q_aP L k a n w ∧ a = q_aA L k a n w ∧ 0 = q_aE
    L k a n) ∧ ((w && !decide (bitsI BinOp.and IntKind.i64 (q_fP (q_wR L k a)).rights 1 = 0)) = false → q_fP (q_wR L k a) = q_fP (q_aR L k a n w) ∧ q_fA (q_wR L k a) = q_fA (q_aR L k a n w) ∧ q_fK (q_wR L
    k a) = q_fK (q_aR L k a n w) ∧ q_fD (q_wR L k a) = q_fD (q_aR L k a n w) ∧ 0 = q_aF L k a n w ∧ void = q_aP L k a n w ∧ 0 = q_aA L k a n w ∧ 0 = q_aE L k a n))))))) := by
  refine ⟨rfl, fun h => acc_err (aE_w (wE1 h) (by omega)) (by omega), fun h => ⟨fun h2 => ?_, fun h2 => ⟨fun h3 => ?_, fun h3 => ?_⟩⟩⟩
  · rw [may_q, Bool.not_eq_true'] at h2
    exact acc_err (aE_w (by rw [wE0 h, h2]; rfl) (by omega)) (by omega)
  · rw [may_q, Bool.not_eq_false'] at h2
    exact acc_err (aE_w (by rw [wE0 h, h2, if_pos rfl, if_pos (of_decide_eq_true h3)]) (by omega)) (by omega)
  rw [may_q, Bool.not_eq_false'] at h2
  have hW : q_wE L k a = 0 := by rw [wE0 h, h2, if_pos rfl, if_neg (of_decide_eq_false h3)]
  clear h h2 h3
  refine ⟨fun h => acc_err (aE_r hW h) (by omega), fun h => ?_⟩
  have hE := aE_0 hW h
  refine ⟨fun hk => ?_, fun hk => ?_⟩
  · have hk : q_uF (q_wR L k a) ≠ 0 := by simpa using hk
    have hk : (q_wR L k a).kd ≠ 0 := hk
    obtain ⟨u1, u2, u3⟩ := u_kd (a := a) hk
    rw [u1, u2, u3]
    exact acc_flt hE (aF_w hE hk) hk
  have hk : q_uF (q_wR L k a) = 0 := by simpa using hk
  have hk : (q_wR L k a).kd = 0 := hk
  obtain ⟨⟨e1, e2⟩, e3, e4⟩ := wR_end hW hk
  obtain ⟨f1, f2, f3⟩ := f_kd0 hk
  have hr := page_r1 e1 e2
  obtain ⟨_, n0, n1⟩ := aE_inv hE
  rw [f1, f2, f3]
  rw [and1 hr.1 hr.2]
  refine ⟨by simp only [inRo, inR]; omega, fun h5 => ?_, fun h5 => ⟨fun h6 => ?_, fun h6 => ?_⟩⟩
  · exact ⟨rfl, acc_flt hE (aF_5 hE hk (of_decide_eq_true h5)) (by omega) ⟩
  · exact ⟨rfl, acc_flt hE (aF_6 hE hk (of_decide_eq_false h5) h6) (by omega) ⟩
  · have := acc_fnd hE (aF_0 hE hk (of_decide_eq_false h5) h6)
    rw [f1, f2, f3] at this
    exact this
theorem ct_acc : CtOK Try.prog 36 g_acc :=
  mkR_ok (consA_ok sA_ok (consA_ok kA_ok (consA_ok iA_ok (consA_ok iA_ok (consA_ok bA_ok nilA_ok))))) (fun _ => rfl) fun a hq hok => by
    obtain ⟨S, k, i, n, w, _⟩ := a
    cases S with
    | none => exact vc_call (inl := (fun f => f == 29 || f == 60)) (ann := noAnn) (oks_cons ct_size (oks_cons ct_kchk (oks_cons ct_knames (oks_cons ct_walk oks_nil)))) (vc_acc0 k i n w) (by kernel_rfl)
    | some L => exact vc_call (inl := (fun f => f == 29 || f == 60)) (ann := noAnn) (oks_cons ct_size (oks_cons ct_kchk (oks_cons ct_knames (oks_cons ct_walk oks_nil)))) (vc_acc L k i n w) (by kernel_rfl)
theorem vc_racc (L : List Sx.Obj) (k : Key) (a : Int) (n : Int) (w : Bool) (hL : q_okL L) :
  q_okL L ∧ ((decide (q_wE L k a = 0) && (decide (n < 0) || decide (64 < n))) = true → void = q_fP (q_aR L k a n w) ∧ 0 = q_fA (q_aR L k a n w) ∧ void = q_fK (q_aR L k a n w) ∧ 0 = q_fD (q_aR L k a n w)
    ∧ 0 = q_aF L k a n w ∧ void = q_aP L k a n w ∧ 0 = q_aA L k a n w ∧ 4 = q_aE L k a n) ∧ ((decide (q_wE L k a = 0) && (decide (n < 0) || decide (64 < n))) = false → ((!decide (q_wE L k a = 0) || !decide
    (q_uF (q_wR L k a) = 0)) = true → void = q_fP (q_aR L k a n w) ∧ 0 = q_fA (q_aR L k a n w) ∧ void = q_fK (q_aR L k a n w) ∧ 0 = q_fD (q_aR L k a n w) ∧ q_uF (q_wR L k a) = q_aF L k a n w ∧ q_uK (q_wR L
    k a) = q_aP L k a n w ∧ q_uA (q_wR L k a) a = q_aA L k a n w ∧ q_wE L k a = q_aE L k a n) ∧ ((!decide (q_wE L k a = 0) || !decide (q_uF (q_wR L k a) = 0)) = false → inRo IntKind.i64 (q_fA (q_wR L k a)
    + n) ∧ (decide (64 < q_fA (q_wR L k a) + n) = true → void = q_fP (q_aR L k a n w) ∧ 0 = q_fA (q_aR L k a n w) ∧ void = q_fK (q_aR L k a n w) ∧ 0 = q_fD (q_aR L k a n w) ∧ 5 = q_aF L k a n w ∧ q_fK
    (q_wR L k a) = q_aP L k a n w ∧ a = q_aA L k a n w ∧ 0 = q_aE L k a n) ∧ (decide (64 < q_fA (q_wR L k a) + n) = false → ((w && !decide ((q_fP (q_wR L k a)).rights = 0)) = true → void = q_fP (q_aR L k a
    n w) ∧ 0 = q_fA (q_aR L k a n w) ∧ void = q_fK (q_aR L k a n w) ∧ 0 = q_fD (q_aR L k a n w) ∧ 6 = q_aF L k a n w ∧ q_fK (q_wR L k a) = q_aP L k a n w ∧ a = q_aA L k a n w ∧ 0 = q_aE L k a n) ∧ ((w &&
    !decide ((q_fP (q_wR L k a)).rights = 0)) = false → q_fP (q_wR L k a) = q_fP (q_aR L k a n w) ∧ q_fA (q_wR L k a) = q_fA (q_aR L k a n w) ∧ q_fK (q_wR L k a) = q_fK (q_aR L k a n w) ∧ q_fD (q_wR L k a)
    = q_fD (q_aR L k a n w) ∧ 0 = q_aF L k a n w ∧ void = q_aP L k a n w ∧ 0 = q_aA L k a n w ∧ 0 = q_aE L k a n)))) := by
  refine ⟨hL, fun h => ?_, fun h => ⟨fun h2 => ?_, fun h2 => ?_⟩⟩
  · rw [Bool.and_eq_true, decide_eq_true_eq] at h
    exact acc_err (aE_r h.1 h.2) (by omega)
  · by_cases hW : q_wE L k a = 0
    · rw [decide_eq_true hW, Bool.true_and] at h
      rw [decide_eq_true hW] at h2
      have hE := aE_0 hW h
      have hk : q_uF (q_wR L k a) ≠ 0 := by simpa using h2
      have hk : (q_wR L k a).kd ≠ 0 := hk
      obtain ⟨u1, u2, u3⟩ := u_kd (a := a) hk
      rw [u1, u2, u3, hW]
      exact acc_flt hE (aF_w hE hk) hk
    · have hr : q_wR L k a = wr0 := by unfold q_wR; rw [if_neg hW]
      rw [hr]
      exact acc_err (aE_w rfl hW) hW
  simp only [Bool.or_eq_false_iff, Bool.not_eq_false', decide_eq_true_eq] at h2
  obtain ⟨hW, hk⟩ := h2
  rw [decide_eq_true hW, Bool.true_and] at h
  have hE := aE_0 hW h
  have hk : (q_wR L k a).kd = 0 := hk
  obtain ⟨⟨e1, e2⟩, e3, e4⟩ := wR_end hW hk
  obtain ⟨f1, f2, f3⟩ := f_kd0 hk
  obtain ⟨_, n0, n1⟩ := aE_inv hE
  rw [f1, f2, f3]
  refine ⟨by simp only [inRo, inR]; omega, fun h5 => ?_, fun h5 => ⟨fun h6 => ?_, fun h6 => ?_⟩⟩
  · exact acc_flt hE (aF_5 hE hk (of_decide_eq_true h5)) (by omega)
  · exact acc_flt hE (aF_6 hE hk (of_decide_eq_false h5) h6) (by omega)
  · have := acc_fnd hE (aF_0 hE hk (of_decide_eq_false h5) h6)
    rw [f1, f2, f3] at this
    exact this
theorem ct_racc : CtOK Try.prog 38 g_racc :=
  mkR_ok (consA_ok liA_ok (consA_ok kA_ok (consA_ok iA_ok (consA_ok iA_ok (consA_ok bA_ok nilA_ok))))) (fun _ => rfl) fun a hq hok => by
    obtain ⟨L, k, i, n, w, _⟩ := a
    exact vc_call (inl := noInl) (ann := noAnn) (oks_cons ct_rwalk oks_nil) (vc_racc L k i n w hq) (by kernel_rfl)
theorem vc_rwr (L : List Sx.Obj) (k : Key) (i : Int) (s : ByteArray) (hL : q_okL L) (hs : q_strOk s) :
  (decide (q_page L k true = 0) = true → inRo IntKind.i64 (szI s)) ∧ ((decide (q_page L k true = 0) && !q_inside i (szI s)) = true → q_pwrC L k i s = false ∧ 4 = q_pwrE L k i s) ∧ ((decide (q_page L k
    true = 0) && !q_inside i (szI s)) = false → ((!decide (q_page L k true = 0)) = true → q_pwrC L k i s = false ∧ q_page L k true = q_pwrE L k i s) ∧ ((!decide (q_page L k true = 0)) = false → (0 ≤ k.oid
    ∧ k.oid < ↑(llen L)) ∧ k.oid.toNat < llen L ∧ (∃ g, q_invZ s g ∧ k = k ∧ i = i ∧ s = s ∧ Value.slice none 0 0 = Value.slice none 0 0 ∧ q_page L k true = q_page L k true ∧ 0 = g ∧ L = L ∧ k = k ∧ lget L
    k.oid.toNat free = q_wr L k i s g) ∧ ∀ (g : Int), q_invZ s g → inRo IntKind.i64 (szI s) ∧ (decide (g < szI s) = true → inRo IntKind.i64 (i + g) ∧ pSz s g ∧ (0 ≤ i + g ∧ i + g < ↑64) ∧ inRo IntKind.i64
    (g + 1) ∧ ∃ g', q_invZ s g' ∧ q_muZ s g' < q_muZ s g ∧ k = k ∧ i = i ∧ s = s ∧ Value.slice none 0 0 = Value.slice none 0 0 ∧ q_page L k true = q_page L k true ∧ g + 1 = g' ∧ L = L ∧ k = k ∧ Obj.mk
    (q_wr L k i s g).kind (q_wr L k i s g).count (q_wr L k i s g).calls (q_wr L k i s g).slots ((q_wr L k i s g).bytes.put (i + g).toNat (sat s g.toNat)) = q_wr L k i s g') ∧ (decide (g < szI s) = false →
    q_rputQ L k.oid ∧ q_pwrC L k i s = true ∧ 0 = q_pwrE L k i s ∧ lset L k.oid.toNat (q_wr L k i s g) = q_pwrL L k i s))) := by
  have hsz : inRo IntKind.i64 (szI s) := by unfold q_strOk at hs; simp only [inRo, inR, szI]; omega
  refine ⟨fun _ => hsz, fun h => ?_, fun h => ⟨fun h' => ?_, fun h' => ?_⟩⟩
  · rw [Bool.and_eq_true, decide_eq_true_eq] at h
    obtain ⟨e1, e2⟩ := wr_rng h.1 h.2
    exact ⟨by unfold q_pwrC; rw [← e1]; rfl, e1⟩
  · have h' : q_page L k true ≠ 0 := by simpa using h'
    obtain ⟨e1, e2⟩ := wr_bad (i := i) (z := s) rfl h'
    exact ⟨by unfold q_pwrC; rw [← e1]; simpa using h', e1⟩
  · have h' : q_page L k true = 0 := by simpa using h'
    have hi : (!q_inside i (szI s)) = false := by rw [h'] at h; simpa using h
    have hi' : q_inside i (szI s) = true := by simpa using hi
    obtain ⟨i0, i1, i2, i3⟩ := inside_iff.1 hi'
    have i3 : (s.size : Int) ≤ 64 - i := i3
    have hE : q_pwrE L k i s = 0 := by unfold q_pwrE; rw [if_pos h', hi']; rfl
    obtain ⟨r1, r2, r3, r4⟩ := rputB_ok hL (page_ok h').1
    refine ⟨⟨r2, r3⟩, r4, ⟨0, ⟨by omega, by omega⟩, ?_⟩, fun g hg => ⟨hsz, fun hlt => ?_, fun hge => ?_⟩⟩
    · have hz := wr_zero (L := L) (k := k) (i := i) (s := s)
      repeat' apply And.intro
      all_goals first | with_reducible rfl | exact hz
    · obtain ⟨g0, g1⟩ := hg
      have hlt : g < (s.size : Int) := of_decide_eq_true hlt
      have hs := wr_step (L := L) (k := k) (i := i) (s := s) (g := g) i0 g0 (by omega)
      refine ⟨by simp only [inRo, inR]; omega, ⟨g0, hlt⟩, ⟨by omega, by omega⟩, by simp only [inRo, inR]; omega, g + 1, ⟨by omega, by omega⟩, by unfold q_muZ; omega, ?_⟩
      repeat' apply And.intro
      all_goals first | with_reducible rfl | exact hs
    · obtain ⟨g0, g1⟩ := hg
      have hge : ¬ g < (s.size : Int) := of_decide_eq_false hge
      have hg : g = (s.size : Int) := by omega
      subst hg
      refine ⟨r1, by unfold q_pwrC; simpa using hE, hE.symm, ?_⟩
      unfold q_pwrL
      rw [hE, if_pos rfl]; rfl
theorem cl_rwr (L : List Sx.Obj) (k : Key) (i : Int) (s : ByteArray) (hL : q_okL L) (hs : q_strOk s) : CallTo Try.prog 39 [.sa 0, .key k, .it .i64 i, .st s] [.ro (.arr none 163 (.ob L))] (kLx (q_pwrC L k i s) (q_pwrL L k i s) [.it .i64 (q_pwrE L k i s)]) (fun _ _ => False) :=
  vch_call (inl := noInl) (ann := (annL [(39, 8, lpP [0, 1, 2, 3, 4, 5, 8, 9, 10, 11] (fun g => [(12, .it .i64 g)]) 11 (fun g => .blk tO (.ob (q_wr L k i s g))) (q_invZ s) (q_muZ s))])) (oks_cons ct_page (oks_cons ct_rinside (oks_cons ct_rput oks_nil))) hoks_nil (vc_rwr L k i s hL hs) (by kernel_rfl)
theorem hc_rwr : HOK Try.prog 39 h_rwr :=
  hLx_ok (m := fun x => [.key x.1, .it .i64 x.2.1, .st x.2.2]) rdKIS_ok (fun _ => rfl) (fun _ _ => rfl) fun L x hq => cl_rwr L x.1 x.2.1 x.2.2 hq.1 hq.2
theorem vc_ld0 (k : Key) (a : Int) (n : Int) :
  ((!decide (q_aE [] k a n = 0) || !decide (q_aF [] k a n false = 0)) = true → ByteArray.mk (Array.mk []) = q_ldS [] k a n ∧ q_aF [] k a n false = q_aF [] k a n false ∧ q_aP [] k a n false = q_aP [] k a
    n false ∧ q_aA [] k a n false = q_aA [] k a n false ∧ q_aE [] k a n = q_aE [] k a n) ∧ ((!decide (q_aE [] k a n = 0) || !decide (q_aF [] k a n false = 0)) = false → q_pread [] (q_fP (q_aR [] k a n
    false)) (q_fA (q_aR [] k a n false)) n = q_ldS [] k a n ∧ 0 = q_aF [] k a n false ∧ void = q_aP [] k a n false ∧ 0 = q_aA [] k a n false ∧ 0 = q_aE [] k a n) := by
  rw [aC_not]
  refine ⟨fun h => ⟨?_, rfl, rfl, rfl, rfl⟩, fun h => ?_⟩
  · rw [Bool.not_eq_true'] at h
    unfold q_ldS
    rw [if_neg (by rw [h]; simp)]
  · rw [Bool.not_eq_false'] at h
    have h0 := aC_inv h
    unfold q_ldS q_aP q_aA
    rw [if_pos h, h0.1, h0.2]
    exact ⟨rfl, rfl, rfl, rfl, rfl⟩
theorem vc_ld (L : List Sx.Obj) (k : Key) (a : Int) (n : Int) :
  ((!decide (q_aE L k a n = 0) || !decide (q_aF L k a n false = 0)) = true → ByteArray.mk (Array.mk []) = q_ldS L k a n ∧ q_aF L k a n false = q_aF L k a n false ∧ q_aP L k a n false = q_aP L k a n false
    ∧ q_aA L k a n false = q_aA L k a n false ∧ q_aE L k a n = q_aE L k a n) ∧ ((!decide (q_aE L k a n = 0) || !decide (q_aF L k a n false = 0)) = false → q_pread L (q_fP (q_aR L k a n false)) (q_fA (q_aR
    L k a n false)) n = q_ldS L k a n ∧ 0 = q_aF L k a n false ∧ void = q_aP L k a n false ∧ 0 = q_aA L k a n false ∧ 0 = q_aE L k a n) := by
  rw [aC_not]
  refine ⟨fun h => ⟨?_, rfl, rfl, rfl, rfl⟩, fun h => ?_⟩
  · rw [Bool.not_eq_true'] at h
    unfold q_ldS
    rw [if_neg (by rw [h]; simp)]
  · rw [Bool.not_eq_false'] at h
    have h0 := aC_inv h
    unfold q_ldS q_aP q_aA
    rw [if_pos h, h0.1, h0.2]
    exact ⟨rfl, rfl, rfl, rfl, rfl⟩
theorem ct_ld : CtOK Try.prog 21 g_ld :=
  mkR_ok (consA_ok sA_ok (consA_ok kA_ok (consA_ok iA_ok (consA_ok iA_ok nilA_ok)))) (fun _ => rfl) fun a hq hok => by
    obtain ⟨S, k, i, n, _⟩ := a
    cases S with
    | none => exact vc_call (inl := noInl) (ann := noAnn) (oks_cons ct_acc (oks_cons ct_pread (oks_cons ct_size oks_nil))) (vc_ld0 k i n) (by kernel_rfl)
    | some L => exact vc_call (inl := noInl) (ann := noAnn) (oks_cons ct_acc (oks_cons ct_pread (oks_cons ct_size oks_nil))) (vc_ld L k i n) (by kernel_rfl)
theorem vc_rld (L : List Sx.Obj) (k : Key) (a : Int) (n : Int) (hL : q_okL L) :
  q_okL L ∧ ((!decide (q_aE L k a n = 0) || !decide (q_aF L k a n false = 0)) = true → ByteArray.mk (Array.mk []) = q_ldS L k a n ∧ q_aF L k a n false = q_aF L k a n false ∧ q_aP L k a n false = q_aP L k
    a n false ∧ q_aA L k a n false = q_aA L k a n false ∧ q_aE L k a n = q_aE L k a n) ∧ ((!decide (q_aE L k a n = 0) || !decide (q_aF L k a n false = 0)) = false → true = true ∧ ((decide (q_page L (q_fP
    (q_aR L k a n false)) false = 0) && !q_inside (q_fA (q_aR L k a n false)) n) = true → ByteArray.mk (Array.mk []) = q_ldS L k a n ∧ q_aF L k a n false = q_aF L k a n false ∧ q_aP L k a n false = q_aP L
    k a n false ∧ q_aA L k a n false = q_aA L k a n false ∧ 0 = q_aE L k a n) ∧ ((decide (q_page L (q_fP (q_aR L k a n false)) false = 0) && !q_inside (q_fA (q_aR L k a n false)) n) = false → ((!decide
    (q_page L (q_fP (q_aR L k a n false)) false = 0)) = true → ByteArray.mk (Array.mk []) = q_ldS L k a n ∧ q_aF L k a n false = q_aF L k a n false ∧ q_aP L k a n false = q_aP L k a n false ∧ q_aA L k a n
    false = q_aA L k a n false ∧ 0 = q_aE L k a n) ∧ ((!decide (q_page L (q_fP (q_aR L k a n false)) false = 0)) = false → (0 ≤ (q_fP (q_aR L k a n false)).oid ∧ (q_fP (q_aR L k a n false)).oid < ↑(llen
    L)) ∧ inRo IntKind.i64 (q_fA (q_aR L k a n false) + n) ∧ pSl (q_fA (q_aR L k a n false)) (q_fA (q_aR L k a n false) + n) 64 ∧ (q_fP (q_aR L k a n false)).oid.toNat < llen L ∧ bsub (lget L (q_fP (q_aR L
    k a n false)).oid.toNat free).bytes (q_fA (q_aR L k a n false)).toNat (q_fA (q_aR L k a n false) + n).toNat = q_ldS L k a n ∧ q_aF L k a n false = q_aF L k a n false ∧ q_aP L k a n false = q_aP L k a n
    false ∧ q_aA L k a n false = q_aA L k a n false ∧ 0 = q_aE L k a n))) := by
  rw [aC_not]
  refine ⟨hL, fun h => ⟨?_, rfl, rfl, rfl, rfl⟩, fun h => ?_⟩
  · rw [Bool.not_eq_true'] at h
    unfold q_ldS
    rw [if_neg (by rw [h]; simp)]
  · rw [Bool.not_eq_false'] at h
    have h0 := aC_inv h
    have hC : q_aC L k a n false = true := h
    obtain ⟨⟨p1, p2⟩, p3, p4⟩ := acc_pg hC
    obtain ⟨r1, r2, r3, r4⟩ := rputB_ok hL p1
    obtain ⟨e1, e2, e3, e4⟩ := read_ok p3 (by rw [p4]; rfl)
    refine ⟨rfl, fun h => ?_, fun _ => ⟨fun h => ?_, fun _ => ⟨⟨r2, r3⟩, e1, e2, r4, ?_, rfl, rfl, rfl, h0.1.symm⟩⟩⟩
    · rw [p4] at h; simp at h
    · rw [p3] at h; simp at h
    · unfold q_ldS
      rw [if_pos hC]; exact e3
theorem ct_rld : CtOK Try.prog 23 g_rld :=
  mkR_ok (consA_ok liA_ok (consA_ok kA_ok (consA_ok iA_ok (consA_ok iA_ok nilA_ok)))) (fun _ => rfl) fun a hq hok => by
    obtain ⟨L, k, i, n, _⟩ := a
    exact vc_call (inl := (fun f => f == 44 || f == 45)) (ann := noAnn) (oks_cons ct_racc (oks_cons ct_page (oks_cons ct_rinside oks_nil))) (vc_rld L k i n hq) (by kernel_rfl)
theorem vc_sst0 (k : Key) (a : Int) (s : ByteArray) (hs : q_strOk s) :
  inRo IntKind.i64 (szI s) ∧ ((!decide (q_aE [] k a (szI s) = 0) || !decide (q_aF [] k a (szI s) true = 0)) = true → q_aF [] k a (szI s) true = q_aF [] k a (szI s) true ∧ q_aP [] k a (szI s) true = q_aP
    [] k a (szI s) true ∧ q_aA [] k a (szI s) true = q_aA [] k a (szI s) true ∧ q_aE [] k a (szI s) = q_aE [] k a (szI s)) ∧ ((!decide (q_aE [] k a (szI s) = 0) || !decide (q_aF [] k a (szI s) true = 0)) =
    false → true = true ∧ 0 = q_aF [] k a (szI s) true ∧ void = q_aP [] k a (szI s) true ∧ 0 = q_aA [] k a (szI s) true ∧ 0 = q_aE [] k a (szI s)) := by
  have hsz : inRo IntKind.i64 (szI s) := by unfold q_strOk at hs; simp only [inRo, inR, szI]; omega
  rw [aC_not]
  refine ⟨hsz, fun h => ⟨rfl, rfl, rfl, rfl⟩, fun h => ?_⟩
  rw [Bool.not_eq_false'] at h
  have := (aE_inv (aC_inv h).1).1
  have h1 : q_wE [] k a = 1 := rfl
  omega
theorem vc_sstz (k : Key) (a : Int) (s : ByteArray) (hs : q_strOk s) :
  inRo IntKind.i64 (szI s) ∧ ((!decide (q_aE [] k a (szI s) = 0) || !decide (q_aF [] k a (szI s) true = 0)) = true → q_aF [] k a (szI s) true = q_aF [] k a (szI s) true ∧ q_aP [] k a (szI s) true = q_aP
    [] k a (szI s) true ∧ q_aA [] k a (szI s) true = q_aA [] k a (szI s) true ∧ q_aE [] k a (szI s) = q_aE [] k a (szI s)) ∧ ((!decide (q_aE [] k a (szI s) = 0) || !decide (q_aF [] k a (szI s) true = 0)) =
    false → true = true ∧ False) := by
  have hsz : inRo IntKind.i64 (szI s) := by unfold q_strOk at hs; simp only [inRo, inR, szI]; omega
  rw [aC_not]
  refine ⟨hsz, fun h => ⟨rfl, rfl, rfl, rfl⟩, fun h => ?_⟩
  rw [Bool.not_eq_false'] at h
  have := (aE_inv (aC_inv h).1).1
  have h1 : q_wE [] k a = 1 := rfl
  omega
theorem vc_sst (L : List Sx.Obj) (k : Key) (a : Int) (s : ByteArray) (hL : q_okL L) (hs : q_strOk s) :
  inRo IntKind.i64 (szI s) ∧ ((!decide (q_aE L k a (szI s) = 0) || !decide (q_aF L k a (szI s) true = 0)) = true → (q_aF L k a (szI s) true = q_aF L k a (szI s) true ∧ q_aP L k a (szI s) true = q_aP L k
    a (szI s) true ∧ q_aA L k a (szI s) true = q_aA L k a (szI s) true ∧ q_aE L k a (szI s) = q_aE L k a (szI s)) ∧ L = q_stL L k a s) ∧ ((!decide (q_aE L k a (szI s) = 0) || !decide (q_aF L k a (szI s)
    true = 0)) = false → true = true ∧ (q_okL L ∧ q_strOk s) ∧ (0 = q_aF L k a (szI s) true ∧ void = q_aP L k a (szI s) true ∧ 0 = q_aA L k a (szI s) true ∧ 0 = q_aE L k a (szI s)) ∧ q_pwrL L (q_fP (q_aR L
    k a (szI s) true)) (q_fA (q_aR L k a (szI s) true)) s = q_stL L k a s) := by
  have hsz : inRo IntKind.i64 (szI s) := by unfold q_strOk at hs; simp only [inRo, inR, szI]; omega
  rw [aC_not]
  refine ⟨hsz, fun h => ⟨⟨rfl, rfl, rfl, rfl⟩, ?_⟩, fun h => ?_⟩
  · rw [Bool.not_eq_true'] at h
    unfold q_stL
    rw [if_neg (by rw [h]; simp)]
  · rw [Bool.not_eq_false'] at h
    have h0 := aC_inv h
    refine ⟨rfl, ⟨hL, hs⟩, ?_, ?_⟩
    · unfold q_aP q_aA
      rw [h0.1, h0.2]
      exact ⟨rfl, rfl, rfl, rfl⟩
    · unfold q_stL
      rw [if_pos h]
theorem cl_sst (L : List Sx.Obj) (k : Key) (a : Int) (s : ByteArray) (hL : q_okL L) (hs : q_strOk s) : CallTo Try.prog 17 [.lp 0 0, .key k, .it .i64 a, .st s] [.store tS eS L] (kS2 (.tp [afV L k a (szI s) true, .it .i64 (q_aE L k a (szI s))]) (q_stL L k a s)) (fun _ _ => False) :=
  vch_call (inl := noInl) (ann := noAnn) (oks_cons ct_acc (oks_cons ct_pread (oks_cons ct_size oks_nil))) (hoks_cons hc_pwr hoks_nil) (vc_sst L k a s hL hs) (by kernel_rfl)
theorem hc_sst : HOK Try.prog 17 h_sst :=
  hSr_ok (m := fun x => [.key x.1, .it .i64 x.2.1, .st x.2.2]) rdKIS_ok (fun _ => rfl) (fun _ _ => rfl) (fun x hs => vch_call (inl := noInl) (ann := noAnn) (oks_cons ct_acc (oks_cons ct_pread (oks_cons ct_size oks_nil))) (hoks_cons hc_pwr hoks_nil) (vc_sst0 x.1 x.2.1 x.2.2 hs) (by kernel_rfl)) (fun x hs => vch_call (inl := noInl) (ann := noAnn) (oks_cons ct_acc (oks_cons ct_pread (oks_cons ct_size oks_nil))) (hoks_cons hc_pwr hoks_nil) (vc_sstz x.1 x.2.1 x.2.2 hs) (by kernel_rfl)) fun L x hL => cl_sst L x.1 x.2.1 x.2.2 hL.1 hL.2
theorem vc_rst (L : List Sx.Obj) (k : Key) (a : Int) (s : ByteArray) (hL : q_okL L) (hs : q_strOk s) :
  inRo IntKind.i64 (szI s) ∧ q_okL L ∧ ((!decide (q_aE L k a (szI s) = 0) || !decide (q_aF L k a (szI s) true = 0)) = true → q_aC L k a (szI s) true = false ∧ q_aF L k a (szI s) true = q_aF L k a (szI s)
    true ∧ q_aP L k a (szI s) true = q_aP L k a (szI s) true ∧ q_aA L k a (szI s) true = q_aA L k a (szI s) true ∧ q_aE L k a (szI s) = q_aE L k a (szI s)) ∧ ((!decide (q_aE L k a (szI s) = 0) || !decide
    (q_aF L k a (szI s) true = 0)) = false → true = true ∧ (q_okL L ∧ q_strOk s) ∧ (q_pwrC L (q_fP (q_aR L k a (szI s) true)) (q_fA (q_aR L k a (szI s) true)) s = false → q_aC L k a (szI s) true = false ∧
    q_aF L k a (szI s) true = q_aF L k a (szI s) true ∧ q_aP L k a (szI s) true = q_aP L k a (szI s) true ∧ q_aA L k a (szI s) true = q_aA L k a (szI s) true ∧ 0 = q_aE L k a (szI s)) ∧ (q_pwrC L (q_fP
    (q_aR L k a (szI s) true)) (q_fA (q_aR L k a (szI s) true)) s = true → q_aC L k a (szI s) true = true ∧ (q_aF L k a (szI s) true = q_aF L k a (szI s) true ∧ q_aP L k a (szI s) true = q_aP L k a (szI s)
    true ∧ q_aA L k a (szI s) true = q_aA L k a (szI s) true ∧ 0 = q_aE L k a (szI s)) ∧ q_pwrL L (q_fP (q_aR L k a (szI s) true)) (q_fA (q_aR L k a (szI s) true)) s = q_stL L k a s)) := by
  have hsz : inRo IntKind.i64 (szI s) := by unfold q_strOk at hs; simp only [inRo, inR, szI]; omega
  rw [aC_not]
  refine ⟨hsz, hL, fun h => ⟨?_, rfl, rfl, rfl, rfl⟩, fun h => ?_⟩
  · rw [Bool.not_eq_true'] at h
    exact h
  · rw [Bool.not_eq_false'] at h
    have h0 := aC_inv h
    have hC : q_aC L k a (szI s) true = true := h
    obtain ⟨⟨p1, p2⟩, p3, p4⟩ := acc_pg hC
    have hE : q_pwrE L (q_fP (q_aR L k a (szI s) true)) (q_fA (q_aR L k a (szI s) true)) s = 0 := by unfold q_pwrE; rw [if_pos p3, p4]; rfl
    refine ⟨rfl, ⟨hL, hs⟩, fun h => ?_, fun _ => ⟨hC, ⟨rfl, rfl, rfl, h0.1.symm⟩, ?_⟩⟩
    · unfold q_pwrC at h; rw [hE] at h; simp at h
    · unfold q_stL
      rw [if_pos hC]
theorem cl_rst (L : List Sx.Obj) (k : Key) (a : Int) (s : ByteArray) (hL : q_okL L) (hs : q_strOk s) : CallTo Try.prog 19 [.sa 0, .key k, .it .i64 a, .st s] [.ro (.arr none 163 (.ob L))] (kLx (q_aC L k a (szI s) true) (q_stL L k a s) [afV L k a (szI s) true, .it .i64 (q_aE L k a (szI s))]) (fun _ _ => False) :=
  vch_call (inl := noInl) (ann := noAnn) (oks_cons ct_racc oks_nil) (hoks_cons hc_rwr hoks_nil) (vc_rst L k a s hL hs) (by kernel_rfl)
theorem hc_rst : HOK Try.prog 19 h_rst :=
  hLx_ok (m := fun x => [.key x.1, .it .i64 x.2.1, .st x.2.2]) rdKIS_ok (fun _ => rfl) (fun _ _ => rfl) fun L x hq => cl_rst L x.1 x.2.1 x.2.2 hq.1 hq.2
theorem vc_sfm0 (k : Key) (h0 : Int) :
  (decide (q_size [] = 0) = true → 1 = q_fmE [] k h0) ∧ (decide (q_size [] = 0) = false → ((decide (h0 < 1) || decide (8 < h0)) = true → 2 = q_fmE [] k h0) ∧ ((decide (h0 < 1) || decide (8 < h0)) = false
    → true = true ∧ q_nputE [] k 15 (Key.mk 1 void.oid void.count void.call void.rights h0) = q_fmE [] k h0)) := by
  exact ⟨fun h => rfl, fun h => absurd h (by decide)⟩
theorem vc_sfmz (k : Key) (h0 : Int) :
  (decide (q_size [] = 0) = true → 1 = q_fmE [] k h0) ∧ (decide (q_size [] = 0) = false → ((decide (h0 < 1) || decide (8 < h0)) = true → 2 = q_fmE [] k h0) ∧ ((decide (h0 < 1) || decide (8 < h0)) = false
    → true = true ∧ False)) := by
  exact ⟨fun h => rfl, fun h => absurd h (by decide)⟩
theorem vc_sfm (L : List Sx.Obj) (k : Key) (h0 : Int) (hL : q_okL L) :
  (decide (q_size L = 0) = true → 1 = q_fmE L k h0 ∧ L = q_fmL L k h0) ∧ (decide (q_size L = 0) = false → ((decide (h0 < 1) || decide (8 < h0)) = true → 2 = q_fmE L k h0 ∧ L = q_fmL L k h0) ∧ ((decide
    (h0 < 1) || decide (8 < h0)) = false → true = true ∧ q_okL L ∧ q_nputE L k 15 (Key.mk 1 void.oid void.count void.call void.rights h0) = q_fmE L k h0 ∧ q_nputL L k 15 (Key.mk 1 void.oid void.count
    void.call void.rights h0) = q_fmL L k h0)) := by
  refine ⟨fun h => ?_, fun h => ⟨fun h2 => ?_, fun h2 => ⟨rfl, hL, ?_⟩⟩⟩
  · have h : llen L = 0 := by have := of_decide_eq_true h; unfold q_size at this; omega
    have hE : q_fmE L k h0 = 1 := by unfold q_fmE; rw [if_pos h]
    unfold q_fmL; rw [hE]; exact ⟨rfl, rfl⟩
  · have h : llen L ≠ 0 := by have := of_decide_eq_false h; unfold q_size at this; omega
    have hE : q_fmE L k h0 = 2 := by unfold q_fmE; rw [if_neg h, if_pos (by simpa using h2)]
    unfold q_fmL; rw [hE]; exact ⟨rfl, rfl⟩
  · have h : llen L ≠ 0 := by have := of_decide_eq_false h; unfold q_size at this; omega
    have hE : q_fmE L k h0 = q_nputE L k 15 (q_num h0) := by unfold q_fmE; rw [if_neg h, if_neg (by simpa using h2)]
    refine ⟨hE.symm, ?_⟩
    unfold q_fmL
    rw [hE]
    split
    · rfl
    · rename_i h3
      exact (nput_no rfl h3).2.2
theorem cl_sfm (L : List Sx.Obj) (k : Key) (h0 : Int) (hL : q_okL L) : CallTo Try.prog 22 [.lp 0 0, .key k, .it .i64 h0] [.store tS eS L] (kS2 (.it .i64 (q_fmE L k h0)) (q_fmL L k h0)) (fun _ _ => False) :=
  vch_call (inl := noInl) (ann := noAnn) (oks_cons ct_acc (oks_cons ct_pread (oks_cons ct_size oks_nil))) (hoks_cons hc_nput hoks_nil) (vc_sfm L k h0 hL) (by kernel_rfl)
theorem hc_sfm : HOK Try.prog 22 h_sfm :=
  hSt_ok (m := fun x => kwB.cn x 0) (rdL_ok kwB_ok (fun _ => rfl)) (fun _ => rfl) (fun _ _ => rfl) (fun x  => vch_call (inl := noInl) (ann := noAnn) (oks_cons ct_acc (oks_cons ct_pread (oks_cons ct_size oks_nil))) (hoks_cons hc_nput hoks_nil) (vc_sfm0 x.1 x.2.1) (by kernel_rfl)) (fun x  => vch_call (inl := noInl) (ann := noAnn) (oks_cons ct_acc (oks_cons ct_pread (oks_cons ct_size oks_nil))) (hoks_cons hc_nput hoks_nil) (vc_sfmz x.1 x.2.1) (by kernel_rfl)) fun L x hL _ _ => cl_sfm L x.1 x.2.1 hL
theorem vc_rfm (L : List Sx.Obj) (k : Key) (h0 : Int) (hL : q_okL L) :
  (decide (n2i (llen L) = 0) = true → q_fmC L k h0 = false ∧ 1 = q_fmE L k h0) ∧ (decide (n2i (llen L) = 0) = false → ((decide (h0 < 1) || decide (8 < h0)) = true → q_fmC L k h0 = false ∧ 2 = q_fmE L k
    h0) ∧ ((decide (h0 < 1) || decide (8 < h0)) = false → true = true ∧ ((!decide (q_asked L k 2 true = 0) && false) = true → q_fmC L k h0 = false ∧ 4 = q_fmE L k h0) ∧ ((!decide (q_asked L k 2 true = 0)
    && false) = false → ((decide (q_asked L k 2 true = 0) && !q_may L (Key.mk 1 void.oid void.count void.call void.rights h0)) = true → q_fmC L k h0 = false ∧ 2 = q_fmE L k h0) ∧ ((decide (q_asked L k 2
    true = 0) && !q_may L (Key.mk 1 void.oid void.count void.call void.rights h0)) = false → ((!decide (q_asked L k 2 true = 0)) = true → q_fmC L k h0 = false ∧ q_asked L k 2 true = q_fmE L k h0) ∧
    ((!decide (q_asked L k 2 true = 0)) = false → q_dgotQ L k 15 ∧ (0 ≤ k.oid ∧ k.oid < ↑(llen L)) ∧ k.oid.toNat < llen L ∧ q_rputQ L k.oid ∧ q_fmC L k h0 = true ∧ 0 = q_fmE L k h0 ∧ lset L k.oid.toNat
    (Obj.mk (lget L k.oid.toNat free).kind (lget L k.oid.toNat free).count (lget L k.oid.toNat free).calls ((lget L k.oid.toNat free).slots.put 15 (q_prep L (Key.mk 1 void.oid void.count void.call
    void.rights h0))) (lget L k.oid.toNat free).bytes) = q_fmL L k h0))))) := by
  refine ⟨fun h => ?_, fun h => ⟨fun h2 => ?_, fun h2 => ?_⟩⟩
  · have h : llen L = 0 := by have := of_decide_eq_true h; unfold n2i at this; omega
    have hE : q_fmE L k h0 = 1 := by unfold q_fmE; rw [if_pos h]
    unfold q_fmC; rw [hE]; exact ⟨rfl, rfl⟩
  · have h : llen L ≠ 0 := by have := of_decide_eq_false h; unfold n2i at this; omega
    have hE : q_fmE L k h0 = 2 := by unfold q_fmE; rw [if_neg h, if_pos (by simpa using h2)]
    unfold q_fmC; rw [hE]; exact ⟨rfl, rfl⟩
  · have h : llen L ≠ 0 := by have := of_decide_eq_false h; unfold n2i at this; omega
    have hE : q_fmE L k h0 = q_nputE L k 15 (q_num h0) := by unfold q_fmE; rw [if_neg h, if_neg (by simpa using h2)]
    have hr : ¬ ((15 : Int) < 0 ∨ (15 : Int) < 15) := by omega
    refine ⟨rfl, fun h3 => by simp at h3, fun _ => ⟨fun h3 => ?_, fun h3 => ⟨fun h4 => ?_, fun h4 => ?_⟩⟩⟩
    · rw [Bool.and_eq_true, decide_eq_true_eq, Bool.not_eq_true'] at h3
      obtain ⟨e1, e2, e3⟩ := nput_arg (i := 15) h3.1 hr h3.2
      have hE : q_fmE L k h0 = 2 := hE.trans e1
      unfold q_fmC; rw [hE]; exact ⟨rfl, rfl⟩
    · have h4 : q_asked L k 2 true ≠ 0 := by simpa using h4
      obtain ⟨e1, e2, e3⟩ := nput_bad (i := 15) (v := q_num h0) h4
      have hE := hE.trans e1
      unfold q_fmC; rw [hE]; exact ⟨by simpa using h4, rfl⟩
    · have h4 : q_asked L k 2 true = 0 := by simpa using h4
      have hm : q_may L (Key.mk 1 void.oid void.count void.call void.rights h0) = true := by rw [h4] at h3; simpa using h3
      have hm : q_may L (q_num h0) = true := hm
      obtain ⟨e1, e2, e3⟩ := nput_ok (i := 15) h4 hr hm
      have hE := hE.trans e1
      obtain ⟨r1, r2, r3, r4⟩ := rput_ok hL (asked_ok h4).1
      refine ⟨⟨by omega, by omega, r2, r3⟩, ⟨r2, r3⟩, r4, r1, by unfold q_fmC; rw [hE]; rfl, hE.symm, ?_⟩
      unfold q_fmL
      rw [hE, if_pos rfl, e3]; rfl
theorem cl_rfm (L : List Sx.Obj) (k : Key) (h0 : Int) (hL : q_okL L) : CallTo Try.prog 24 [.sa 0, .key k, .it .i64 h0] [.ro (.arr none 163 (.ob L))] (kLx (q_fmC L k h0) (q_fmL L k h0) [.it .i64 (q_fmE L k h0)]) (fun _ _ => False) :=
  vc_call (inl := (fun f => f == 44 || f == 45)) (ann := noAnn) (oks_cons ct_asked (oks_cons ct_may (oks_cons ct_dgot (oks_cons ct_lprep (oks_cons ct_rput oks_nil))))) (vc_rfm L k h0 hL) (by kernel_rfl)
theorem hc_rfm : HOK Try.prog 24 h_rfm :=
  hLx_ok (m := fun x => kwB.cn x 0) (rdL_ok kwB_ok (fun _ => rfl)) (fun _ => rfl) (fun _ _ => rfl) fun L x hq => cl_rfm L x.1 x.2.1 hq
end Go.Proofs.Ytijgfnpbojfmdaa
