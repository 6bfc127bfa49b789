/- Contracts of stores: what is read. No condition. The statements vc_.. are printed by a program of the claimant's own. -/
import Derived.Test.YtjpcaplhblomcaaSpS
namespace Go.Proofs.Ytjpcaplhblomcaa
open Go.Sx
set_option maxRecDepth 100000
set_option linter.unusedVariables false
set_option linter.unusedSimpArgs false
theorem vc_none0  :
  true = q_snone [] := by
  rfl
theorem vc_none1 (L : List Sx.Obj) :
  decide (n2i (llen L) = 0) = q_snone L := by
  unfold q_snone n2i llen
  rw [decide_eq_decide]; omega
theorem ct_none : CtOK Try.prog 26 g_none :=
  mkS_ok (fun _ => rfl) (vc_call (inl := noInl) (ann := noAnn) oks_nil vc_none0 (by kernel_rfl)) (fun L _ _ => vc_call (inl := noInl) (ann := noAnn) oks_nil (vc_none1 L) (by kernel_rfl))
theorem vc_has0 (i : Int) :
  (q_snone [] = true → 1 = q_has [] i) ∧
    (q_snone [] = false → ((!decide (i < 0)) = true → False) ∧ ((!decide (i < 0)) = false → 4 = q_has [] i)) := by
  exact ⟨fun _ => rfl, fun h => by simp [snone_nil] at h⟩
theorem vc_has1 (L : List Sx.Obj) (i : Int) :
  (q_snone L = true → 1 = q_has L i) ∧
    (q_snone L = false →
      ((decide (i < 0) || decide (n2i (llen L) ≤ i)) = true → 4 = q_has L i) ∧
        ((decide (i < 0) || decide (n2i (llen L) ≤ i)) = false → 0 = q_has L i)) := by
  refine ⟨fun h => ?_, fun h => ?_⟩
  · rw [snone_iff.1 h]; rfl
  · rw [has_some h]
    unfold n2i llen
    refine ⟨fun h1 => ?_, fun h1 => ?_⟩
    · simp only [Bool.or_eq_true, decide_eq_true_eq] at h1
      rw [if_pos h1]
    · simp only [Bool.or_eq_false_iff, decide_eq_false_iff_not] at h1
      rw [if_neg (by omega)]
theorem ct_has : CtOK Try.prog 38 g_has :=
  mkS1_ok (rI_ok .i64) (fun _ _ => rfl) (fun x _ => vc_call (inl := noInl) (ann := noAnn) (oks_cons ct_none oks_nil) (vc_has0 x) (by kernel_rfl)) (fun L x _ _ _ => vc_call (inl := noInl) (ann := noAnn) (oks_cons ct_none oks_nil) (vc_has1 L x) (by kernel_rfl)) fun _ => rfl
theorem vc_size0  :
  (q_snone [] = true → 0 = q_size []) ∧ (q_snone [] = false → False) := by
  exact ⟨fun _ => rfl, fun h => by simp [snone_nil] at h⟩
theorem vc_size1 (L : List Sx.Obj) :
  (q_snone L = true → 0 = q_size L) ∧ (q_snone L = false → n2i (llen L) = q_size L) := by
  exact ⟨fun h => by rw [snone_iff.1 h]; rfl, fun _ => rfl⟩
theorem ct_size : CtOK Try.prog 33 g_size :=
  mkS_ok (fun _ => rfl) (vc_call (inl := noInl) (ann := noAnn) (oks_cons ct_none oks_nil) vc_size0 (by kernel_rfl)) (fun L _ _ => vc_call (inl := noInl) (ann := noAnn) (oks_cons ct_none oks_nil) (vc_size1 L) (by kernel_rfl))
theorem vc_get0 (i : Int) :
  ((!decide (q_has [] i = 0)) = true → free = q_get [] i ∧ q_has [] i = q_has [] i) ∧
    ((!decide (q_has [] i = 0)) = false → False) := by
  exact ⟨fun _ => ⟨rfl, rfl⟩, fun h => by simp [has_nil] at h⟩
theorem vc_get1 (L : List Sx.Obj) (i : Int) :
  ((!decide (q_has L i = 0)) = true → free = q_get L i ∧ q_has L i = q_has L i) ∧
    ((!decide (q_has L i = 0)) = false →
      (0 ≤ i ∧ i < ↑(llen L)) ∧ i.toNat < llen L ∧ i.toNat < llen L ∧ lget L i.toNat free = q_get L i ∧ 0 = q_has L i) := by
  refine ⟨fun h => ⟨?_, rfl⟩, fun h => ?_⟩
  · unfold q_get
    rw [if_neg (by simpa using h)]
  · have h : q_has L i = 0 := by simpa using h
    have hb := has_ok.1 h
    unfold q_get llen
    rw [if_pos h, h]
    exact ⟨hb, by omega, by omega, rfl, rfl⟩
theorem ct_get : CtOK Try.prog 17 g_get :=
  mkS1_ok (rI_ok .i64) (fun _ _ => rfl) (fun x _ => vc_call (inl := noInl) (ann := noAnn) (oks_cons ct_has oks_nil) (vc_get0 x) (by kernel_rfl)) (fun L x _ _ _ => vc_call (inl := noInl) (ann := noAnn) (oks_cons ct_has oks_nil) (vc_get1 L x) (by kernel_rfl)) fun _ => rfl
theorem vc_named0 (k : Key) :
  ((!q_named k) = true → free = q_nobj [] k ∧ false = q_is [] k) ∧
    ((!q_named k) = false →
      ((!decide (q_has [] (q_oid k) = 0) || !q_counts k (q_get [] (q_oid k))) = true →
          free = q_nobj [] k ∧ false = q_is [] k) ∧
        ((!decide (q_has [] (q_oid k) = 0) || !q_counts k (q_get [] (q_oid k))) = false →
          q_get [] (q_oid k) = q_nobj [] k ∧ true = q_is [] k)) := by
  exact named_law [] k
theorem vc_named1 (L : List Sx.Obj) (k : Key) :
  ((!q_named k) = true → free = q_nobj L k ∧ false = q_is L k) ∧
    ((!q_named k) = false →
      ((!decide (q_has L (q_oid k) = 0) || !q_counts k (q_get L (q_oid k))) = true →
          free = q_nobj L k ∧ false = q_is L k) ∧
        ((!decide (q_has L (q_oid k) = 0) || !q_counts k (q_get L (q_oid k))) = false →
          q_get L (q_oid k) = q_nobj L k ∧ true = q_is L k)) := by
  exact named_law L k
theorem ct_named : CtOK Try.prog 29 g_named :=
  mkS1_ok rK_ok (fun _ _ => rfl) (fun x _ => vc_call (inl := noInl) (ann := noAnn) (oks_cons ct_knames (oks_cons ct_get (oks_cons ct_kcounts oks_nil))) (vc_named0 x) (by kernel_rfl)) (fun L x _ _ _ => vc_call (inl := noInl) (ann := noAnn) (oks_cons ct_knames (oks_cons ct_get (oks_cons ct_kcounts oks_nil))) (vc_named1 L x) (by kernel_rfl)) fun _ => rfl
theorem vc_prep0 (k : Key) :
  ((q_snone [] || !decide (q_chk k = 0)) = true → void = q_prep [] k) ∧
    ((q_snone [] || !decide (q_chk k = 0)) = false →
      ((q_named k && !q_is [] k) = true → void = q_prep [] k) ∧ ((q_named k && !q_is [] k) = false → k = q_prep [] k)) := by
  exact prep_law [] k
theorem vc_prep1 (L : List Sx.Obj) (k : Key) :
  ((q_snone L || !decide (q_chk k = 0)) = true → void = q_prep L k) ∧
    ((q_snone L || !decide (q_chk k = 0)) = false →
      ((q_named k && !q_is L k) = true → void = q_prep L k) ∧ ((q_named k && !q_is L k) = false → k = q_prep L k)) := by
  exact prep_law L k
theorem ct_prep : CtOK Try.prog 12 g_prep :=
  mkS1_ok rK_ok (fun _ _ => rfl) (fun x _ => vc_call (inl := noInl) (ann := noAnn) (oks_cons ct_none (oks_cons ct_kchk (oks_cons ct_knames (oks_cons ct_named oks_nil)))) (vc_prep0 x) (by kernel_rfl)) (fun L x _ _ _ => vc_call (inl := noInl) (ann := noAnn) (oks_cons ct_none (oks_cons ct_kchk (oks_cons ct_knames (oks_cons ct_named oks_nil)))) (vc_prep1 L x) (by kernel_rfl)) fun _ => rfl
end Go.Proofs.Ytjpcaplhblomcaa
