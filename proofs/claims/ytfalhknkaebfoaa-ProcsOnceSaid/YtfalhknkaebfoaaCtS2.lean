/- Contracts of stores: keys that are prepared. No condition. -/
import Derived.Test.YtfalhknkaebfoaaKS
namespace Go.Proofs.Ytfalhknkaebfoaa
open Go.Sx
set_option maxRecDepth 100000
set_option linter.unusedVariables false
set_option linter.unusedSimpArgs false
theorem vc_prep0 (k : Key) :
  ((q_snone [] || !decide (q_chk k = 0)) = true → void = q_prep [] k) ∧
    ((q_snone [] || !decide (q_chk k = 0)) = false →
      ((q_named k && !q_is [] k) = true → void = q_prep [] k) ∧ ((q_named k && !q_is [] k) = false → k = q_prep [] k)) := by
  exact prep_law [] k
theorem vc_prep1 (L : List Sx.Obj) (k : Key) :
  ((q_snone L || !decide (q_chk k = 0)) = true → void = q_prep L k) ∧
    ((q_snone L || !decide (q_chk k = 0)) = false →
      ((q_named k && !q_is L k) = true → void = q_prep L k) ∧ ((q_named k && !q_is L k) = false → k = q_prep L k)) := by
  exact prep_law L k
theorem ct_prep : CtOK Try.prog 29 g_prep :=
  mkS1_ok rK_ok (fun _ _ => rfl) (fun x _ => vc_call (inl := noInl) (ann := noAnn) (oks_cons ct_none (oks_cons ct_kchk (oks_cons ct_knames (oks_cons ct_named oks_nil)))) (vc_prep0 x) (by kernel_rfl)) (fun L x _ _ _ => vc_call (inl := noInl) (ann := noAnn) (oks_cons ct_none (oks_cons ct_kchk (oks_cons ct_knames (oks_cons ct_named oks_nil)))) (vc_prep1 L x) (by kernel_rfl)) fun _ => rfl
theorem vc_lprep (l : List Sx.Obj) (k : Key) :
  ((decide (n2i (llen l) = 0) || !decide (q_chk k = 0) || decide (0 ≤ q_names k) && !q_is l k) = true →
      void = q_prep l k) ∧
    ((decide (n2i (llen l) = 0) || !decide (q_chk k = 0) || decide (0 ≤ q_names k) && !q_is l k) = false →
      k = q_prep l k) := by
  exact lprep_law l k
theorem ct_lprep : CtOK Try.prog 119 g_lprep := mkA1_ok rK_ok (fun _ _ => rfl) (fun l k _ _ _ => vc_call (inl := noInl) (ann := noAnn) (oks_cons ct_rchk (oks_cons ct_rnames (oks_cons ct_lcounts oks_nil))) (vc_lprep l k) (by kernel_rfl)) fun _ => rfl
end Go.Proofs.Ytfalhknkaebfoaa
