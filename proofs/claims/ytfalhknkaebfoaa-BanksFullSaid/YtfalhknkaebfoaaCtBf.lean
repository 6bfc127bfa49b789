/- Layer 12: a call, and what the document says. No condition. The statements vc_.. are printed by a program of the claimant's own. -/
import Derived.Test.YtfalhknkaebfoaaCtBe
import Derived.Test.YtfalhknkaebfoaaSpBl
namespace Go.Proofs.Ytfalhknkaebfoaa
open Go.Sx
set_option maxRecDepth 100000
set_option linter.unusedVariables false
set_option linter.unusedSimpArgs false
theorem vc_does (L : List Sx.Obj) (a : Acb) (hL : q_okL L) :
  (decide (a.kind = 1) = true → true = true ∧ q_okL L ∧ true = true ∧ q_okL L ∧ (q_bmkC L a.bank a.obj = false → (keq (q_bmkK L a.bank a.obj) (q_bmkK L a.bank a.obj) && decide (q_bmkE L a.bank a.obj =
    q_bmkE L a.bank a.obj)) = true ∧ q_bchg L a = false ∧ q_bmkL L a.bank a.obj = L) ∧ (q_bmkC L a.bank a.obj = true → (keq (q_bmkK L a.bank a.obj) (q_bmkK L a.bank a.obj) && decide (q_bmkE L a.bank a.obj
    = q_bmkE L a.bank a.obj)) = true ∧ q_bchg L a = true ∧ q_bmkL L a.bank a.obj = q_bdoL L a ∧ q_bmkL L a.bank a.obj = q_bdoL L a)) ∧ (decide (a.kind = 1) = false → (decide (a.kind = 2) = true → true =
    true ∧ q_okL L ∧ true = true ∧ q_okL L ∧ (q_bdsC L a.bank a.key = false → decide (q_bdsE L a.bank a.key = q_bdsE L a.bank a.key) = true ∧ q_bchg L a = false ∧ q_bdsL L a.bank a.key = L) ∧ (q_bdsC L
    a.bank a.key = true → decide (q_bdsE L a.bank a.key = q_bdsE L a.bank a.key) = true ∧ q_bchg L a = true ∧ q_bdsL L a.bank a.key = q_bdoL L a ∧ q_bdsL L a.bank a.key = q_bdoL L a)) ∧ (decide (a.kind =
    2) = false → (decide (a.kind = 3) = true → true = true ∧ q_okL L ∧ true = true ∧ q_okL L ∧ (q_bsC L a.bank a.num = false → (keq (q_bsK L a.bank a.num) (q_bsK L a.bank a.num) && decide (q_bsE L a.bank
    a.num = q_bsE L a.bank a.num)) = true ∧ q_bchg L a = false ∧ q_bsL L a.bank a.num = L) ∧ (q_bsC L a.bank a.num = true → (keq (q_bsK L a.bank a.num) (q_bsK L a.bank a.num) && decide (q_bsE L a.bank
    a.num = q_bsE L a.bank a.num)) = true ∧ q_bchg L a = true ∧ q_bsL L a.bank a.num = q_bdoL L a ∧ q_bsL L a.bank a.num = q_bdoL L a)) ∧ (decide (a.kind = 3) = false → (decide (a.kind = 4) = true → true =
    true ∧ q_okL L ∧ true = true ∧ q_okL L ∧ (q_brzC L a.bank = false → (decide (q_brzN L a.bank = q_brzN L a.bank) && decide (q_bnkE L a.bank = q_bnkE L a.bank)) = true ∧ q_bchg L a = false ∧ q_brzL L
    a.bank = L) ∧ (q_brzC L a.bank = true → (decide (q_brzN L a.bank = q_brzN L a.bank) && decide (q_bnkE L a.bank = q_bnkE L a.bank)) = true ∧ q_bchg L a = true ∧ q_brzL L a.bank = q_bdoL L a ∧ q_brzL L
    a.bank = q_bdoL L a)) ∧ (decide (a.kind = 4) = false → (decide (a.kind = 5) = true → (q_bow L a.bank a.key == q_bow L a.bank a.key && decide (q_bnkE L a.bank = q_bnkE L a.bank)) = true ∧ q_bchg L a =
    false ∧ L = L) ∧ (decide (a.kind = 5) = false → (decide (q_bnkX L a.bank = q_bnkX L a.bank) && decide (q_bnkY L a.bank = q_bnkY L a.bank) && decide (q_bnkE L a.bank = q_bnkE L a.bank)) = true ∧ q_bchg
    L a = false ∧ L = L))))) := by
  refine ⟨fun h1 => ?_, fun h1 => ⟨fun h2 => ?_, fun h2 => ⟨fun h3 => ?_, fun h3 => ⟨fun h4 => ?_, fun h4 => ?_⟩⟩⟩⟩
  · have h1 := of_decide_eq_true h1
    have hc : q_bchg L a = q_bmkC L a.bank a.obj := by unfold q_bchg; rw [if_pos h1]
    have hd : q_bdoL L a = q_bmkL L a.bank a.obj := by unfold q_bdoL; rw [if_pos h1]
    exact ⟨rfl, hL, rfl, hL, fun h => ⟨by rw [keq_self]; simp, hc.trans h, bmkL_no h⟩, fun h => ⟨by rw [keq_self]; simp, hc.trans h, hd.symm, hd.symm⟩⟩
  · have h1 := of_decide_eq_false h1
    have h2 := of_decide_eq_true h2
    have hc : q_bchg L a = q_bdsC L a.bank a.key := by unfold q_bchg; rw [if_neg h1, if_pos h2]
    have hd : q_bdoL L a = q_bdsL L a.bank a.key := by unfold q_bdoL; rw [if_neg h1, if_pos h2]
    exact ⟨rfl, hL, rfl, hL, fun h => ⟨by simp, hc.trans h, bdsL_no h⟩, fun h => ⟨by simp, hc.trans h, hd.symm, hd.symm⟩⟩
  · have h1 := of_decide_eq_false h1
    have h2 := of_decide_eq_false h2
    have h3 := of_decide_eq_true h3
    have hc : q_bchg L a = q_bsC L a.bank a.num := by unfold q_bchg; rw [if_neg h1, if_neg h2, if_pos h3]
    have hd : q_bdoL L a = q_bsL L a.bank a.num := by unfold q_bdoL; rw [if_neg h1, if_neg h2, if_pos h3]
    exact ⟨rfl, hL, rfl, hL, fun h => ⟨by rw [keq_self]; simp, hc.trans h, bsL_no h⟩, fun h => ⟨by rw [keq_self]; simp, hc.trans h, hd.symm, hd.symm⟩⟩
  · have h1 := of_decide_eq_false h1
    have h2 := of_decide_eq_false h2
    have h3 := of_decide_eq_false h3
    have h4 := of_decide_eq_true h4
    have hc : q_bchg L a = q_brzC L a.bank := by unfold q_bchg; rw [if_neg h1, if_neg h2, if_neg h3, if_pos h4]
    have hd : q_bdoL L a = q_brzL L a.bank := by unfold q_bdoL; rw [if_neg h1, if_neg h2, if_neg h3, if_pos h4]
    exact ⟨rfl, hL, rfl, hL, fun h => ⟨by simp, hc.trans h, brzL_no h⟩, fun h => ⟨by simp, hc.trans h, hd.symm, hd.symm⟩⟩
  · have h1 := of_decide_eq_false h1
    have h2 := of_decide_eq_false h2
    have h3 := of_decide_eq_false h3
    have h4 := of_decide_eq_false h4
    have hc : q_bchg L a = false := by unfold q_bchg; rw [if_neg h1, if_neg h2, if_neg h3, if_neg h4]
    exact ⟨fun _ => ⟨by simp, hc, rfl⟩, fun _ => ⟨by simp, hc, rfl⟩⟩
theorem cl_does (L : List Sx.Obj) (a : Acb) (hL : q_okL L) : CallTo Try.prog 34 [.lp 0 0, .sa 1, acbV a] [.store tS eS L, .ro (.arr none 163 (.ob L))] (kDo (q_bchg L a) L (q_bdoL L a)) (fun _ _ => False) :=
  vch_call (inl := noInl) (ann := noAnn) (oks_cons ct_rbank (oks_cons ct_rowns (oks_cons ct_brange (oks_cons ct_bowns oks_nil)))) (hoks_cons hc_rmake (hoks_cons hc_rdes (hoks_cons hc_rsplit (hoks_cons hc_rraze (hoks_cons hc_bmake (hoks_cons hc_bdes (hoks_cons hc_bsplit (hoks_cons hc_braze hoks_nil)))))))) (vc_does L a hL) (by kernel_rfl)
theorem hc_does : HOK Try.prog 34 h_bdoes := hDo_ok rdAcb_ok (fun _ => rfl) fun L x hL => cl_does L x hL
theorem hc_made2 : HOK Try.prog 15 (hLit h_made) := hLit_ok hc_made
theorem hc_does2 : HOK Try.prog 34 (hLit h_bdoes) := hLit_ok hc_does
end Go.Proofs.Ytfalhknkaebfoaa
