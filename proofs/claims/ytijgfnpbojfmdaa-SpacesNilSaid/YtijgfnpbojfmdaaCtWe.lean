/- The laws of layer 11: calls. No condition. The statements vc_.. are printed by a program of the claimant's own. -/
import Derived.Test.YtijgfnpbojfmdaaCtWc
import Derived.Test.YtijgfnpbojfmdaaCtWd
namespace Go.Proofs.Ytijgfnpbojfmdaa
open Go.Sx
set_option maxRecDepth 100000
set_option linter.unusedVariables false
set_option linter.unusedSimpArgs false
theorem vc_snil (a : Acs) (hs : q_strOk a.bytes) :
  inRo IntKind.i64 (szI a.bytes) ∧ (decide (100 < szI a.bytes) = true → true = true) ∧ (decide (100 < szI a.bytes) = false → true = true ∧ q_strOk a.bytes ∧ ((decide (q_wE [] a.root a.adr = 1) && steq
    (q_ldS [] a.root a.adr a.num) (ByteArray.mk (Array.mk [])) && decide (q_aE [] a.root a.adr a.num = 1) && decide (q_aE [] a.root a.adr (szI a.bytes) = 1)) = true → true = true ∧ (decide (q_fmE [] a.root
    a.num = 1) && true) = true) ∧ ((decide (q_wE [] a.root a.adr = 1) && steq (q_ldS [] a.root a.adr a.num) (ByteArray.mk (Array.mk [])) && decide (q_aE [] a.root a.adr a.num = 1) && decide (q_aE [] a.root
    a.adr (szI a.bytes) = 1)) = false → false = true)) := by
  have h1 : q_wE [] a.root a.adr = 1 := rfl
  have h2 : ∀ n, q_aE [] a.root a.adr n = 1 := fun n => rfl
  have h3 : q_ldS [] a.root a.adr a.num = ⟨#[]⟩ := rfl
  have h4 : q_fmE [] a.root a.num = 1 := rfl
  rw [h1, h2, h2, h3, h4, steq_self]
  exact ⟨by unfold q_strOk at hs; simp only [inRo, inR, szI]; omega, fun _ => rfl, fun _ => ⟨rfl, hs, fun _ => ⟨rfl, rfl⟩, fun h => by simp at h⟩⟩
theorem cl_snil (a : Acs) (hs : q_strOk a.bytes) : CallTo Try.prog 8 [acsV a] [] (isV (.bo true)) (fun _ _ => False) :=
  vch_call (inl := noInl) (ann := noAnn) (oks_cons ct_known (oks_cons ct_walk (oks_cons ct_ld oks_nil))) (hoks_cons hc_sst (hoks_cons hc_sfm hoks_nil)) (vc_snil a hs) (by kernel_rfl)
theorem vc_splay (l : List Sx.Obj) (x : List Acs) (hx : ∀ i, i < llen x → q_strOk (lget x i acs0).bytes) :
  true = true ∧ True ∧ (q_made l = false → true = true) ∧ (q_made l = true → (decide (30 < n2i (llen x)) = true → true = true) ∧ (decide (30 < n2i (llen x)) = false → (∃ g, q_invSp1 (llen x) g ∧ false =
    false ∧ 0 = g.fst ∧ l = l ∧ llen x = llen x ∧ ((q_acf x) = q_acf x) ∧ l = g.snd ∧ l = g.snd) ∧ ∀ (g : Int × List Sx.Obj), q_invSp1 (llen x) g → (decide (g.fst < n2i (llen x)) = true → (0 ≤ g.fst ∧
    g.fst < ↑(llen x)) ∧ g.fst.toNat < llen x ∧ inRo IntKind.i64 (szI (q_at x g).bytes) ∧ (decide (100 < szI (q_at x g).bytes) = true → true = true) ∧ (decide (100 < szI (q_at x g).bytes) = false → (decide
    ((q_at x g).kind = 1) = true → q_okL g.snd ∧ ((!steq (q_ldS g.snd (q_at x g).root (q_at x g).adr (q_at x g).num) (q_ldS g.snd (q_at x g).root (q_at x g).adr (q_at x g).num) || !(decide (q_aF g.snd
    (q_at x g).root (q_at x g).adr (q_at x g).num false = q_aF g.snd (q_at x g).root (q_at x g).adr (q_at x g).num false) && (keq (q_aP g.snd (q_at x g).root (q_at x g).adr (q_at x g).num false) (q_aP
    g.snd (q_at x g).root (q_at x g).adr (q_at x g).num false) && (decide (q_aA g.snd (q_at x g).root (q_at x g).adr (q_at x g).num false = q_aA g.snd (q_at x g).root (q_at x g).adr (q_at x g).num false)
    && true))) || !decide (q_aE g.snd (q_at x g).root (q_at x g).adr (q_at x g).num = q_aE g.snd (q_at x g).root (q_at x g).adr (q_at x g).num)) = true → false = true) ∧ ((!steq (q_ldS g.snd (q_at x
    g).root (q_at x g).adr (q_at x g).num) (q_ldS g.snd (q_at x g).root (q_at x g).adr (q_at x g).num) || !(decide (q_aF g.snd (q_at x g).root (q_at x g).adr (q_at x g).num false = q_aF g.snd (q_at x
    g).root (q_at x g).adr (q_at x g).num false) && (keq (q_aP g.snd (q_at x g).root (q_at x g).adr (q_at x g).num false) (q_aP g.snd (q_at x g).root (q_at x g).adr (q_at x g).num false) && (decide (q_aA
    g.snd (q_at x g).root (q_at x g).adr (q_at x g).num false = q_aA g.snd (q_at x g).root (q_at x g).adr (q_at x g).num false) && true))) || !decide (q_aE g.snd (q_at x g).root (q_at x g).adr (q_at x
    g).num = q_aE g.snd (q_at x g).root (q_at x g).adr (q_at x g).num)) = false → ((!q_same g.snd g.snd) = true → false = true) ∧ ((!q_same g.snd g.snd) = false → inRo IntKind.i64 (g.fst + 1) ∧ ∃ g',
    q_invSp1 (llen x) g' ∧ q_muSp1 (llen x) g' < q_muSp1 (llen x) g ∧ false = false ∧ g.fst + 1 = g'.fst ∧ l = l ∧ llen x = llen x ∧ ((q_acf x) = q_acf x) ∧ g.snd = g'.snd ∧ g.snd = g'.snd))) ∧ (decide
    ((q_at x g).kind = 1) = false → (decide ((q_at x g).kind = 2) = true → true = true ∧ q_strOk (q_at x g).bytes ∧ (q_okL g.snd ∧ q_strOk (q_at x g).bytes) ∧ true = true ∧ (q_okL g.snd ∧ q_strOk (q_at x
    g).bytes) ∧ (q_aC g.snd (q_at x g).root (q_at x g).adr (szI (q_at x g).bytes) true = false → ((!(decide (q_aF g.snd (q_at x g).root (q_at x g).adr (szI (q_at x g).bytes) true = q_aF g.snd (q_at x
    g).root (q_at x g).adr (szI (q_at x g).bytes) true) && (keq (q_aP g.snd (q_at x g).root (q_at x g).adr (szI (q_at x g).bytes) true) (q_aP g.snd (q_at x g).root (q_at x g).adr (szI (q_at x g).bytes)
    true) && (decide (q_aA g.snd (q_at x g).root (q_at x g).adr (szI (q_at x g).bytes) true = q_aA g.snd (q_at x g).root (q_at x g).adr (szI (q_at x g).bytes) true) && true))) || !decide (q_aE g.snd (q_at
    x g).root (q_at x g).adr (szI (q_at x g).bytes) = q_aE g.snd (q_at x g).root (q_at x g).adr (szI (q_at x g).bytes))) = true → false = true) ∧ ((!(decide (q_aF g.snd (q_at x g).root (q_at x g).adr (szI
    (q_at x g).bytes) true = q_aF g.snd (q_at x g).root (q_at x g).adr (szI (q_at x g).bytes) true) && (keq (q_aP g.snd (q_at x g).root (q_at x g).adr (szI (q_at x g).bytes) true) (q_aP g.snd (q_at x
    g).root (q_at x g).adr (szI (q_at x g).bytes) true) && (decide (q_aA g.snd (q_at x g).root (q_at x g).adr (szI (q_at x g).bytes) true = q_aA g.snd (q_at x g).root (q_at x g).adr (szI (q_at x g).bytes)
    true) && true))) || !decide (q_aE g.snd (q_at x g).root (q_at x g).adr (szI (q_at x g).bytes) = q_aE g.snd (q_at x g).root (q_at x g).adr (szI (q_at x g).bytes))) = false → ((!q_same (q_stL g.snd (q_at
    x g).root (q_at x g).adr (q_at x g).bytes) g.snd) = true → false = true) ∧ ((!q_same (q_stL g.snd (q_at x g).root (q_at x g).adr (q_at x g).bytes) g.snd) = false → inRo IntKind.i64 (g.fst + 1) ∧ ∃ g',
    q_invSp1 (llen x) g' ∧ q_muSp1 (llen x) g' < q_muSp1 (llen x) g ∧ false = false ∧ g.fst + 1 = g'.fst ∧ l = l ∧ llen x = llen x ∧ ((q_acf x) = q_acf x) ∧ q_stL g.snd (q_at x g).root (q_at x g).adr (q_at
    x g).bytes = g'.snd ∧ g.snd = g'.snd))) ∧ (q_aC g.snd (q_at x g).root (q_at x g).adr (szI (q_at x g).bytes) true = true → ((!(decide (q_aF g.snd (q_at x g).root (q_at x g).adr (szI (q_at x g).bytes)
    true = q_aF g.snd (q_at x g).root (q_at x g).adr (szI (q_at x g).bytes) true) && (keq (q_aP g.snd (q_at x g).root (q_at x g).adr (szI (q_at x g).bytes) true) (q_aP g.snd (q_at x g).root (q_at x g).adr
    (szI (q_at x g).bytes) true) && (decide (q_aA g.snd (q_at x g).root (q_at x g).adr (szI (q_at x g).bytes) true = q_aA g.snd (q_at x g).root (q_at x g).adr (szI (q_at x g).bytes) true) && true))) ||
    !decide (q_aE g.snd (q_at x g).root (q_at x g).adr (szI (q_at x g).bytes) = q_aE g.snd (q_at x g).root (q_at x g).adr (szI (q_at x g).bytes))) = true → false = true) ∧ ((!(decide (q_aF g.snd (q_at x
    g).root (q_at x g).adr (szI (q_at x g).bytes) true = q_aF g.snd (q_at x g).root (q_at x g).adr (szI (q_at x g).bytes) true) && (keq (q_aP g.snd (q_at x g).root (q_at x g).adr (szI (q_at x g).bytes)
    true) (q_aP g.snd (q_at x g).root (q_at x g).adr (szI (q_at x g).bytes) true) && (decide (q_aA g.snd (q_at x g).root (q_at x g).adr (szI (q_at x g).bytes) true = q_aA g.snd (q_at x g).root (q_at x
    g).adr (szI (q_at x g).bytes) true) && true))) || !decide (q_aE g.snd (q_at x g).root (q_at x g).adr (szI (q_at x g).bytes) = q_aE g.snd (q_at x g).root (q_at x g).adr (szI (q_at x g).bytes))) = false
    → ((!q_same (q_stL g.snd (q_at x g).root (q_at x g).adr (q_at x g).bytes) (q_stL g.snd (q_at x g).root (q_at x g).adr (q_at x g).bytes)) = true → false = true) ∧ ((!q_same (q_stL g.snd (q_at x g).root
    (q_at x g).adr (q_at x g).bytes) (q_stL g.snd (q_at x g).root (q_at x g).adr (q_at x g).bytes)) = false → inRo IntKind.i64 (g.fst + 1) ∧ ∃ g', q_invSp1 (llen x) g' ∧ q_muSp1 (llen x) g' < q_muSp1 (llen
    x) g ∧ false = false ∧ g.fst + 1 = g'.fst ∧ l = l ∧ llen x = llen x ∧ ((q_acf x) = q_acf x) ∧ q_stL g.snd (q_at x g).root (q_at x g).adr (q_at x g).bytes = g'.snd ∧ q_stL g.snd (q_at x g).root (q_at x
    g).adr (q_at x g).bytes = g'.snd)))) ∧ (decide ((q_at x g).kind = 2) = false → (decide ((q_at x g).kind = 3) = true → true = true ∧ q_okL g.snd ∧ true = true ∧ q_okL g.snd ∧ (q_fmC g.snd (q_at x
    g).root (q_at x g).num = false → ((!decide (q_fmE g.snd (q_at x g).root (q_at x g).num = q_fmE g.snd (q_at x g).root (q_at x g).num)) = true → false = true) ∧ ((!decide (q_fmE g.snd (q_at x g).root
    (q_at x g).num = q_fmE g.snd (q_at x g).root (q_at x g).num)) = false → ((!q_same (q_fmL g.snd (q_at x g).root (q_at x g).num) g.snd) = true → false = true) ∧ ((!q_same (q_fmL g.snd (q_at x g).root
    (q_at x g).num) g.snd) = false → inRo IntKind.i64 (g.fst + 1) ∧ ∃ g', q_invSp1 (llen x) g' ∧ q_muSp1 (llen x) g' < q_muSp1 (llen x) g ∧ false = false ∧ g.fst + 1 = g'.fst ∧ l = l ∧ llen x = llen x ∧
    ((q_acf x) = q_acf x) ∧ q_fmL g.snd (q_at x g).root (q_at x g).num = g'.snd ∧ g.snd = g'.snd))) ∧ (q_fmC g.snd (q_at x g).root (q_at x g).num = true → ((!decide (q_fmE g.snd (q_at x g).root (q_at x
    g).num = q_fmE g.snd (q_at x g).root (q_at x g).num)) = true → false = true) ∧ ((!decide (q_fmE g.snd (q_at x g).root (q_at x g).num = q_fmE g.snd (q_at x g).root (q_at x g).num)) = false → ((!q_same
    (q_fmL g.snd (q_at x g).root (q_at x g).num) (q_fmL g.snd (q_at x g).root (q_at x g).num)) = true → false = true) ∧ ((!q_same (q_fmL g.snd (q_at x g).root (q_at x g).num) (q_fmL g.snd (q_at x g).root
    (q_at x g).num)) = false → inRo IntKind.i64 (g.fst + 1) ∧ ∃ g', q_invSp1 (llen x) g' ∧ q_muSp1 (llen x) g' < q_muSp1 (llen x) g ∧ false = false ∧ g.fst + 1 = g'.fst ∧ l = l ∧ llen x = llen x ∧ ((q_acf
    x) = q_acf x) ∧ q_fmL g.snd (q_at x g).root (q_at x g).num = g'.snd ∧ q_fmL g.snd (q_at x g).root (q_at x g).num = g'.snd)))) ∧ (decide ((q_at x g).kind = 3) = false → ((!q_same g.snd g.snd) = true →
    false = true) ∧ ((!q_same g.snd g.snd) = false → inRo IntKind.i64 (g.fst + 1) ∧ ∃ g', q_invSp1 (llen x) g' ∧ q_muSp1 (llen x) g' < q_muSp1 (llen x) g ∧ false = false ∧ g.fst + 1 = g'.fst ∧ l = l ∧ llen
    x = llen x ∧ ((q_acf x) = q_acf x) ∧ g.snd = g'.snd ∧ g.snd = g'.snd)))))) ∧ (decide (g.fst < n2i (llen x)) = false → true = true))) := by
  simp only [keq_self, steq_self, oeq_self, same_self, decide_true, Bool.and_true, Bool.not_true, Bool.or_false, Bool.not_false, Bool.false_eq_true, Bool.true_eq_false, false_implies, implies_true, true_implies, true_and, and_true, and_self]
  refine fun hm hlen => ⟨⟨(0, l), ⟨by simp, by simp, (made_ok hm).1⟩, rfl, rfl⟩, fun g hg hlt => ?_⟩
  obtain ⟨g0, g1, g2⟩ := hg
  have hlt : g.1 < (llen x : Int) := of_decide_eq_true hlt
  have hlen : ¬ 30 < (llen x : Int) := of_decide_eq_false hlen
  have hin : inRo IntKind.i64 (g.1 + 1) := by simp only [inRo, inR]; omega
  have hs : q_strOk (q_at x g).bytes := hx g.1.toNat (by omega)
  have hsz : inRo IntKind.i64 (szI (q_at x g).bytes) := by unfold q_strOk at hs; simp only [inRo, inR, szI]; omega
  have nx : ∀ L, q_okL L → q_invSp1 (llen x) (g.1 + 1, L) ∧ q_muSp1 (llen x) (g.1 + 1, L) < q_muSp1 (llen x) g := fun L hL => ⟨⟨by simp only; omega, by simp only; omega, hL⟩, by unfold q_muSp1; simp only; omega⟩
  refine ⟨⟨g0, hlt⟩, by omega, hsz, fun _ => ⟨fun _ => ⟨g2, hin, (g.1 + 1, g.2), (nx _ g2).1, (nx _ g2).2, rfl, rfl⟩, fun _ => ⟨fun _ => ⟨hs, ⟨g2, hs⟩, ⟨g2, hs⟩, fun hc => ?_, fun hc => ⟨hin, (g.1 + 1, _), (nx _ (stL_ok g2)).1, (nx _ (stL_ok g2)).2, rfl, rfl⟩⟩, fun _ => ⟨fun _ => ⟨g2, g2, fun hc => ?_, fun hc => ⟨hin, (g.1 + 1, _), (nx _ (fmL_ok g2)).1, (nx _ (fmL_ok g2)).2, rfl, rfl⟩⟩, fun _ => ⟨hin, (g.1 + 1, g.2), (nx _ g2).1, (nx _ g2).2, rfl, rfl⟩⟩⟩⟩⟩
  · rw [stL_no hc, same_self]
    exact ⟨fun h => by simp at h, fun _ => ⟨hin, (g.1 + 1, g.2), (nx _ g2).1, (nx _ g2).2, rfl, rfl, rfl⟩⟩
  · rw [fmL_no hc, same_self]
    exact ⟨fun h => by simp at h, fun _ => ⟨hin, (g.1 + 1, g.2), (nx _ g2).1, (nx _ g2).2, rfl, rfl, rfl⟩⟩
theorem cl_splay (l : List Sx.Obj) (x : List Acs) (hx : ∀ i, i < llen x → q_strOk (lget x i acs0).bytes) : CallTo Try.prog 9 [.sa 0, .sa 1] [.ro (.arr none 163 (.ob l)), .ro (.arr none 10 (acss x))] (isV (.bo true)) (fun _ _ => False) :=
  vch_call (inl := noInl) (ann := (annL [(9, 5, lpAl [1, 4, 5] (fun (g : Int × List Sx.Obj) => [(6, .it .i64 g.1)]) 0 163 (fun g => .ob g.2) (fun g => [(2, .store tS eS g.2)]) (q_invSp1 (llen x)) (q_muSp1 (llen x)))])) (oks_cons ct_known (oks_cons ct_same (oks_cons ct_ld (oks_cons ct_rld oks_nil)))) (hoks_cons hc_made (hoks_cons hc_sst (hoks_cons hc_sfm (hoks_cons hc_rst (hoks_cons hc_rfm hoks_nil))))) (vc_splay l x hx) (by kernel_rfl)
end Go.Proofs.Ytijgfnpbojfmdaa
