/- The laws of layer 13: Once. No condition. The statements vc_.. are printed by a program of the claimant's own. -/
import Derived.Test.YtfalhknkaebfoaaCtQf
import Derived.Test.YtfalhknkaebfoaaCtQs
import Derived.Test.YtfalhknkaebfoaaSpQn
namespace Go.Proofs.Ytfalhknkaebfoaa
open Go.Sx
set_option maxRecDepth 100000
set_option linter.unusedVariables false
set_option linter.unusedSimpArgs false
theorem vc_qonce (l : List Sx.Obj) (x : List Pac) (ks : List Key) (hx : ∀ i, i < llen x → q_strOk (lget x i pac0).msg.data) :
  true = true ∧ True ∧ (q_made l = false → true = true) ∧ (q_made l = true → q_vastQ (pcas x) ∧ ((q_vast (pcas x) || decide (20 < n2i (llen ks))) = true → true = true) ∧ ((q_vast (pcas x) || decide (20 <
    n2i (llen ks))) = false → mkFit (n2i (llen ks)) (n2i (llen ks)) 1 ∧ (∃ g, q_invOn x ks g ∧ false = false ∧ 0 = g.fst ∧ l = l ∧ llen x = llen x ∧ (pcF x = pcF x) ∧ ks = ks ∧ l = g.snd.fst ∧ lrep (n2i
    (llen ks)).toNat false = g.snd.snd) ∧ ∀ (g : Int × List Sx.Obj × List Bool), q_invOn x ks g → (decide (g.fst < n2i (llen x)) = true → (0 ≤ g.fst ∧ g.fst < ↑(llen x)) ∧ g.fst.toNat < llen x ∧ ((!decide
    ((onA x g).kind = 1)) = true → inRo IntKind.i64 (g.fst + 1) ∧ ∃ g', q_invOn x ks g' ∧ q_muOn x g' < q_muOn x g ∧ false = false ∧ g.fst + 1 = g'.fst ∧ l = l ∧ llen x = llen x ∧ (pcF x = pcF x) ∧ ks = ks
    ∧ g.snd.fst = g'.snd.fst ∧ g.snd.snd = g'.snd.snd) ∧ ((!decide ((onA x g).kind = 1)) = false → true = true ∧ (llen g.snd.fst).le 1000 ∧ (q_snone g.snd.fst = true → true = true ∧ q_strOk (onA x
    g).msg.data ∧ (q_okL g.snd.fst ∧ q_strOk (onA x g).msg.data) ∧ ((!decide (onE x g = 0)) = true → (q_few (onL x g) ∧ q_few []) ∧ ((!q_same (onL x g) []) = true → false = true) ∧ ((!q_same (onL x g) [])
    = false → inRo IntKind.i64 (g.fst + 1) ∧ ∃ g', q_invOn x ks g' ∧ q_muOn x g' < q_muOn x g ∧ false = false ∧ g.fst + 1 = g'.fst ∧ l = l ∧ llen x = llen x ∧ (pcF x = pcF x) ∧ ks = ks ∧ onL x g =
    g'.snd.fst ∧ g.snd.snd = g'.snd.snd)) ∧ ((!decide (onE x g = 0)) = false → true = true ∧ q_shortL (onL x g) ∧ (true = false → False) ∧ (true = true → true = true ∧ q_shortL [] ∧ (true = false → False)
    ∧ (true = true → inRo IntKind.i64 (n2i (llen (q_runG (onL x g) (n2i (llen (onL x g))))) - n2i (llen (q_runG [] (n2i (llen ([] : List Sx.Obj)))))) ∧ ((decide (1 < n2i (llen (q_runG (onL x g) (n2i (llen
    (onL x g))))) - n2i (llen (q_runG [] (n2i (llen ([] : List Sx.Obj)))))) || decide (0 < n2i (llen (q_runG (onL x g) (n2i (llen (onL x g))))) - n2i (llen (q_runG [] (n2i (llen ([] : List Sx.Obj)))))) &&
    !decide ((onA x g).mode = 2) || decide ((onA x g).key.kind = 7) && !keq (q_prep (onL x g) (onA x g).key) void) = true → false = true) ∧ ((decide (1 < n2i (llen (q_runG (onL x g) (n2i (llen (onL x
    g))))) - n2i (llen (q_runG [] (n2i (llen ([] : List Sx.Obj)))))) || decide (0 < n2i (llen (q_runG (onL x g) (n2i (llen (onL x g))))) - n2i (llen (q_runG [] (n2i (llen ([] : List Sx.Obj)))))) && !decide
    ((onA x g).mode = 2) || decide ((onA x g).key.kind = 7) && !keq (q_prep (onL x g) (onA x g).key) void) = false → (∃ g, q_invOk ks g ∧ False) ∧ ∀ (g_1 : Int × List Bool × List Sx.Obj × List Sx.Obj),
    q_invOk ks g_1 → (decide (g_1.fst < n2i (llen ks)) = true → (0 ≤ g_1.fst ∧ g_1.fst < ↑(llen ks)) ∧ g_1.fst.toNat < llen ks ∧ (0 ≤ g_1.fst ∧ g_1.fst < ↑(llen ks)) ∧ g_1.fst.toNat < llen ks ∧ (0 ≤
    g_1.fst ∧ g_1.fst < ↑(llen g_1.snd.fst)) ∧ g_1.fst.toNat < llen g_1.snd.fst ∧ (0 ≤ g_1.fst ∧ g_1.fst < ↑(llen g_1.snd.fst)) ∧ g_1.fst.toNat < llen g_1.snd.fst ∧ (0 ≤ g_1.fst ∧ g_1.fst < ↑(llen (lset
    g_1.snd.fst g_1.fst.toNat (lget g_1.snd.fst g_1.fst.toNat false || q_is [] (lget ks g_1.fst.toNat void) && !q_is g_1.snd.snd.snd (lget ks g_1.fst.toNat void))))) ∧ g_1.fst.toNat < llen (lset
    g_1.snd.fst g_1.fst.toNat (lget g_1.snd.fst g_1.fst.toNat false || q_is [] (lget ks g_1.fst.toNat void) && !q_is g_1.snd.snd.snd (lget ks g_1.fst.toNat void))) ∧ ((lget (lset g_1.snd.fst g_1.fst.toNat
    (lget g_1.snd.fst g_1.fst.toNat false || q_is [] (lget ks g_1.fst.toNat void) && !q_is g_1.snd.snd.snd (lget ks g_1.fst.toNat void))) g_1.fst.toNat false && q_is g_1.snd.snd.snd (lget ks g_1.fst.toNat
    void)) = true → false = true) ∧ ((lget (lset g_1.snd.fst g_1.fst.toNat (lget g_1.snd.fst g_1.fst.toNat false || q_is [] (lget ks g_1.fst.toNat void) && !q_is g_1.snd.snd.snd (lget ks g_1.fst.toNat
    void))) g_1.fst.toNat false && q_is g_1.snd.snd.snd (lget ks g_1.fst.toNat void)) = false → inRo IntKind.i64 (g_1.fst + 1) ∧ ∃ g', q_invOk ks g' ∧ q_muOk ks g' < q_muOk ks g_1 ∧ false = false ∧ g.fst =
    g.fst ∧ Value.pointer none = Value.pointer none ∧ g_1.fst + 1 = g'.fst ∧ l = l ∧ llen x = llen x ∧ (pcF x = pcF x) ∧ ks = ks ∧ g_1.snd.snd.snd = g'.snd.snd.snd ∧ lset g_1.snd.fst g_1.fst.toNat (lget
    g_1.snd.fst g_1.fst.toNat false || q_is [] (lget ks g_1.fst.toNat void) && !q_is g_1.snd.snd.snd (lget ks g_1.fst.toNat void)) = g'.snd.fst ∧ g_1.snd.snd.fst = g'.snd.snd.fst)) ∧ (decide (g_1.fst < n2i
    (llen ks)) = false → inRo IntKind.i64 (g.fst + 1) ∧ ∃ g', q_invOn x ks g' ∧ q_muOn x g' < q_muOn x g ∧ false = false ∧ g.fst + 1 = g'.fst ∧ l = l ∧ llen x = llen x ∧ (pcF x = pcF x) ∧ ks = ks ∧
    g_1.snd.snd.snd = g'.snd.fst ∧ g_1.snd.fst = g'.snd.snd)))))) ∧ (q_snone g.snd.fst = false → true = true ∧ q_strOk (onA x g).msg.data ∧ (q_okL g.snd.fst ∧ q_strOk (onA x g).msg.data) ∧ ((!decide (onE x
    g = 0)) = true → (q_few (onL x g) ∧ q_few g.snd.fst) ∧ ((!q_same (onL x g) g.snd.fst) = true → false = true) ∧ ((!q_same (onL x g) g.snd.fst) = false → inRo IntKind.i64 (g.fst + 1) ∧ ∃ g', q_invOn x ks
    g' ∧ q_muOn x g' < q_muOn x g ∧ false = false ∧ g.fst + 1 = g'.fst ∧ l = l ∧ llen x = llen x ∧ (pcF x = pcF x) ∧ ks = ks ∧ onL x g = g'.snd.fst ∧ g.snd.snd = g'.snd.snd)) ∧ ((!decide (onE x g = 0)) =
    false → true = true ∧ q_shortL (onL x g) ∧ (true = false → False) ∧ (true = true → true = true ∧ q_shortL g.snd.fst ∧ (true = false → False) ∧ (true = true → inRo IntKind.i64 (n2i (llen (q_runG (onL x
    g) (n2i (llen (onL x g))))) - n2i (llen (q_runG g.snd.fst (n2i (llen g.snd.fst))))) ∧ ((decide (1 < n2i (llen (q_runG (onL x g) (n2i (llen (onL x g))))) - n2i (llen (q_runG g.snd.fst (n2i (llen
    g.snd.fst))))) || decide (0 < n2i (llen (q_runG (onL x g) (n2i (llen (onL x g))))) - n2i (llen (q_runG g.snd.fst (n2i (llen g.snd.fst))))) && !decide ((onA x g).mode = 2) || decide ((onA x g).key.kind
    = 7) && !keq (q_prep (onL x g) (onA x g).key) void) = true → false = true) ∧ ((decide (1 < n2i (llen (q_runG (onL x g) (n2i (llen (onL x g))))) - n2i (llen (q_runG g.snd.fst (n2i (llen g.snd.fst)))))
    || decide (0 < n2i (llen (q_runG (onL x g) (n2i (llen (onL x g))))) - n2i (llen (q_runG g.snd.fst (n2i (llen g.snd.fst))))) && !decide ((onA x g).mode = 2) || decide ((onA x g).key.kind = 7) && !keq
    (q_prep (onL x g) (onA x g).key) void) = false → (∃ g_1, q_invOk ks g_1 ∧ false = false ∧ g.fst = g.fst ∧ 0 = g_1.fst ∧ l = l ∧ llen x = llen x ∧ (pcF x = pcF x) ∧ ks = ks ∧ onL x g = g_1.snd.snd.snd ∧
    g.snd.snd = g_1.snd.fst ∧ g.snd.fst = g_1.snd.snd.fst) ∧ ∀ (g_1 : Int × List Bool × List Sx.Obj × List Sx.Obj), q_invOk ks g_1 → (decide (g_1.fst < n2i (llen ks)) = true → (0 ≤ g_1.fst ∧ g_1.fst <
    ↑(llen ks)) ∧ g_1.fst.toNat < llen ks ∧ (0 ≤ g_1.fst ∧ g_1.fst < ↑(llen ks)) ∧ g_1.fst.toNat < llen ks ∧ (0 ≤ g_1.fst ∧ g_1.fst < ↑(llen g_1.snd.fst)) ∧ g_1.fst.toNat < llen g_1.snd.fst ∧ (0 ≤ g_1.fst
    ∧ g_1.fst < ↑(llen g_1.snd.fst)) ∧ g_1.fst.toNat < llen g_1.snd.fst ∧ (0 ≤ g_1.fst ∧ g_1.fst < ↑(llen (onT ks g_1))) ∧ g_1.fst.toNat < llen (onT ks g_1) ∧ ((lget (onT ks g_1) g_1.fst.toNat false &&
    q_is g_1.snd.snd.snd (lget ks g_1.fst.toNat void)) = true → false = true) ∧ ((lget (onT ks g_1) g_1.fst.toNat false && q_is g_1.snd.snd.snd (lget ks g_1.fst.toNat void)) = false → inRo IntKind.i64
    (g_1.fst + 1) ∧ ∃ g', q_invOk ks g' ∧ q_muOk ks g' < q_muOk ks g_1 ∧ false = false ∧ g.fst = g.fst ∧ g_1.fst + 1 = g'.fst ∧ l = l ∧ llen x = llen x ∧ (pcF x = pcF x) ∧ ks = ks ∧ g_1.snd.snd.snd =
    g'.snd.snd.snd ∧ onT ks g_1 = g'.snd.fst ∧ g_1.snd.snd.fst = g'.snd.snd.fst)) ∧ (decide (g_1.fst < n2i (llen ks)) = false → inRo IntKind.i64 (g.fst + 1) ∧ ∃ g', q_invOn x ks g' ∧ q_muOn x g' < q_muOn x
    g ∧ false = false ∧ g.fst + 1 = g'.fst ∧ l = l ∧ llen x = llen x ∧ (pcF x = pcF x) ∧ ks = ks ∧ g_1.snd.snd.snd = g'.snd.fst ∧ g_1.snd.fst = g'.snd.snd)))))))) ∧ (decide (g.fst < n2i (llen x)) = false →
    true = true))) := by
  have hq : q_vastQ (pcas x) := ⟨x, rfl, hx⟩
  refine ⟨rfl, trivial, fun _ => rfl, fun hm => ⟨hq, fun _ => rfl, fun hv => ?_⟩⟩
  simp only [Bool.or_eq_false_iff, decide_eq_false_iff_not] at hv
  obtain ⟨hv, hk⟩ := hv
  have hlen : ¬ 30 < (llen x : Int) := vast_le hv
  have hk : ks.length ≤ 20 := by have : ¬ (20 < (ks.length : Int)) := hk; omega
  have hr : ∀ y : Int, -1000 ≤ y → y ≤ 5000000000 → inRo IntKind.i64 y := fun y h1 h2 => by simp only [inRo, inR]; omega
  refine ⟨⟨rfl, by unfold n2i llen; omega, by unfold n2i llen; omega, by unfold n2i llen; omega⟩, ⟨(0, l, lrep (n2i (llen ks)).toNat false), ⟨by simp, by simp, (made_ok hm).1, by simp only; rw [lrepB_len]; unfold n2i llen; omega, fun i hi hd => by simp only at hd; rw [lrepB_no] at hd; simp at hd⟩, (by (repeat' apply And.intro) <;> rfl)⟩, fun g hg => ⟨fun hlt => ?_, fun _ => rfl⟩⟩
  obtain ⟨g0, g1, i2, i3, i4⟩ := hg
  have hlt : g.1 < (llen x : Int) := of_decide_eq_true hlt
  have hl := okL_len i2
  have hll : llen g.2.1 = g.2.1.length := rfl
  have hsn : q_snone g.2.1 = false := by unfold q_snone; rw [hll]; exact decide_eq_false (by omega)
  have hs : q_strOk (onA x g).msg.data := hx g.1.toNat (by omega)
  have hin := hr (g.1 + 1) (by omega) (by omega)
  have hN : q_okL (onL x g) := ivL_ok i2
  have hl2 := okL_len hN
  refine ⟨⟨g0, hlt⟩, by omega, fun _ => ⟨hin, (g.1 + 1, g.2.1, g.2.2), ⟨by simp only; omega, by simp only; omega, i2, i3, i4⟩, by unfold q_muOn; simp only; omega, (by (repeat' apply And.intro) <;> rfl)⟩, fun _ => ⟨rfl, (show g.2.1.length ≤ 1000 by omega), fun h => by rw [hsn] at h; exact absurd h (by decide), fun _ => ⟨rfl, hs, ⟨i2, hs⟩, fun hE => ?_, fun hE => ?_⟩⟩⟩
  · have hE : onE x g ≠ 0 := by simpa using hE
    have e : onL x g = g.2.1 := (iv_no rfl hE).2.symm
    rw [e]
    refine ⟨⟨(show g.2.1.length ≤ 1000 by omega), (show g.2.1.length ≤ 1000 by omega)⟩, fun h => by rw [same_self] at h; simp at h, fun _ => ⟨hin, (g.1 + 1, g.2.1, g.2.2), ⟨by simp only; omega, by simp only; omega, i2, i3, i4⟩, by unfold q_muOn; simp only; omega, (by (repeat' apply And.intro) <;> rfl)⟩⟩
  · have hE : onE x g = 0 := by simpa using hE
    have hst : qstL g.2.1 (onL x g) := ivL_st i2
    have r : llen (q_runG (onL x g) (n2i (llen (onL x g)))) ≤ llen (q_runG g.2.1 (n2i (llen g.2.1))) + (if (onA x g).mode = 2 then 1 else 0) := iv_run i2 hE
    have b1 := runG_len (onL x g) (n2i (llen (onL x g)))
    have b2 := runG_len g.2.1 (n2i (llen g.2.1))
    have c1 : n2i (llen (onL x g)) = ((onL x g).length : Int) := rfl
    have c2 : n2i (llen g.2.1) = (g.2.1.length : Int) := rfl
    have e1 : n2i (llen (q_runG (onL x g) (n2i (llen (onL x g))))) = (llen (q_runG (onL x g) (n2i (llen (onL x g)))) : Int) := rfl
    have e2 : n2i (llen (q_runG g.2.1 (n2i (llen g.2.1)))) = (llen (q_runG g.2.1 (n2i (llen g.2.1))) : Int) := rfl
    refine ⟨rfl, okL_short hN, fun h => by simp at h, fun _ => ⟨rfl, okL_short i2, fun h => by simp at h, fun _ => ⟨hr _ (by rw [e1, e2]; omega) (by rw [e1, e2]; omega), fun hc => ?_, fun hc => ⟨⟨(0, g.2.2, g.2.1, onL x g), ⟨by simp, by simp, i3, i2, hN, hst, fun i hi hd => by rw [if_neg (by simp only; omega)]; exact i4 i hi hd⟩, (by (repeat' apply And.intro) <;> rfl)⟩, fun t ht => ⟨fun htl => ?_, fun htl => ?_⟩⟩⟩⟩⟩
    · exfalso
      simp only [Bool.or_eq_true, Bool.and_eq_true, decide_eq_true_eq, Bool.not_eq_true', decide_eq_false_iff_not] at hc
      rw [e1, e2] at hc
      rcases hc with (h | ⟨h, h2⟩) | ⟨h7, hp⟩
      · split at r <;> omega
      · rw [if_neg h2] at r; omega
      · rw [show q_prep (onL x g) (onA x g).key = void from ivL_used i2 hE h7, keq_self] at hp
        simp at hp
    · have htl : t.1 < (ks.length : Int) := of_decide_eq_true htl
      obtain ⟨s1, s2⟩ := on_step ht htl
      obtain ⟨t0, t1, t2, _⟩ := ht
      have hn : t.1.toNat < llen ks := by show t.1.toNat < ks.length; omega
      have hd : t.1.toNat < llen t.2.1 := by show t.1.toNat < t.2.1.length; omega
      have hD : t.1 < (llen t.2.1 : Int) := by show t.1 < (t.2.1.length : Int); omega
      have hds : t.1.toNat < llen (onT ks t) := by simp only [llen, onT_len]; omega
      have hDs : t.1 < (llen (onT ks t) : Int) := by simp only [llen, onT_len]; omega
      refine ⟨⟨t0, htl⟩, hn, ⟨t0, htl⟩, hn, ⟨t0, hD⟩, hd, ⟨t0, hD⟩, hd, ⟨t0, hDs⟩, hds, fun hb => ?_, fun _ => ⟨hr _ (by omega) (by omega), _, s2, ?_, (by (repeat' apply And.intro) <;> rfl)⟩⟩
      · rw [s1] at hb; exact hb
      · unfold q_muOk; simp only [llen]; omega
    · obtain ⟨t0, t1, t2, t3, t4, t5, t6⟩ := ht
      have htl : ¬ t.1 < (ks.length : Int) := of_decide_eq_false htl
      refine ⟨hin, (g.1 + 1, t.2.2.2, t.2.1), ⟨by simp only; omega, by simp only; omega, t4, t2, fun i hi hd => ?_⟩, by unfold q_muOn; simp only; omega, (by (repeat' apply And.intro) <;> rfl)⟩
      have := t6 i hi hd
      rwa [if_pos (by omega)] at this
theorem cl_qonce (l : List Sx.Obj) (x : List Pac) (ks : List Key) (hx : ∀ i, i < llen x → q_strOk (lget x i pac0).msg.data) : CallTo Try.prog 13 [.sa 0, .sa 1, .sa 2] [.ro (.arr none 163 (.ob l)), .ro (.arr none 30 (pcas x)), .ro (.arr none 6 (.key ks))] (isV (.bo true)) (fun _ _ => False) :=
  vch_call (inl := noInl) (ann := (annL [(13, 6, lpT [1, 2, 6, 7, 8] (fun (g : Int × List Sx.Obj × List Bool) => [(9, .it .i64 g.1)]) (fun g => [(3, .store tS eS g.2.1), (4, .arr (some 4) 1 (.bo g.2.2))]) (q_invOn x ks) (q_muOn x)), (13, 19, lpT [1, 2, 6, 7, 8, 9, 11] (fun (g : Int × List Bool × List Sx.Obj × List Sx.Obj) => [(14, .it .i64 g.1)]) (fun g => [(3, .store tS eS g.2.2.2), (4, .arr (some 4) 1 (.bo g.2.1)), (6, .store tS eS g.2.2.1), (5, .gone), (7, .gone), (8, .gone)]) (q_invOk ks) (q_muOk ks))])) (oks_cons ct_known (oks_cons ct_vast (oks_cons ct_named (oks_cons ct_prep (oks_cons ct_osame oks_nil))))) (hoks_cons hc_made (hoks_cons hc_inv (hoks_cons hc_copy (hoks_cons hc_run hoks_nil)))) (vc_qonce l x ks hx) (by kernel_rfl)
end Go.Proofs.Ytfalhknkaebfoaa
