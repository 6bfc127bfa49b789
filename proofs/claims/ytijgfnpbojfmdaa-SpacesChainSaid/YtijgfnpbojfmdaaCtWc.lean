/- Layer 11: what its statements call; which heights, where addresses lie. No condition. The statements vc_.. are printed by a program of the claimant's own. -/
import Derived.Test.YtijgfnpbojfmdaaCtWb
import Derived.Test.YtijgfnpbojfmdaaSpWp
import Derived.Test.YtijgfnpbojfmdaaSxF
namespace Go.Proofs.Ytijgfnpbojfmdaa
open Go.Sx
set_option maxRecDepth 100000
set_option linter.unusedVariables false
set_option linter.unusedSimpArgs false
theorem hc_of2 : HOK Try.prog 25 (hLit h_of) := hLit_ok hc_of
theorem vc_same0 (M : List Sx.Obj) :
  true = true ∧ true = true ∧ true = true ∧ ∀ (r0 : Loop), (∃ g, q_invS [] M g ∧ q_size [] = q_size [] ∧ 0 = g ∧ M = M ∧ false = false ∧ 0 = g ∧ Value.pointer none = Value.pointer none ∧ Value.pointer
    none = Value.pointer none ∧ r0 = r0) ∧ ∀ (g : Int), q_invS [] M g → (decide (g < q_size []) = true → False) ∧ (decide (g < q_size []) = false → decide (g = n2i (llen M)) = q_same [] M) := by
  refine ⟨rfl, rfl, rfl, fun r0 => ⟨⟨0, ⟨by omega, by unfold llen; omega, by omega, fun j hj => by omega⟩, by (repeat' apply And.intro) <;> rfl⟩, fun g hg => ⟨fun hlt => ?_, fun _ => same_end2 hg (by simp only [llen, List.length_nil]; exact hg.1)⟩⟩⟩
  have h0 : g < 0 := of_decide_eq_true hlt
  exact absurd hg.1 (by omega)
theorem cl_same0 (M : List Sx.Obj) : CallTo Try.prog 16 [nilp, .sa 0] [.ro (.arr none 163 (.ob M))] (isV (.bo (q_same [] M))) (fun _ _ => False) := vc_call (inl := (fun f => f == 35)) (ann := (annL [(6000 + 59, 1, lpR [0, 1, 5] (fun g => [(6, .it .i64 g)]) 3 (fun g => .blk 3 (.it .i64 g)) (q_invS [] M) 0)])) (oks_cons ct_size oks_nil) (vc_same0 M) (by kernel_rfl)
theorem vc_same1 (L M : List Sx.Obj) (hL : L.length ≤ 9223372036854775807) :
  true = true ∧ true = true ∧ true = true ∧ ∀ (r0 : Loop), (∃ g, q_invS L M g ∧ q_size L = q_size L ∧ 0 = g ∧ M = M ∧ L = L ∧ false = false ∧ 0 = g ∧ r0 = r0) ∧ ∀ (g : Int), q_invS L M g → (decide (g <
    q_size L) = true → (0 ≤ g ∧ g < ↑(llen L)) ∧ g.toNat < llen L ∧ g.toNat < llen L ∧ r0 = r0 ∧ r0 = r0 ∧ ((!(!decide (g = g) || decide (n2i (llen M) ≤ g))) = true → 0 ≤ g ∧ g < ↑(llen M)) ∧ ((!(!decide
    (g = g) || decide (n2i (llen M) ≤ g))) = true → g.toNat < llen M) ∧ ((!decide (g = g) || decide (n2i (llen M) ≤ g) || !oeq (lget L g.toNat free) (lget M g.toNat free)) = true → r0 = r0 ∧ false = q_same
    L M) ∧ ((!decide (g = g) || decide (n2i (llen M) ≤ g) || !oeq (lget L g.toNat free) (lget M g.toNat free)) = false → inRo IntKind.i64 (g + 1) ∧ r0 = r0 ∧ inRo IntKind.i64 (g + 1) ∧ ∃ g', q_invS L M g'
    ∧ (n2i (llen L) - g').toNat < (n2i (llen L) - g).toNat ∧ q_size L = q_size L ∧ g + 1 = g' ∧ M = M ∧ L = L ∧ false = false ∧ g + 1 = g' ∧ r0 = r0)) ∧ (decide (g < q_size L) = false → decide (g = n2i
    (llen M)) = q_same L M) := by
  refine ⟨rfl, rfl, rfl, fun r0 => ⟨⟨0, ⟨by omega, by unfold llen; omega, by omega, fun j hj => by omega⟩, by (repeat' apply And.intro) <;> rfl⟩, fun g hg => ⟨fun hlt => ?_, fun hge => ?_⟩⟩⟩
  · have hg' := hg
    obtain ⟨g0, g1, g2, g3⟩ := hg
    have hlt : g < q_size L := of_decide_eq_true hlt
    have hle := len_cast L
    have hlm := len_cast M
    have hq : q_size L = (L.length : Int) := rfl
    rw [hq] at hlt
    have hz : ∀ b : Bool, (!decide (g = g) || b) = b := by simp
    rw [hz]
    refine ⟨⟨g0, by omega⟩, by omega, by omega, rfl, rfl, fun h => ?_, fun h => ?_, fun h => ⟨rfl, ?_⟩, fun h => ?_⟩
    · have h : ¬ (n2i (llen M) ≤ g) := by simpa using h
      rw [len_llen] at h; exact ⟨g0, by omega⟩
    · have h : ¬ (n2i (llen M) ≤ g) := by simpa using h
      rw [len_llen] at h; omega
    · unfold q_same
      symm
      rw [decide_eq_false_iff_not]
      rintro rfl
      rw [Bool.or_eq_true, decide_eq_true_eq, len_llen] at h
      rcases h with h | h
      · omega
      · simp [oeq] at h
    · rw [Bool.or_eq_false_iff, decide_eq_false_iff_not, len_llen] at h
      obtain ⟨h1, h2⟩ := h
      have h2 : lget L g.toNat free = lget M g.toNat free := by simpa [oeq] using h2
      have hr : inRo IntKind.i64 (g + 1) := by simp only [inRo, inR]; omega
      refine ⟨hr, rfl, hr, g + 1, ⟨by omega, by omega, by omega, fun j hj => ?_⟩, by rw [len_llen]; omega, by (repeat' apply And.intro) <;> rfl⟩
      by_cases e : (j : Int) < g
      · exact g3 j e
      · rw [show j = g.toNat by omega]; exact h2
  · have hge : ¬ g < q_size L := of_decide_eq_false hge
    exact same_end2 hg (by unfold q_size at hge; omega)
theorem ct_same : CtOK Try.prog 16 g_same :=
  mkSA_ok (fun _ _ => rfl) (fun M _ _ => cl_same0 M) (fun L M _ hL _ _ => vc_call (inl := (fun f => f == 35)) (ann := (annL [(6000 + 59, 1, lpR [0, 1, 5] (fun g => [(6, .it .i64 g)]) 6 (fun g => .blk 3 (.it .i64 g)) (q_invS L M) (n2i (llen L)))])) (oks_cons ct_size oks_nil) (vc_same1 L M hL) (by kernel_rfl))
theorem vc_made (l : List Sx.Obj) :
  ((decide (20 < n2i (llen l)) || !q_right l) = true → q_made l = false ∧ Value.pointer none = Value.pointer none) ∧ ((decide (20 < n2i (llen l)) || !q_right l) = false → true = true ∧ (q_right l = false
    → q_made l = false ∧ Value.pointer none = Value.pointer none) ∧ (q_right l = true → q_made l = true ∧ ∀ (nid : Nat), some (V.lp nid 0) = some (V.lp nid 0) ∧ some [Res.store 76 104 l] = some [Res.store
    76 104 l])) := by
  refine ⟨fun h => ⟨?_, rfl⟩, fun h => ⟨rfl, fun hr => ⟨?_, rfl⟩, fun hr => ⟨?_, fun nid => ⟨rfl, rfl⟩⟩⟩⟩
  · unfold q_made
    unfold n2i at h
    rw [Bool.or_eq_true, decide_eq_true_eq, Bool.not_eq_true'] at h
    rcases h with h | h
    · rw [decide_eq_false (by omega)]; rfl
    · rw [h]; simp
  · unfold q_made; rw [hr]; simp
  · unfold q_made
    unfold n2i at h
    rw [hr] at h ⊢
    rw [Bool.and_true, decide_eq_true_eq]
    simp at h
    omega
theorem hc_made : HOK Try.prog 13 h_made :=
  hMk_ok (consA_ok liA_ok nilA_ok) (fun _ => rfl) (fun _ => by simp) fun a _ hok => by
    obtain ⟨l, _⟩ := a
    exact vch_call (inl := noInl) (ann := noAnn) (oks_cons ct_right oks_nil) (hoks_cons hc_of hoks_nil) (vc_made l) (by kernel_rfl)
theorem vc_known  :
  true = true ∧ (q_right [Obj.mk 2 1 free.calls free.slots free.bytes] = false → (decide (q_wE [] (Key.mk 3 void.oid 1 void.call void.rights void.value) 9 = 0) && decide (q_uF (q_wR [] (Key.mk 3 void.oid
    1 void.call void.rights void.value) 9) = 0) && decide (q_fA (q_wR [] (Key.mk 3 void.oid 1 void.call void.rights void.value) 9) = 9) && keq (q_fP (q_wR [] (Key.mk 3 void.oid 1 void.call void.rights
    void.value) 9)) (Key.mk 3 void.oid 1 void.call void.rights void.value) && decide (q_uF (q_wR [] (Key.mk 3 void.oid 1 void.call void.rights void.value) 64) = 2) && decide (q_span 1 = 896)) = true) ∧
    (q_right [Obj.mk 2 1 free.calls free.slots free.bytes] = true → (decide (q_wE [Obj.mk 2 1 free.calls free.slots free.bytes] (Key.mk 3 void.oid 1 void.call void.rights void.value) 9 = 0) && decide (q_uF
    (q_wR [Obj.mk 2 1 free.calls free.slots free.bytes] (Key.mk 3 void.oid 1 void.call void.rights void.value) 9) = 0) && decide (q_fA (q_wR [Obj.mk 2 1 free.calls free.slots free.bytes] (Key.mk 3 void.oid
    1 void.call void.rights void.value) 9) = 9) && keq (q_fP (q_wR [Obj.mk 2 1 free.calls free.slots free.bytes] (Key.mk 3 void.oid 1 void.call void.rights void.value) 9)) (Key.mk 3 void.oid 1 void.call
    void.rights void.value) && decide (q_uF (q_wR [Obj.mk 2 1 free.calls free.slots free.bytes] (Key.mk 3 void.oid 1 void.call void.rights void.value) 64) = 2) && decide (q_span 1 = 896)) = true) := by
  exact ⟨rfl, fun h => absurd h (by decide), fun _ => by kernel_rfl⟩
theorem ct_known : CtOK Try.prog 10 g_known := mk0_ok rfl (vch_call (inl := noInl) (ann := noAnn) (oks_cons ct_walk (oks_cons ct_span oks_nil)) (hoks_cons hc_of2 hoks_nil) vc_known (by kernel_rfl))
theorem vc_sspan (l : List Int) :
  (decide (40 < n2i (llen l)) = true → true = true) ∧ (decide (40 < n2i (llen l)) = false → (∃ g, q_inN (llen l) g ∧ false = false ∧ 0 = g ∧ l = l) ∧ ∀ (g : Int), q_inN (llen l) g → (decide (g < n2i
    (llen l)) = true → (0 ≤ g ∧ g < ↑(llen l)) ∧ g.toNat < llen l ∧ (0 ≤ g ∧ g < ↑(llen l)) ∧ g.toNat < llen l ∧ ((!decide (q_span (lget l g.toNat 0) = q_span (lget l g.toNat 0))) = true → false = true) ∧
    ((!decide (q_span (lget l g.toNat 0) = q_span (lget l g.toNat 0))) = false → inRo IntKind.i64 (g + 1) ∧ ∃ g', q_inN (llen l) g' ∧ (n2i (llen l) - g').toNat < (n2i (llen l) - g).toNat ∧ false = false ∧
    g + 1 = g' ∧ l = l)) ∧ (decide (g < n2i (llen l)) = false → true = true)) := by
  refine ⟨fun _ => rfl, fun hlen => ⟨⟨0, ⟨by omega, by omega⟩, (by (repeat' apply And.intro) <;> rfl)⟩, fun g hg => ⟨fun hlt => ?_, fun _ => rfl⟩⟩⟩
  obtain ⟨g0, g1⟩ := hg
  have hlt : g < (llen l : Int) := of_decide_eq_true hlt
  have hlen : ¬ 40 < (llen l : Int) := of_decide_eq_false hlen
  refine ⟨⟨g0, hlt⟩, by omega, ⟨g0, hlt⟩, by omega, fun h => by simp at h, fun _ => ⟨by simp only [inRo, inR]; omega, g + 1, ⟨by omega, by omega⟩, by unfold n2i; omega, (by (repeat' apply And.intro) <;> rfl)⟩⟩
theorem cl_sspan (l : List Int)  : CallTo Try.prog 3 [.sa 0] [.ro (.arr none 1 (.it .i64 l))] (isV (.bo true)) (fun _ _ => False) :=
  vc_call (inl := noInl) (ann := (annL [(3, 4, lpG [0, 2] (fun g => [(3, .it .i64 g)]) (q_inN (llen l)) (n2i (llen l)))])) (oks_cons ct_known (oks_cons ct_span (oks_cons ct_rspan oks_nil))) (vc_sspan l) (by kernel_rfl)
theorem vc_swalk (L : List Sx.Obj) (ks : List Key) (ad : List Int) :
  true = true ∧ True ∧ (q_made L = false → true = true) ∧ (q_made L = true → ((decide (20 < n2i (llen ks)) || decide (20 < n2i (llen ad))) = true → true = true) ∧ ((decide (20 < n2i (llen ks)) || decide
    (20 < n2i (llen ad))) = false → (∃ g, q_inN (llen ks) g ∧ false = false ∧ 0 = g ∧ L = L ∧ ks = ks ∧ ad = ad ∧ L = L) ∧ ∀ (g : Int), q_inN (llen ks) g → (decide (g < n2i (llen ks)) = true → (∃ g_1,
    q_inN (llen ad) g_1 ∧ false = false ∧ g = g ∧ 0 = g_1 ∧ L = L ∧ ks = ks ∧ ad = ad ∧ L = L) ∧ ∀ (g_1 : Int), q_inN (llen ad) g_1 → (decide (g_1 < n2i (llen ad)) = true → (0 ≤ g ∧ g < ↑(llen ks)) ∧
    g.toNat < llen ks ∧ (0 ≤ g_1 ∧ g_1 < ↑(llen ad)) ∧ g_1.toNat < llen ad ∧ (0 ≤ g ∧ g < ↑(llen ks)) ∧ g.toNat < llen ks ∧ (0 ≤ g_1 ∧ g_1 < ↑(llen ad)) ∧ g_1.toNat < llen ad ∧ q_okL L ∧ ((!(keq (q_fP
    (q_wR L (lget ks g.toNat void) (lget ad g_1.toNat 0))) (q_fP (q_wR L (lget ks g.toNat void) (lget ad g_1.toNat 0))) && (decide (q_fA (q_wR L (lget ks g.toNat void) (lget ad g_1.toNat 0)) = q_fA (q_wR L
    (lget ks g.toNat void) (lget ad g_1.toNat 0))) && (keq (q_fK (q_wR L (lget ks g.toNat void) (lget ad g_1.toNat 0))) (q_fK (q_wR L (lget ks g.toNat void) (lget ad g_1.toNat 0))) && (decide (q_fD (q_wR L
    (lget ks g.toNat void) (lget ad g_1.toNat 0)) = q_fD (q_wR L (lget ks g.toNat void) (lget ad g_1.toNat 0))) && true)))) || !(decide (q_uF (q_wR L (lget ks g.toNat void) (lget ad g_1.toNat 0)) = q_uF
    (q_wR L (lget ks g.toNat void) (lget ad g_1.toNat 0))) && (keq (q_uK (q_wR L (lget ks g.toNat void) (lget ad g_1.toNat 0))) (q_uK (q_wR L (lget ks g.toNat void) (lget ad g_1.toNat 0))) && (decide (q_uA
    (q_wR L (lget ks g.toNat void) (lget ad g_1.toNat 0)) (lget ad g_1.toNat 0) = q_uA (q_wR L (lget ks g.toNat void) (lget ad g_1.toNat 0)) (lget ad g_1.toNat 0)) && true))) || !decide (q_wE L (lget ks
    g.toNat void) (lget ad g_1.toNat 0) = q_wE L (lget ks g.toNat void) (lget ad g_1.toNat 0))) = true → false = true) ∧ ((!(keq (q_fP (q_wR L (lget ks g.toNat void) (lget ad g_1.toNat 0))) (q_fP (q_wR L
    (lget ks g.toNat void) (lget ad g_1.toNat 0))) && (decide (q_fA (q_wR L (lget ks g.toNat void) (lget ad g_1.toNat 0)) = q_fA (q_wR L (lget ks g.toNat void) (lget ad g_1.toNat 0))) && (keq (q_fK (q_wR L
    (lget ks g.toNat void) (lget ad g_1.toNat 0))) (q_fK (q_wR L (lget ks g.toNat void) (lget ad g_1.toNat 0))) && (decide (q_fD (q_wR L (lget ks g.toNat void) (lget ad g_1.toNat 0)) = q_fD (q_wR L (lget
    ks g.toNat void) (lget ad g_1.toNat 0))) && true)))) || !(decide (q_uF (q_wR L (lget ks g.toNat void) (lget ad g_1.toNat 0)) = q_uF (q_wR L (lget ks g.toNat void) (lget ad g_1.toNat 0))) && (keq (q_uK
    (q_wR L (lget ks g.toNat void) (lget ad g_1.toNat 0))) (q_uK (q_wR L (lget ks g.toNat void) (lget ad g_1.toNat 0))) && (decide (q_uA (q_wR L (lget ks g.toNat void) (lget ad g_1.toNat 0)) (lget ad
    g_1.toNat 0) = q_uA (q_wR L (lget ks g.toNat void) (lget ad g_1.toNat 0)) (lget ad g_1.toNat 0)) && true))) || !decide (q_wE L (lget ks g.toNat void) (lget ad g_1.toNat 0) = q_wE L (lget ks g.toNat
    void) (lget ad g_1.toNat 0))) = false → inRo IntKind.i64 (g_1 + 1) ∧ ∃ g', q_inN (llen ad) g' ∧ (n2i (llen ad) - g').toNat < (n2i (llen ad) - g_1).toNat ∧ false = false ∧ g = g ∧ g_1 + 1 = g' ∧ L = L ∧
    ks = ks ∧ ad = ad ∧ L = L)) ∧ (decide (g_1 < n2i (llen ad)) = false → inRo IntKind.i64 (g + 1) ∧ ∃ g', q_inN (llen ks) g' ∧ (n2i (llen ks) - g').toNat < (n2i (llen ks) - g).toNat ∧ false = false ∧ g +
    1 = g' ∧ L = L ∧ ks = ks ∧ ad = ad ∧ L = L)) ∧ (decide (g < n2i (llen ks)) = false → (q_same L L && true) = true))) := by
  refine ⟨rfl, trivial, fun _ => rfl, fun hm => ⟨fun _ => rfl, fun hlen => ⟨⟨0, ⟨by omega, by omega⟩, (by (repeat' apply And.intro) <;> rfl)⟩, fun g hg => ⟨fun hlt => ⟨⟨0, ⟨by omega, by omega⟩, (by (repeat' apply And.intro) <;> rfl)⟩, fun j hj => ⟨fun hjt => ?_, fun _ => ?_⟩⟩, fun _ => by rw [same_self]; rfl⟩⟩⟩⟩
  all_goals
    obtain ⟨g0, g1⟩ := hg
    obtain ⟨j0, j1⟩ := hj
    have hlt : g < (llen ks : Int) := of_decide_eq_true hlt
    simp only [Bool.or_eq_false_iff, decide_eq_false_iff_not] at hlen
    have hl1 : ¬ 20 < (llen ks : Int) := hlen.1
    have hl2 : ¬ 20 < (llen ad : Int) := hlen.2
  · have hjt : j < (llen ad : Int) := of_decide_eq_true hjt
    refine ⟨⟨g0, hlt⟩, by omega, ⟨j0, hjt⟩, by omega, ⟨g0, hlt⟩, by omega, ⟨j0, hjt⟩, by omega, (made_ok hm).1, fun h => ?_, fun _ => ⟨by simp only [inRo, inR]; omega, j + 1, ⟨by omega, by omega⟩, by unfold n2i; omega, (by (repeat' apply And.intro) <;> rfl)⟩⟩
    simp only [keq_self, decide_true, Bool.and_true, Bool.not_true, Bool.or_false, Bool.false_eq_true] at h
  · exact ⟨by simp only [inRo, inR]; omega, g + 1, ⟨by omega, by omega⟩, by unfold n2i; omega, (by (repeat' apply And.intro) <;> rfl)⟩
theorem cl_swalk (L : List Sx.Obj) (ks : List Key) (ad : List Int)  : CallTo Try.prog 4 [.sa 0, .sa 1, .sa 2] [.ro (.arr none 163 (.ob L)), .ro (.arr none 6 (.key ks)), .ro (.arr none 1 (.it .i64 ad))] (isV (.bo true)) (fun _ _ => False) :=
  vch_call (inl := noInl) (ann := (annL [(4, 5, lpG [0, 1, 2, 6, 7] (fun g => [(8, .it .i64 g)]) (q_inN (llen ks)) (n2i (llen ks))), (4, 8, lpG [0, 1, 2, 6, 7, 8] (fun g => [(9, .it .i64 g)]) (q_inN (llen ad)) (n2i (llen ad)))])) (oks_cons ct_known (oks_cons ct_walk (oks_cons ct_rwalk (oks_cons ct_same oks_nil)))) (hoks_cons hc_made hoks_nil) (vc_swalk L ks ad) (by kernel_rfl)
end Go.Proofs.Ytijgfnpbojfmdaa
