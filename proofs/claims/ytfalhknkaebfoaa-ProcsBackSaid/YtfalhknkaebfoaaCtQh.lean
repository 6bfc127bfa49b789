/- The laws of layer 13: States, Back. No condition. The statements vc_.. are printed by a program of the claimant's own. -/
import Derived.Test.YtfalhknkaebfoaaCtQf
import Derived.Test.YtfalhknkaebfoaaCtMq
import Derived.Test.YtfalhknkaebfoaaSpQs
namespace Go.Proofs.Ytfalhknkaebfoaa
open Go.Sx
set_option maxRecDepth 100000
set_option linter.unusedVariables false
set_option linter.unusedSimpArgs false
theorem vc_qsta (a b : Int) (m : Msg) (hs : q_strOk m.data) :
  ((!(decide (a < 0) || decide (4294967295 < a) || decide (b < 0) || decide (4294967295 < b))) = true → inRo IntKind.i64 (szI m.data)) ∧ ((decide (a < 0) || decide (4294967295 < a) || decide (b < 0) ||
    decide (4294967295 < b) || decide (40 < szI m.data)) = true → true = true) ∧ ((decide (a < 0) || decide (4294967295 < a) || decide (b < 0) || decide (4294967295 < b) || decide (40 < szI m.data)) =
    false → ((!decide (m.k0.kind = 1)) = true → true = true) ∧ ((!decide (m.k0.kind = 1)) = false → ((!decide (m.k1.kind = 1)) = true → true = true) ∧ ((!decide (m.k1.kind = 1)) = false → ((!decide
    (m.k2.kind = 1)) = true → true = true) ∧ ((!decide (m.k2.kind = 1)) = false → (∃ g, q_inv192 g ∧ a = a ∧ b = b ∧ false = false ∧ 0 = g ∧ m.code = m.code ∧ m.data = m.data ∧ m.k0 = m.k0 ∧ m.k1 = m.k1 ∧
    m.k2 = m.k2) ∧ ∀ (g : Int), q_inv192 g → (decide (g < 192) = true → (pNe 4 ∧ inRo IntKind.i64 (g.tmod 4)) ∧ (pNe 4 ∧ inRo IntKind.i64 (g.tdiv 4)) ∧ (pNe 4 ∧ inRo IntKind.i64 ((g.tdiv 4).tmod 4)) ∧ (pNe
    16 ∧ inRo IntKind.i64 (g.tdiv 16)) ∧ (pNe 2 ∧ inRo IntKind.i64 ((g.tdiv 16).tmod 2)) ∧ (pNe 32 ∧ inRo IntKind.i64 (g.tdiv 32)) ∧ (pNe 2 ∧ inRo IntKind.i64 ((g.tdiv 32).tmod 2)) ∧ (decide ((g.tdiv
    32).tmod 2 = 1) = true → (0 ≤ (g.tdiv 16).tmod 2 ∧ (g.tdiv 16).tmod 2 < ↑(llen (q_psL a b (g.tmod 4) ((g.tdiv 4).tmod 4)))) ∧ ((g.tdiv 16).tmod 2).toNat < llen (q_psL a b (g.tmod 4) ((g.tdiv 4).tmod
    4)) ∧ true = true ∧ True ∧ (q_made (q_psL a b (g.tmod 4) ((g.tdiv 4).tmod 4)) = false → false = true) ∧ (q_made (q_psL a b (g.tmod 4) ((g.tdiv 4).tmod 4)) = true → (pNe 64 ∧ inRo IntKind.i64 (g.tdiv
    64)) ∧ inRo IntKind.i64 (1 + g.tdiv 64) ∧ true = true ∧ (q_psL a b (g.tmod 4) ((g.tdiv 4).tmod 4)) = (q_psL a b (g.tmod 4) ((g.tdiv 4).tmod 4)) ∧ (q_okL (q_psL a b (g.tmod 4) ((g.tdiv 4).tmod 4)) ∧
    q_strOk m.data) ∧ (q_qchg (q_psL a b (g.tmod 4) ((g.tdiv 4).tmod 4)) (Pac.mk 1 0 (Key.mk 7 ((g.tdiv 16).tmod 2) 1 (lget (q_psL a b (g.tmod 4) ((g.tdiv 4).tmod 4)) ((g.tdiv 16).tmod 2).toNat free).calls
    void.rights void.value) (1 + g.tdiv 64) 0 m) = false → ((!(!true || !q_same (q_psL a b (g.tmod 4) ((g.tdiv 4).tmod 4)) (q_psL a b (g.tmod 4) ((g.tdiv 4).tmod 4)))) = true → some (q_psL a b (g.tmod 4)
    ((g.tdiv 4).tmod 4)) = some (q_psL a b (g.tmod 4) ((g.tdiv 4).tmod 4)) ∧ q_shortL (q_psL a b (g.tmod 4) ((g.tdiv 4).tmod 4))) ∧ ((!true || !q_same (q_psL a b (g.tmod 4) ((g.tdiv 4).tmod 4)) (q_psL a b
    (g.tmod 4) ((g.tdiv 4).tmod 4)) || !true) = true → false = true) ∧ ((!true || !q_same (q_psL a b (g.tmod 4) ((g.tdiv 4).tmod 4)) (q_psL a b (g.tmod 4) ((g.tdiv 4).tmod 4)) || !true) = false → inRo
    IntKind.i64 (g + 1) ∧ ∃ g', q_inv192 g' ∧ (192 - g').toNat < (192 - g).toNat ∧ a = a ∧ b = b ∧ false = false ∧ g + 1 = g' ∧ m.code = m.code ∧ m.data = m.data ∧ m.k0 = m.k0 ∧ m.k1 = m.k1 ∧ m.k2 = m.k2))
    ∧ (q_qchg (q_psL a b (g.tmod 4) ((g.tdiv 4).tmod 4)) (Pac.mk 1 0 (Key.mk 7 ((g.tdiv 16).tmod 2) 1 (lget (q_psL a b (g.tmod 4) ((g.tdiv 4).tmod 4)) ((g.tdiv 16).tmod 2).toNat free).calls void.rights
    void.value) (1 + g.tdiv 64) 0 m) = true → ((!(!true || !q_same (q_qdoL (q_psL a b (g.tmod 4) ((g.tdiv 4).tmod 4)) (Pac.mk 1 0 (Key.mk 7 ((g.tdiv 16).tmod 2) 1 (lget (q_psL a b (g.tmod 4) ((g.tdiv
    4).tmod 4)) ((g.tdiv 16).tmod 2).toNat free).calls void.rights void.value) (1 + g.tdiv 64) 0 m)) (q_qdoL (q_psL a b (g.tmod 4) ((g.tdiv 4).tmod 4)) (Pac.mk 1 0 (Key.mk 7 ((g.tdiv 16).tmod 2) 1 (lget
    (q_psL a b (g.tmod 4) ((g.tdiv 4).tmod 4)) ((g.tdiv 16).tmod 2).toNat free).calls void.rights void.value) (1 + g.tdiv 64) 0 m)))) = true → some (q_qdoL (q_psL a b (g.tmod 4) ((g.tdiv 4).tmod 4))
    (Pac.mk 1 0 (Key.mk 7 ((g.tdiv 16).tmod 2) 1 (lget (q_psL a b (g.tmod 4) ((g.tdiv 4).tmod 4)) ((g.tdiv 16).tmod 2).toNat free).calls void.rights void.value) (1 + g.tdiv 64) 0 m)) = some (q_qdoL (q_psL
    a b (g.tmod 4) ((g.tdiv 4).tmod 4)) (Pac.mk 1 0 (Key.mk 7 ((g.tdiv 16).tmod 2) 1 (lget (q_psL a b (g.tmod 4) ((g.tdiv 4).tmod 4)) ((g.tdiv 16).tmod 2).toNat free).calls void.rights void.value) (1 +
    g.tdiv 64) 0 m)) ∧ q_shortL (q_qdoL (q_psL a b (g.tmod 4) ((g.tdiv 4).tmod 4)) (Pac.mk 1 0 (Key.mk 7 ((g.tdiv 16).tmod 2) 1 (lget (q_psL a b (g.tmod 4) ((g.tdiv 4).tmod 4)) ((g.tdiv 16).tmod 2).toNat
    free).calls void.rights void.value) (1 + g.tdiv 64) 0 m))) ∧ ((!true || !q_same (q_qdoL (q_psL a b (g.tmod 4) ((g.tdiv 4).tmod 4)) (Pac.mk 1 0 (Key.mk 7 ((g.tdiv 16).tmod 2) 1 (lget (q_psL a b (g.tmod
    4) ((g.tdiv 4).tmod 4)) ((g.tdiv 16).tmod 2).toNat free).calls void.rights void.value) (1 + g.tdiv 64) 0 m)) (q_qdoL (q_psL a b (g.tmod 4) ((g.tdiv 4).tmod 4)) (Pac.mk 1 0 (Key.mk 7 ((g.tdiv 16).tmod
    2) 1 (lget (q_psL a b (g.tmod 4) ((g.tdiv 4).tmod 4)) ((g.tdiv 16).tmod 2).toNat free).calls void.rights void.value) (1 + g.tdiv 64) 0 m)) || !true) = true → false = true) ∧ ((!true || !q_same (q_qdoL
    (q_psL a b (g.tmod 4) ((g.tdiv 4).tmod 4)) (Pac.mk 1 0 (Key.mk 7 ((g.tdiv 16).tmod 2) 1 (lget (q_psL a b (g.tmod 4) ((g.tdiv 4).tmod 4)) ((g.tdiv 16).tmod 2).toNat free).calls void.rights void.value)
    (1 + g.tdiv 64) 0 m)) (q_qdoL (q_psL a b (g.tmod 4) ((g.tdiv 4).tmod 4)) (Pac.mk 1 0 (Key.mk 7 ((g.tdiv 16).tmod 2) 1 (lget (q_psL a b (g.tmod 4) ((g.tdiv 4).tmod 4)) ((g.tdiv 16).tmod 2).toNat
    free).calls void.rights void.value) (1 + g.tdiv 64) 0 m)) || !true) = false → inRo IntKind.i64 (g + 1) ∧ ∃ g', q_inv192 g' ∧ (192 - g').toNat < (192 - g).toNat ∧ a = a ∧ b = b ∧ false = false ∧ g + 1 =
    g' ∧ m.code = m.code ∧ m.data = m.data ∧ m.k0 = m.k0 ∧ m.k1 = m.k1 ∧ m.k2 = m.k2)))) ∧ (decide ((g.tdiv 32).tmod 2 = 1) = false → true = true ∧ True ∧ (q_made (q_psL a b (g.tmod 4) ((g.tdiv 4).tmod 4))
    = false → false = true) ∧ (q_made (q_psL a b (g.tmod 4) ((g.tdiv 4).tmod 4)) = true → (pNe 64 ∧ inRo IntKind.i64 (g.tdiv 64)) ∧ inRo IntKind.i64 (1 + g.tdiv 64) ∧ true = true ∧ (q_psL a b (g.tmod 4)
    ((g.tdiv 4).tmod 4)) = (q_psL a b (g.tmod 4) ((g.tdiv 4).tmod 4)) ∧ (q_okL (q_psL a b (g.tmod 4) ((g.tdiv 4).tmod 4)) ∧ q_strOk m.data) ∧ (q_qchg (q_psL a b (g.tmod 4) ((g.tdiv 4).tmod 4)) (Pac.mk 1 0
    (Key.mk 6 ((g.tdiv 16).tmod 2) 1 void.call void.rights void.value) (1 + g.tdiv 64) 0 m) = false → ((!(!true || !q_same (q_psL a b (g.tmod 4) ((g.tdiv 4).tmod 4)) (q_psL a b (g.tmod 4) ((g.tdiv 4).tmod
    4)))) = true → some (q_psL a b (g.tmod 4) ((g.tdiv 4).tmod 4)) = some (q_psL a b (g.tmod 4) ((g.tdiv 4).tmod 4)) ∧ q_shortL (q_psL a b (g.tmod 4) ((g.tdiv 4).tmod 4))) ∧ ((!true || !q_same (q_psL a b
    (g.tmod 4) ((g.tdiv 4).tmod 4)) (q_psL a b (g.tmod 4) ((g.tdiv 4).tmod 4)) || !true) = true → false = true) ∧ ((!true || !q_same (q_psL a b (g.tmod 4) ((g.tdiv 4).tmod 4)) (q_psL a b (g.tmod 4)
    ((g.tdiv 4).tmod 4)) || !true) = false → inRo IntKind.i64 (g + 1) ∧ ∃ g', q_inv192 g' ∧ (192 - g').toNat < (192 - g).toNat ∧ a = a ∧ b = b ∧ false = false ∧ g + 1 = g' ∧ m.code = m.code ∧ m.data =
    m.data ∧ m.k0 = m.k0 ∧ m.k1 = m.k1 ∧ m.k2 = m.k2)) ∧ (q_qchg (q_psL a b (g.tmod 4) ((g.tdiv 4).tmod 4)) (Pac.mk 1 0 (Key.mk 6 ((g.tdiv 16).tmod 2) 1 void.call void.rights void.value) (1 + g.tdiv 64) 0
    m) = true → ((!(!true || !q_same (q_qdoL (q_psL a b (g.tmod 4) ((g.tdiv 4).tmod 4)) (Pac.mk 1 0 (Key.mk 6 ((g.tdiv 16).tmod 2) 1 void.call void.rights void.value) (1 + g.tdiv 64) 0 m)) (q_qdoL (q_psL a
    b (g.tmod 4) ((g.tdiv 4).tmod 4)) (Pac.mk 1 0 (Key.mk 6 ((g.tdiv 16).tmod 2) 1 void.call void.rights void.value) (1 + g.tdiv 64) 0 m)))) = true → some (q_qdoL (q_psL a b (g.tmod 4) ((g.tdiv 4).tmod 4))
    (Pac.mk 1 0 (Key.mk 6 ((g.tdiv 16).tmod 2) 1 void.call void.rights void.value) (1 + g.tdiv 64) 0 m)) = some (q_qdoL (q_psL a b (g.tmod 4) ((g.tdiv 4).tmod 4)) (Pac.mk 1 0 (Key.mk 6 ((g.tdiv 16).tmod 2)
    1 void.call void.rights void.value) (1 + g.tdiv 64) 0 m)) ∧ q_shortL (q_qdoL (q_psL a b (g.tmod 4) ((g.tdiv 4).tmod 4)) (Pac.mk 1 0 (Key.mk 6 ((g.tdiv 16).tmod 2) 1 void.call void.rights void.value) (1
    + g.tdiv 64) 0 m))) ∧ ((!true || !q_same (q_qdoL (q_psL a b (g.tmod 4) ((g.tdiv 4).tmod 4)) (Pac.mk 1 0 (Key.mk 6 ((g.tdiv 16).tmod 2) 1 void.call void.rights void.value) (1 + g.tdiv 64) 0 m)) (q_qdoL
    (q_psL a b (g.tmod 4) ((g.tdiv 4).tmod 4)) (Pac.mk 1 0 (Key.mk 6 ((g.tdiv 16).tmod 2) 1 void.call void.rights void.value) (1 + g.tdiv 64) 0 m)) || !true) = true → false = true) ∧ ((!true || !q_same
    (q_qdoL (q_psL a b (g.tmod 4) ((g.tdiv 4).tmod 4)) (Pac.mk 1 0 (Key.mk 6 ((g.tdiv 16).tmod 2) 1 void.call void.rights void.value) (1 + g.tdiv 64) 0 m)) (q_qdoL (q_psL a b (g.tmod 4) ((g.tdiv 4).tmod
    4)) (Pac.mk 1 0 (Key.mk 6 ((g.tdiv 16).tmod 2) 1 void.call void.rights void.value) (1 + g.tdiv 64) 0 m)) || !true) = false → inRo IntKind.i64 (g + 1) ∧ ∃ g', q_inv192 g' ∧ (192 - g').toNat < (192 -
    g).toNat ∧ a = a ∧ b = b ∧ false = false ∧ g + 1 = g' ∧ m.code = m.code ∧ m.data = m.data ∧ m.k0 = m.k0 ∧ m.k1 = m.k1 ∧ m.k2 = m.k2))))) ∧ (decide (g < 192) = false → true = true))))) := by
  have hsz : inRo IntKind.i64 (szI m.data) := by unfold q_strOk at hs; simp only [inRo, inR, szI]; omega
  refine ⟨fun _ => hsz, fun _ => rfl, fun hb => ⟨fun _ => rfl, fun _ => ⟨fun _ => rfl, fun _ => ⟨fun _ => rfl, fun _ => ⟨⟨0, ⟨by omega, by omega⟩, (by (repeat' apply And.intro) <;> rfl)⟩, fun g hg => ⟨fun hlt => ?_, fun _ => rfl⟩⟩⟩⟩⟩⟩
  obtain ⟨g0, _⟩ := hg
  have hlt : g < 192 := of_decide_eq_true hlt
  simp only [Bool.or_eq_false_iff, decide_eq_false_iff_not] at hb
  obtain ⟨⟨⟨⟨a0, a1⟩, b0⟩, b1⟩, _⟩ := hb
  have hm := psL_made (a := a) (b := b) (u := g.tmod 4) (v := (g.tdiv 4).tmod 4) (by omega) (by omega) (by omega) (by omega)
  have hL := (made_ok hm).1
  have no : ∀ {p : Prop}, q_made (q_psL a b (g.tmod 4) ((g.tdiv 4).tmod 4)) = false → p := fun h => by rw [hm] at h; simp at h
  have inr : ∀ x : Int, 0 ≤ x → x ≤ 1000 → inRo IntKind.i64 x := fun x h1 h2 => by simp only [inRo, inR]; omega
  have d : ∀ k : Int, (k = 4 ∨ k = 16 ∨ k = 32 ∨ k = 64) → 0 ≤ g.tdiv k ∧ g.tdiv k ≤ 192 := fun k hk => by
    rw [Int.tdiv_eq_ediv_of_nonneg g0]
    rcases hk with rfl | rfl | rfl | rfl <;> omega
  have r : ∀ x k : Int, 0 ≤ x → 0 < k → 0 ≤ x.tmod k ∧ x.tmod k < k := fun x k h0 hk => ⟨Int.tmod_nonneg k h0, Int.tmod_lt_of_pos x hk⟩
  have ne : ∀ k : Int, 0 < k → pNe k := fun k hk => by unfold pNe; omega
  have hin : inRo IntKind.i64 (g + 1) := inr _ (by omega) (by omega)
  have r1 := r g 4 g0 (by omega)
  have r2 := r (g.tdiv 4) 4 (d 4 (by omega)).1 (by omega)
  have r3 := r (g.tdiv 16) 2 (d 16 (by omega)).1 (by omega)
  have r4 := r (g.tdiv 32) 2 (d 32 (by omega)).1 (by omega)
  have dl : ∀ k : Int, (k = 4 ∨ k = 16 ∨ k = 32 ∨ k = 64) → inRo IntKind.i64 (g.tdiv k) := fun k hk => inr _ (d k hk).1 (by have := (d k hk).2; omega)
  have l2 : llen (q_psL a b (g.tmod 4) ((g.tdiv 4).tmod 4)) = 2 := rfl
  refine ⟨⟨ne 4 (by omega), inr _ r1.1 (by omega)⟩, ⟨ne 4 (by omega), dl 4 (by omega)⟩, ⟨ne 4 (by omega), inr _ r2.1 (by omega)⟩, ⟨ne 16 (by omega), dl 16 (by omega)⟩, ⟨ne 2 (by omega), inr _ r3.1 (by omega)⟩, ⟨ne 32 (by omega), dl 32 (by omega)⟩, ⟨ne 2 (by omega), inr _ r4.1 (by omega)⟩, fun h1 => ⟨⟨r3.1, by rw [l2]; omega⟩, by rw [l2]; omega, ⟨rfl, trivial, fun h => no h, fun _ => ⟨⟨ne 64 (by omega), inr _ (d 64 (by omega)).1 (by have := (d 64 (by omega)).2; omega)⟩, inr _ (by have := (d 64 (by omega)).1; omega) (by have := (d 64 (by omega)).2; omega), rfl, rfl, ⟨hL, hs⟩, fun hc => ⟨fun _ => ⟨rfl, okL_short hL⟩, fun h => by rw [same_self] at h; simp at h, fun _ => ⟨hin, g + 1, ⟨by omega, by omega⟩, by omega, (by (repeat' apply And.intro) <;> rfl)⟩⟩, fun hc => ⟨fun _ => ⟨rfl, okL_short (qdoL_ok hL)⟩, fun h => by rw [same_self] at h; simp at h, fun _ => ⟨hin, g + 1, ⟨by omega, by omega⟩, by omega, (by (repeat' apply And.intro) <;> rfl)⟩⟩⟩⟩⟩, fun h1 => ⟨rfl, trivial, fun h => no h, fun _ => ⟨⟨ne 64 (by omega), inr _ (d 64 (by omega)).1 (by have := (d 64 (by omega)).2; omega)⟩, inr _ (by have := (d 64 (by omega)).1; omega) (by have := (d 64 (by omega)).2; omega), rfl, rfl, ⟨hL, hs⟩, fun hc => ⟨fun _ => ⟨rfl, okL_short hL⟩, fun h => by rw [same_self] at h; simp at h, fun _ => ⟨hin, g + 1, ⟨by omega, by omega⟩, by omega, (by (repeat' apply And.intro) <;> rfl)⟩⟩, fun hc => ⟨fun _ => ⟨rfl, okL_short (qdoL_ok hL)⟩, fun h => by rw [same_self] at h; simp at h, fun _ => ⟨hin, g + 1, ⟨by omega, by omega⟩, by omega, (by (repeat' apply And.intro) <;> rfl)⟩⟩⟩⟩⟩
theorem cl_qsta (a b : Int) (m : Msg) (hs : q_strOk m.data) : CallTo Try.prog 12 [.it .i64 a, .it .i64 b, msgV m] [] (isV (.bo true)) (fun _ _ => False) :=
  vch_call (inl := noInl) (ann := (annL [(12, 4, lpU 4), (12, 9, lpG [0, 1, 5, 6] (fun g => [(8, .it .i64 g)]) q_inv192 192), (12, 3000014, lpH 11)])) (oks_cons ct_same (oks_cons ct_known (oks_cons ct_states oks_nil))) (hoks_cons hc_made (hoks_cons hc_does hoks_nil)) (vc_qsta a b m hs) (by kernel_rfl)
theorem vc_qback (m n : Msg) (c b : Int) (hm : q_strOk m.data) (hn : q_strOk n.data) :
  inRo IntKind.i64 (szI m.data) ∧ ((!decide (32 < szI m.data)) = true → inRo IntKind.i64 (szI n.data)) ∧ ((decide (32 < szI m.data) || decide (32 < szI n.data) || decide (c < 0) || decide (4294967294 <
    c)) = true → true = true) ∧ ((decide (32 < szI m.data) || decide (32 < szI n.data) || decide (c < 0) || decide (4294967294 < c)) = false → ((!decide (m.k0.kind = 1) || !decide (n.k0.kind = 1) ||
    !decide (q_chk m.k0 = 0) || !decide (q_chk n.k0 = 0)) = true → true = true) ∧ ((!decide (m.k0.kind = 1) || !decide (n.k0.kind = 1) || !decide (q_chk m.k0 = 0) || !decide (q_chk n.k0 = 0)) = false →
    ((!decide (m.k1.kind = 1) || !decide (n.k1.kind = 1) || !decide (q_chk m.k1 = 0) || !decide (q_chk n.k1 = 0)) = true → true = true) ∧ ((!decide (m.k1.kind = 1) || !decide (n.k1.kind = 1) || !decide
    (q_chk m.k1 = 0) || !decide (q_chk n.k1 = 0)) = false → ((!decide (m.k2.kind = 1) || !decide (n.k2.kind = 1) || !decide (q_chk m.k2 = 0) || !decide (q_chk n.k2 = 0)) = true → true = true) ∧ ((!decide
    (m.k2.kind = 1) || !decide (n.k2.kind = 1) || !decide (q_chk m.k2 = 0) || !decide (q_chk n.k2 = 0)) = false → true = true ∧ True ∧ (q_made (q_psL c 0 1 0) = false → true = true ∧ q_strOk m.data ∧ true
    = true ∧ q_strOk n.data ∧ ((decide (q_ivE [] 0 (Key.mk 6 1 1 void.call void.rights b) 1 m = 0) && decide (q_tdE [] 1 = 0) && decide (q_ivE [] 1 ((q_get [] 1).slots.at 15) 3 n = 0) && decide (q_tdE [] 0
    = 0) && (decide ((q_tdM [] 1).code = m.code) && (steq (q_tdM [] 1).data m.data && (keq (q_tdM [] 1).k0 m.k0 && (keq (q_tdM [] 1).k1 m.k1 && (keq (q_tdM [] 1).k2 m.k2 && true)) && true))) && (decide
    ((q_tdM [] 0).code = n.code) && (steq (q_tdM [] 0).data n.data && (keq (q_tdM [] 0).k0 n.k0 && (keq (q_tdM [] 0).k1 n.k1 && (keq (q_tdM [] 0).k2 n.k2 && true)) && true))) && decide (q_psV [] 0 = 1) &&
    decide (q_psV [] 1 = 0) && keq ((q_get [] 1).slots.at 15) (Key.mk 7 void.oid 1 c void.rights void.value)) = true → inRo IntKind.i64 (c + 1)) ∧ (decide (q_ivE [] 0 (Key.mk 6 1 1 void.call void.rights b)
    1 m = 0) && decide (q_tdE [] 1 = 0) && decide (q_ivE [] 1 ((q_get [] 1).slots.at 15) 3 n = 0) && decide (q_tdE [] 0 = 0) && (decide ((q_tdM [] 1).code = m.code) && (steq (q_tdM [] 1).data m.data &&
    (keq (q_tdM [] 1).k0 m.k0 && (keq (q_tdM [] 1).k1 m.k1 && (keq (q_tdM [] 1).k2 m.k2 && true)) && true))) && (decide ((q_tdM [] 0).code = n.code) && (steq (q_tdM [] 0).data n.data && (keq (q_tdM []
    0).k0 n.k0 && (keq (q_tdM [] 0).k1 n.k1 && (keq (q_tdM [] 0).k2 n.k2 && true)) && true))) && decide (q_psV [] 0 = 1) && decide (q_psV [] 1 = 0) && keq ((q_get [] 1).slots.at 15) (Key.mk 7 void.oid 1 c
    void.rights void.value) && decide ((q_get [] 0).calls = c + 1) && keq (q_prep [] ((q_get [] 1).slots.at 15)) void && true) = true) ∧ (q_made (q_psL c 0 1 0) = true → true = true ∧ q_strOk m.data ∧
    (q_okL (q_psL c 0 1 0) ∧ q_strOk m.data) ∧ true = true ∧ q_strOk n.data ∧ (q_okL (q_bk1 c b m) ∧ q_strOk n.data) ∧ ((decide (q_ivE (q_psL c 0 1 0) 0 (Key.mk 6 1 1 void.call void.rights b) 1 m = 0) &&
    decide (q_tdE (q_bk1 c b m) 1 = 0) && decide (q_ivE (q_bk1 c b m) 1 (q_bkK c b m) 3 n = 0) && decide (q_tdE (q_bk2 c b m n) 0 = 0) && (decide ((q_tdM (q_bk1 c b m) 1).code = m.code) && (steq (q_tdM
    (q_bk1 c b m) 1).data m.data && (keq (q_tdM (q_bk1 c b m) 1).k0 m.k0 && (keq (q_tdM (q_bk1 c b m) 1).k1 m.k1 && (keq (q_tdM (q_bk1 c b m) 1).k2 m.k2 && true)) && true))) && (decide ((q_tdM (q_bk2 c b m
    n) 0).code = n.code) && (steq (q_tdM (q_bk2 c b m n) 0).data n.data && (keq (q_tdM (q_bk2 c b m n) 0).k0 n.k0 && (keq (q_tdM (q_bk2 c b m n) 0).k1 n.k1 && (keq (q_tdM (q_bk2 c b m n) 0).k2 n.k2 &&
    true)) && true))) && decide (q_psV (q_bk2 c b m n) 0 = 1) && decide (q_psV (q_bk2 c b m n) 1 = 0) && keq (q_bkK c b m) (Key.mk 7 void.oid 1 c void.rights void.value)) = true → inRo IntKind.i64 (c + 1))
    ∧ (decide (q_ivE (q_psL c 0 1 0) 0 (Key.mk 6 1 1 void.call void.rights b) 1 m = 0) && decide (q_tdE (q_bk1 c b m) 1 = 0) && decide (q_ivE (q_bk1 c b m) 1 (q_bkK c b m) 3 n = 0) && decide (q_tdE (q_bk2
    c b m n) 0 = 0) && (decide ((q_tdM (q_bk1 c b m) 1).code = m.code) && (steq (q_tdM (q_bk1 c b m) 1).data m.data && (keq (q_tdM (q_bk1 c b m) 1).k0 m.k0 && (keq (q_tdM (q_bk1 c b m) 1).k1 m.k1 && (keq
    (q_tdM (q_bk1 c b m) 1).k2 m.k2 && true)) && true))) && (decide ((q_tdM (q_bk2 c b m n) 0).code = n.code) && (steq (q_tdM (q_bk2 c b m n) 0).data n.data && (keq (q_tdM (q_bk2 c b m n) 0).k0 n.k0 &&
    (keq (q_tdM (q_bk2 c b m n) 0).k1 n.k1 && (keq (q_tdM (q_bk2 c b m n) 0).k2 n.k2 && true)) && true))) && decide (q_psV (q_bk2 c b m n) 0 = 1) && decide (q_psV (q_bk2 c b m n) 1 = 0) && keq (q_bkK c b
    m) (Key.mk 7 void.oid 1 c void.rights void.value) && decide ((q_get (q_bk2 c b m n) 0).calls = c + 1) && keq (q_prep (q_bk2 c b m n) (q_bkK c b m)) void && true) = true))))) := by
  have hsz : ∀ s : ByteArray, q_strOk s → inRo IntKind.i64 (szI s) := fun s hs => by unfold q_strOk at hs; simp only [inRo, inR, szI]; omega
  refine ⟨hsz _ hm, fun _ => hsz _ hn, fun _ => rfl, fun hb => ⟨fun _ => rfl, fun k0 => ⟨fun _ => rfl, fun k1 => ⟨fun _ => rfl, fun k2 => ?_⟩⟩⟩⟩
  simp only [Bool.or_eq_false_iff, Bool.not_eq_false', decide_eq_true_eq, decide_eq_false_iff_not] at hb k0 k1 k2
  obtain ⟨⟨⟨b0, b1⟩, b2⟩, b3⟩ := hb
  obtain ⟨⟨⟨x0, y0⟩, z0⟩, t0⟩ := k0
  obtain ⟨⟨⟨x1, y1⟩, z1⟩, t1⟩ := k1
  obtain ⟨⟨⟨x2, y2⟩, z2⟩, t2⟩ := k2
  have hM := psL_made (a := c) (b := 0) (u := 1) (v := 0) (by omega) (by omega) (by omega) (by omega)
  have hL := (made_ok hM).1
  obtain ⟨f1, f2, f3, f4, f5, f6, f7, f8, f9, f10, f11⟩ := bk_facts (c := c) (b := b) (m := m) (n := n) (by omega) (by omega) ⟨⟨x0, z0⟩, ⟨x1, z1⟩, ⟨x2, z2⟩⟩ ⟨⟨y0, t0⟩, ⟨y1, t1⟩, ⟨y2, t2⟩⟩ (by omega) (by omega)
  refine ⟨rfl, trivial, fun h => by rw [hM] at h; simp at h, fun _ => ⟨rfl, hm, ⟨hL, hm⟩, rfl, hn, ⟨ivL_ok hL, hn⟩, fun _ => by simp only [inRo, inR]; omega, ?_⟩⟩
  rw [f11, f1, f2, f3, f4, f5, f6, f7, f8, f10, f9]
  simp [steq_self, keq_self]
theorem cl_qback (m n : Msg) (c b : Int) (hm : q_strOk m.data) (hn : q_strOk n.data) : CallTo Try.prog 5 [msgV m, msgV n, .ag [.it .i64 c, .it .i64 b]] [] (isV (.bo true)) (fun _ _ => False) :=
  vch_call (inl := noInl) (ann := (annL [(5, 4, lpU 4)])) (oks_cons ct_known (oks_cons ct_rchk (oks_cons ct_told (oks_cons ct_get (oks_cons ct_prep (oks_cons ct_pst oks_nil)))))) (hoks_cons hc_made2 (hoks_cons hc_inv hoks_nil)) (vc_qback m n c b hm hn) (by kernel_rfl)
end Go.Proofs.Ytfalhknkaebfoaa
