/- The laws of layer 12: which nodes are banks. No condition. The statements vc_.. are printed by a program of the claimant's own. -/
import Derived.Test.YtfalhknkaebfoaaCtBf
namespace Go.Proofs.Ytfalhknkaebfoaa
open Go.Sx
set_option maxRecDepth 100000
set_option linter.unusedVariables false
set_option linter.unusedSimpArgs false
theorem vc_bform (a b : Key) (x : List Int) :
  (decide (6 < n2i (llen x)) = true → true = true) ∧ (decide (6 < n2i (llen x)) = false → (decide (1 < n2i (llen x)) = true → ((0 : Int) ≤ 1 ∧ (1 : Int) < ↑(llen x)) ∧ Int.toNat 1 < llen x ∧ (decide
    (Int.ofNat (1 + 1) < n2i (llen x)) = true → (0 ≤ Int.ofNat (1 + 1) ∧ Int.ofNat (1 + 1) < ↑(llen x)) ∧ (Int.ofNat (1 + 1)).toNat < llen x ∧ (decide (Int.ofNat (1 + 1 + 1) < n2i (llen x)) = true → (0 ≤
    Int.ofNat (1 + 1 + 1) ∧ Int.ofNat (1 + 1 + 1) < ↑(llen x)) ∧ (Int.ofNat (1 + 1 + 1)).toNat < llen x ∧ (decide (Int.ofNat (1 + 1 + 1 + 1) < n2i (llen x)) = true → (0 ≤ Int.ofNat (1 + 1 + 1 + 1) ∧
    Int.ofNat (1 + 1 + 1 + 1) < ↑(llen x)) ∧ (Int.ofNat (1 + 1 + 1 + 1)).toNat < llen x ∧ (decide (Int.ofNat (1 + 1 + 1 + 1 + 1) < n2i (llen x)) = true → (0 ≤ Int.ofNat (1 + 1 + 1 + 1 + 1) ∧ Int.ofNat (1 +
    1 + 1 + 1 + 1) < ↑(llen x)) ∧ (Int.ofNat (1 + 1 + 1 + 1 + 1)).toNat < llen x ∧ (decide (Int.ofNat (1 + 1 + 1 + 1 + 1 + 1) < n2i (llen x)) = true → (0 ≤ Int.ofNat (1 + 1 + 1 + 1 + 1 + 1) ∧ Int.ofNat (1
    + 1 + 1 + 1 + 1 + 1) < ↑(llen x)) ∧ (Int.ofNat (1 + 1 + 1 + 1 + 1 + 1)).toNat < llen x ∧ False) ∧ (decide (Int.ofNat (1 + 1 + 1 + 1 + 1 + 1) < n2i (llen x)) = false → (∃ g, q_inv17 g ∧ 1 = g ∧ x = x ∧
    a = a ∧ b = b ∧ q_frO a b = q_frO a b ∧ Key.mk 4 void.oid 1 void.call void.rights void.value = Key.mk 4 void.oid 1 void.call void.rights void.value ∧ [q_frO a b, Obj.mk free.kind (lget x (Int.toNat 1)
    0) free.calls free.slots free.bytes, Obj.mk free.kind (lget x (Int.ofNat (1 + 1)).toNat 0) free.calls free.slots free.bytes, Obj.mk free.kind (lget x (Int.ofNat (1 + 1 + 1)).toNat 0) free.calls
    free.slots free.bytes, Obj.mk free.kind (lget x (Int.ofNat (1 + 1 + 1 + 1)).toNat 0) free.calls free.slots free.bytes, Obj.mk free.kind (lget x (Int.ofNat (1 + 1 + 1 + 1 + 1)).toNat 0) free.calls
    free.slots free.bytes] = q_frm a b x) ∧ ∀ (g : Int), q_inv17 g → (decide (g < 7) = true → (∃ g_1, q_inv04 g_1 ∧ g = g ∧ 0 = g_1 ∧ x = x ∧ a = a ∧ b = b ∧ q_frO a b = q_frO a b ∧ Key.mk 4 void.oid 1
    void.call void.rights void.value = Key.mk 4 void.oid 1 void.call void.rights void.value ∧ q_frm a b x = q_frm a b x) ∧ ∀ (g_1 : Int), q_inv04 g_1 → (decide (g_1 < 4) = true → true = true ∧ True ∧
    (q_made (q_frm a b x) = false → true = true) ∧ (q_made (q_frm a b x) = true → true = true ∧ q_frm a b x = q_frm a b x ∧ q_okL (q_frm a b x) ∧ (q_bchg (q_frm a b x) (Acb.mk g g_1 (Key.mk 4 void.oid 1
    void.call void.rights void.value) (Key.mk 2 void.oid 1 void.call void.rights void.value) g_1) = false → ((!true || !q_same (q_frm a b x) (q_frm a b x)) = true → false = true) ∧ ((!true || !q_same
    (q_frm a b x) (q_frm a b x)) = false → inRo IntKind.i64 (g_1 + 1) ∧ ∃ g', q_inv04 g' ∧ (4 - g').toNat < (4 - g_1).toNat ∧ g = g ∧ g_1 + 1 = g' ∧ x = x ∧ a = a ∧ b = b ∧ q_frO a b = q_frO a b ∧ Key.mk 4
    void.oid 1 void.call void.rights void.value = Key.mk 4 void.oid 1 void.call void.rights void.value ∧ q_frm a b x = q_frm a b x)) ∧ (q_bchg (q_frm a b x) (Acb.mk g g_1 (Key.mk 4 void.oid 1 void.call
    void.rights void.value) (Key.mk 2 void.oid 1 void.call void.rights void.value) g_1) = true → ((!true || !q_same (q_bdoL (q_frm a b x) (Acb.mk g g_1 (Key.mk 4 void.oid 1 void.call void.rights
    void.value) (Key.mk 2 void.oid 1 void.call void.rights void.value) g_1)) (q_bdoL (q_frm a b x) (Acb.mk g g_1 (Key.mk 4 void.oid 1 void.call void.rights void.value) (Key.mk 2 void.oid 1 void.call
    void.rights void.value) g_1))) = true → false = true) ∧ ((!true || !q_same (q_bdoL (q_frm a b x) (Acb.mk g g_1 (Key.mk 4 void.oid 1 void.call void.rights void.value) (Key.mk 2 void.oid 1 void.call
    void.rights void.value) g_1)) (q_bdoL (q_frm a b x) (Acb.mk g g_1 (Key.mk 4 void.oid 1 void.call void.rights void.value) (Key.mk 2 void.oid 1 void.call void.rights void.value) g_1))) = false → inRo
    IntKind.i64 (g_1 + 1) ∧ ∃ g', q_inv04 g' ∧ (4 - g').toNat < (4 - g_1).toNat ∧ g = g ∧ g_1 + 1 = g' ∧ x = x ∧ a = a ∧ b = b ∧ q_frO a b = q_frO a b ∧ Key.mk 4 void.oid 1 void.call void.rights void.value
    = Key.mk 4 void.oid 1 void.call void.rights void.value ∧ q_frm a b x = q_frm a b x)))) ∧ (decide (g_1 < 4) = false → inRo IntKind.i64 (g + 1) ∧ ∃ g', q_inv17 g' ∧ (7 - g').toNat < (7 - g).toNat ∧ g + 1
    = g' ∧ x = x ∧ a = a ∧ b = b ∧ q_frO a b = q_frO a b ∧ Key.mk 4 void.oid 1 void.call void.rights void.value = Key.mk 4 void.oid 1 void.call void.rights void.value ∧ q_frm a b x = q_frm a b x)) ∧
    (decide (g < 7) = false → true = true))) ∧ (decide (Int.ofNat (1 + 1 + 1 + 1 + 1) < n2i (llen x)) = false → (∃ g, q_inv17 g ∧ 1 = g ∧ x = x ∧ a = a ∧ b = b ∧ q_frO a b = q_frO a b ∧ Key.mk 4 void.oid 1
    void.call void.rights void.value = Key.mk 4 void.oid 1 void.call void.rights void.value ∧ [q_frO a b, Obj.mk free.kind (lget x (Int.toNat 1) 0) free.calls free.slots free.bytes, Obj.mk free.kind (lget
    x (Int.ofNat (1 + 1)).toNat 0) free.calls free.slots free.bytes, Obj.mk free.kind (lget x (Int.ofNat (1 + 1 + 1)).toNat 0) free.calls free.slots free.bytes, Obj.mk free.kind (lget x (Int.ofNat (1 + 1 +
    1 + 1)).toNat 0) free.calls free.slots free.bytes, free] = q_frm a b x) ∧ ∀ (g : Int), q_inv17 g → (decide (g < 7) = true → (∃ g_1, q_inv04 g_1 ∧ g = g ∧ 0 = g_1 ∧ x = x ∧ a = a ∧ b = b ∧ q_frO a b =
    q_frO a b ∧ Key.mk 4 void.oid 1 void.call void.rights void.value = Key.mk 4 void.oid 1 void.call void.rights void.value ∧ q_frm a b x = q_frm a b x) ∧ ∀ (g_1 : Int), q_inv04 g_1 → (decide (g_1 < 4) =
    true → true = true ∧ True ∧ (q_made (q_frm a b x) = false → true = true) ∧ (q_made (q_frm a b x) = true → true = true ∧ q_frm a b x = q_frm a b x ∧ q_okL (q_frm a b x) ∧ (q_bchg (q_frm a b x) (Acb.mk g
    g_1 (Key.mk 4 void.oid 1 void.call void.rights void.value) (Key.mk 2 void.oid 1 void.call void.rights void.value) g_1) = false → ((!true || !q_same (q_frm a b x) (q_frm a b x)) = true → false = true) ∧
    ((!true || !q_same (q_frm a b x) (q_frm a b x)) = false → inRo IntKind.i64 (g_1 + 1) ∧ ∃ g', q_inv04 g' ∧ (4 - g').toNat < (4 - g_1).toNat ∧ g = g ∧ g_1 + 1 = g' ∧ x = x ∧ a = a ∧ b = b ∧ q_frO a b =
    q_frO a b ∧ Key.mk 4 void.oid 1 void.call void.rights void.value = Key.mk 4 void.oid 1 void.call void.rights void.value ∧ q_frm a b x = q_frm a b x)) ∧ (q_bchg (q_frm a b x) (Acb.mk g g_1 (Key.mk 4
    void.oid 1 void.call void.rights void.value) (Key.mk 2 void.oid 1 void.call void.rights void.value) g_1) = true → ((!true || !q_same (q_bdoL (q_frm a b x) (Acb.mk g g_1 (Key.mk 4 void.oid 1 void.call
    void.rights void.value) (Key.mk 2 void.oid 1 void.call void.rights void.value) g_1)) (q_bdoL (q_frm a b x) (Acb.mk g g_1 (Key.mk 4 void.oid 1 void.call void.rights void.value) (Key.mk 2 void.oid 1
    void.call void.rights void.value) g_1))) = true → false = true) ∧ ((!true || !q_same (q_bdoL (q_frm a b x) (Acb.mk g g_1 (Key.mk 4 void.oid 1 void.call void.rights void.value) (Key.mk 2 void.oid 1
    void.call void.rights void.value) g_1)) (q_bdoL (q_frm a b x) (Acb.mk g g_1 (Key.mk 4 void.oid 1 void.call void.rights void.value) (Key.mk 2 void.oid 1 void.call void.rights void.value) g_1))) = false
    → inRo IntKind.i64 (g_1 + 1) ∧ ∃ g', q_inv04 g' ∧ (4 - g').toNat < (4 - g_1).toNat ∧ g = g ∧ g_1 + 1 = g' ∧ x = x ∧ a = a ∧ b = b ∧ q_frO a b = q_frO a b ∧ Key.mk 4 void.oid 1 void.call void.rights
    void.value = Key.mk 4 void.oid 1 void.call void.rights void.value ∧ q_frm a b x = q_frm a b x)))) ∧ (decide (g_1 < 4) = false → inRo IntKind.i64 (g + 1) ∧ ∃ g', q_inv17 g' ∧ (7 - g').toNat < (7 -
    g).toNat ∧ g + 1 = g' ∧ x = x ∧ a = a ∧ b = b ∧ q_frO a b = q_frO a b ∧ Key.mk 4 void.oid 1 void.call void.rights void.value = Key.mk 4 void.oid 1 void.call void.rights void.value ∧ q_frm a b x = q_frm
    a b x)) ∧ (decide (g < 7) = false → true = true))) ∧ (decide (Int.ofNat (1 + 1 + 1 + 1) < n2i (llen x)) = false → (∃ g, q_inv17 g ∧ 1 = g ∧ x = x ∧ a = a ∧ b = b ∧ q_frO a b = q_frO a b ∧ Key.mk 4
    void.oid 1 void.call void.rights void.value = Key.mk 4 void.oid 1 void.call void.rights void.value ∧ [q_frO a b, Obj.mk free.kind (lget x (Int.toNat 1) 0) free.calls free.slots free.bytes, Obj.mk
    free.kind (lget x (Int.ofNat (1 + 1)).toNat 0) free.calls free.slots free.bytes, Obj.mk free.kind (lget x (Int.ofNat (1 + 1 + 1)).toNat 0) free.calls free.slots free.bytes, free, free] = q_frm a b x) ∧
    ∀ (g : Int), q_inv17 g → (decide (g < 7) = true → (∃ g_1, q_inv04 g_1 ∧ g = g ∧ 0 = g_1 ∧ x = x ∧ a = a ∧ b = b ∧ q_frO a b = q_frO a b ∧ Key.mk 4 void.oid 1 void.call void.rights void.value = Key.mk 4
    void.oid 1 void.call void.rights void.value ∧ q_frm a b x = q_frm a b x) ∧ ∀ (g_1 : Int), q_inv04 g_1 → (decide (g_1 < 4) = true → true = true ∧ True ∧ (q_made (q_frm a b x) = false → true = true) ∧
    (q_made (q_frm a b x) = true → true = true ∧ q_frm a b x = q_frm a b x ∧ q_okL (q_frm a b x) ∧ (q_bchg (q_frm a b x) (Acb.mk g g_1 (Key.mk 4 void.oid 1 void.call void.rights void.value) (Key.mk 2
    void.oid 1 void.call void.rights void.value) g_1) = false → ((!true || !q_same (q_frm a b x) (q_frm a b x)) = true → false = true) ∧ ((!true || !q_same (q_frm a b x) (q_frm a b x)) = false → inRo
    IntKind.i64 (g_1 + 1) ∧ ∃ g', q_inv04 g' ∧ (4 - g').toNat < (4 - g_1).toNat ∧ g = g ∧ g_1 + 1 = g' ∧ x = x ∧ a = a ∧ b = b ∧ q_frO a b = q_frO a b ∧ Key.mk 4 void.oid 1 void.call void.rights void.value
    = Key.mk 4 void.oid 1 void.call void.rights void.value ∧ q_frm a b x = q_frm a b x)) ∧ (q_bchg (q_frm a b x) (Acb.mk g g_1 (Key.mk 4 void.oid 1 void.call void.rights void.value) (Key.mk 2 void.oid 1
    void.call void.rights void.value) g_1) = true → ((!true || !q_same (q_bdoL (q_frm a b x) (Acb.mk g g_1 (Key.mk 4 void.oid 1 void.call void.rights void.value) (Key.mk 2 void.oid 1 void.call void.rights
    void.value) g_1)) (q_bdoL (q_frm a b x) (Acb.mk g g_1 (Key.mk 4 void.oid 1 void.call void.rights void.value) (Key.mk 2 void.oid 1 void.call void.rights void.value) g_1))) = true → false = true) ∧
    ((!true || !q_same (q_bdoL (q_frm a b x) (Acb.mk g g_1 (Key.mk 4 void.oid 1 void.call void.rights void.value) (Key.mk 2 void.oid 1 void.call void.rights void.value) g_1)) (q_bdoL (q_frm a b x) (Acb.mk
    g g_1 (Key.mk 4 void.oid 1 void.call void.rights void.value) (Key.mk 2 void.oid 1 void.call void.rights void.value) g_1))) = false → inRo IntKind.i64 (g_1 + 1) ∧ ∃ g', q_inv04 g' ∧ (4 - g').toNat < (4
    - g_1).toNat ∧ g = g ∧ g_1 + 1 = g' ∧ x = x ∧ a = a ∧ b = b ∧ q_frO a b = q_frO a b ∧ Key.mk 4 void.oid 1 void.call void.rights void.value = Key.mk 4 void.oid 1 void.call void.rights void.value ∧ q_frm
    a b x = q_frm a b x)))) ∧ (decide (g_1 < 4) = false → inRo IntKind.i64 (g + 1) ∧ ∃ g', q_inv17 g' ∧ (7 - g').toNat < (7 - g).toNat ∧ g + 1 = g' ∧ x = x ∧ a = a ∧ b = b ∧ q_frO a b = q_frO a b ∧ Key.mk
    4 void.oid 1 void.call void.rights void.value = Key.mk 4 void.oid 1 void.call void.rights void.value ∧ q_frm a b x = q_frm a b x)) ∧ (decide (g < 7) = false → true = true))) ∧ (decide (Int.ofNat (1 + 1
    + 1) < n2i (llen x)) = false → (∃ g, q_inv17 g ∧ 1 = g ∧ x = x ∧ a = a ∧ b = b ∧ q_frO a b = q_frO a b ∧ Key.mk 4 void.oid 1 void.call void.rights void.value = Key.mk 4 void.oid 1 void.call void.rights
    void.value ∧ [q_frO a b, Obj.mk free.kind (lget x (Int.toNat 1) 0) free.calls free.slots free.bytes, Obj.mk free.kind (lget x (Int.ofNat (1 + 1)).toNat 0) free.calls free.slots free.bytes, free, free,
    free] = q_frm a b x) ∧ ∀ (g : Int), q_inv17 g → (decide (g < 7) = true → (∃ g_1, q_inv04 g_1 ∧ g = g ∧ 0 = g_1 ∧ x = x ∧ a = a ∧ b = b ∧ q_frO a b = q_frO a b ∧ Key.mk 4 void.oid 1 void.call
    void.rights void.value = Key.mk 4 void.oid 1 void.call void.rights void.value ∧ q_frm a b x = q_frm a b x) ∧ ∀ (g_1 : Int), q_inv04 g_1 → (decide (g_1 < 4) = true → true = true ∧ True ∧ (q_made (q_frm
    a b x) = false → true = true) ∧ (q_made (q_frm a b x) = true → true = true ∧ q_frm a b x = q_frm a b x ∧ q_okL (q_frm a b x) ∧ (q_bchg (q_frm a b x) (Acb.mk g g_1 (Key.mk 4 void.oid 1 void.call
    void.rights void.value) (Key.mk 2 void.oid 1 void.call void.rights void.value) g_1) = false → ((!true || !q_same (q_frm a b x) (q_frm a b x)) = true → false = true) ∧ ((!true || !q_same (q_frm a b x)
    (q_frm a b x)) = false → inRo IntKind.i64 (g_1 + 1) ∧ ∃ g', q_inv04 g' ∧ (4 - g').toNat < (4 - g_1).toNat ∧ g = g ∧ g_1 + 1 = g' ∧ x = x ∧ a = a ∧ b = b ∧ q_frO a b = q_frO a b ∧ Key.mk 4 void.oid 1
    void.call void.rights void.value = Key.mk 4 void.oid 1 void.call void.rights void.value ∧ q_frm a b x = q_frm a b x)) ∧ (q_bchg (q_frm a b x) (Acb.mk g g_1 (Key.mk 4 void.oid 1 void.call void.rights
    void.value) (Key.mk 2 void.oid 1 void.call void.rights void.value) g_1) = true → ((!true || !q_same (q_bdoL (q_frm a b x) (Acb.mk g g_1 (Key.mk 4 void.oid 1 void.call void.rights void.value) (Key.mk 2
    void.oid 1 void.call void.rights void.value) g_1)) (q_bdoL (q_frm a b x) (Acb.mk g g_1 (Key.mk 4 void.oid 1 void.call void.rights void.value) (Key.mk 2 void.oid 1 void.call void.rights void.value)
    g_1))) = true → false = true) ∧ ((!true || !q_same (q_bdoL (q_frm a b x) (Acb.mk g g_1 (Key.mk 4 void.oid 1 void.call void.rights void.value) (Key.mk 2 void.oid 1 void.call void.rights void.value)
    g_1)) (q_bdoL (q_frm a b x) (Acb.mk g g_1 (Key.mk 4 void.oid 1 void.call void.rights void.value) (Key.mk 2 void.oid 1 void.call void.rights void.value) g_1))) = false → inRo IntKind.i64 (g_1 + 1) ∧ ∃
    g', q_inv04 g' ∧ (4 - g').toNat < (4 - g_1).toNat ∧ g = g ∧ g_1 + 1 = g' ∧ x = x ∧ a = a ∧ b = b ∧ q_frO a b = q_frO a b ∧ Key.mk 4 void.oid 1 void.call void.rights void.value = Key.mk 4 void.oid 1
    void.call void.rights void.value ∧ q_frm a b x = q_frm a b x)))) ∧ (decide (g_1 < 4) = false → inRo IntKind.i64 (g + 1) ∧ ∃ g', q_inv17 g' ∧ (7 - g').toNat < (7 - g).toNat ∧ g + 1 = g' ∧ x = x ∧ a = a
    ∧ b = b ∧ q_frO a b = q_frO a b ∧ Key.mk 4 void.oid 1 void.call void.rights void.value = Key.mk 4 void.oid 1 void.call void.rights void.value ∧ q_frm a b x = q_frm a b x)) ∧ (decide (g < 7) = false →
    true = true))) ∧ (decide (Int.ofNat (1 + 1) < n2i (llen x)) = false → (∃ g, q_inv17 g ∧ 1 = g ∧ x = x ∧ a = a ∧ b = b ∧ q_frO a b = q_frO a b ∧ Key.mk 4 void.oid 1 void.call void.rights void.value =
    Key.mk 4 void.oid 1 void.call void.rights void.value ∧ [q_frO a b, Obj.mk free.kind (lget x (Int.toNat 1) 0) free.calls free.slots free.bytes, free, free, free, free] = q_frm a b x) ∧ ∀ (g : Int),
    q_inv17 g → (decide (g < 7) = true → (∃ g_1, q_inv04 g_1 ∧ g = g ∧ 0 = g_1 ∧ x = x ∧ a = a ∧ b = b ∧ q_frO a b = q_frO a b ∧ Key.mk 4 void.oid 1 void.call void.rights void.value = Key.mk 4 void.oid 1
    void.call void.rights void.value ∧ q_frm a b x = q_frm a b x) ∧ ∀ (g_1 : Int), q_inv04 g_1 → (decide (g_1 < 4) = true → true = true ∧ True ∧ (q_made (q_frm a b x) = false → true = true) ∧ (q_made
    (q_frm a b x) = true → true = true ∧ q_frm a b x = q_frm a b x ∧ q_okL (q_frm a b x) ∧ (q_bchg (q_frm a b x) (Acb.mk g g_1 (Key.mk 4 void.oid 1 void.call void.rights void.value) (Key.mk 2 void.oid 1
    void.call void.rights void.value) g_1) = false → ((!true || !q_same (q_frm a b x) (q_frm a b x)) = true → false = true) ∧ ((!true || !q_same (q_frm a b x) (q_frm a b x)) = false → inRo IntKind.i64 (g_1
    + 1) ∧ ∃ g', q_inv04 g' ∧ (4 - g').toNat < (4 - g_1).toNat ∧ g = g ∧ g_1 + 1 = g' ∧ x = x ∧ a = a ∧ b = b ∧ q_frO a b = q_frO a b ∧ Key.mk 4 void.oid 1 void.call void.rights void.value = Key.mk 4
    void.oid 1 void.call void.rights void.value ∧ q_frm a b x = q_frm a b x)) ∧ (q_bchg (q_frm a b x) (Acb.mk g g_1 (Key.mk 4 void.oid 1 void.call void.rights void.value) (Key.mk 2 void.oid 1 void.call
    void.rights void.value) g_1) = true → ((!true || !q_same (q_bdoL (q_frm a b x) (Acb.mk g g_1 (Key.mk 4 void.oid 1 void.call void.rights void.value) (Key.mk 2 void.oid 1 void.call void.rights
    void.value) g_1)) (q_bdoL (q_frm a b x) (Acb.mk g g_1 (Key.mk 4 void.oid 1 void.call void.rights void.value) (Key.mk 2 void.oid 1 void.call void.rights void.value) g_1))) = true → false = true) ∧
    ((!true || !q_same (q_bdoL (q_frm a b x) (Acb.mk g g_1 (Key.mk 4 void.oid 1 void.call void.rights void.value) (Key.mk 2 void.oid 1 void.call void.rights void.value) g_1)) (q_bdoL (q_frm a b x) (Acb.mk
    g g_1 (Key.mk 4 void.oid 1 void.call void.rights void.value) (Key.mk 2 void.oid 1 void.call void.rights void.value) g_1))) = false → inRo IntKind.i64 (g_1 + 1) ∧ ∃ g', q_inv04 g' ∧ (4 - g').toNat < (4
    - g_1).toNat ∧ g = g ∧ g_1 + 1 = g' ∧ x = x ∧ a = a ∧ b = b ∧ q_frO a b = q_frO a b ∧ Key.mk 4 void.oid 1 void.call void.rights void.value = Key.mk 4 void.oid 1 void.call void.rights void.value ∧ q_frm
    a b x = q_frm a b x)))) ∧ (decide (g_1 < 4) = false → inRo IntKind.i64 (g + 1) ∧ ∃ g', q_inv17 g' ∧ (7 - g').toNat < (7 - g).toNat ∧ g + 1 = g' ∧ x = x ∧ a = a ∧ b = b ∧ q_frO a b = q_frO a b ∧ Key.mk
    4 void.oid 1 void.call void.rights void.value = Key.mk 4 void.oid 1 void.call void.rights void.value ∧ q_frm a b x = q_frm a b x)) ∧ (decide (g < 7) = false → true = true))) ∧ (decide (1 < n2i (llen
    x)) = false → (∃ g, q_inv17 g ∧ 1 = g ∧ x = x ∧ a = a ∧ b = b ∧ q_frO a b = q_frO a b ∧ Key.mk 4 void.oid 1 void.call void.rights void.value = Key.mk 4 void.oid 1 void.call void.rights void.value ∧
    [q_frO a b, free, free, free, free, free] = q_frm a b x) ∧ ∀ (g : Int), q_inv17 g → (decide (g < 7) = true → (∃ g_1, q_inv04 g_1 ∧ g = g ∧ 0 = g_1 ∧ x = x ∧ a = a ∧ b = b ∧ q_frO a b = q_frO a b ∧
    Key.mk 4 void.oid 1 void.call void.rights void.value = Key.mk 4 void.oid 1 void.call void.rights void.value ∧ q_frm a b x = q_frm a b x) ∧ ∀ (g_1 : Int), q_inv04 g_1 → (decide (g_1 < 4) = true → true =
    true ∧ True ∧ (q_made (q_frm a b x) = false → true = true) ∧ (q_made (q_frm a b x) = true → true = true ∧ q_frm a b x = q_frm a b x ∧ q_okL (q_frm a b x) ∧ (q_bchg (q_frm a b x) (Acb.mk g g_1 (Key.mk 4
    void.oid 1 void.call void.rights void.value) (Key.mk 2 void.oid 1 void.call void.rights void.value) g_1) = false → ((!true || !q_same (q_frm a b x) (q_frm a b x)) = true → false = true) ∧ ((!true ||
    !q_same (q_frm a b x) (q_frm a b x)) = false → inRo IntKind.i64 (g_1 + 1) ∧ ∃ g', q_inv04 g' ∧ (4 - g').toNat < (4 - g_1).toNat ∧ g = g ∧ g_1 + 1 = g' ∧ x = x ∧ a = a ∧ b = b ∧ q_frO a b = q_frO a b ∧
    Key.mk 4 void.oid 1 void.call void.rights void.value = Key.mk 4 void.oid 1 void.call void.rights void.value ∧ q_frm a b x = q_frm a b x)) ∧ (q_bchg (q_frm a b x) (Acb.mk g g_1 (Key.mk 4 void.oid 1
    void.call void.rights void.value) (Key.mk 2 void.oid 1 void.call void.rights void.value) g_1) = true → ((!true || !q_same (q_bdoL (q_frm a b x) (Acb.mk g g_1 (Key.mk 4 void.oid 1 void.call void.rights
    void.value) (Key.mk 2 void.oid 1 void.call void.rights void.value) g_1)) (q_bdoL (q_frm a b x) (Acb.mk g g_1 (Key.mk 4 void.oid 1 void.call void.rights void.value) (Key.mk 2 void.oid 1 void.call
    void.rights void.value) g_1))) = true → false = true) ∧ ((!true || !q_same (q_bdoL (q_frm a b x) (Acb.mk g g_1 (Key.mk 4 void.oid 1 void.call void.rights void.value) (Key.mk 2 void.oid 1 void.call
    void.rights void.value) g_1)) (q_bdoL (q_frm a b x) (Acb.mk g g_1 (Key.mk 4 void.oid 1 void.call void.rights void.value) (Key.mk 2 void.oid 1 void.call void.rights void.value) g_1))) = false → inRo
    IntKind.i64 (g_1 + 1) ∧ ∃ g', q_inv04 g' ∧ (4 - g').toNat < (4 - g_1).toNat ∧ g = g ∧ g_1 + 1 = g' ∧ x = x ∧ a = a ∧ b = b ∧ q_frO a b = q_frO a b ∧ Key.mk 4 void.oid 1 void.call void.rights void.value
    = Key.mk 4 void.oid 1 void.call void.rights void.value ∧ q_frm a b x = q_frm a b x)))) ∧ (decide (g_1 < 4) = false → inRo IntKind.i64 (g + 1) ∧ ∃ g', q_inv17 g' ∧ (7 - g').toNat < (7 - g).toNat ∧ g + 1
    = g' ∧ x = x ∧ a = a ∧ b = b ∧ q_frO a b = q_frO a b ∧ Key.mk 4 void.oid 1 void.call void.rights void.value = Key.mk 4 void.oid 1 void.call void.rights void.value ∧ q_frm a b x = q_frm a b x)) ∧
    (decide (g < 7) = false → true = true))) := by
  have hin : ∀ g : Int, 0 ≤ g → g ≤ 7 → inRo IntKind.i64 (g + 1) := fun g h1 h2 => by simp only [inRo, inR]; omega
  have hin : ∀ g : Int, (0 ≤ g ∨ 1 ≤ g) → g ≤ 7 → inRo IntKind.i64 (g + 1) := fun g h1 h2 => hin g (by omega) h2
  refine ⟨fun _ => rfl, fun c0 => ?_⟩
  have c0 : ¬ (6 : Int) < (x.length : Int) := of_decide_eq_false c0
  refine ⟨fun c1 => ?_, fun c1 => ?_⟩
  · have c1 : (1 : Int) < (x.length : Int) := of_decide_eq_true c1
    refine ⟨⟨(by decide : (0 : Int) ≤ 1), c1⟩, (show (1 : Nat) < x.length by omega), ?_⟩
    refine ⟨fun c2 => ?_, fun c2 => ?_⟩
    · have c2 : (2 : Int) < (x.length : Int) := of_decide_eq_true c2
      refine ⟨⟨(by decide : (0 : Int) ≤ 2), c2⟩, (show (2 : Nat) < x.length by omega), ?_⟩
      refine ⟨fun c3 => ?_, fun c3 => ?_⟩
      · have c3 : (3 : Int) < (x.length : Int) := of_decide_eq_true c3
        refine ⟨⟨(by decide : (0 : Int) ≤ 3), c3⟩, (show (3 : Nat) < x.length by omega), ?_⟩
        refine ⟨fun c4 => ?_, fun c4 => ?_⟩
        · have c4 : (4 : Int) < (x.length : Int) := of_decide_eq_true c4
          refine ⟨⟨(by decide : (0 : Int) ≤ 4), c4⟩, (show (4 : Nat) < x.length by omega), ?_⟩
          refine ⟨fun c5 => ?_, fun c5 => ?_⟩
          · have c5 : (5 : Int) < (x.length : Int) := of_decide_eq_true c5
            refine ⟨⟨(by decide : (0 : Int) ≤ 5), c5⟩, (show (5 : Nat) < x.length by omega), ?_⟩
            refine ⟨fun c6 => ?_, fun c6 => ?_⟩
            · have c6 : (6 : Int) < (x.length : Int) := of_decide_eq_true c6
              exfalso
              omega
            · have c6 : ¬ (6 : Int) < (x.length : Int) := of_decide_eq_false c6
              refine ⟨⟨1, ⟨by omega, by omega⟩, rfl, rfl, rfl, rfl, rfl, rfl, ?_⟩, fun g hg => ⟨fun hlt => ?_, fun _ => rfl⟩⟩
              · unfold q_frm frC
                rw [if_pos (show 1 < x.length by omega), if_pos (show 2 < x.length by omega), if_pos (show 3 < x.length by omega), if_pos (show 4 < x.length by omega), if_pos (show 5 < x.length by omega)] <;> rfl
              · have hlt := of_decide_eq_true hlt
                refine ⟨⟨0, ⟨by omega, by omega⟩, (by (repeat' apply And.intro) <;> rfl)⟩, fun g1 hg1 => ⟨fun hlt1 => ?_, fun _ => ⟨hin g (.inr hg.1) (by have := hg.2; omega), g + 1, ⟨by have := hg.1; omega, by omega⟩, by omega, (by (repeat' apply And.intro) <;> rfl)⟩⟩⟩
                have hlt1 := of_decide_eq_true hlt1
                refine ⟨rfl, trivial, fun _ => rfl, fun hm => ⟨rfl, rfl, (made_ok hm).1, fun hc => ⟨fun h => ?_, fun _ => ⟨hin g1 (.inl hg1.1) (by omega), g1 + 1, ⟨by have := hg1.1; omega, by omega⟩, by omega, (by (repeat' apply And.intro) <;> rfl)⟩⟩, fun hc => ⟨fun h => ?_, fun _ => ⟨hin g1 (.inl hg1.1) (by omega), g1 + 1, ⟨by have := hg1.1; omega, by omega⟩, by omega, (by (repeat' apply And.intro) <;> rfl)⟩⟩⟩⟩
                · rw [same_self] at h; simp at h
                · rw [same_self] at h; simp at h
          · have c5 : ¬ (5 : Int) < (x.length : Int) := of_decide_eq_false c5
            refine ⟨⟨1, ⟨by omega, by omega⟩, rfl, rfl, rfl, rfl, rfl, rfl, ?_⟩, fun g hg => ⟨fun hlt => ?_, fun _ => rfl⟩⟩
            · unfold q_frm frC
              rw [if_pos (show 1 < x.length by omega), if_pos (show 2 < x.length by omega), if_pos (show 3 < x.length by omega), if_pos (show 4 < x.length by omega), if_neg (show ¬ 5 < x.length by omega)] <;> rfl
            · have hlt := of_decide_eq_true hlt
              refine ⟨⟨0, ⟨by omega, by omega⟩, (by (repeat' apply And.intro) <;> rfl)⟩, fun g1 hg1 => ⟨fun hlt1 => ?_, fun _ => ⟨hin g (.inr hg.1) (by have := hg.2; omega), g + 1, ⟨by have := hg.1; omega, by omega⟩, by omega, (by (repeat' apply And.intro) <;> rfl)⟩⟩⟩
              have hlt1 := of_decide_eq_true hlt1
              refine ⟨rfl, trivial, fun _ => rfl, fun hm => ⟨rfl, rfl, (made_ok hm).1, fun hc => ⟨fun h => ?_, fun _ => ⟨hin g1 (.inl hg1.1) (by omega), g1 + 1, ⟨by have := hg1.1; omega, by omega⟩, by omega, (by (repeat' apply And.intro) <;> rfl)⟩⟩, fun hc => ⟨fun h => ?_, fun _ => ⟨hin g1 (.inl hg1.1) (by omega), g1 + 1, ⟨by have := hg1.1; omega, by omega⟩, by omega, (by (repeat' apply And.intro) <;> rfl)⟩⟩⟩⟩
              · rw [same_self] at h; simp at h
              · rw [same_self] at h; simp at h
        · have c4 : ¬ (4 : Int) < (x.length : Int) := of_decide_eq_false c4
          refine ⟨⟨1, ⟨by omega, by omega⟩, rfl, rfl, rfl, rfl, rfl, rfl, ?_⟩, fun g hg => ⟨fun hlt => ?_, fun _ => rfl⟩⟩
          · unfold q_frm frC
            rw [if_pos (show 1 < x.length by omega), if_pos (show 2 < x.length by omega), if_pos (show 3 < x.length by omega), if_neg (show ¬ 4 < x.length by omega), if_neg (show ¬ 5 < x.length by omega)] <;> rfl
          · have hlt := of_decide_eq_true hlt
            refine ⟨⟨0, ⟨by omega, by omega⟩, (by (repeat' apply And.intro) <;> rfl)⟩, fun g1 hg1 => ⟨fun hlt1 => ?_, fun _ => ⟨hin g (.inr hg.1) (by have := hg.2; omega), g + 1, ⟨by have := hg.1; omega, by omega⟩, by omega, (by (repeat' apply And.intro) <;> rfl)⟩⟩⟩
            have hlt1 := of_decide_eq_true hlt1
            refine ⟨rfl, trivial, fun _ => rfl, fun hm => ⟨rfl, rfl, (made_ok hm).1, fun hc => ⟨fun h => ?_, fun _ => ⟨hin g1 (.inl hg1.1) (by omega), g1 + 1, ⟨by have := hg1.1; omega, by omega⟩, by omega, (by (repeat' apply And.intro) <;> rfl)⟩⟩, fun hc => ⟨fun h => ?_, fun _ => ⟨hin g1 (.inl hg1.1) (by omega), g1 + 1, ⟨by have := hg1.1; omega, by omega⟩, by omega, (by (repeat' apply And.intro) <;> rfl)⟩⟩⟩⟩
            · rw [same_self] at h; simp at h
            · rw [same_self] at h; simp at h
      · have c3 : ¬ (3 : Int) < (x.length : Int) := of_decide_eq_false c3
        refine ⟨⟨1, ⟨by omega, by omega⟩, rfl, rfl, rfl, rfl, rfl, rfl, ?_⟩, fun g hg => ⟨fun hlt => ?_, fun _ => rfl⟩⟩
        · unfold q_frm frC
          rw [if_pos (show 1 < x.length by omega), if_pos (show 2 < x.length by omega), if_neg (show ¬ 3 < x.length by omega), if_neg (show ¬ 4 < x.length by omega), if_neg (show ¬ 5 < x.length by omega)] <;> rfl
        · have hlt := of_decide_eq_true hlt
          refine ⟨⟨0, ⟨by omega, by omega⟩, (by (repeat' apply And.intro) <;> rfl)⟩, fun g1 hg1 => ⟨fun hlt1 => ?_, fun _ => ⟨hin g (.inr hg.1) (by have := hg.2; omega), g + 1, ⟨by have := hg.1; omega, by omega⟩, by omega, (by (repeat' apply And.intro) <;> rfl)⟩⟩⟩
          have hlt1 := of_decide_eq_true hlt1
          refine ⟨rfl, trivial, fun _ => rfl, fun hm => ⟨rfl, rfl, (made_ok hm).1, fun hc => ⟨fun h => ?_, fun _ => ⟨hin g1 (.inl hg1.1) (by omega), g1 + 1, ⟨by have := hg1.1; omega, by omega⟩, by omega, (by (repeat' apply And.intro) <;> rfl)⟩⟩, fun hc => ⟨fun h => ?_, fun _ => ⟨hin g1 (.inl hg1.1) (by omega), g1 + 1, ⟨by have := hg1.1; omega, by omega⟩, by omega, (by (repeat' apply And.intro) <;> rfl)⟩⟩⟩⟩
          · rw [same_self] at h; simp at h
          · rw [same_self] at h; simp at h
    · have c2 : ¬ (2 : Int) < (x.length : Int) := of_decide_eq_false c2
      refine ⟨⟨1, ⟨by omega, by omega⟩, rfl, rfl, rfl, rfl, rfl, rfl, ?_⟩, fun g hg => ⟨fun hlt => ?_, fun _ => rfl⟩⟩
      · unfold q_frm frC
        rw [if_pos (show 1 < x.length by omega), if_neg (show ¬ 2 < x.length by omega), if_neg (show ¬ 3 < x.length by omega), if_neg (show ¬ 4 < x.length by omega), if_neg (show ¬ 5 < x.length by omega)] <;> rfl
      · have hlt := of_decide_eq_true hlt
        refine ⟨⟨0, ⟨by omega, by omega⟩, (by (repeat' apply And.intro) <;> rfl)⟩, fun g1 hg1 => ⟨fun hlt1 => ?_, fun _ => ⟨hin g (.inr hg.1) (by have := hg.2; omega), g + 1, ⟨by have := hg.1; omega, by omega⟩, by omega, (by (repeat' apply And.intro) <;> rfl)⟩⟩⟩
        have hlt1 := of_decide_eq_true hlt1
        refine ⟨rfl, trivial, fun _ => rfl, fun hm => ⟨rfl, rfl, (made_ok hm).1, fun hc => ⟨fun h => ?_, fun _ => ⟨hin g1 (.inl hg1.1) (by omega), g1 + 1, ⟨by have := hg1.1; omega, by omega⟩, by omega, (by (repeat' apply And.intro) <;> rfl)⟩⟩, fun hc => ⟨fun h => ?_, fun _ => ⟨hin g1 (.inl hg1.1) (by omega), g1 + 1, ⟨by have := hg1.1; omega, by omega⟩, by omega, (by (repeat' apply And.intro) <;> rfl)⟩⟩⟩⟩
        · rw [same_self] at h; simp at h
        · rw [same_self] at h; simp at h
  · have c1 : ¬ (1 : Int) < (x.length : Int) := of_decide_eq_false c1
    refine ⟨⟨1, ⟨by omega, by omega⟩, rfl, rfl, rfl, rfl, rfl, rfl, ?_⟩, fun g hg => ⟨fun hlt => ?_, fun _ => rfl⟩⟩
    · unfold q_frm frC
      rw [if_neg (show ¬ 1 < x.length by omega), if_neg (show ¬ 2 < x.length by omega), if_neg (show ¬ 3 < x.length by omega), if_neg (show ¬ 4 < x.length by omega), if_neg (show ¬ 5 < x.length by omega)] <;> rfl
    · have hlt := of_decide_eq_true hlt
      refine ⟨⟨0, ⟨by omega, by omega⟩, (by (repeat' apply And.intro) <;> rfl)⟩, fun g1 hg1 => ⟨fun hlt1 => ?_, fun _ => ⟨hin g (.inr hg.1) (by have := hg.2; omega), g + 1, ⟨by have := hg.1; omega, by omega⟩, by omega, (by (repeat' apply And.intro) <;> rfl)⟩⟩⟩
      have hlt1 := of_decide_eq_true hlt1
      refine ⟨rfl, trivial, fun _ => rfl, fun hm => ⟨rfl, rfl, (made_ok hm).1, fun hc => ⟨fun h => ?_, fun _ => ⟨hin g1 (.inl hg1.1) (by omega), g1 + 1, ⟨by have := hg1.1; omega, by omega⟩, by omega, (by (repeat' apply And.intro) <;> rfl)⟩⟩, fun hc => ⟨fun h => ?_, fun _ => ⟨hin g1 (.inl hg1.1) (by omega), g1 + 1, ⟨by have := hg1.1; omega, by omega⟩, by omega, (by (repeat' apply And.intro) <;> rfl)⟩⟩⟩⟩
      · rw [same_self] at h; simp at h
      · rw [same_self] at h; simp at h
theorem cl_bform (a b : Key) (x : List Int)  : CallTo Try.prog 8 [.key a, .key b, .sa 0] [.ro (.arr none 1 (.it .i64 x))] (isV (.bo true)) (fun _ _ => False) :=
  vch_call (inl := noInl) (ann := (annL [(8, 7, lpU 6), (8, 12, lpL [10] (fun g => [(11, .it .i64 g)]) 8 tO (q_frm a b x) q_inv17 7), (8, 15, lpG [8, 10, 11] (fun g => [(12, .it .i64 g)]) q_inv04 4)])) (oks_cons ct_known (oks_cons ct_same oks_nil)) (hoks_cons hc_made (hoks_cons hc_does hoks_nil)) (vc_bform a b x) (by kernel_rfl)
end Go.Proofs.Ytfalhknkaebfoaa
