/- Banks: Split. No condition. The statements vc_.. are printed by a program of the claimant's own. -/
import Derived.Test.YtfalhknkaebfoaaCtBb
import Derived.Test.YtfalhknkaebfoaaCtQb
namespace Go.Proofs.Ytfalhknkaebfoaa
open Go.Sx
set_option maxRecDepth 100000
set_option linter.unusedVariables false
set_option linter.unusedSimpArgs false
theorem vc_bsplit0 (k : Key) (n : Int) :
  true = true ∧ true = true ∧ ((!decide (0 < q_size [])) = true → void = q_bsK [] k n ∧ 1 = q_bsE [] k n) ∧ ((!decide (0 < q_size [])) = false → true = true ∧ ((!(q_is [] k && decide (k.kind = 4))) =
    true → void = q_bsK [] k n ∧ 190 = q_bsE [] k n) ∧ ((!(q_is [] k && decide (k.kind = 4))) = false → true = true ∧ ((!(decide (((q_nobj [] k).slots.at 0).kind = 1) && decide (((q_nobj [] k).slots.at
    1).kind = 1) && decide (0 ≤ ((q_nobj [] k).slots.at 0).value) && decide (((q_nobj [] k).slots.at 0).value ≤ ((q_nobj [] k).slots.at 1).value) && decide (((q_nobj [] k).slots.at 1).value < q_size [])))
    = true → void = q_bsK [] k n ∧ 220 = q_bsE [] k n) ∧ ((!(decide (((q_nobj [] k).slots.at 0).kind = 1) && decide (((q_nobj [] k).slots.at 1).kind = 1) && decide (0 ≤ ((q_nobj [] k).slots.at 0).value) &&
    decide (((q_nobj [] k).slots.at 0).value ≤ ((q_nobj [] k).slots.at 1).value) && decide (((q_nobj [] k).slots.at 1).value < q_size []))) = false → (decide (1 ≤ n) = true → inRo IntKind.i64 (((q_nobj []
    k).slots.at 1).value - ((q_nobj [] k).slots.at 0).value)) ∧ true = true ∧ ((!(decide (1 ≤ n) && decide (n ≤ ((q_nobj [] k).slots.at 1).value - ((q_nobj [] k).slots.at 0).value))) = true → void = q_bsK
    [] k n ∧ 4 = q_bsE [] k n) ∧ ((!(decide (1 ≤ n) && decide (n ≤ ((q_nobj [] k).slots.at 1).value - ((q_nobj [] k).slots.at 0).value))) = false → true = true ∧ true = true ∧ true = true ∧ ((!decide (0 <
    q_size [])) = true → void = q_bsK [] k n ∧ 1 = q_bsE [] k n) ∧ ((!decide (0 < q_size [])) = false → true = true ∧ ((!(q_is [] k && decide (k.kind = 4))) = true → void = q_bsK [] k n ∧ 190 = q_bsE [] k
    n) ∧ ((!(q_is [] k && decide (k.kind = 4))) = false → true = true ∧ ((!(decide (((q_nobj [] k).slots.at 0).kind = 1) && decide (((q_nobj [] k).slots.at 1).kind = 1) && decide (0 ≤ ((q_nobj []
    k).slots.at 0).value) && decide (((q_nobj [] k).slots.at 0).value ≤ ((q_nobj [] k).slots.at 1).value) && decide (((q_nobj [] k).slots.at 1).value < q_size []))) = true → void = q_bsK [] k n ∧ 220 =
    q_bsE [] k n) ∧ ((!(decide (((q_nobj [] k).slots.at 0).kind = 1) && decide (((q_nobj [] k).slots.at 1).kind = 1) && decide (0 ≤ ((q_nobj [] k).slots.at 0).value) && decide (((q_nobj [] k).slots.at
    0).value ≤ ((q_nobj [] k).slots.at 1).value) && decide (((q_nobj [] k).slots.at 1).value < q_size []))) = false → true = true ∧ true = true ∧ true = true ∧ ∀ (r0 : Loop), False))))))) := by
  exact ⟨rfl, rfl, fun h => (bs_no2 (bs_bank (bk1 h) (by omega)) (by omega)).1, fun h => absurd h (by decide)⟩
theorem vc_bsplitz (k : Key) (n : Int) :
  true = true ∧ true = true ∧ ((!decide (0 < q_size [])) = true → void = q_bsK [] k n ∧ 1 = q_bsE [] k n) ∧ ((!decide (0 < q_size [])) = false → true = true ∧ ((!(q_is [] k && decide (k.kind = 4))) =
    true → void = q_bsK [] k n ∧ 190 = q_bsE [] k n) ∧ ((!(q_is [] k && decide (k.kind = 4))) = false → true = true ∧ ((!(decide (((q_nobj [] k).slots.at 0).kind = 1) && decide (((q_nobj [] k).slots.at
    1).kind = 1) && decide (0 ≤ ((q_nobj [] k).slots.at 0).value) && decide (((q_nobj [] k).slots.at 0).value ≤ ((q_nobj [] k).slots.at 1).value) && decide (((q_nobj [] k).slots.at 1).value < q_size [])))
    = true → void = q_bsK [] k n ∧ 220 = q_bsE [] k n) ∧ ((!(decide (((q_nobj [] k).slots.at 0).kind = 1) && decide (((q_nobj [] k).slots.at 1).kind = 1) && decide (0 ≤ ((q_nobj [] k).slots.at 0).value) &&
    decide (((q_nobj [] k).slots.at 0).value ≤ ((q_nobj [] k).slots.at 1).value) && decide (((q_nobj [] k).slots.at 1).value < q_size []))) = false → (decide (1 ≤ n) = true → inRo IntKind.i64 (((q_nobj []
    k).slots.at 1).value - ((q_nobj [] k).slots.at 0).value)) ∧ true = true ∧ ((!(decide (1 ≤ n) && decide (n ≤ ((q_nobj [] k).slots.at 1).value - ((q_nobj [] k).slots.at 0).value))) = true → void = q_bsK
    [] k n ∧ 4 = q_bsE [] k n) ∧ ((!(decide (1 ≤ n) && decide (n ≤ ((q_nobj [] k).slots.at 1).value - ((q_nobj [] k).slots.at 0).value))) = false → true = true ∧ False)))) := by
  exact ⟨rfl, rfl, fun h => (bs_no2 (bs_bank (bk1 h) (by omega)) (by omega)).1, fun h => absurd h (by decide)⟩
theorem vc_bsplit (L : List Sx.Obj) (k : Key) (n : Int) (hL : q_okL L) :
  true = true ∧ true = true ∧ ((!decide (0 < q_size L)) = true → (void = q_bsK L k n ∧ 1 = q_bsE L k n) ∧ L = q_bsL L k n) ∧ ((!decide (0 < q_size L)) = false → true = true ∧ ((!(q_is L k && decide
    (k.kind = 4))) = true → (void = q_bsK L k n ∧ 190 = q_bsE L k n) ∧ L = q_bsL L k n) ∧ ((!(q_is L k && decide (k.kind = 4))) = false → true = true ∧ ((!(decide (((q_nobj L k).slots.at 0).kind = 1) &&
    decide (((q_nobj L k).slots.at 1).kind = 1) && decide (0 ≤ ((q_nobj L k).slots.at 0).value) && decide (((q_nobj L k).slots.at 0).value ≤ ((q_nobj L k).slots.at 1).value) && decide (((q_nobj L
    k).slots.at 1).value < q_size L))) = true → (void = q_bsK L k n ∧ 220 = q_bsE L k n) ∧ L = q_bsL L k n) ∧ ((!(decide (((q_nobj L k).slots.at 0).kind = 1) && decide (((q_nobj L k).slots.at 1).kind = 1)
    && decide (0 ≤ ((q_nobj L k).slots.at 0).value) && decide (((q_nobj L k).slots.at 0).value ≤ ((q_nobj L k).slots.at 1).value) && decide (((q_nobj L k).slots.at 1).value < q_size L))) = false → (decide
    (1 ≤ n) = true → inRo IntKind.i64 (((q_nobj L k).slots.at 1).value - ((q_nobj L k).slots.at 0).value)) ∧ true = true ∧ ((!(decide (1 ≤ n) && decide (n ≤ ((q_nobj L k).slots.at 1).value - ((q_nobj L
    k).slots.at 0).value))) = true → (void = q_bsK L k n ∧ 4 = q_bsE L k n) ∧ L = q_bsL L k n) ∧ ((!(decide (1 ≤ n) && decide (n ≤ ((q_nobj L k).slots.at 1).value - ((q_nobj L k).slots.at 0).value))) =
    false → true = true ∧ (llen L).le 1000 ∧ (q_snone L = true → true = true ∧ true = true ∧ ((!decide (0 < q_size [])) = true → (void = q_bsK L k n ∧ 1 = q_bsE L k n) ∧ L = q_bsL L k n) ∧ ((!decide (0 <
    q_size [])) = false → true = true ∧ ((!(q_is [] k && decide (k.kind = 4))) = true → (void = q_bsK L k n ∧ 190 = q_bsE L k n) ∧ L = q_bsL L k n) ∧ ((!(q_is [] k && decide (k.kind = 4))) = false → true =
    true ∧ ((!(decide (((q_nobj [] k).slots.at 0).kind = 1) && decide (((q_nobj [] k).slots.at 1).kind = 1) && decide (0 ≤ ((q_nobj [] k).slots.at 0).value) && decide (((q_nobj [] k).slots.at 0).value ≤
    ((q_nobj [] k).slots.at 1).value) && decide (((q_nobj [] k).slots.at 1).value < q_size []))) = true → (void = q_bsK L k n ∧ 220 = q_bsE L k n) ∧ L = q_bsL L k n) ∧ ((!(decide (((q_nobj [] k).slots.at
    0).kind = 1) && decide (((q_nobj [] k).slots.at 1).kind = 1) && decide (0 ≤ ((q_nobj [] k).slots.at 0).value) && decide (((q_nobj [] k).slots.at 0).value ≤ ((q_nobj [] k).slots.at 1).value) && decide
    (((q_nobj [] k).slots.at 1).value < q_size []))) = false → true = true ∧ true = true ∧ true = true ∧ ∀ (r0 : Loop), (∃ g, q_inv1k L k g ∧ False) ∧ ∀ (g : Int), q_inv1k L k g → (decide (g ≤ ((q_nobj []
    k).slots.at 1).value) = true → r0 = r0 ∧ r0 = r0 ∧ ((!decide ((q_get [] g).kind = 0)) = true → r0 = r0 ∧ inRo IntKind.i64 (g + 1) ∧ ∃ g', q_inv1k L k g' ∧ (q_bnkB L k + 1 - g').toNat < (q_bnkB L k + 1
    - g).toNat ∧ g + 1 = g' ∧ L = L ∧ k = k ∧ n = n ∧ void = void ∧ k = k ∧ q_nobj L k = q_nobj L k ∧ k.oid = k.oid ∧ ((q_nobj L k).slots.at 0).value = ((q_nobj L k).slots.at 0).value ∧ ((q_nobj L
    k).slots.at 1).value = ((q_nobj L k).slots.at 1).value ∧ q_nobj L k = q_nobj L k ∧ (q_nobj L k).slots.at 0 = (q_nobj L k).slots.at 0 ∧ (q_nobj L k).slots.at 1 = (q_nobj L k).slots.at 1 ∧ q_nobj L k =
    q_nobj L k ∧ k.oid = k.oid ∧ ((q_nobj L k).slots.at 0).value = ((q_nobj L k).slots.at 0).value ∧ ((q_nobj L k).slots.at 1).value = ((q_nobj L k).slots.at 1).value ∧ q_mkG L (q_bnkA L k) g = q_mkG L
    (q_bnkA L k) g' ∧ q_nobj [] k = q_nobj [] k ∧ Value.pointer none = Value.pointer none ∧ k.oid = k.oid ∧ ((q_nobj [] k).slots.at 0).value = ((q_nobj [] k).slots.at 0).value ∧ ((q_nobj [] k).slots.at
    1).value = ((q_nobj [] k).slots.at 1).value ∧ q_nobj [] k = q_nobj [] k ∧ (q_nobj [] k).slots.at 0 = (q_nobj [] k).slots.at 0 ∧ (q_nobj [] k).slots.at 1 = (q_nobj [] k).slots.at 1 ∧ q_nobj [] k =
    q_nobj [] k ∧ Value.pointer none = Value.pointer none ∧ k.oid = k.oid ∧ ((q_nobj [] k).slots.at 0).value = ((q_nobj [] k).slots.at 0).value ∧ ((q_nobj [] k).slots.at 1).value = ((q_nobj [] k).slots.at
    1).value ∧ q_nobj [] k = q_nobj [] k ∧ Value.pointer none = Value.pointer none ∧ k.oid = k.oid ∧ ((q_nobj [] k).slots.at 0).value = ((q_nobj [] k).slots.at 0).value ∧ ((q_nobj [] k).slots.at 1).value =
    ((q_nobj [] k).slots.at 1).value ∧ void = void ∧ false = false ∧ q_nobj [] k = q_nobj [] k ∧ Value.pointer none = Value.pointer none ∧ k.oid = k.oid ∧ ((q_nobj [] k).slots.at 0).value = ((q_nobj []
    k).slots.at 0).value ∧ ((q_nobj [] k).slots.at 1).value = ((q_nobj [] k).slots.at 1).value ∧ r0 = r0) ∧ ((!decide ((q_get [] g).kind = 0)) = false → (decide ((q_get [] g).count = 4294967295) = true →
    true = true ∧ r0 = r0 ∧ inRo IntKind.i64 (g + 1) ∧ ∃ g', q_inv1k L k g' ∧ (q_bnkB L k + 1 - g').toNat < (q_bnkB L k + 1 - g).toNat ∧ g + 1 = g' ∧ L = L ∧ k = k ∧ n = n ∧ void = void ∧ k = k ∧ q_nobj L
    k = q_nobj L k ∧ k.oid = k.oid ∧ ((q_nobj L k).slots.at 0).value = ((q_nobj L k).slots.at 0).value ∧ ((q_nobj L k).slots.at 1).value = ((q_nobj L k).slots.at 1).value ∧ q_nobj L k = q_nobj L k ∧
    (q_nobj L k).slots.at 0 = (q_nobj L k).slots.at 0 ∧ (q_nobj L k).slots.at 1 = (q_nobj L k).slots.at 1 ∧ q_nobj L k = q_nobj L k ∧ k.oid = k.oid ∧ ((q_nobj L k).slots.at 0).value = ((q_nobj L
    k).slots.at 0).value ∧ ((q_nobj L k).slots.at 1).value = ((q_nobj L k).slots.at 1).value ∧ q_mkG L (q_bnkA L k) g = q_mkG L (q_bnkA L k) g' ∧ q_nobj [] k = q_nobj [] k ∧ Value.pointer none =
    Value.pointer none ∧ k.oid = k.oid ∧ ((q_nobj [] k).slots.at 0).value = ((q_nobj [] k).slots.at 0).value ∧ ((q_nobj [] k).slots.at 1).value = ((q_nobj [] k).slots.at 1).value ∧ q_nobj [] k = q_nobj []
    k ∧ (q_nobj [] k).slots.at 0 = (q_nobj [] k).slots.at 0 ∧ (q_nobj [] k).slots.at 1 = (q_nobj [] k).slots.at 1 ∧ q_nobj [] k = q_nobj [] k ∧ Value.pointer none = Value.pointer none ∧ k.oid = k.oid ∧
    ((q_nobj [] k).slots.at 0).value = ((q_nobj [] k).slots.at 0).value ∧ ((q_nobj [] k).slots.at 1).value = ((q_nobj [] k).slots.at 1).value ∧ q_nobj [] k = q_nobj [] k ∧ Value.pointer none =
    Value.pointer none ∧ k.oid = k.oid ∧ ((q_nobj [] k).slots.at 0).value = ((q_nobj [] k).slots.at 0).value ∧ ((q_nobj [] k).slots.at 1).value = ((q_nobj [] k).slots.at 1).value ∧ void = void ∧ false =
    false ∧ q_nobj [] k = q_nobj [] k ∧ Value.pointer none = Value.pointer none ∧ k.oid = k.oid ∧ ((q_nobj [] k).slots.at 0).value = ((q_nobj [] k).slots.at 0).value ∧ ((q_nobj [] k).slots.at 1).value =
    ((q_nobj [] k).slots.at 1).value ∧ r0 = r0) ∧ (decide ((q_get [] g).count = 4294967295) = false → inRo IntKind.i64 ((q_get [] g).count + 1) ∧ true = true ∧ inRo IntKind.i64 ((q_get [] g).count + 1) ∧
    r0 = r0 ∧ inRo IntKind.i64 (((q_nobj [] k).slots.at 1).value - n) ∧ true = true ∧ ((!decide ((q_bkey 1 g ((q_get [] g).count + 1)).oid ≤ ((q_nobj [] k).slots.at 1).value - n)) = true → (void = q_bsK L
    k n ∧ 221 = q_bsE L k n) ∧ L = q_bsL L k n) ∧ ((!decide ((q_bkey 1 g ((q_get [] g).count + 1)).oid ≤ ((q_nobj [] k).slots.at 1).value - n)) = false → true = true ∧ true = true ∧ ∀ (r0 : Loop), (∃ g_1,
    q_invSb L k n g_1 ∧ ((q_nobj [] k).slots.at 0).value = g_1 ∧ L = L ∧ k = k ∧ n = n ∧ void = void ∧ k = k ∧ q_nobj L k = q_nobj L k ∧ k.oid = k.oid ∧ ((q_nobj L k).slots.at 0).value = ((q_nobj L
    k).slots.at 0).value ∧ ((q_nobj L k).slots.at 1).value = ((q_nobj L k).slots.at 1).value ∧ q_nobj L k = q_nobj L k ∧ (q_nobj L k).slots.at 0 = (q_nobj L k).slots.at 0 ∧ (q_nobj L k).slots.at 1 =
    (q_nobj L k).slots.at 1 ∧ q_nobj L k = q_nobj L k ∧ k.oid = k.oid ∧ ((q_nobj L k).slots.at 0).value = ((q_nobj L k).slots.at 0).value ∧ ((q_nobj L k).slots.at 1).value = ((q_nobj L k).slots.at 1).value
    ∧ q_mkG L (q_bnkA L k) g = q_mkG L (q_bnkA L k) g ∧ q_nobj [] k = q_nobj [] k ∧ Value.pointer none = Value.pointer none ∧ k.oid = k.oid ∧ ((q_nobj [] k).slots.at 0).value = ((q_nobj [] k).slots.at
    0).value ∧ ((q_nobj [] k).slots.at 1).value = ((q_nobj [] k).slots.at 1).value ∧ q_nobj [] k = q_nobj [] k ∧ (q_nobj [] k).slots.at 0 = (q_nobj [] k).slots.at 0 ∧ (q_nobj [] k).slots.at 1 = (q_nobj []
    k).slots.at 1 ∧ q_nobj [] k = q_nobj [] k ∧ Value.pointer none = Value.pointer none ∧ k.oid = k.oid ∧ ((q_nobj [] k).slots.at 0).value = ((q_nobj [] k).slots.at 0).value ∧ ((q_nobj [] k).slots.at
    1).value = ((q_nobj [] k).slots.at 1).value ∧ q_nobj [] k = q_nobj [] k ∧ Value.pointer none = Value.pointer none ∧ k.oid = k.oid ∧ ((q_nobj [] k).slots.at 0).value = ((q_nobj [] k).slots.at 0).value ∧
    ((q_nobj [] k).slots.at 1).value = ((q_nobj [] k).slots.at 1).value ∧ q_bkey 1 g ((q_get [] g).count + 1) = q_bkey 1 g ((q_get [] g).count + 1) ∧ true = true ∧ q_nobj [] k = q_nobj [] k ∧ Value.pointer
    none = Value.pointer none ∧ k.oid = k.oid ∧ ((q_nobj [] k).slots.at 0).value = ((q_nobj [] k).slots.at 0).value ∧ ((q_nobj [] k).slots.at 1).value = ((q_nobj [] k).slots.at 1).value ∧ q_get [] g =
    q_get [] g ∧ q_get [] g = q_get [] g ∧ q_bkey 1 g ((q_get [] g).count + 1) = q_bkey 1 g ((q_get [] g).count + 1) ∧ q_nobj [] k = q_nobj [] k ∧ Value.pointer none = Value.pointer none ∧ k.oid = k.oid ∧
    ((q_nobj [] k).slots.at 0).value = ((q_nobj [] k).slots.at 0).value ∧ ((q_nobj [] k).slots.at 1).value = ((q_nobj [] k).slots.at 1).value ∧ r0 = r0) ∧ ∀ (g_1 : Int), q_invSb L k n g_1 → (decide (g_1 ≤
    ((q_nobj [] k).slots.at 1).value) = true → r0 = r0 ∧ r0 = r0 ∧ inRo IntKind.i64 (((q_nobj [] k).slots.at 1).value - n) ∧ true = true ∧ ((!(decide (g_1 ≤ ((q_nobj [] k).slots.at 1).value - n) || decide
    ((q_get [] g_1).kind = 0) || decide ((q_get [] g_1).kind = 3))) = true → r0 = r0 ∧ (void = q_bsK L k n ∧ 221 = q_bsE L k n) ∧ L = q_bsL L k n) ∧ ((!(decide (g_1 ≤ ((q_nobj [] k).slots.at 1).value - n)
    || decide ((q_get [] g_1).kind = 0) || decide ((q_get [] g_1).kind = 3))) = false → r0 = r0 ∧ inRo IntKind.i64 (g_1 + 1) ∧ ∃ g', q_invSb L k n g' ∧ (q_bnkB L k + 1 - g').toNat < (q_bnkB L k + 1 -
    g_1).toNat ∧ g_1 + 1 = g' ∧ L = L ∧ k = k ∧ n = n ∧ void = void ∧ k = k ∧ q_nobj L k = q_nobj L k ∧ k.oid = k.oid ∧ ((q_nobj L k).slots.at 0).value = ((q_nobj L k).slots.at 0).value ∧ ((q_nobj L
    k).slots.at 1).value = ((q_nobj L k).slots.at 1).value ∧ q_nobj L k = q_nobj L k ∧ (q_nobj L k).slots.at 0 = (q_nobj L k).slots.at 0 ∧ (q_nobj L k).slots.at 1 = (q_nobj L k).slots.at 1 ∧ q_nobj L k =
    q_nobj L k ∧ k.oid = k.oid ∧ ((q_nobj L k).slots.at 0).value = ((q_nobj L k).slots.at 0).value ∧ ((q_nobj L k).slots.at 1).value = ((q_nobj L k).slots.at 1).value ∧ q_mkG L (q_bnkA L k) g = q_mkG L
    (q_bnkA L k) g ∧ q_nobj [] k = q_nobj [] k ∧ Value.pointer none = Value.pointer none ∧ k.oid = k.oid ∧ ((q_nobj [] k).slots.at 0).value = ((q_nobj [] k).slots.at 0).value ∧ ((q_nobj [] k).slots.at
    1).value = ((q_nobj [] k).slots.at 1).value ∧ q_nobj [] k = q_nobj [] k ∧ (q_nobj [] k).slots.at 0 = (q_nobj [] k).slots.at 0 ∧ (q_nobj [] k).slots.at 1 = (q_nobj [] k).slots.at 1 ∧ q_nobj [] k =
    q_nobj [] k ∧ Value.pointer none = Value.pointer none ∧ k.oid = k.oid ∧ ((q_nobj [] k).slots.at 0).value = ((q_nobj [] k).slots.at 0).value ∧ ((q_nobj [] k).slots.at 1).value = ((q_nobj [] k).slots.at
    1).value ∧ q_nobj [] k = q_nobj [] k ∧ Value.pointer none = Value.pointer none ∧ k.oid = k.oid ∧ ((q_nobj [] k).slots.at 0).value = ((q_nobj [] k).slots.at 0).value ∧ ((q_nobj [] k).slots.at 1).value =
    ((q_nobj [] k).slots.at 1).value ∧ q_bkey 1 g ((q_get [] g).count + 1) = q_bkey 1 g ((q_get [] g).count + 1) ∧ true = true ∧ q_nobj [] k = q_nobj [] k ∧ Value.pointer none = Value.pointer none ∧ k.oid
    = k.oid ∧ ((q_nobj [] k).slots.at 0).value = ((q_nobj [] k).slots.at 0).value ∧ ((q_nobj [] k).slots.at 1).value = ((q_nobj [] k).slots.at 1).value ∧ q_get [] g = q_get [] g ∧ q_get [] g = q_get [] g ∧
    q_bkey 1 g ((q_get [] g).count + 1) = q_bkey 1 g ((q_get [] g).count + 1) ∧ q_nobj [] k = q_nobj [] k ∧ Value.pointer none = Value.pointer none ∧ k.oid = k.oid ∧ ((q_nobj [] k).slots.at 0).value =
    ((q_nobj [] k).slots.at 0).value ∧ ((q_nobj [] k).slots.at 1).value = ((q_nobj [] k).slots.at 1).value ∧ r0 = r0)) ∧ (decide (g_1 ≤ ((q_nobj [] k).slots.at 1).value) = false → true = true ∧ true = true
    ∧ inRo IntKind.i64 (((q_nobj [] k).slots.at 1).value - n) ∧ inRo IntKind.i64 (((q_nobj [] k).slots.at 1).value - n + 1) ∧ true = true ∧ true = true ∧ true = true ∧ true = true ∧ true = true ∧ inRo
    IntKind.i64 (((q_nobj [] k).slots.at 1).value - n) ∧ true = true ∧ true = true ∧ true = true ∧ False))))) ∧ (decide (g ≤ ((q_nobj [] k).slots.at 1).value) = false → true = true ∧ (void = q_bsK L k n ∧
    221 = q_bsE L k n) ∧ L = q_bsL L k n))))) ∧ (q_snone L = false → true = true ∧ true = true ∧ ((!decide (0 < q_size L)) = true → (void = q_bsK L k n ∧ 1 = q_bsE L k n) ∧ L = q_bsL L k n) ∧ ((!decide (0
    < q_size L)) = false → true = true ∧ ((!(q_is L k && decide (k.kind = 4))) = true → (void = q_bsK L k n ∧ 190 = q_bsE L k n) ∧ L = q_bsL L k n) ∧ ((!(q_is L k && decide (k.kind = 4))) = false → true =
    true ∧ ((!(decide (((q_nobj L k).slots.at 0).kind = 1) && decide (((q_nobj L k).slots.at 1).kind = 1) && decide (0 ≤ ((q_nobj L k).slots.at 0).value) && decide (((q_nobj L k).slots.at 0).value ≤
    ((q_nobj L k).slots.at 1).value) && decide (((q_nobj L k).slots.at 1).value < q_size L))) = true → (void = q_bsK L k n ∧ 220 = q_bsE L k n) ∧ L = q_bsL L k n) ∧ ((!(decide (((q_nobj L k).slots.at
    0).kind = 1) && decide (((q_nobj L k).slots.at 1).kind = 1) && decide (0 ≤ ((q_nobj L k).slots.at 0).value) && decide (((q_nobj L k).slots.at 0).value ≤ ((q_nobj L k).slots.at 1).value) && decide
    (((q_nobj L k).slots.at 1).value < q_size L))) = false → true = true ∧ true = true ∧ true = true ∧ ∀ (r0 : Loop), (∃ g, q_inv1k L k g ∧ ((q_nobj L k).slots.at 0).value = g ∧ L = L ∧ k = k ∧ n = n ∧
    void = void ∧ k = k ∧ q_nobj L k = q_nobj L k ∧ k.oid = k.oid ∧ ((q_nobj L k).slots.at 0).value = ((q_nobj L k).slots.at 0).value ∧ ((q_nobj L k).slots.at 1).value = ((q_nobj L k).slots.at 1).value ∧
    q_nobj L k = q_nobj L k ∧ (q_nobj L k).slots.at 0 = (q_nobj L k).slots.at 0 ∧ (q_nobj L k).slots.at 1 = (q_nobj L k).slots.at 1 ∧ q_nobj L k = q_nobj L k ∧ k.oid = k.oid ∧ ((q_nobj L k).slots.at
    0).value = ((q_nobj L k).slots.at 0).value ∧ ((q_nobj L k).slots.at 1).value = ((q_nobj L k).slots.at 1).value ∧ L = q_mkG L (q_bnkA L k) g ∧ k = k ∧ q_nobj L k = q_nobj L k ∧ k.oid = k.oid ∧ ((q_nobj
    L k).slots.at 0).value = ((q_nobj L k).slots.at 0).value ∧ ((q_nobj L k).slots.at 1).value = ((q_nobj L k).slots.at 1).value ∧ q_nobj L k = q_nobj L k ∧ (q_nobj L k).slots.at 0 = (q_nobj L k).slots.at
    0 ∧ (q_nobj L k).slots.at 1 = (q_nobj L k).slots.at 1 ∧ q_nobj L k = q_nobj L k ∧ k.oid = k.oid ∧ ((q_nobj L k).slots.at 0).value = ((q_nobj L k).slots.at 0).value ∧ ((q_nobj L k).slots.at 1).value =
    ((q_nobj L k).slots.at 1).value ∧ q_nobj L k = q_nobj L k ∧ k.oid = k.oid ∧ ((q_nobj L k).slots.at 0).value = ((q_nobj L k).slots.at 0).value ∧ ((q_nobj L k).slots.at 1).value = ((q_nobj L k).slots.at
    1).value ∧ void = void ∧ false = false ∧ q_nobj L k = q_nobj L k ∧ k.oid = k.oid ∧ ((q_nobj L k).slots.at 0).value = ((q_nobj L k).slots.at 0).value ∧ ((q_nobj L k).slots.at 1).value = ((q_nobj L
    k).slots.at 1).value ∧ r0 = r0) ∧ ∀ (g : Int), q_inv1k L k g → (decide (g ≤ ((q_nobj L k).slots.at 1).value) = true → r0 = r0 ∧ r0 = r0 ∧ ((!decide ((bsO0 L k g).kind = 0)) = true → r0 = r0 ∧ inRo
    IntKind.i64 (g + 1) ∧ ∃ g', q_inv1k L k g' ∧ (q_bnkB L k + 1 - g').toNat < (q_bnkB L k + 1 - g).toNat ∧ g + 1 = g' ∧ L = L ∧ k = k ∧ n = n ∧ void = void ∧ k = k ∧ q_nobj L k = q_nobj L k ∧ k.oid =
    k.oid ∧ ((q_nobj L k).slots.at 0).value = ((q_nobj L k).slots.at 0).value ∧ ((q_nobj L k).slots.at 1).value = ((q_nobj L k).slots.at 1).value ∧ q_nobj L k = q_nobj L k ∧ (q_nobj L k).slots.at 0 =
    (q_nobj L k).slots.at 0 ∧ (q_nobj L k).slots.at 1 = (q_nobj L k).slots.at 1 ∧ q_nobj L k = q_nobj L k ∧ k.oid = k.oid ∧ ((q_nobj L k).slots.at 0).value = ((q_nobj L k).slots.at 0).value ∧ ((q_nobj L
    k).slots.at 1).value = ((q_nobj L k).slots.at 1).value ∧ q_mkG L (q_bnkA L k) g = q_mkG L (q_bnkA L k) g' ∧ k = k ∧ q_nobj L k = q_nobj L k ∧ k.oid = k.oid ∧ ((q_nobj L k).slots.at 0).value = ((q_nobj
    L k).slots.at 0).value ∧ ((q_nobj L k).slots.at 1).value = ((q_nobj L k).slots.at 1).value ∧ q_nobj L k = q_nobj L k ∧ (q_nobj L k).slots.at 0 = (q_nobj L k).slots.at 0 ∧ (q_nobj L k).slots.at 1 =
    (q_nobj L k).slots.at 1 ∧ q_nobj L k = q_nobj L k ∧ k.oid = k.oid ∧ ((q_nobj L k).slots.at 0).value = ((q_nobj L k).slots.at 0).value ∧ ((q_nobj L k).slots.at 1).value = ((q_nobj L k).slots.at 1).value
    ∧ q_nobj L k = q_nobj L k ∧ k.oid = k.oid ∧ ((q_nobj L k).slots.at 0).value = ((q_nobj L k).slots.at 0).value ∧ ((q_nobj L k).slots.at 1).value = ((q_nobj L k).slots.at 1).value ∧ void = void ∧ false =
    false ∧ q_nobj L k = q_nobj L k ∧ k.oid = k.oid ∧ ((q_nobj L k).slots.at 0).value = ((q_nobj L k).slots.at 0).value ∧ ((q_nobj L k).slots.at 1).value = ((q_nobj L k).slots.at 1).value ∧ r0 = r0) ∧
    ((!decide ((bsO0 L k g).kind = 0)) = false → (decide ((bsO0 L k g).count = 4294967295) = true → true = true ∧ r0 = r0 ∧ inRo IntKind.i64 (g + 1) ∧ ∃ g', q_inv1k L k g' ∧ (q_bnkB L k + 1 - g').toNat <
    (q_bnkB L k + 1 - g).toNat ∧ g + 1 = g' ∧ L = L ∧ k = k ∧ n = n ∧ void = void ∧ k = k ∧ q_nobj L k = q_nobj L k ∧ k.oid = k.oid ∧ ((q_nobj L k).slots.at 0).value = ((q_nobj L k).slots.at 0).value ∧
    ((q_nobj L k).slots.at 1).value = ((q_nobj L k).slots.at 1).value ∧ q_nobj L k = q_nobj L k ∧ (q_nobj L k).slots.at 0 = (q_nobj L k).slots.at 0 ∧ (q_nobj L k).slots.at 1 = (q_nobj L k).slots.at 1 ∧
    q_nobj L k = q_nobj L k ∧ k.oid = k.oid ∧ ((q_nobj L k).slots.at 0).value = ((q_nobj L k).slots.at 0).value ∧ ((q_nobj L k).slots.at 1).value = ((q_nobj L k).slots.at 1).value ∧ q_putL (q_mkG L (q_bnkA
    L k) g) g (Obj.mk 3 (bsO0 L k g).count free.calls free.slots free.bytes) = q_mkG L (q_bnkA L k) g' ∧ k = k ∧ q_nobj L k = q_nobj L k ∧ k.oid = k.oid ∧ ((q_nobj L k).slots.at 0).value = ((q_nobj L
    k).slots.at 0).value ∧ ((q_nobj L k).slots.at 1).value = ((q_nobj L k).slots.at 1).value ∧ q_nobj L k = q_nobj L k ∧ (q_nobj L k).slots.at 0 = (q_nobj L k).slots.at 0 ∧ (q_nobj L k).slots.at 1 =
    (q_nobj L k).slots.at 1 ∧ q_nobj L k = q_nobj L k ∧ k.oid = k.oid ∧ ((q_nobj L k).slots.at 0).value = ((q_nobj L k).slots.at 0).value ∧ ((q_nobj L k).slots.at 1).value = ((q_nobj L k).slots.at 1).value
    ∧ q_nobj L k = q_nobj L k ∧ k.oid = k.oid ∧ ((q_nobj L k).slots.at 0).value = ((q_nobj L k).slots.at 0).value ∧ ((q_nobj L k).slots.at 1).value = ((q_nobj L k).slots.at 1).value ∧ void = void ∧ false =
    false ∧ q_nobj L k = q_nobj L k ∧ k.oid = k.oid ∧ ((q_nobj L k).slots.at 0).value = ((q_nobj L k).slots.at 0).value ∧ ((q_nobj L k).slots.at 1).value = ((q_nobj L k).slots.at 1).value ∧ r0 = r0) ∧
    (decide ((bsO0 L k g).count = 4294967295) = false → inRo IntKind.i64 ((bsO0 L k g).count + 1) ∧ true = true ∧ inRo IntKind.i64 ((bsO0 L k g).count + 1) ∧ r0 = r0 ∧ inRo IntKind.i64 (((q_nobj L
    k).slots.at 1).value - n) ∧ true = true ∧ ((!decide (g ≤ ((q_nobj L k).slots.at 1).value - n)) = true → (void = q_bsK L k n ∧ 221 = q_bsE L k n) ∧ L = q_bsL L k n) ∧ ((!decide (g ≤ ((q_nobj L
    k).slots.at 1).value - n)) = false → true = true ∧ true = true ∧ ∀ (r0 : Loop), (∃ g_1, q_invSb L k n g_1 ∧ ((q_nobj L k).slots.at 0).value = g_1 ∧ L = L ∧ k = k ∧ n = n ∧ void = void ∧ k = k ∧ q_nobj
    L k = q_nobj L k ∧ k.oid = k.oid ∧ ((q_nobj L k).slots.at 0).value = ((q_nobj L k).slots.at 0).value ∧ ((q_nobj L k).slots.at 1).value = ((q_nobj L k).slots.at 1).value ∧ q_nobj L k = q_nobj L k ∧
    (q_nobj L k).slots.at 0 = (q_nobj L k).slots.at 0 ∧ (q_nobj L k).slots.at 1 = (q_nobj L k).slots.at 1 ∧ q_nobj L k = q_nobj L k ∧ k.oid = k.oid ∧ ((q_nobj L k).slots.at 0).value = ((q_nobj L
    k).slots.at 0).value ∧ ((q_nobj L k).slots.at 1).value = ((q_nobj L k).slots.at 1).value ∧ bsP1 L k g = bsP1 L k g ∧ k = k ∧ q_nobj L k = q_nobj L k ∧ k.oid = k.oid ∧ ((q_nobj L k).slots.at 0).value =
    ((q_nobj L k).slots.at 0).value ∧ ((q_nobj L k).slots.at 1).value = ((q_nobj L k).slots.at 1).value ∧ q_nobj L k = q_nobj L k ∧ (q_nobj L k).slots.at 0 = (q_nobj L k).slots.at 0 ∧ (q_nobj L k).slots.at
    1 = (q_nobj L k).slots.at 1 ∧ q_nobj L k = q_nobj L k ∧ k.oid = k.oid ∧ ((q_nobj L k).slots.at 0).value = ((q_nobj L k).slots.at 0).value ∧ ((q_nobj L k).slots.at 1).value = ((q_nobj L k).slots.at
    1).value ∧ q_nobj L k = q_nobj L k ∧ k.oid = k.oid ∧ ((q_nobj L k).slots.at 0).value = ((q_nobj L k).slots.at 0).value ∧ ((q_nobj L k).slots.at 1).value = ((q_nobj L k).slots.at 1).value ∧ q_bkey 1 g
    ((bsO0 L k g).count + 1) = q_bkey 1 g ((bsO0 L k g).count + 1) ∧ true = true ∧ q_nobj L k = q_nobj L k ∧ k.oid = k.oid ∧ ((q_nobj L k).slots.at 0).value = ((q_nobj L k).slots.at 0).value ∧ ((q_nobj L
    k).slots.at 1).value = ((q_nobj L k).slots.at 1).value ∧ bsO0 L k g = bsO0 L k g ∧ bsO0 L k g = bsO0 L k g ∧ q_bkey 1 g ((bsO0 L k g).count + 1) = q_bkey 1 g ((bsO0 L k g).count + 1) ∧ q_nobj L k =
    q_nobj L k ∧ k.oid = k.oid ∧ ((q_nobj L k).slots.at 0).value = ((q_nobj L k).slots.at 0).value ∧ ((q_nobj L k).slots.at 1).value = ((q_nobj L k).slots.at 1).value ∧ r0 = r0) ∧ ∀ (g_1 : Int), q_invSb L
    k n g_1 → (decide (g_1 ≤ ((q_nobj L k).slots.at 1).value) = true → r0 = r0 ∧ r0 = r0 ∧ inRo IntKind.i64 (((q_nobj L k).slots.at 1).value - n) ∧ true = true ∧ ((!(decide (g_1 ≤ ((q_nobj L k).slots.at
    1).value - n) || decide ((q_get (bsP1 L k g) g_1).kind = 0) || decide ((q_get (bsP1 L k g) g_1).kind = 3))) = true → r0 = r0 ∧ (void = q_bsK L k n ∧ 221 = q_bsE L k n) ∧ L = q_bsL L k n) ∧ ((!(decide
    (g_1 ≤ ((q_nobj L k).slots.at 1).value - n) || decide ((q_get (bsP1 L k g) g_1).kind = 0) || decide ((q_get (bsP1 L k g) g_1).kind = 3))) = false → r0 = r0 ∧ inRo IntKind.i64 (g_1 + 1) ∧ ∃ g', q_invSb
    L k n g' ∧ (q_bnkB L k + 1 - g').toNat < (q_bnkB L k + 1 - g_1).toNat ∧ g_1 + 1 = g' ∧ L = L ∧ k = k ∧ n = n ∧ void = void ∧ k = k ∧ q_nobj L k = q_nobj L k ∧ k.oid = k.oid ∧ ((q_nobj L k).slots.at
    0).value = ((q_nobj L k).slots.at 0).value ∧ ((q_nobj L k).slots.at 1).value = ((q_nobj L k).slots.at 1).value ∧ q_nobj L k = q_nobj L k ∧ (q_nobj L k).slots.at 0 = (q_nobj L k).slots.at 0 ∧ (q_nobj L
    k).slots.at 1 = (q_nobj L k).slots.at 1 ∧ q_nobj L k = q_nobj L k ∧ k.oid = k.oid ∧ ((q_nobj L k).slots.at 0).value = ((q_nobj L k).slots.at 0).value ∧ ((q_nobj L k).slots.at 1).value = ((q_nobj L
    k).slots.at 1).value ∧ bsP1 L k g = bsP1 L k g ∧ k = k ∧ q_nobj L k = q_nobj L k ∧ k.oid = k.oid ∧ ((q_nobj L k).slots.at 0).value = ((q_nobj L k).slots.at 0).value ∧ ((q_nobj L k).slots.at 1).value =
    ((q_nobj L k).slots.at 1).value ∧ q_nobj L k = q_nobj L k ∧ (q_nobj L k).slots.at 0 = (q_nobj L k).slots.at 0 ∧ (q_nobj L k).slots.at 1 = (q_nobj L k).slots.at 1 ∧ q_nobj L k = q_nobj L k ∧ k.oid =
    k.oid ∧ ((q_nobj L k).slots.at 0).value = ((q_nobj L k).slots.at 0).value ∧ ((q_nobj L k).slots.at 1).value = ((q_nobj L k).slots.at 1).value ∧ q_nobj L k = q_nobj L k ∧ k.oid = k.oid ∧ ((q_nobj L
    k).slots.at 0).value = ((q_nobj L k).slots.at 0).value ∧ ((q_nobj L k).slots.at 1).value = ((q_nobj L k).slots.at 1).value ∧ q_bkey 1 g ((bsO0 L k g).count + 1) = q_bkey 1 g ((bsO0 L k g).count + 1) ∧
    true = true ∧ q_nobj L k = q_nobj L k ∧ k.oid = k.oid ∧ ((q_nobj L k).slots.at 0).value = ((q_nobj L k).slots.at 0).value ∧ ((q_nobj L k).slots.at 1).value = ((q_nobj L k).slots.at 1).value ∧ bsO0 L k
    g = bsO0 L k g ∧ bsO0 L k g = bsO0 L k g ∧ q_bkey 1 g ((bsO0 L k g).count + 1) = q_bkey 1 g ((bsO0 L k g).count + 1) ∧ q_nobj L k = q_nobj L k ∧ k.oid = k.oid ∧ ((q_nobj L k).slots.at 0).value =
    ((q_nobj L k).slots.at 0).value ∧ ((q_nobj L k).slots.at 1).value = ((q_nobj L k).slots.at 1).value ∧ r0 = r0)) ∧ (decide (g_1 ≤ ((q_nobj L k).slots.at 1).value) = false → true = true ∧ true = true ∧
    inRo IntKind.i64 (((q_nobj L k).slots.at 1).value - n) ∧ inRo IntKind.i64 (((q_nobj L k).slots.at 1).value - n + 1) ∧ true = true ∧ true = true ∧ true = true ∧ true = true ∧ true = true ∧ inRo
    IntKind.i64 (((q_nobj L k).slots.at 1).value - n) ∧ true = true ∧ true = true ∧ true = true ∧ (llen L).le 1000 ∧ (q_unlNo L (bsP3 L k n g) = true → (∃ g_2, q_invUn L (q_bsL L k n) g_2 ∧ Value.slice
    none 0 0 = Value.slice none 0 0 ∧ 0 = g_2 ∧ L = q_unS L (q_bsL L k n) g_2 ∧ k = k ∧ n = n ∧ void = void ∧ k = k ∧ q_nobj L k = q_nobj L k ∧ k.oid = k.oid ∧ ((q_nobj L k).slots.at 0).value = ((q_nobj L
    k).slots.at 0).value ∧ ((q_nobj L k).slots.at 1).value = ((q_nobj L k).slots.at 1).value ∧ q_nobj L k = q_nobj L k ∧ (q_nobj L k).slots.at 0 = (q_nobj L k).slots.at 0 ∧ (q_nobj L k).slots.at 1 =
    (q_nobj L k).slots.at 1 ∧ q_nobj L k = q_nobj L k ∧ k.oid = k.oid ∧ ((q_nobj L k).slots.at 0).value = ((q_nobj L k).slots.at 0).value ∧ ((q_nobj L k).slots.at 1).value = ((q_nobj L k).slots.at 1).value
    ∧ bsP3 L k n g = bsP3 L k n g ∧ k = k ∧ q_nobj L k = q_nobj L k ∧ k.oid = k.oid ∧ ((q_nobj L k).slots.at 0).value = ((q_nobj L k).slots.at 0).value ∧ ((q_nobj L k).slots.at 1).value = ((q_nobj L
    k).slots.at 1).value ∧ q_nobj L k = q_nobj L k ∧ (q_nobj L k).slots.at 0 = (q_nobj L k).slots.at 0 ∧ (q_nobj L k).slots.at 1 = (q_nobj L k).slots.at 1 ∧ q_nobj L k = q_nobj L k ∧ k.oid = k.oid ∧
    ((q_nobj L k).slots.at 0).value = ((q_nobj L k).slots.at 0).value ∧ ((q_nobj L k).slots.at 1).value = ((q_nobj L k).slots.at 1).value ∧ q_nobj L k = q_nobj L k ∧ k.oid = k.oid ∧ ((q_nobj L k).slots.at
    0).value = ((q_nobj L k).slots.at 0).value ∧ ((q_nobj L k).slots.at 1).value = ((q_nobj L k).slots.at 1).value ∧ q_bkey 1 g ((bsO0 L k g).count + 1) = q_bkey 1 g ((bsO0 L k g).count + 1) ∧ true = true
    ∧ q_nobj L k = q_nobj L k ∧ k.oid = k.oid ∧ ((q_nobj L k).slots.at 0).value = ((q_nobj L k).slots.at 0).value ∧ ((q_nobj L k).slots.at 1).value = ((q_nobj L k).slots.at 1).value ∧ bsO0 L k g = bsO0 L k
    g ∧ bsO0 L k g = bsO0 L k g ∧ q_bkey 1 g ((bsO0 L k g).count + 1) = q_bkey 1 g ((bsO0 L k g).count + 1) ∧ q_nobj L k = q_nobj L k ∧ k.oid = k.oid ∧ ((q_nobj L k).slots.at 0).value = ((q_nobj L
    k).slots.at 0).value ∧ ((q_nobj L k).slots.at 1).value = ((q_nobj L k).slots.at 1).value ∧ bsR1 L k n g = bsR1 L k n g ∧ bsKn (((q_nobj L k).slots.at 1).value - n + 1) = bsKn (((q_nobj L k).slots.at
    1).value - n + 1) ∧ bsKn ((q_nobj L k).slots.at 1).value = bsKn ((q_nobj L k).slots.at 1).value ∧ bsR2 L k n g = bsR2 L k n g ∧ bsKn (((q_nobj L k).slots.at 1).value - n) = bsKn (((q_nobj L k).slots.at
    1).value - n)) ∧ ∀ (g_2 : Int), q_invUn L (q_bsL L k n) g_2 → (decide (g_2 < 0) = true → False) ∧ (decide (g_2 < 0) = false → (Key.mk 4 g ((bsO0 L k g).count + 1) (q_bkey 1 g ((bsO0 L k g).count +
    1)).call (q_bkey 1 g ((bsO0 L k g).count + 1)).rights (q_bkey 1 g ((bsO0 L k g).count + 1)).value = q_bsK L k n ∧ 0 = q_bsE L k n) ∧ q_unS L (q_bsL L k n) g_2 = q_bsL L k n)) ∧ (q_unlNo L (bsP3 L k n
    g) = false → (∃ g_2, q_invUn L (q_bsL L k n) g_2 ∧ n2i (llen (q_unl L (bsP3 L k n g))) = n2i (llen (q_unl L (bsP3 L k n g))) ∧ 0 = g_2 ∧ L = q_unS L (q_bsL L k n) g_2 ∧ k = k ∧ n = n ∧ void = void ∧ k
    = k ∧ q_nobj L k = q_nobj L k ∧ k.oid = k.oid ∧ ((q_nobj L k).slots.at 0).value = ((q_nobj L k).slots.at 0).value ∧ ((q_nobj L k).slots.at 1).value = ((q_nobj L k).slots.at 1).value ∧ q_nobj L k =
    q_nobj L k ∧ (q_nobj L k).slots.at 0 = (q_nobj L k).slots.at 0 ∧ (q_nobj L k).slots.at 1 = (q_nobj L k).slots.at 1 ∧ q_nobj L k = q_nobj L k ∧ k.oid = k.oid ∧ ((q_nobj L k).slots.at 0).value = ((q_nobj
    L k).slots.at 0).value ∧ ((q_nobj L k).slots.at 1).value = ((q_nobj L k).slots.at 1).value ∧ bsP3 L k n g = bsP3 L k n g ∧ k = k ∧ q_nobj L k = q_nobj L k ∧ k.oid = k.oid ∧ ((q_nobj L k).slots.at
    0).value = ((q_nobj L k).slots.at 0).value ∧ ((q_nobj L k).slots.at 1).value = ((q_nobj L k).slots.at 1).value ∧ q_nobj L k = q_nobj L k ∧ (q_nobj L k).slots.at 0 = (q_nobj L k).slots.at 0 ∧ (q_nobj L
    k).slots.at 1 = (q_nobj L k).slots.at 1 ∧ q_nobj L k = q_nobj L k ∧ k.oid = k.oid ∧ ((q_nobj L k).slots.at 0).value = ((q_nobj L k).slots.at 0).value ∧ ((q_nobj L k).slots.at 1).value = ((q_nobj L
    k).slots.at 1).value ∧ q_nobj L k = q_nobj L k ∧ k.oid = k.oid ∧ ((q_nobj L k).slots.at 0).value = ((q_nobj L k).slots.at 0).value ∧ ((q_nobj L k).slots.at 1).value = ((q_nobj L k).slots.at 1).value ∧
    q_bkey 1 g ((bsO0 L k g).count + 1) = q_bkey 1 g ((bsO0 L k g).count + 1) ∧ true = true ∧ q_nobj L k = q_nobj L k ∧ k.oid = k.oid ∧ ((q_nobj L k).slots.at 0).value = ((q_nobj L k).slots.at 0).value ∧
    ((q_nobj L k).slots.at 1).value = ((q_nobj L k).slots.at 1).value ∧ bsO0 L k g = bsO0 L k g ∧ bsO0 L k g = bsO0 L k g ∧ q_bkey 1 g ((bsO0 L k g).count + 1) = q_bkey 1 g ((bsO0 L k g).count + 1) ∧
    q_nobj L k = q_nobj L k ∧ k.oid = k.oid ∧ ((q_nobj L k).slots.at 0).value = ((q_nobj L k).slots.at 0).value ∧ ((q_nobj L k).slots.at 1).value = ((q_nobj L k).slots.at 1).value ∧ bsR1 L k n g = bsR1 L k
    n g ∧ bsKn (((q_nobj L k).slots.at 1).value - n + 1) = bsKn (((q_nobj L k).slots.at 1).value - n + 1) ∧ bsKn ((q_nobj L k).slots.at 1).value = bsKn ((q_nobj L k).slots.at 1).value ∧ bsR2 L k n g = bsR2
    L k n g ∧ bsKn (((q_nobj L k).slots.at 1).value - n) = bsKn (((q_nobj L k).slots.at 1).value - n) ∧ q_unl L (bsP3 L k n g) = q_unl L (bsP3 L k n g)) ∧ ∀ (g_2 : Int), q_invUn L (q_bsL L k n) g_2 →
    (decide (g_2 < n2i (llen (q_unl L (bsP3 L k n g)))) = true → (0 ≤ g_2 ∧ g_2 < ↑(llen (q_unl L (bsP3 L k n g)))) ∧ g_2.toNat < llen (q_unl L (bsP3 L k n g)) ∧ true = true ∧ inRo IntKind.i64 (g_2 + 1) ∧
    ∃ g', q_invUn L (q_bsL L k n) g' ∧ (n2i (llen (q_unl L (q_bsL L k n))) - g').toNat < (n2i (llen (q_unl L (q_bsL L k n))) - g_2).toNat ∧ n2i (llen (q_unl L (bsP3 L k n g))) = n2i (llen (q_unl L (bsP3 L
    k n g))) ∧ g_2 + 1 = g' ∧ q_putL (q_unS L (q_bsL L k n) g_2) (lget (q_unl L (bsP3 L k n g)) g_2.toNat 0) (q_get (bsP3 L k n g) (lget (q_unl L (bsP3 L k n g)) g_2.toNat 0)) = q_unS L (q_bsL L k n) g' ∧
    k = k ∧ n = n ∧ void = void ∧ k = k ∧ q_nobj L k = q_nobj L k ∧ k.oid = k.oid ∧ ((q_nobj L k).slots.at 0).value = ((q_nobj L k).slots.at 0).value ∧ ((q_nobj L k).slots.at 1).value = ((q_nobj L
    k).slots.at 1).value ∧ q_nobj L k = q_nobj L k ∧ (q_nobj L k).slots.at 0 = (q_nobj L k).slots.at 0 ∧ (q_nobj L k).slots.at 1 = (q_nobj L k).slots.at 1 ∧ q_nobj L k = q_nobj L k ∧ k.oid = k.oid ∧
    ((q_nobj L k).slots.at 0).value = ((q_nobj L k).slots.at 0).value ∧ ((q_nobj L k).slots.at 1).value = ((q_nobj L k).slots.at 1).value ∧ bsP3 L k n g = bsP3 L k n g ∧ k = k ∧ q_nobj L k = q_nobj L k ∧
    k.oid = k.oid ∧ ((q_nobj L k).slots.at 0).value = ((q_nobj L k).slots.at 0).value ∧ ((q_nobj L k).slots.at 1).value = ((q_nobj L k).slots.at 1).value ∧ q_nobj L k = q_nobj L k ∧ (q_nobj L k).slots.at 0
    = (q_nobj L k).slots.at 0 ∧ (q_nobj L k).slots.at 1 = (q_nobj L k).slots.at 1 ∧ q_nobj L k = q_nobj L k ∧ k.oid = k.oid ∧ ((q_nobj L k).slots.at 0).value = ((q_nobj L k).slots.at 0).value ∧ ((q_nobj L
    k).slots.at 1).value = ((q_nobj L k).slots.at 1).value ∧ q_nobj L k = q_nobj L k ∧ k.oid = k.oid ∧ ((q_nobj L k).slots.at 0).value = ((q_nobj L k).slots.at 0).value ∧ ((q_nobj L k).slots.at 1).value =
    ((q_nobj L k).slots.at 1).value ∧ q_bkey 1 g ((bsO0 L k g).count + 1) = q_bkey 1 g ((bsO0 L k g).count + 1) ∧ true = true ∧ q_nobj L k = q_nobj L k ∧ k.oid = k.oid ∧ ((q_nobj L k).slots.at 0).value =
    ((q_nobj L k).slots.at 0).value ∧ ((q_nobj L k).slots.at 1).value = ((q_nobj L k).slots.at 1).value ∧ bsO0 L k g = bsO0 L k g ∧ bsO0 L k g = bsO0 L k g ∧ q_bkey 1 g ((bsO0 L k g).count + 1) = q_bkey 1
    g ((bsO0 L k g).count + 1) ∧ q_nobj L k = q_nobj L k ∧ k.oid = k.oid ∧ ((q_nobj L k).slots.at 0).value = ((q_nobj L k).slots.at 0).value ∧ ((q_nobj L k).slots.at 1).value = ((q_nobj L k).slots.at
    1).value ∧ bsR1 L k n g = bsR1 L k n g ∧ bsKn (((q_nobj L k).slots.at 1).value - n + 1) = bsKn (((q_nobj L k).slots.at 1).value - n + 1) ∧ bsKn ((q_nobj L k).slots.at 1).value = bsKn ((q_nobj L
    k).slots.at 1).value ∧ bsR2 L k n g = bsR2 L k n g ∧ bsKn (((q_nobj L k).slots.at 1).value - n) = bsKn (((q_nobj L k).slots.at 1).value - n) ∧ q_unl L (bsP3 L k n g) = q_unl L (bsP3 L k n g)) ∧ (decide
    (g_2 < n2i (llen (q_unl L (bsP3 L k n g)))) = false → (Key.mk 4 g ((bsO0 L k g).count + 1) (q_bkey 1 g ((bsO0 L k g).count + 1)).call (q_bkey 1 g ((bsO0 L k g).count + 1)).rights (q_bkey 1 g ((bsO0 L k
    g).count + 1)).value = q_bsK L k n ∧ 0 = q_bsE L k n) ∧ q_unS L (q_bsL L k n) g_2 = q_bsL L k n))))))) ∧ (decide (g ≤ ((q_nobj L k).slots.at 1).value) = false → true = true ∧ (void = q_bsK L k n ∧ 221
    = q_bsE L k n) ∧ L = q_bsL L k n))))))))) := by
  refine ⟨rfl, rfl, fun h => bs_no2 (bs_bank (bk1 h) (by omega)) (by omega), fun h => ⟨rfl, fun h2 => bs_no2 (bs_bank (bk2 h h2) (by omega)) (by omega), fun h2 => ⟨rfl, fun h3 => bs_no2 (bs_bank (bk3 h h2 h3) (by omega)) (by omega), fun h3 => ?_⟩⟩⟩
  obtain ⟨e, e1, e2⟩ := bk0 h h2 h3
  obtain ⟨_, a0, a1, a2, a3, a4⟩ := bnk_ok e
  have hkd := bank_kind (ask_is h2).1 (ask_is h2).2
  have hlen := okL_len hL
  have hll : llen L = L.length := rfl
  have h3' := h3
  rw [e1, e2] at h3'
  rw [e1, e2]
  have hr : ∀ x : Int, -1000 ≤ x → x ≤ 1000 → inRo IntKind.i64 x := fun x h1 h2 => by simp only [inRo, inR]; omega
  refine ⟨fun _ => hr _ (by omega) (by omega), rfl, fun h4 => bs_no2 (bsE_range e (by simp only [Bool.not_eq_true', Bool.and_eq_false_iff, decide_eq_false_iff_not] at h4; omega)) (by omega), fun h4 => ⟨rfl, (show L.length ≤ 1000 by omega), fun hn => ?_, fun _ => ⟨rfl, rfl, fun h' => ?_, fun _ => ⟨rfl, fun h' => ?_, fun _ => ⟨rfl, fun h' => ?_, fun _ => ⟨rfl, rfl, rfl, fun r0 => ?_⟩⟩⟩⟩⟩⟩
  · exfalso
    have := of_decide_eq_true hn
    omega
  · rw [h] at h'; exact absurd h' (by decide)
  · rw [h2] at h'; exact absurd h' (by decide)
  · rw [h3'] at h'; exact absurd h' (by decide)
  simp only [Bool.not_eq_false', Bool.and_eq_true, decide_eq_true_eq] at h4
  obtain ⟨hn1, hn2⟩ := h4
  have h0 := bsE0_ok e hn1 hn2
  have hcnt : ∀ j : Nat, j < L.length → 0 ≤ (lget L j free).count ∧ (lget L j free).count ≤ 4294967295 := fun j hj => ⟨(obj_cnt (okL_get hL j hj)).1, (obj_cnt (okL_get hL j hj)).2.1⟩
  have hci : ∀ j : Nat, j < L.length → inRo IntKind.i64 ((lget L j free).count + 1) := fun j hj => by have := hcnt j hj; simp only [inRo, inR]; omega
  refine ⟨⟨q_bnkA L k, ⟨by omega, by omega, noNew_zero⟩, rfl, ?_⟩, fun g hg => ⟨fun hgl => ?_, fun hgl => ?_⟩⟩
  · have hx : L = q_mkG L (q_bnkA L k) (q_bnkA L k) := mkG_zero
    (repeat' apply And.intro) <;> first | with_reducible rfl | exact hx
  · obtain ⟨g0, g1, g2⟩ := hg
    have hgl := of_decide_eq_true hgl
    have hgn : g.toNat < L.length := by omega
    have hgz : (q_mkG L (q_bnkA L k) g).length = L.length := mkG_len
    have hO : bsO0 L k g = lget L g.toNat free := by unfold bsO0; rw [get_lget (by omega) (by omega), mkG_at (by omega)]
    refine ⟨rfl, rfl, fun hk0 => ?_, fun hk0 => ⟨fun hc => ?_, fun hc => ?_⟩⟩
    · obtain ⟨f1, f2⟩ := mk_busy (o := lget L g.toNat free) (by rw [← hO]; simpa using hk0)
      have hx : q_mkG L (q_bnkA L k) g = q_mkG L (q_bnkA L k) (g + 1) := (mkG_same (by omega) f1).symm
      refine ⟨rfl, hr _ (by omega) (by omega), g + 1, ⟨by omega, by omega, noNew_succ g2 f2⟩, by omega, rfl, ?_⟩
      (repeat' apply And.intro) <;> first | with_reducible rfl | exact hx
    · rw [hO] at hk0 hc
      obtain ⟨f1, f2⟩ := mk_ret (o := lget L g.toNat free) (by simpa using hk0) (by have := of_decide_eq_true hc; omega)
      have hp := (put_ok (L := q_mkG L (q_bnkA L k) g) (i := g) (by omega) (by omega) (hgz ▸ retO_ok (okL_get hL g.toNat hgn))).1
      have hx : q_putL (q_mkG L (q_bnkA L k) g) g (Obj.mk 3 (bsO0 L k g).count free.calls free.slots free.bytes) = q_mkG L (q_bnkA L k) (g + 1) := by rw [hO]; exact hp.trans (mkG_ret (by omega) (by omega) g0 f1)
      refine ⟨rfl, rfl, hr _ (by omega) (by omega), g + 1, ⟨by omega, by omega, noNew_succ g2 f2⟩, by omega, rfl, ?_⟩
      (repeat' apply And.intro) <;> first | with_reducible rfl | exact hx
    · rw [hO] at hk0 hc
      have hc := of_decide_eq_false hc
      have := hcnt _ hgn
      obtain ⟨f1, f2⟩ := mk_new (o := lget L g.toNat free) (by simpa using hk0) (by omega)
      obtain ⟨i1, i2, i3, i4, i5, i6, i7, i8⟩ := bs_in hL e hkd g0 hgl g2 f2
      have hcg : inRo IntKind.i64 ((bsO0 L k g).count + 1) := by rw [hO]; exact hci _ hgn
      refine ⟨hcg, rfl, hcg, rfl, hr _ (by omega) (by omega), rfl, fun hc2 => bs_no2 (bsE_full h0 (.inr (by rw [i1]; simp only [Bool.not_eq_true', decide_eq_false_iff_not] at hc2; omega))) (by omega), fun hc2 => ⟨rfl, rfl, fun r1 => ⟨⟨q_bnkA L k, ⟨by omega, by omega, bsyG_le (by omega)⟩, rfl, ?_⟩, fun j hj => ⟨fun hjl => ?_, fun hjl => ?_⟩⟩⟩⟩
      · (repeat' apply And.intro) <;> first | with_reducible rfl | exact hx
      · obtain ⟨j0, j1, j2⟩ := hj
        have hjl := of_decide_eq_true hjl
        have hgj : q_get (bsP1 L k g) j = lget (q_bsM L k) j.toNat free := by rw [i3]; exact get_lget (by omega) (by omega)
        rw [hgj]
        have hkk := obj_cnt (okL_get i5 j.toNat (by omega))
        refine ⟨rfl, rfl, hr _ (by omega) (by omega), rfl, fun hb => ⟨rfl, ?_⟩, fun hb => ⟨rfl, hr _ (by omega) (by omega), j + 1, ⟨by omega, by omega, ?_⟩, by omega, rfl, ?_⟩⟩
        · simp only [Bool.not_eq_true', Bool.or_eq_false_iff, decide_eq_false_iff_not] at hb
          have hbz : q_busy (lget (q_bsM L k) j.toNat free) = true := by unfold q_busy; simp only [Bool.or_eq_true, decide_eq_true_eq]; omega
          exact bs_no2 (bsE_busy h0 (bsyG_yes (by omega) (by omega) (by omega) (by omega) hbz)) (by omega)
        · simp only [Bool.not_eq_false', Bool.or_eq_true, decide_eq_true_eq] at hb
          by_cases hjn : j ≤ q_bnkB L k - n
          · exact bsyG_le (by omega)
          · have hbz : q_busy (lget (q_bsM L k) j.toNat free) = false := by unfold q_busy; simp only [Bool.or_eq_false_iff, decide_eq_false_iff_not]; omega
            rw [bsyG_no (by omega) hbz]; exact j2
        · (repeat' apply And.intro) <;> first | with_reducible rfl | exact hx
      · obtain ⟨j0, j1, j2⟩ := hj
        have hjl := of_decide_eq_false hjl
        have : j = q_bnkB L k + 1 := by omega
        subst this
        simp only [Bool.not_eq_false', decide_eq_true_eq] at hc2
        have hE := bsE_yes h0 (by rw [i1]; omega) (by rw [i1]; omega) j2
        obtain ⟨l1, l2, l3, l4⟩ := bs_last hL e hkd e2 g0 hgl g2 f2 hE
        rw [l1]
        have hul : (q_unl L (q_bsL L k n)).length ≤ L.length := unl_len
        have hu : n2i (llen (q_unl L (q_bsL L k n))) = ((q_unl L (q_bsL L k n)).length : Int) := rfl
        refine ⟨rfl, rfl, hr _ (by omega) (by omega), hr _ (by omega) (by omega), rfl, rfl, rfl, rfl, rfl, hr _ (by omega) (by omega), rfl, rfl, rfl, (show L.length ≤ 1000 by omega), fun hno => ?_, fun _ => ⟨⟨0, ⟨by omega, by omega⟩, rfl, rfl, ?_⟩, fun t ht => ⟨fun htl => ?_, fun htl => ⟨⟨l4, hE.symm⟩, unS_all l3 l2 ?_⟩⟩⟩⟩
        · rw [unlNo_no l3 (by omega)] at hno; exact absurd hno (by decide)
        · have hx : L = q_unS L (q_bsL L k n) 0 := rfl
          (repeat' apply And.intro) <;> first | with_reducible rfl | exact hx
        · obtain ⟨t0, t1⟩ := ht
          have htl := of_decide_eq_true htl
          rw [hu] at htl
          have hx : q_putL (q_unS L (q_bsL L k n) t) (lget (q_unl L (q_bsL L k n)) t.toNat 0) (q_get (q_bsL L k n) (lget (q_unl L (q_bsL L k n)) t.toNat 0)) = q_unS L (q_bsL L k n) (t + 1) := unS_step t0
          refine ⟨⟨t0, htl⟩, (show t.toNat < (q_unl L (q_bsL L k n)).length by omega), rfl, hr _ (by omega) (by omega), t + 1, ⟨by omega, by omega⟩, by rw [hu]; omega, rfl, rfl, ?_⟩
          (repeat' apply And.intro) <;> first | with_reducible rfl | exact hx
        · have htl := of_decide_eq_false htl
          rw [hu] at htl
          obtain ⟨t0, t1⟩ := ht
          omega
  · obtain ⟨g0, g1, g2⟩ := hg
    have hgl := of_decide_eq_false hgl
    have : g = q_bnkB L k + 1 := by omega
    subst this
    obtain ⟨m1, m2, m3⟩ := mk_end 1 g2
    exact ⟨rfl, bs_no2 (bsE_full h0 (.inl (by unfold q_bsI; rw [m1]; omega))) (by omega)⟩
theorem cl_bsplit (L : List Sx.Obj) (k : Key) (n : Int) (hL : q_okL L) : CallTo Try.prog 20 [.lp 0 0, .key k, .it .i64 n] [.store tS eS L] (kS2 (.tp [.key (q_bsK L k n), .it .i64 (q_bsE L k n)]) (q_bsL L k n)) (fun _ _ => False) :=
  vcd_call (inl := (fun f => f == 47 || f == 46 || f == 48 || f == 49 || f == 54 || f == 55 || f == 57 || f == 58 || f == 1000000 + 95)) (ann := (annL [(3000 + 95, 1, lpR [0, 1] (fun g => [(3, .it .i64 g)]) 11 (fun g => .store tS eS (q_mkG L (q_bnkA L k) g)) (q_inv1k L k) (iadd (q_bnkB L k) 1)), (9000 + 95, 1, lpG [0, 1] (fun g => [(3, .it .i64 g)]) (q_invSb L k n) (iadd (q_bnkB L k) 1)), (20, 16, lpR [0, 6, 7, 9, 10, 90, 91] (fun g => [(92, .it .i64 g)]) 0 (fun g => .store tS eS (q_unS L (q_bsL L k n) g)) (q_invUn L (q_bsL L k n)) (n2i (llen (q_unl L (q_bsL L k n)))))])) (oks_cons ct_size (oks_cons ct_named (oks_cons ct_get (oks_cons ct_bkey oks_nil)))) (hoks_cons hc_put (hoks_cons hc_copy (hoks_cons hc_unl hoks_nil))) (dk_one dc_banks) (vc_bsplit L k n hL) (by kernel_rfl)
theorem hc_bsplit : HOK Try.prog 20 h_bsplit :=
  hSt_ok (m := fun x => kiB.cn x 0) (rdL_ok kiB_ok (fun _ => rfl)) (fun _ => rfl) (fun _ _ => rfl) (fun x => vcd_call (inl := (fun f => f == 47 || f == 46 || f == 48 || f == 49 || f == 54 || f == 55 || f == 57 || f == 58 || f == 1000000 + 95)) (ann := noAnn) (oks_cons ct_size (oks_cons ct_named (oks_cons ct_get (oks_cons ct_bkey oks_nil)))) (hoks_cons hc_put (hoks_cons hc_copy (hoks_cons hc_unl hoks_nil))) (dk_one dc_banks) (vc_bsplit0 x.1 x.2.1) (by kernel_rfl)) (fun x => vcd_call (inl := (fun f => f == 47 || f == 46 || f == 48 || f == 49 || f == 54 || f == 55 || f == 57 || f == 58 || f == 1000000 + 95)) (ann := noAnn) (oks_cons ct_size (oks_cons ct_named (oks_cons ct_get (oks_cons ct_bkey oks_nil)))) (hoks_cons hc_put (hoks_cons hc_copy (hoks_cons hc_unl hoks_nil))) (dk_one dc_banks) (vc_bsplitz x.1 x.2.1) (by kernel_rfl)) fun L x hL _ _ => cl_bsplit L x.1 x.2.1 hL
end Go.Proofs.Ytfalhknkaebfoaa
