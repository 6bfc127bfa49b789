/- The laws of layer 12: what never counts again. No condition. The statements vc_.. are printed by a program of the claimant's own. -/
import Derived.Test.YtfalhknkaebfoaaCtBd
import Derived.Test.YtfalhknkaebfoaaSpBn
import Derived.Test.YtfalhknkaebfoaaCtS2
namespace Go.Proofs.Ytfalhknkaebfoaa
open Go.Sx
set_option maxRecDepth 100000
set_option linter.unusedVariables false
set_option linter.unusedSimpArgs false
theorem vc_bnev (l : List Sx.Obj) (acts : List Acb) (ks : List Key) :
  true = true ∧ True ∧ (q_made l = false → true = true) ∧ (q_made l = true → ((decide (30 < n2i (llen acts)) || decide (20 < n2i (llen ks))) = true → true = true) ∧ ((decide (30 < n2i (llen acts)) ||
    decide (20 < n2i (llen ks))) = false → mkFit (n2i (llen ks)) (n2i (llen ks)) 1 ∧ (∃ g, q_invNv acts ks g ∧ 0 = g.fst ∧ l = l ∧ llen acts = llen acts ∧ nvF acts = nvF acts ∧ ks = ks ∧ false = false ∧ l
    = g.snd.fst ∧ lrep (n2i (llen ks)).toNat false = g.snd.snd) ∧ ∀ (g : Int × List Sx.Obj × List Bool), q_invNv acts ks g → (decide (g.fst < n2i (llen acts)) = true → true = true ∧ (llen g.snd.fst).le
    1000 ∧ (q_snone g.snd.fst = true → (0 ≤ g.fst ∧ g.fst < ↑(llen acts)) ∧ g.fst.toNat < llen acts ∧ (decide ((nvA acts g.fst).kind = 1) = true → true = true ∧ q_okL g.snd.fst ∧ (decide (q_bmkE g.snd.fst
    (nvA acts g.fst).bank (nvA acts g.fst).obj = 0) = true → ((!decide ((q_get [] (nvK acts g).oid).kind = 0) || !keq (q_prep (nvM acts g) (nvK acts g)) (nvK acts g)) = true → false = true) ∧ ((!decide
    ((q_get [] (nvK acts g).oid).kind = 0) || !keq (q_prep (nvM acts g) (nvK acts g)) (nvK acts g)) = false → true = true ∧ true = true ∧ ∀ (r0 : Loop), (∃ g_1, q_inv64 g_1 ∧ q_size (nvM acts g) = q_size
    (nvM acts g) ∧ 0 = g_1 ∧ l = l ∧ llen acts = llen acts ∧ nvF acts = nvF acts ∧ ks = ks ∧ false = false ∧ g.snd.snd = g.snd.snd ∧ Value.pointer none = Value.pointer none ∧ nvK acts g = nvK acts g ∧ (nvA
    acts g.fst).kind = (nvA acts g.fst).kind ∧ (nvA acts g.fst).num = (nvA acts g.fst).num ∧ (nvA acts g.fst).bank = (nvA acts g.fst).bank ∧ (nvA acts g.fst).key = (nvA acts g.fst).key ∧ (nvA acts
    g.fst).obj = (nvA acts g.fst).obj ∧ nvM acts g = nvM acts g ∧ r0 = r0) ∧ ∀ (g_1 : Int), q_inv64 g_1 → (decide (g_1 < q_size (nvM acts g)) = true → (0 ≤ g_1 ∧ g_1 < ↑(llen (nvM acts g))) ∧ g_1.toNat <
    llen (nvM acts g) ∧ g_1.toNat < llen (nvM acts g) ∧ r0 = r0 ∧ r0 = r0 ∧ ((!decide ((lget (nvM acts g) g_1.toNat free).count < (q_get [] g_1).count)) = true → inRo IntKind.i64 ((q_get [] g_1).count +
    1)) ∧ ((decide ((lget (nvM acts g) g_1.toNat free).count < (q_get [] g_1).count) || decide ((q_get [] g_1).count + 1 < (lget (nvM acts g) g_1.toNat free).count)) = true → r0 = r0 ∧ false = true) ∧
    ((decide ((lget (nvM acts g) g_1.toNat free).count < (q_get [] g_1).count) || decide ((q_get [] g_1).count + 1 < (lget (nvM acts g) g_1.toNat free).count)) = false → r0 = r0 ∧ inRo IntKind.i64 (g_1 +
    1) ∧ ∃ g', q_inv64 g' ∧ (64 - g').toNat < (64 - g_1).toNat ∧ q_size (nvM acts g) = q_size (nvM acts g) ∧ g_1 + 1 = g' ∧ l = l ∧ llen acts = llen acts ∧ nvF acts = nvF acts ∧ ks = ks ∧ false = false ∧
    g.snd.snd = g.snd.snd ∧ Value.pointer none = Value.pointer none ∧ nvK acts g = nvK acts g ∧ (nvA acts g.fst).kind = (nvA acts g.fst).kind ∧ (nvA acts g.fst).num = (nvA acts g.fst).num ∧ (nvA acts
    g.fst).bank = (nvA acts g.fst).bank ∧ (nvA acts g.fst).key = (nvA acts g.fst).key ∧ (nvA acts g.fst).obj = (nvA acts g.fst).obj ∧ nvM acts g = nvM acts g ∧ r0 = r0)) ∧ (decide (g_1 < q_size (nvM acts
    g)) = false → (∃ g, q_invNk ks g ∧ False) ∧ ∀ (g_2 : Int × List Bool × List Sx.Obj × List Sx.Obj), q_invNk ks g_2 → (decide (g_2.fst < n2i (llen ks)) = true → False) ∧ (decide (g_2.fst < n2i (llen ks))
    = false → inRo IntKind.i64 (g.fst + 1) ∧ ∃ g', q_invNv acts ks g' ∧ q_muNv acts g' < q_muNv acts g ∧ g.fst + 1 = g'.fst ∧ l = l ∧ llen acts = llen acts ∧ nvF acts = nvF acts ∧ ks = ks ∧ false = false ∧
    g_2.snd.snd.snd = g'.snd.fst ∧ g_2.snd.fst = g'.snd.snd)))) ∧ (decide (q_bmkE g.snd.fst (nvA acts g.fst).bank (nvA acts g.fst).obj = 0) = false → true = true ∧ true = true ∧ ∀ (r0 : Loop), (∃ g_1,
    q_inv64 g_1 ∧ q_size (nvM acts g) = q_size (nvM acts g) ∧ 0 = g_1 ∧ l = l ∧ llen acts = llen acts ∧ nvF acts = nvF acts ∧ ks = ks ∧ false = false ∧ g.snd.snd = g.snd.snd ∧ Value.pointer none =
    Value.pointer none ∧ nvK acts g = nvK acts g ∧ (nvA acts g.fst).kind = (nvA acts g.fst).kind ∧ (nvA acts g.fst).num = (nvA acts g.fst).num ∧ (nvA acts g.fst).bank = (nvA acts g.fst).bank ∧ (nvA acts
    g.fst).key = (nvA acts g.fst).key ∧ (nvA acts g.fst).obj = (nvA acts g.fst).obj ∧ nvM acts g = nvM acts g ∧ r0 = r0) ∧ ∀ (g_1 : Int), q_inv64 g_1 → (decide (g_1 < q_size (nvM acts g)) = true → False) ∧
    (decide (g_1 < q_size (nvM acts g)) = false → (∃ g, q_invNk ks g ∧ False) ∧ ∀ (g_2 : Int × List Bool × List Sx.Obj × List Sx.Obj), q_invNk ks g_2 → (decide (g_2.fst < n2i (llen ks)) = true → False) ∧
    (decide (g_2.fst < n2i (llen ks)) = false → inRo IntKind.i64 (g.fst + 1) ∧ ∃ g', q_invNv acts ks g' ∧ q_muNv acts g' < q_muNv acts g ∧ g.fst + 1 = g'.fst ∧ l = l ∧ llen acts = llen acts ∧ nvF acts =
    nvF acts ∧ ks = ks ∧ false = false ∧ g_2.snd.snd.snd = g'.snd.fst ∧ g_2.snd.fst = g'.snd.snd)))) ∧ (decide ((nvA acts g.fst).kind = 1) = false → (decide ((nvA acts g.fst).kind = 2) = true → true = true
    ∧ q_okL g.snd.fst ∧ true = true ∧ true = true ∧ ∀ (r0 : Loop), (∃ g_1, q_inv64 g_1 ∧ q_size (nvD acts g) = q_size (nvD acts g) ∧ 0 = g_1 ∧ l = l ∧ llen acts = llen acts ∧ nvF acts = nvF acts ∧ ks = ks
    ∧ false = false ∧ g.snd.snd = g.snd.snd ∧ Value.pointer none = Value.pointer none ∧ void = void ∧ (nvA acts g.fst).kind = (nvA acts g.fst).kind ∧ (nvA acts g.fst).num = (nvA acts g.fst).num ∧ (nvA acts
    g.fst).bank = (nvA acts g.fst).bank ∧ (nvA acts g.fst).key = (nvA acts g.fst).key ∧ (nvA acts g.fst).obj = (nvA acts g.fst).obj ∧ nvD acts g = nvD acts g ∧ r0 = r0) ∧ ∀ (g_1 : Int), q_inv64 g_1 →
    (decide (g_1 < q_size (nvD acts g)) = true → False) ∧ (decide (g_1 < q_size (nvD acts g)) = false → (∃ g, q_invNk ks g ∧ False) ∧ ∀ (g_2 : Int × List Bool × List Sx.Obj × List Sx.Obj), q_invNk ks g_2 →
    (decide (g_2.fst < n2i (llen ks)) = true → False) ∧ (decide (g_2.fst < n2i (llen ks)) = false → inRo IntKind.i64 (g.fst + 1) ∧ ∃ g', q_invNv acts ks g' ∧ q_muNv acts g' < q_muNv acts g ∧ g.fst + 1 =
    g'.fst ∧ l = l ∧ llen acts = llen acts ∧ nvF acts = nvF acts ∧ ks = ks ∧ false = false ∧ g_2.snd.snd.snd = g'.snd.fst ∧ g_2.snd.fst = g'.snd.snd))) ∧ (decide ((nvA acts g.fst).kind = 2) = false →
    (decide ((nvA acts g.fst).kind = 3) = true → true = true ∧ q_okL g.snd.fst ∧ (decide (q_bsE g.snd.fst (nvA acts g.fst).bank (nvA acts g.fst).num = 0) = true → ((!decide ((q_get [] (nvQ acts
    g).oid).kind = 0) || !keq (q_prep (nvS acts g) (nvQ acts g)) (nvQ acts g)) = true → false = true) ∧ ((!decide ((q_get [] (nvQ acts g).oid).kind = 0) || !keq (q_prep (nvS acts g) (nvQ acts g)) (nvQ acts
    g)) = false → true = true ∧ true = true ∧ ∀ (r0 : Loop), (∃ g_1, q_inv64 g_1 ∧ q_size (nvS acts g) = q_size (nvS acts g) ∧ 0 = g_1 ∧ l = l ∧ llen acts = llen acts ∧ nvF acts = nvF acts ∧ ks = ks ∧
    false = false ∧ g.snd.snd = g.snd.snd ∧ Value.pointer none = Value.pointer none ∧ nvQ acts g = nvQ acts g ∧ (nvA acts g.fst).kind = (nvA acts g.fst).kind ∧ (nvA acts g.fst).num = (nvA acts g.fst).num ∧
    (nvA acts g.fst).bank = (nvA acts g.fst).bank ∧ (nvA acts g.fst).key = (nvA acts g.fst).key ∧ (nvA acts g.fst).obj = (nvA acts g.fst).obj ∧ nvS acts g = nvS acts g ∧ r0 = r0) ∧ ∀ (g_1 : Int), q_inv64
    g_1 → (decide (g_1 < q_size (nvS acts g)) = true → (0 ≤ g_1 ∧ g_1 < ↑(llen (nvS acts g))) ∧ g_1.toNat < llen (nvS acts g) ∧ g_1.toNat < llen (nvS acts g) ∧ r0 = r0 ∧ r0 = r0 ∧ ((!decide ((lget (nvS
    acts g) g_1.toNat free).count < (q_get [] g_1).count)) = true → inRo IntKind.i64 ((q_get [] g_1).count + 1)) ∧ ((decide ((lget (nvS acts g) g_1.toNat free).count < (q_get [] g_1).count) || decide
    ((q_get [] g_1).count + 1 < (lget (nvS acts g) g_1.toNat free).count)) = true → r0 = r0 ∧ false = true) ∧ ((decide ((lget (nvS acts g) g_1.toNat free).count < (q_get [] g_1).count) || decide ((q_get []
    g_1).count + 1 < (lget (nvS acts g) g_1.toNat free).count)) = false → r0 = r0 ∧ inRo IntKind.i64 (g_1 + 1) ∧ ∃ g', q_inv64 g' ∧ (64 - g').toNat < (64 - g_1).toNat ∧ q_size (nvS acts g) = q_size (nvS
    acts g) ∧ g_1 + 1 = g' ∧ l = l ∧ llen acts = llen acts ∧ nvF acts = nvF acts ∧ ks = ks ∧ false = false ∧ g.snd.snd = g.snd.snd ∧ Value.pointer none = Value.pointer none ∧ nvQ acts g = nvQ acts g ∧ (nvA
    acts g.fst).kind = (nvA acts g.fst).kind ∧ (nvA acts g.fst).num = (nvA acts g.fst).num ∧ (nvA acts g.fst).bank = (nvA acts g.fst).bank ∧ (nvA acts g.fst).key = (nvA acts g.fst).key ∧ (nvA acts
    g.fst).obj = (nvA acts g.fst).obj ∧ nvS acts g = nvS acts g ∧ r0 = r0)) ∧ (decide (g_1 < q_size (nvS acts g)) = false → (∃ g, q_invNk ks g ∧ False) ∧ ∀ (g_2 : Int × List Bool × List Sx.Obj × List
    Sx.Obj), q_invNk ks g_2 → (decide (g_2.fst < n2i (llen ks)) = true → False) ∧ (decide (g_2.fst < n2i (llen ks)) = false → inRo IntKind.i64 (g.fst + 1) ∧ ∃ g', q_invNv acts ks g' ∧ q_muNv acts g' <
    q_muNv acts g ∧ g.fst + 1 = g'.fst ∧ l = l ∧ llen acts = llen acts ∧ nvF acts = nvF acts ∧ ks = ks ∧ false = false ∧ g_2.snd.snd.snd = g'.snd.fst ∧ g_2.snd.fst = g'.snd.snd)))) ∧ (decide (q_bsE
    g.snd.fst (nvA acts g.fst).bank (nvA acts g.fst).num = 0) = false → true = true ∧ true = true ∧ ∀ (r0 : Loop), (∃ g_1, q_inv64 g_1 ∧ q_size (nvS acts g) = q_size (nvS acts g) ∧ 0 = g_1 ∧ l = l ∧ llen
    acts = llen acts ∧ nvF acts = nvF acts ∧ ks = ks ∧ false = false ∧ g.snd.snd = g.snd.snd ∧ Value.pointer none = Value.pointer none ∧ nvQ acts g = nvQ acts g ∧ (nvA acts g.fst).kind = (nvA acts
    g.fst).kind ∧ (nvA acts g.fst).num = (nvA acts g.fst).num ∧ (nvA acts g.fst).bank = (nvA acts g.fst).bank ∧ (nvA acts g.fst).key = (nvA acts g.fst).key ∧ (nvA acts g.fst).obj = (nvA acts g.fst).obj ∧
    nvS acts g = nvS acts g ∧ r0 = r0) ∧ ∀ (g_1 : Int), q_inv64 g_1 → (decide (g_1 < q_size (nvS acts g)) = true → False) ∧ (decide (g_1 < q_size (nvS acts g)) = false → (∃ g, q_invNk ks g ∧ False) ∧ ∀
    (g_2 : Int × List Bool × List Sx.Obj × List Sx.Obj), q_invNk ks g_2 → (decide (g_2.fst < n2i (llen ks)) = true → False) ∧ (decide (g_2.fst < n2i (llen ks)) = false → inRo IntKind.i64 (g.fst + 1) ∧ ∃
    g', q_invNv acts ks g' ∧ q_muNv acts g' < q_muNv acts g ∧ g.fst + 1 = g'.fst ∧ l = l ∧ llen acts = llen acts ∧ nvF acts = nvF acts ∧ ks = ks ∧ false = false ∧ g_2.snd.snd.snd = g'.snd.fst ∧ g_2.snd.fst
    = g'.snd.snd)))) ∧ (decide ((nvA acts g.fst).kind = 3) = false → (decide ((nvA acts g.fst).kind = 4) = true → true = true ∧ q_okL g.snd.fst ∧ true = true ∧ true = true ∧ ∀ (r0 : Loop), (∃ g_1, q_inv64
    g_1 ∧ q_size (nvR acts g) = q_size (nvR acts g) ∧ 0 = g_1 ∧ l = l ∧ llen acts = llen acts ∧ nvF acts = nvF acts ∧ ks = ks ∧ false = false ∧ g.snd.snd = g.snd.snd ∧ Value.pointer none = Value.pointer
    none ∧ void = void ∧ (nvA acts g.fst).kind = (nvA acts g.fst).kind ∧ (nvA acts g.fst).num = (nvA acts g.fst).num ∧ (nvA acts g.fst).bank = (nvA acts g.fst).bank ∧ (nvA acts g.fst).key = (nvA acts
    g.fst).key ∧ (nvA acts g.fst).obj = (nvA acts g.fst).obj ∧ nvR acts g = nvR acts g ∧ r0 = r0) ∧ ∀ (g_1 : Int), q_inv64 g_1 → (decide (g_1 < q_size (nvR acts g)) = true → False) ∧ (decide (g_1 < q_size
    (nvR acts g)) = false → (∃ g, q_invNk ks g ∧ False) ∧ ∀ (g_2 : Int × List Bool × List Sx.Obj × List Sx.Obj), q_invNk ks g_2 → (decide (g_2.fst < n2i (llen ks)) = true → False) ∧ (decide (g_2.fst < n2i
    (llen ks)) = false → inRo IntKind.i64 (g.fst + 1) ∧ ∃ g', q_invNv acts ks g' ∧ q_muNv acts g' < q_muNv acts g ∧ g.fst + 1 = g'.fst ∧ l = l ∧ llen acts = llen acts ∧ nvF acts = nvF acts ∧ ks = ks ∧
    false = false ∧ g_2.snd.snd.snd = g'.snd.fst ∧ g_2.snd.fst = g'.snd.snd))) ∧ (decide ((nvA acts g.fst).kind = 4) = false → true = true ∧ true = true ∧ ∀ (r0 : Loop), (∃ g_1, q_inv64 g_1 ∧ q_size
    g.snd.fst = q_size g.snd.fst ∧ 0 = g_1 ∧ l = l ∧ llen acts = llen acts ∧ nvF acts = nvF acts ∧ ks = ks ∧ false = false ∧ g.snd.snd = g.snd.snd ∧ Value.pointer none = Value.pointer none ∧ void = void ∧
    (nvA acts g.fst).kind = (nvA acts g.fst).kind ∧ (nvA acts g.fst).num = (nvA acts g.fst).num ∧ (nvA acts g.fst).bank = (nvA acts g.fst).bank ∧ (nvA acts g.fst).key = (nvA acts g.fst).key ∧ (nvA acts
    g.fst).obj = (nvA acts g.fst).obj ∧ g.snd.fst = g.snd.fst ∧ r0 = r0) ∧ ∀ (g_1 : Int), q_inv64 g_1 → (decide (g_1 < q_size g.snd.fst) = true → False) ∧ (decide (g_1 < q_size g.snd.fst) = false → (∃ g,
    q_invNk ks g ∧ False) ∧ ∀ (g_2 : Int × List Bool × List Sx.Obj × List Sx.Obj), q_invNk ks g_2 → (decide (g_2.fst < n2i (llen ks)) = true → False) ∧ (decide (g_2.fst < n2i (llen ks)) = false → inRo
    IntKind.i64 (g.fst + 1) ∧ ∃ g', q_invNv acts ks g' ∧ q_muNv acts g' < q_muNv acts g ∧ g.fst + 1 = g'.fst ∧ l = l ∧ llen acts = llen acts ∧ nvF acts = nvF acts ∧ ks = ks ∧ false = false ∧
    g_2.snd.snd.snd = g'.snd.fst ∧ g_2.snd.fst = g'.snd.snd))))))) ∧ (q_snone g.snd.fst = false → (0 ≤ g.fst ∧ g.fst < ↑(llen acts)) ∧ g.fst.toNat < llen acts ∧ (decide ((nvA acts g.fst).kind = 1) = true →
    true = true ∧ q_okL g.snd.fst ∧ (decide (q_bmkE g.snd.fst (nvA acts g.fst).bank (nvA acts g.fst).obj = 0) = true → ((!decide ((q_get g.snd.fst (nvK acts g).oid).kind = 0) || !keq (q_prep (nvM acts g)
    (nvK acts g)) (nvK acts g)) = true → false = true) ∧ ((!decide ((q_get g.snd.fst (nvK acts g).oid).kind = 0) || !keq (q_prep (nvM acts g) (nvK acts g)) (nvK acts g)) = false → true = true ∧ true = true
    ∧ ∀ (r0 : Loop), (∃ g_1, q_inv64 g_1 ∧ q_size (nvM acts g) = q_size (nvM acts g) ∧ 0 = g_1 ∧ l = l ∧ llen acts = llen acts ∧ nvF acts = nvF acts ∧ ks = ks ∧ false = false ∧ g.snd.snd = g.snd.snd ∧ nvK
    acts g = nvK acts g ∧ q_get g.snd.fst (nvK acts g).oid = q_get g.snd.fst (nvK acts g).oid ∧ g.snd.fst = g.snd.fst ∧ nvM acts g = nvM acts g ∧ r0 = r0) ∧ ∀ (g_1 : Int), q_inv64 g_1 → (decide (g_1 <
    q_size (nvM acts g)) = true → (0 ≤ g_1 ∧ g_1 < ↑(llen (nvM acts g))) ∧ g_1.toNat < llen (nvM acts g) ∧ g_1.toNat < llen (nvM acts g) ∧ r0 = r0 ∧ r0 = r0 ∧ ((!decide ((lget (nvM acts g) g_1.toNat
    free).count < (q_get g.snd.fst g_1).count)) = true → inRo IntKind.i64 ((q_get g.snd.fst g_1).count + 1)) ∧ ((decide ((lget (nvM acts g) g_1.toNat free).count < (q_get g.snd.fst g_1).count) || decide
    ((q_get g.snd.fst g_1).count + 1 < (lget (nvM acts g) g_1.toNat free).count)) = true → r0 = r0 ∧ false = true) ∧ ((decide ((lget (nvM acts g) g_1.toNat free).count < (q_get g.snd.fst g_1).count) ||
    decide ((q_get g.snd.fst g_1).count + 1 < (lget (nvM acts g) g_1.toNat free).count)) = false → r0 = r0 ∧ inRo IntKind.i64 (g_1 + 1) ∧ ∃ g', q_inv64 g' ∧ (64 - g').toNat < (64 - g_1).toNat ∧ q_size (nvM
    acts g) = q_size (nvM acts g) ∧ g_1 + 1 = g' ∧ l = l ∧ llen acts = llen acts ∧ nvF acts = nvF acts ∧ ks = ks ∧ false = false ∧ g.snd.snd = g.snd.snd ∧ nvK acts g = nvK acts g ∧ q_get g.snd.fst (nvK
    acts g).oid = q_get g.snd.fst (nvK acts g).oid ∧ g.snd.fst = g.snd.fst ∧ nvM acts g = nvM acts g ∧ r0 = r0)) ∧ (decide (g_1 < q_size (nvM acts g)) = false → (∃ g_2, q_invNk ks g_2 ∧ g.fst = g.fst ∧ 0 =
    g_2.fst ∧ l = l ∧ llen acts = llen acts ∧ nvF acts = nvF acts ∧ ks = ks ∧ false = false ∧ nvM acts g = g_2.snd.snd.snd ∧ g.snd.snd = g_2.snd.fst ∧ g.snd.fst = g_2.snd.snd.fst ∧ nvK acts g = nvK acts g
    ∧ q_get g.snd.fst (nvK acts g).oid = q_get g.snd.fst (nvK acts g).oid) ∧ ∀ (g_2 : Int × List Bool × List Sx.Obj × List Sx.Obj), q_invNk ks g_2 → (decide (g_2.fst < n2i (llen ks)) = true → (0 ≤ g_2.fst
    ∧ g_2.fst < ↑(llen ks)) ∧ g_2.fst.toNat < llen ks ∧ (0 ≤ g_2.fst ∧ g_2.fst < ↑(llen ks)) ∧ g_2.fst.toNat < llen ks ∧ (0 ≤ g_2.fst ∧ g_2.fst < ↑(llen g_2.snd.fst)) ∧ g_2.fst.toNat < llen g_2.snd.fst ∧
    (0 ≤ g_2.fst ∧ g_2.fst < ↑(llen g_2.snd.fst)) ∧ g_2.fst.toNat < llen g_2.snd.fst ∧ (0 ≤ g_2.fst ∧ g_2.fst < ↑(llen (nvT ks g_2))) ∧ g_2.fst.toNat < llen (nvT ks g_2) ∧ ((lget (nvT ks g_2) g_2.fst.toNat
    false && q_is g_2.snd.snd.snd (lget ks g_2.fst.toNat void)) = true → false = true) ∧ ((lget (nvT ks g_2) g_2.fst.toNat false && q_is g_2.snd.snd.snd (lget ks g_2.fst.toNat void)) = false → inRo
    IntKind.i64 (g_2.fst + 1) ∧ ∃ g', q_invNk ks g' ∧ q_muNk ks g' < q_muNk ks g_2 ∧ g.fst = g.fst ∧ g_2.fst + 1 = g'.fst ∧ l = l ∧ llen acts = llen acts ∧ nvF acts = nvF acts ∧ ks = ks ∧ false = false ∧
    g_2.snd.snd.snd = g'.snd.snd.snd ∧ nvT ks g_2 = g'.snd.fst ∧ g_2.snd.snd.fst = g'.snd.snd.fst ∧ nvK acts g = nvK acts g ∧ q_get g.snd.fst (nvK acts g).oid = q_get g.snd.fst (nvK acts g).oid)) ∧ (decide
    (g_2.fst < n2i (llen ks)) = false → inRo IntKind.i64 (g.fst + 1) ∧ ∃ g', q_invNv acts ks g' ∧ q_muNv acts g' < q_muNv acts g ∧ g.fst + 1 = g'.fst ∧ l = l ∧ llen acts = llen acts ∧ nvF acts = nvF acts ∧
    ks = ks ∧ false = false ∧ g_2.snd.snd.snd = g'.snd.fst ∧ g_2.snd.fst = g'.snd.snd)))) ∧ (decide (q_bmkE g.snd.fst (nvA acts g.fst).bank (nvA acts g.fst).obj = 0) = false → true = true ∧ true = true ∧ ∀
    (r0 : Loop), (∃ g_1, q_inv64 g_1 ∧ q_size (nvM acts g) = q_size (nvM acts g) ∧ 0 = g_1 ∧ l = l ∧ llen acts = llen acts ∧ nvF acts = nvF acts ∧ ks = ks ∧ false = false ∧ g.snd.snd = g.snd.snd ∧ nvK acts
    g = nvK acts g ∧ g.snd.fst = g.snd.fst ∧ nvM acts g = nvM acts g ∧ r0 = r0) ∧ ∀ (g_1 : Int), q_inv64 g_1 → (decide (g_1 < q_size (nvM acts g)) = true → (0 ≤ g_1 ∧ g_1 < ↑(llen (nvM acts g))) ∧
    g_1.toNat < llen (nvM acts g) ∧ g_1.toNat < llen (nvM acts g) ∧ r0 = r0 ∧ r0 = r0 ∧ ((!decide ((lget (nvM acts g) g_1.toNat free).count < (q_get g.snd.fst g_1).count)) = true → inRo IntKind.i64 ((q_get
    g.snd.fst g_1).count + 1)) ∧ ((decide ((lget (nvM acts g) g_1.toNat free).count < (q_get g.snd.fst g_1).count) || decide ((q_get g.snd.fst g_1).count + 1 < (lget (nvM acts g) g_1.toNat free).count)) =
    true → r0 = r0 ∧ false = true) ∧ ((decide ((lget (nvM acts g) g_1.toNat free).count < (q_get g.snd.fst g_1).count) || decide ((q_get g.snd.fst g_1).count + 1 < (lget (nvM acts g) g_1.toNat
    free).count)) = false → r0 = r0 ∧ inRo IntKind.i64 (g_1 + 1) ∧ ∃ g', q_inv64 g' ∧ (64 - g').toNat < (64 - g_1).toNat ∧ q_size (nvM acts g) = q_size (nvM acts g) ∧ g_1 + 1 = g' ∧ l = l ∧ llen acts =
    llen acts ∧ nvF acts = nvF acts ∧ ks = ks ∧ false = false ∧ g.snd.snd = g.snd.snd ∧ nvK acts g = nvK acts g ∧ g.snd.fst = g.snd.fst ∧ nvM acts g = nvM acts g ∧ r0 = r0)) ∧ (decide (g_1 < q_size (nvM
    acts g)) = false → (∃ g_2, q_invNk ks g_2 ∧ g.fst = g.fst ∧ 0 = g_2.fst ∧ l = l ∧ llen acts = llen acts ∧ nvF acts = nvF acts ∧ ks = ks ∧ false = false ∧ nvM acts g = g_2.snd.snd.snd ∧ g.snd.snd =
    g_2.snd.fst ∧ g.snd.fst = g_2.snd.snd.fst ∧ nvK acts g = nvK acts g) ∧ ∀ (g_2 : Int × List Bool × List Sx.Obj × List Sx.Obj), q_invNk ks g_2 → (decide (g_2.fst < n2i (llen ks)) = true → (0 ≤ g_2.fst ∧
    g_2.fst < ↑(llen ks)) ∧ g_2.fst.toNat < llen ks ∧ (0 ≤ g_2.fst ∧ g_2.fst < ↑(llen ks)) ∧ g_2.fst.toNat < llen ks ∧ (0 ≤ g_2.fst ∧ g_2.fst < ↑(llen g_2.snd.fst)) ∧ g_2.fst.toNat < llen g_2.snd.fst ∧ (0
    ≤ g_2.fst ∧ g_2.fst < ↑(llen g_2.snd.fst)) ∧ g_2.fst.toNat < llen g_2.snd.fst ∧ (0 ≤ g_2.fst ∧ g_2.fst < ↑(llen (nvT ks g_2))) ∧ g_2.fst.toNat < llen (nvT ks g_2) ∧ ((lget (nvT ks g_2) g_2.fst.toNat
    false && q_is g_2.snd.snd.snd (lget ks g_2.fst.toNat void)) = true → false = true) ∧ ((lget (nvT ks g_2) g_2.fst.toNat false && q_is g_2.snd.snd.snd (lget ks g_2.fst.toNat void)) = false → inRo
    IntKind.i64 (g_2.fst + 1) ∧ ∃ g', q_invNk ks g' ∧ q_muNk ks g' < q_muNk ks g_2 ∧ g.fst = g.fst ∧ g_2.fst + 1 = g'.fst ∧ l = l ∧ llen acts = llen acts ∧ nvF acts = nvF acts ∧ ks = ks ∧ false = false ∧
    g_2.snd.snd.snd = g'.snd.snd.snd ∧ nvT ks g_2 = g'.snd.fst ∧ g_2.snd.snd.fst = g'.snd.snd.fst ∧ nvK acts g = nvK acts g)) ∧ (decide (g_2.fst < n2i (llen ks)) = false → inRo IntKind.i64 (g.fst + 1) ∧ ∃
    g', q_invNv acts ks g' ∧ q_muNv acts g' < q_muNv acts g ∧ g.fst + 1 = g'.fst ∧ l = l ∧ llen acts = llen acts ∧ nvF acts = nvF acts ∧ ks = ks ∧ false = false ∧ g_2.snd.snd.snd = g'.snd.fst ∧ g_2.snd.fst
    = g'.snd.snd)))) ∧ (decide ((nvA acts g.fst).kind = 1) = false → (decide ((nvA acts g.fst).kind = 2) = true → true = true ∧ q_okL g.snd.fst ∧ true = true ∧ true = true ∧ ∀ (r0 : Loop), (∃ g_1, q_inv64
    g_1 ∧ q_size (nvD acts g) = q_size (nvD acts g) ∧ 0 = g_1 ∧ l = l ∧ llen acts = llen acts ∧ nvF acts = nvF acts ∧ ks = ks ∧ false = false ∧ g.snd.snd = g.snd.snd ∧ void = void ∧ g.snd.fst = g.snd.fst ∧
    nvD acts g = nvD acts g ∧ r0 = r0) ∧ ∀ (g_1 : Int), q_inv64 g_1 → (decide (g_1 < q_size (nvD acts g)) = true → (0 ≤ g_1 ∧ g_1 < ↑(llen (nvD acts g))) ∧ g_1.toNat < llen (nvD acts g) ∧ g_1.toNat < llen
    (nvD acts g) ∧ r0 = r0 ∧ r0 = r0 ∧ ((!decide ((lget (nvD acts g) g_1.toNat free).count < (q_get g.snd.fst g_1).count)) = true → inRo IntKind.i64 ((q_get g.snd.fst g_1).count + 1)) ∧ ((decide ((lget
    (nvD acts g) g_1.toNat free).count < (q_get g.snd.fst g_1).count) || decide ((q_get g.snd.fst g_1).count + 1 < (lget (nvD acts g) g_1.toNat free).count)) = true → r0 = r0 ∧ false = true) ∧ ((decide
    ((lget (nvD acts g) g_1.toNat free).count < (q_get g.snd.fst g_1).count) || decide ((q_get g.snd.fst g_1).count + 1 < (lget (nvD acts g) g_1.toNat free).count)) = false → r0 = r0 ∧ inRo IntKind.i64
    (g_1 + 1) ∧ ∃ g', q_inv64 g' ∧ (64 - g').toNat < (64 - g_1).toNat ∧ q_size (nvD acts g) = q_size (nvD acts g) ∧ g_1 + 1 = g' ∧ l = l ∧ llen acts = llen acts ∧ nvF acts = nvF acts ∧ ks = ks ∧ false =
    false ∧ g.snd.snd = g.snd.snd ∧ void = void ∧ g.snd.fst = g.snd.fst ∧ nvD acts g = nvD acts g ∧ r0 = r0)) ∧ (decide (g_1 < q_size (nvD acts g)) = false → (∃ g_2, q_invNk ks g_2 ∧ g.fst = g.fst ∧ 0 =
    g_2.fst ∧ l = l ∧ llen acts = llen acts ∧ nvF acts = nvF acts ∧ ks = ks ∧ false = false ∧ nvD acts g = g_2.snd.snd.snd ∧ g.snd.snd = g_2.snd.fst ∧ g.snd.fst = g_2.snd.snd.fst ∧ void = void) ∧ ∀ (g_2 :
    Int × List Bool × List Sx.Obj × List Sx.Obj), q_invNk ks g_2 → (decide (g_2.fst < n2i (llen ks)) = true → (0 ≤ g_2.fst ∧ g_2.fst < ↑(llen ks)) ∧ g_2.fst.toNat < llen ks ∧ (0 ≤ g_2.fst ∧ g_2.fst <
    ↑(llen ks)) ∧ g_2.fst.toNat < llen ks ∧ (0 ≤ g_2.fst ∧ g_2.fst < ↑(llen g_2.snd.fst)) ∧ g_2.fst.toNat < llen g_2.snd.fst ∧ (0 ≤ g_2.fst ∧ g_2.fst < ↑(llen g_2.snd.fst)) ∧ g_2.fst.toNat < llen
    g_2.snd.fst ∧ (0 ≤ g_2.fst ∧ g_2.fst < ↑(llen (nvT ks g_2))) ∧ g_2.fst.toNat < llen (nvT ks g_2) ∧ ((lget (nvT ks g_2) g_2.fst.toNat false && q_is g_2.snd.snd.snd (lget ks g_2.fst.toNat void)) = true →
    false = true) ∧ ((lget (nvT ks g_2) g_2.fst.toNat false && q_is g_2.snd.snd.snd (lget ks g_2.fst.toNat void)) = false → inRo IntKind.i64 (g_2.fst + 1) ∧ ∃ g', q_invNk ks g' ∧ q_muNk ks g' < q_muNk ks
    g_2 ∧ g.fst = g.fst ∧ g_2.fst + 1 = g'.fst ∧ l = l ∧ llen acts = llen acts ∧ nvF acts = nvF acts ∧ ks = ks ∧ false = false ∧ g_2.snd.snd.snd = g'.snd.snd.snd ∧ nvT ks g_2 = g'.snd.fst ∧ g_2.snd.snd.fst
    = g'.snd.snd.fst ∧ void = void)) ∧ (decide (g_2.fst < n2i (llen ks)) = false → inRo IntKind.i64 (g.fst + 1) ∧ ∃ g', q_invNv acts ks g' ∧ q_muNv acts g' < q_muNv acts g ∧ g.fst + 1 = g'.fst ∧ l = l ∧
    llen acts = llen acts ∧ nvF acts = nvF acts ∧ ks = ks ∧ false = false ∧ g_2.snd.snd.snd = g'.snd.fst ∧ g_2.snd.fst = g'.snd.snd))) ∧ (decide ((nvA acts g.fst).kind = 2) = false → (decide ((nvA acts
    g.fst).kind = 3) = true → true = true ∧ q_okL g.snd.fst ∧ (decide (q_bsE g.snd.fst (nvA acts g.fst).bank (nvA acts g.fst).num = 0) = true → ((!decide ((q_get g.snd.fst (nvQ acts g).oid).kind = 0) ||
    !keq (q_prep (nvS acts g) (nvQ acts g)) (nvQ acts g)) = true → false = true) ∧ ((!decide ((q_get g.snd.fst (nvQ acts g).oid).kind = 0) || !keq (q_prep (nvS acts g) (nvQ acts g)) (nvQ acts g)) = false →
    true = true ∧ true = true ∧ ∀ (r0 : Loop), (∃ g_1, q_inv64 g_1 ∧ q_size (nvS acts g) = q_size (nvS acts g) ∧ 0 = g_1 ∧ l = l ∧ llen acts = llen acts ∧ nvF acts = nvF acts ∧ ks = ks ∧ false = false ∧
    g.snd.snd = g.snd.snd ∧ nvQ acts g = nvQ acts g ∧ q_get g.snd.fst (nvQ acts g).oid = q_get g.snd.fst (nvQ acts g).oid ∧ g.snd.fst = g.snd.fst ∧ nvS acts g = nvS acts g ∧ r0 = r0) ∧ ∀ (g_1 : Int),
    q_inv64 g_1 → (decide (g_1 < q_size (nvS acts g)) = true → (0 ≤ g_1 ∧ g_1 < ↑(llen (nvS acts g))) ∧ g_1.toNat < llen (nvS acts g) ∧ g_1.toNat < llen (nvS acts g) ∧ r0 = r0 ∧ r0 = r0 ∧ ((!decide ((lget
    (nvS acts g) g_1.toNat free).count < (q_get g.snd.fst g_1).count)) = true → inRo IntKind.i64 ((q_get g.snd.fst g_1).count + 1)) ∧ ((decide ((lget (nvS acts g) g_1.toNat free).count < (q_get g.snd.fst
    g_1).count) || decide ((q_get g.snd.fst g_1).count + 1 < (lget (nvS acts g) g_1.toNat free).count)) = true → r0 = r0 ∧ false = true) ∧ ((decide ((lget (nvS acts g) g_1.toNat free).count < (q_get
    g.snd.fst g_1).count) || decide ((q_get g.snd.fst g_1).count + 1 < (lget (nvS acts g) g_1.toNat free).count)) = false → r0 = r0 ∧ inRo IntKind.i64 (g_1 + 1) ∧ ∃ g', q_inv64 g' ∧ (64 - g').toNat < (64 -
    g_1).toNat ∧ q_size (nvS acts g) = q_size (nvS acts g) ∧ g_1 + 1 = g' ∧ l = l ∧ llen acts = llen acts ∧ nvF acts = nvF acts ∧ ks = ks ∧ false = false ∧ g.snd.snd = g.snd.snd ∧ nvQ acts g = nvQ acts g ∧
    q_get g.snd.fst (nvQ acts g).oid = q_get g.snd.fst (nvQ acts g).oid ∧ g.snd.fst = g.snd.fst ∧ nvS acts g = nvS acts g ∧ r0 = r0)) ∧ (decide (g_1 < q_size (nvS acts g)) = false → (∃ g_2, q_invNk ks g_2
    ∧ g.fst = g.fst ∧ 0 = g_2.fst ∧ l = l ∧ llen acts = llen acts ∧ nvF acts = nvF acts ∧ ks = ks ∧ false = false ∧ nvS acts g = g_2.snd.snd.snd ∧ g.snd.snd = g_2.snd.fst ∧ g.snd.fst = g_2.snd.snd.fst ∧
    nvQ acts g = nvQ acts g ∧ q_get g.snd.fst (nvQ acts g).oid = q_get g.snd.fst (nvQ acts g).oid) ∧ ∀ (g_2 : Int × List Bool × List Sx.Obj × List Sx.Obj), q_invNk ks g_2 → (decide (g_2.fst < n2i (llen
    ks)) = true → (0 ≤ g_2.fst ∧ g_2.fst < ↑(llen ks)) ∧ g_2.fst.toNat < llen ks ∧ (0 ≤ g_2.fst ∧ g_2.fst < ↑(llen ks)) ∧ g_2.fst.toNat < llen ks ∧ (0 ≤ g_2.fst ∧ g_2.fst < ↑(llen g_2.snd.fst)) ∧
    g_2.fst.toNat < llen g_2.snd.fst ∧ (0 ≤ g_2.fst ∧ g_2.fst < ↑(llen g_2.snd.fst)) ∧ g_2.fst.toNat < llen g_2.snd.fst ∧ (0 ≤ g_2.fst ∧ g_2.fst < ↑(llen (nvT ks g_2))) ∧ g_2.fst.toNat < llen (nvT ks g_2)
    ∧ ((lget (nvT ks g_2) g_2.fst.toNat false && q_is g_2.snd.snd.snd (lget ks g_2.fst.toNat void)) = true → false = true) ∧ ((lget (nvT ks g_2) g_2.fst.toNat false && q_is g_2.snd.snd.snd (lget ks
    g_2.fst.toNat void)) = false → inRo IntKind.i64 (g_2.fst + 1) ∧ ∃ g', q_invNk ks g' ∧ q_muNk ks g' < q_muNk ks g_2 ∧ g.fst = g.fst ∧ g_2.fst + 1 = g'.fst ∧ l = l ∧ llen acts = llen acts ∧ nvF acts =
    nvF acts ∧ ks = ks ∧ false = false ∧ g_2.snd.snd.snd = g'.snd.snd.snd ∧ nvT ks g_2 = g'.snd.fst ∧ g_2.snd.snd.fst = g'.snd.snd.fst ∧ nvQ acts g = nvQ acts g ∧ q_get g.snd.fst (nvQ acts g).oid = q_get
    g.snd.fst (nvQ acts g).oid)) ∧ (decide (g_2.fst < n2i (llen ks)) = false → inRo IntKind.i64 (g.fst + 1) ∧ ∃ g', q_invNv acts ks g' ∧ q_muNv acts g' < q_muNv acts g ∧ g.fst + 1 = g'.fst ∧ l = l ∧ llen
    acts = llen acts ∧ nvF acts = nvF acts ∧ ks = ks ∧ false = false ∧ g_2.snd.snd.snd = g'.snd.fst ∧ g_2.snd.fst = g'.snd.snd)))) ∧ (decide (q_bsE g.snd.fst (nvA acts g.fst).bank (nvA acts g.fst).num = 0)
    = false → true = true ∧ true = true ∧ ∀ (r0 : Loop), (∃ g_1, q_inv64 g_1 ∧ q_size (nvS acts g) = q_size (nvS acts g) ∧ 0 = g_1 ∧ l = l ∧ llen acts = llen acts ∧ nvF acts = nvF acts ∧ ks = ks ∧ false =
    false ∧ g.snd.snd = g.snd.snd ∧ nvQ acts g = nvQ acts g ∧ g.snd.fst = g.snd.fst ∧ nvS acts g = nvS acts g ∧ r0 = r0) ∧ ∀ (g_1 : Int), q_inv64 g_1 → (decide (g_1 < q_size (nvS acts g)) = true → (0 ≤ g_1
    ∧ g_1 < ↑(llen (nvS acts g))) ∧ g_1.toNat < llen (nvS acts g) ∧ g_1.toNat < llen (nvS acts g) ∧ r0 = r0 ∧ r0 = r0 ∧ ((!decide ((lget (nvS acts g) g_1.toNat free).count < (q_get g.snd.fst g_1).count)) =
    true → inRo IntKind.i64 ((q_get g.snd.fst g_1).count + 1)) ∧ ((decide ((lget (nvS acts g) g_1.toNat free).count < (q_get g.snd.fst g_1).count) || decide ((q_get g.snd.fst g_1).count + 1 < (lget (nvS
    acts g) g_1.toNat free).count)) = true → r0 = r0 ∧ false = true) ∧ ((decide ((lget (nvS acts g) g_1.toNat free).count < (q_get g.snd.fst g_1).count) || decide ((q_get g.snd.fst g_1).count + 1 < (lget
    (nvS acts g) g_1.toNat free).count)) = false → r0 = r0 ∧ inRo IntKind.i64 (g_1 + 1) ∧ ∃ g', q_inv64 g' ∧ (64 - g').toNat < (64 - g_1).toNat ∧ q_size (nvS acts g) = q_size (nvS acts g) ∧ g_1 + 1 = g' ∧
    l = l ∧ llen acts = llen acts ∧ nvF acts = nvF acts ∧ ks = ks ∧ false = false ∧ g.snd.snd = g.snd.snd ∧ nvQ acts g = nvQ acts g ∧ g.snd.fst = g.snd.fst ∧ nvS acts g = nvS acts g ∧ r0 = r0)) ∧ (decide
    (g_1 < q_size (nvS acts g)) = false → (∃ g_2, q_invNk ks g_2 ∧ g.fst = g.fst ∧ 0 = g_2.fst ∧ l = l ∧ llen acts = llen acts ∧ nvF acts = nvF acts ∧ ks = ks ∧ false = false ∧ nvS acts g = g_2.snd.snd.snd
    ∧ g.snd.snd = g_2.snd.fst ∧ g.snd.fst = g_2.snd.snd.fst ∧ nvQ acts g = nvQ acts g) ∧ ∀ (g_2 : Int × List Bool × List Sx.Obj × List Sx.Obj), q_invNk ks g_2 → (decide (g_2.fst < n2i (llen ks)) = true →
    (0 ≤ g_2.fst ∧ g_2.fst < ↑(llen ks)) ∧ g_2.fst.toNat < llen ks ∧ (0 ≤ g_2.fst ∧ g_2.fst < ↑(llen ks)) ∧ g_2.fst.toNat < llen ks ∧ (0 ≤ g_2.fst ∧ g_2.fst < ↑(llen g_2.snd.fst)) ∧ g_2.fst.toNat < llen
    g_2.snd.fst ∧ (0 ≤ g_2.fst ∧ g_2.fst < ↑(llen g_2.snd.fst)) ∧ g_2.fst.toNat < llen g_2.snd.fst ∧ (0 ≤ g_2.fst ∧ g_2.fst < ↑(llen (nvT ks g_2))) ∧ g_2.fst.toNat < llen (nvT ks g_2) ∧ ((lget (nvT ks g_2)
    g_2.fst.toNat false && q_is g_2.snd.snd.snd (lget ks g_2.fst.toNat void)) = true → false = true) ∧ ((lget (nvT ks g_2) g_2.fst.toNat false && q_is g_2.snd.snd.snd (lget ks g_2.fst.toNat void)) = false
    → inRo IntKind.i64 (g_2.fst + 1) ∧ ∃ g', q_invNk ks g' ∧ q_muNk ks g' < q_muNk ks g_2 ∧ g.fst = g.fst ∧ g_2.fst + 1 = g'.fst ∧ l = l ∧ llen acts = llen acts ∧ nvF acts = nvF acts ∧ ks = ks ∧ false =
    false ∧ g_2.snd.snd.snd = g'.snd.snd.snd ∧ nvT ks g_2 = g'.snd.fst ∧ g_2.snd.snd.fst = g'.snd.snd.fst ∧ nvQ acts g = nvQ acts g)) ∧ (decide (g_2.fst < n2i (llen ks)) = false → inRo IntKind.i64 (g.fst +
    1) ∧ ∃ g', q_invNv acts ks g' ∧ q_muNv acts g' < q_muNv acts g ∧ g.fst + 1 = g'.fst ∧ l = l ∧ llen acts = llen acts ∧ nvF acts = nvF acts ∧ ks = ks ∧ false = false ∧ g_2.snd.snd.snd = g'.snd.fst ∧
    g_2.snd.fst = g'.snd.snd)))) ∧ (decide ((nvA acts g.fst).kind = 3) = false → (decide ((nvA acts g.fst).kind = 4) = true → true = true ∧ q_okL g.snd.fst ∧ true = true ∧ true = true ∧ ∀ (r0 : Loop), (∃
    g_1, q_inv64 g_1 ∧ q_size (nvR acts g) = q_size (nvR acts g) ∧ 0 = g_1 ∧ l = l ∧ llen acts = llen acts ∧ nvF acts = nvF acts ∧ ks = ks ∧ false = false ∧ g.snd.snd = g.snd.snd ∧ void = void ∧ g.snd.fst
    = g.snd.fst ∧ nvR acts g = nvR acts g ∧ r0 = r0) ∧ ∀ (g_1 : Int), q_inv64 g_1 → (decide (g_1 < q_size (nvR acts g)) = true → (0 ≤ g_1 ∧ g_1 < ↑(llen (nvR acts g))) ∧ g_1.toNat < llen (nvR acts g) ∧
    g_1.toNat < llen (nvR acts g) ∧ r0 = r0 ∧ r0 = r0 ∧ ((!decide ((lget (nvR acts g) g_1.toNat free).count < (q_get g.snd.fst g_1).count)) = true → inRo IntKind.i64 ((q_get g.snd.fst g_1).count + 1)) ∧
    ((decide ((lget (nvR acts g) g_1.toNat free).count < (q_get g.snd.fst g_1).count) || decide ((q_get g.snd.fst g_1).count + 1 < (lget (nvR acts g) g_1.toNat free).count)) = true → r0 = r0 ∧ false =
    true) ∧ ((decide ((lget (nvR acts g) g_1.toNat free).count < (q_get g.snd.fst g_1).count) || decide ((q_get g.snd.fst g_1).count + 1 < (lget (nvR acts g) g_1.toNat free).count)) = false → r0 = r0 ∧
    inRo IntKind.i64 (g_1 + 1) ∧ ∃ g', q_inv64 g' ∧ (64 - g').toNat < (64 - g_1).toNat ∧ q_size (nvR acts g) = q_size (nvR acts g) ∧ g_1 + 1 = g' ∧ l = l ∧ llen acts = llen acts ∧ nvF acts = nvF acts ∧ ks
    = ks ∧ false = false ∧ g.snd.snd = g.snd.snd ∧ void = void ∧ g.snd.fst = g.snd.fst ∧ nvR acts g = nvR acts g ∧ r0 = r0)) ∧ (decide (g_1 < q_size (nvR acts g)) = false → (∃ g_2, q_invNk ks g_2 ∧ g.fst =
    g.fst ∧ 0 = g_2.fst ∧ l = l ∧ llen acts = llen acts ∧ nvF acts = nvF acts ∧ ks = ks ∧ false = false ∧ nvR acts g = g_2.snd.snd.snd ∧ g.snd.snd = g_2.snd.fst ∧ g.snd.fst = g_2.snd.snd.fst ∧ void = void)
    ∧ ∀ (g_2 : Int × List Bool × List Sx.Obj × List Sx.Obj), q_invNk ks g_2 → (decide (g_2.fst < n2i (llen ks)) = true → (0 ≤ g_2.fst ∧ g_2.fst < ↑(llen ks)) ∧ g_2.fst.toNat < llen ks ∧ (0 ≤ g_2.fst ∧
    g_2.fst < ↑(llen ks)) ∧ g_2.fst.toNat < llen ks ∧ (0 ≤ g_2.fst ∧ g_2.fst < ↑(llen g_2.snd.fst)) ∧ g_2.fst.toNat < llen g_2.snd.fst ∧ (0 ≤ g_2.fst ∧ g_2.fst < ↑(llen g_2.snd.fst)) ∧ g_2.fst.toNat < llen
    g_2.snd.fst ∧ (0 ≤ g_2.fst ∧ g_2.fst < ↑(llen (nvT ks g_2))) ∧ g_2.fst.toNat < llen (nvT ks g_2) ∧ ((lget (nvT ks g_2) g_2.fst.toNat false && q_is g_2.snd.snd.snd (lget ks g_2.fst.toNat void)) = true →
    false = true) ∧ ((lget (nvT ks g_2) g_2.fst.toNat false && q_is g_2.snd.snd.snd (lget ks g_2.fst.toNat void)) = false → inRo IntKind.i64 (g_2.fst + 1) ∧ ∃ g', q_invNk ks g' ∧ q_muNk ks g' < q_muNk ks
    g_2 ∧ g.fst = g.fst ∧ g_2.fst + 1 = g'.fst ∧ l = l ∧ llen acts = llen acts ∧ nvF acts = nvF acts ∧ ks = ks ∧ false = false ∧ g_2.snd.snd.snd = g'.snd.snd.snd ∧ nvT ks g_2 = g'.snd.fst ∧ g_2.snd.snd.fst
    = g'.snd.snd.fst ∧ void = void)) ∧ (decide (g_2.fst < n2i (llen ks)) = false → inRo IntKind.i64 (g.fst + 1) ∧ ∃ g', q_invNv acts ks g' ∧ q_muNv acts g' < q_muNv acts g ∧ g.fst + 1 = g'.fst ∧ l = l ∧
    llen acts = llen acts ∧ nvF acts = nvF acts ∧ ks = ks ∧ false = false ∧ g_2.snd.snd.snd = g'.snd.fst ∧ g_2.snd.fst = g'.snd.snd))) ∧ (decide ((nvA acts g.fst).kind = 4) = false → true = true ∧ true =
    true ∧ ∀ (r0 : Loop), (∃ g_1, q_inv64 g_1 ∧ q_size g.snd.fst = q_size g.snd.fst ∧ 0 = g_1 ∧ l = l ∧ llen acts = llen acts ∧ nvF acts = nvF acts ∧ ks = ks ∧ false = false ∧ g.snd.snd = g.snd.snd ∧ void
    = void ∧ g.snd.fst = g.snd.fst ∧ g.snd.fst = g.snd.fst ∧ r0 = r0) ∧ ∀ (g_1 : Int), q_inv64 g_1 → (decide (g_1 < q_size g.snd.fst) = true → (0 ≤ g_1 ∧ g_1 < ↑(llen g.snd.fst)) ∧ g_1.toNat < llen
    g.snd.fst ∧ g_1.toNat < llen g.snd.fst ∧ r0 = r0 ∧ r0 = r0 ∧ ((!decide ((lget g.snd.fst g_1.toNat free).count < (q_get g.snd.fst g_1).count)) = true → inRo IntKind.i64 ((q_get g.snd.fst g_1).count +
    1)) ∧ ((decide ((lget g.snd.fst g_1.toNat free).count < (q_get g.snd.fst g_1).count) || decide ((q_get g.snd.fst g_1).count + 1 < (lget g.snd.fst g_1.toNat free).count)) = true → r0 = r0 ∧ false =
    true) ∧ ((decide ((lget g.snd.fst g_1.toNat free).count < (q_get g.snd.fst g_1).count) || decide ((q_get g.snd.fst g_1).count + 1 < (lget g.snd.fst g_1.toNat free).count)) = false → r0 = r0 ∧ inRo
    IntKind.i64 (g_1 + 1) ∧ ∃ g', q_inv64 g' ∧ (64 - g').toNat < (64 - g_1).toNat ∧ q_size g.snd.fst = q_size g.snd.fst ∧ g_1 + 1 = g' ∧ l = l ∧ llen acts = llen acts ∧ nvF acts = nvF acts ∧ ks = ks ∧
    false = false ∧ g.snd.snd = g.snd.snd ∧ void = void ∧ g.snd.fst = g.snd.fst ∧ g.snd.fst = g.snd.fst ∧ r0 = r0)) ∧ (decide (g_1 < q_size g.snd.fst) = false → (∃ g_2, q_invNk ks g_2 ∧ g.fst = g.fst ∧ 0 =
    g_2.fst ∧ l = l ∧ llen acts = llen acts ∧ nvF acts = nvF acts ∧ ks = ks ∧ false = false ∧ g.snd.fst = g_2.snd.snd.snd ∧ g.snd.snd = g_2.snd.fst ∧ g.snd.fst = g_2.snd.snd.fst ∧ void = void) ∧ ∀ (g_2 :
    Int × List Bool × List Sx.Obj × List Sx.Obj), q_invNk ks g_2 → (decide (g_2.fst < n2i (llen ks)) = true → (0 ≤ g_2.fst ∧ g_2.fst < ↑(llen ks)) ∧ g_2.fst.toNat < llen ks ∧ (0 ≤ g_2.fst ∧ g_2.fst <
    ↑(llen ks)) ∧ g_2.fst.toNat < llen ks ∧ (0 ≤ g_2.fst ∧ g_2.fst < ↑(llen g_2.snd.fst)) ∧ g_2.fst.toNat < llen g_2.snd.fst ∧ (0 ≤ g_2.fst ∧ g_2.fst < ↑(llen g_2.snd.fst)) ∧ g_2.fst.toNat < llen
    g_2.snd.fst ∧ (0 ≤ g_2.fst ∧ g_2.fst < ↑(llen (nvT ks g_2))) ∧ g_2.fst.toNat < llen (nvT ks g_2) ∧ ((lget (nvT ks g_2) g_2.fst.toNat false && q_is g_2.snd.snd.snd (lget ks g_2.fst.toNat void)) = true →
    false = true) ∧ ((lget (nvT ks g_2) g_2.fst.toNat false && q_is g_2.snd.snd.snd (lget ks g_2.fst.toNat void)) = false → inRo IntKind.i64 (g_2.fst + 1) ∧ ∃ g', q_invNk ks g' ∧ q_muNk ks g' < q_muNk ks
    g_2 ∧ g.fst = g.fst ∧ g_2.fst + 1 = g'.fst ∧ l = l ∧ llen acts = llen acts ∧ nvF acts = nvF acts ∧ ks = ks ∧ false = false ∧ g_2.snd.snd.snd = g'.snd.snd.snd ∧ nvT ks g_2 = g'.snd.fst ∧ g_2.snd.snd.fst
    = g'.snd.snd.fst ∧ void = void)) ∧ (decide (g_2.fst < n2i (llen ks)) = false → inRo IntKind.i64 (g.fst + 1) ∧ ∃ g', q_invNv acts ks g' ∧ q_muNv acts g' < q_muNv acts g ∧ g.fst + 1 = g'.fst ∧ l = l ∧
    llen acts = llen acts ∧ nvF acts = nvF acts ∧ ks = ks ∧ false = false ∧ g_2.snd.snd.snd = g'.snd.fst ∧ g_2.snd.fst = g'.snd.snd)))))))) ∧ (decide (g.fst < n2i (llen acts)) = false → true = true))) := by
  refine ⟨rfl, trivial, fun _ => rfl, fun hm => ⟨fun _ => rfl, fun hlen => ?_⟩⟩
  simp only [Bool.or_eq_false_iff, decide_eq_false_iff_not] at hlen
  obtain ⟨hl1, hl2⟩ := hlen
  have hl1 : acts.length ≤ 30 := by have : ¬ (30 < (acts.length : Int)) := hl1; omega
  have hl2 : ks.length ≤ 20 := by have : ¬ (20 < (ks.length : Int)) := hl2; omega
  have hr : ∀ y : Int, -1000 ≤ y → y ≤ 5000000000 → inRo IntKind.i64 y := fun y h1 h2 => by simp only [inRo, inR]; omega
  refine ⟨⟨rfl, by unfold n2i llen; omega, by unfold n2i llen; omega, by unfold n2i llen; omega⟩, ⟨(0, l, lrep (n2i (llen ks)).toNat false), ⟨by simp, by simp, (made_ok hm).1, by simp only; rw [lrep_len]; unfold n2i llen; omega, fun i hi hd => by simp only at hd; rw [lrep_no] at hd; simp at hd⟩, (by (repeat' apply And.intro) <;> rfl)⟩, fun g hg => ⟨fun hlt => ?_, fun _ => rfl⟩⟩
  · have hlt : g.1 < (acts.length : Int) := of_decide_eq_true hlt
    obtain ⟨g0, g1, i2, i3, i4⟩ := hg
    have hl := okL_len i2
    have hll : llen g.2.1 = g.2.1.length := rfl
    have hsn : q_snone g.2.1 = false := by unfold q_snone; rw [hll]; exact decide_eq_false (by omega)
    have hgn : g.1.toNat < llen acts := by show g.1.toNat < acts.length; omega
    refine ⟨rfl, (show g.2.1.length ≤ 1000 by omega), fun h => by rw [hsn] at h; exact absurd h (by decide), fun _ => ⟨⟨g0, hlt⟩, hgn, fun h1 => ?_, fun h1 => ⟨fun h2 => ?_, fun h2 => ⟨fun h3 => ?_, fun h3 => ⟨fun h4 => ?_, fun h4 => ?_⟩⟩⟩⟩⟩
    · refine ⟨rfl, i2, fun hE => ?_, fun hE => ⟨rfl, rfl, ?_⟩⟩
      · have hE := of_decide_eq_true hE
        obtain ⟨_, _, b1, b2, b3, _, b5, _⟩ := bmkE_in hE
        have hget : q_get g.2.1 (nvK acts g).oid = lget g.2.1 (nvK acts g).oid.toNat free := get_lget (by have := (bnk_ok (bmkE_in hE).1).2.1; show 0 ≤ (q_bmkK g.2.1 (nvA acts g.1).bank (nvA acts g.1).obj).oid; omega) b3
        have hp : q_prep (nvM acts g) (nvK acts g) = nvK acts g := prep_is (mk_is i2 hE)
        have b5 : q_isNew (lget g.2.1 (nvK acts g).oid.toNat free) = true := b5
        unfold q_isNew at b5
        simp only [Bool.and_eq_true, decide_eq_true_eq] at b5
        rw [hget, hp, keq_self, b5.1]
        refine ⟨fun h => by simp at h, fun _ => ⟨rfl, rfl, ?_⟩⟩
        have hS : stpL g.2.1 (nvM acts g) := stpL_bmk
        have hK : q_okL (nvM acts g) := bmkL_ok i2
        refine fun r0 => ⟨⟨0, ⟨by omega, by omega⟩, (by (repeat' apply And.intro) <;> rfl)⟩, fun j hj => ⟨fun hjl => ?_, fun hjl => ⟨⟨(0, g.2.2, g.2.1, nvM acts g), ⟨by simp, by simp, i3, i2, hK, hS, fun i hi hd => by rw [if_neg (by simp only; omega)]; exact i4 i hi hd⟩, (by (repeat' apply And.intro) <;> rfl)⟩, fun t ht => ⟨fun htl => ?_, fun htl => ?_⟩⟩⟩⟩
        · obtain ⟨j0, j1⟩ := hj
          have hlk := okL_len hK
          have hjl : j < ((nvM acts g).length : Int) := of_decide_eq_true hjl
          have hl := hS.1
          have hjn : j.toNat < (nvM acts g).length := by omega
          have hc := stpO_cnt (hS.2 j.toNat (by omega))
          have hb := obj_cnt (okL_get i2 j.toNat (by omega))
          have hget : q_get g.2.1 j = lget g.2.1 j.toNat free := get_lget j0 (by omega)
          rw [hget]
          refine ⟨⟨j0, hjl⟩, hjn, hjn, rfl, rfl, fun _ => hr _ (by omega) (by omega), fun hb => ?_, fun _ => ⟨rfl, hr _ (by omega) (by omega), j + 1, ⟨by omega, by omega⟩, by omega, (by (repeat' apply And.intro) <;> rfl)⟩⟩
          exfalso
          simp only [Bool.or_eq_true, decide_eq_true_eq] at hb
          omega
        · have htl : t.1 < (ks.length : Int) := of_decide_eq_true htl
          obtain ⟨s1, s2⟩ := nv_step ht htl
          obtain ⟨t0, t1, t2, _⟩ := ht
          have hn : t.1.toNat < llen ks := by show t.1.toNat < ks.length; omega
          have hd : t.1.toNat < llen t.2.1 := by show t.1.toNat < t.2.1.length; omega
          have hD : t.1 < (llen t.2.1 : Int) := by show t.1 < (t.2.1.length : Int); omega
          have hds : t.1.toNat < llen (nvT ks t) := by simp only [llen, nvT_len]; omega
          have hDs : t.1 < (llen (nvT ks t) : Int) := by simp only [llen, nvT_len]; omega
          refine ⟨⟨t0, htl⟩, hn, ⟨t0, htl⟩, hn, ⟨t0, hD⟩, hd, ⟨t0, hD⟩, hd, ⟨t0, hDs⟩, hds, fun hb => ?_, fun _ => ⟨hr _ (by omega) (by omega), _, s2, ?_, (by (repeat' apply And.intro) <;> rfl)⟩⟩
          · rw [s1] at hb; exact hb
          · unfold q_muNk; simp only [llen]; omega
        · obtain ⟨t0, t1, t2, t3, t4, t5, t6⟩ := ht
          have htl : ¬ t.1 < (ks.length : Int) := of_decide_eq_false htl
          refine ⟨hr _ (by omega) (by omega), (g.1 + 1, t.2.2.2, t.2.1), ⟨by simp only; omega, by simp only; omega, t4, t2, fun i hi hd => ?_⟩, ?_, (by (repeat' apply And.intro) <;> rfl)⟩
          · have := t6 i hi hd
            rwa [if_pos (by omega)] at this
          · unfold q_muNv; simp only; omega
      · have hS : stpL g.2.1 (nvM acts g) := stpL_bmk
        have hK : q_okL (nvM acts g) := bmkL_ok i2
        refine fun r0 => ⟨⟨0, ⟨by omega, by omega⟩, (by (repeat' apply And.intro) <;> rfl)⟩, fun j hj => ⟨fun hjl => ?_, fun hjl => ⟨⟨(0, g.2.2, g.2.1, nvM acts g), ⟨by simp, by simp, i3, i2, hK, hS, fun i hi hd => by rw [if_neg (by simp only; omega)]; exact i4 i hi hd⟩, (by (repeat' apply And.intro) <;> rfl)⟩, fun t ht => ⟨fun htl => ?_, fun htl => ?_⟩⟩⟩⟩
        · obtain ⟨j0, j1⟩ := hj
          have hlk := okL_len hK
          have hjl : j < ((nvM acts g).length : Int) := of_decide_eq_true hjl
          have hl := hS.1
          have hjn : j.toNat < (nvM acts g).length := by omega
          have hc := stpO_cnt (hS.2 j.toNat (by omega))
          have hb := obj_cnt (okL_get i2 j.toNat (by omega))
          have hget : q_get g.2.1 j = lget g.2.1 j.toNat free := get_lget j0 (by omega)
          rw [hget]
          refine ⟨⟨j0, hjl⟩, hjn, hjn, rfl, rfl, fun _ => hr _ (by omega) (by omega), fun hb => ?_, fun _ => ⟨rfl, hr _ (by omega) (by omega), j + 1, ⟨by omega, by omega⟩, by omega, (by (repeat' apply And.intro) <;> rfl)⟩⟩
          exfalso
          simp only [Bool.or_eq_true, decide_eq_true_eq] at hb
          omega
        · have htl : t.1 < (ks.length : Int) := of_decide_eq_true htl
          obtain ⟨s1, s2⟩ := nv_step ht htl
          obtain ⟨t0, t1, t2, _⟩ := ht
          have hn : t.1.toNat < llen ks := by show t.1.toNat < ks.length; omega
          have hd : t.1.toNat < llen t.2.1 := by show t.1.toNat < t.2.1.length; omega
          have hD : t.1 < (llen t.2.1 : Int) := by show t.1 < (t.2.1.length : Int); omega
          have hds : t.1.toNat < llen (nvT ks t) := by simp only [llen, nvT_len]; omega
          have hDs : t.1 < (llen (nvT ks t) : Int) := by simp only [llen, nvT_len]; omega
          refine ⟨⟨t0, htl⟩, hn, ⟨t0, htl⟩, hn, ⟨t0, hD⟩, hd, ⟨t0, hD⟩, hd, ⟨t0, hDs⟩, hds, fun hb => ?_, fun _ => ⟨hr _ (by omega) (by omega), _, s2, ?_, (by (repeat' apply And.intro) <;> rfl)⟩⟩
          · rw [s1] at hb; exact hb
          · unfold q_muNk; simp only [llen]; omega
        · obtain ⟨t0, t1, t2, t3, t4, t5, t6⟩ := ht
          have htl : ¬ t.1 < (ks.length : Int) := of_decide_eq_false htl
          refine ⟨hr _ (by omega) (by omega), (g.1 + 1, t.2.2.2, t.2.1), ⟨by simp only; omega, by simp only; omega, t4, t2, fun i hi hd => ?_⟩, ?_, (by (repeat' apply And.intro) <;> rfl)⟩
          · have := t6 i hi hd
            rwa [if_pos (by omega)] at this
          · unfold q_muNv; simp only; omega
    · refine ⟨rfl, i2, rfl, rfl, ?_⟩
      have hS : stpL g.2.1 (nvD acts g) := stpL_bds
      have hK : q_okL (nvD acts g) := bdsL_ok i2
      refine fun r0 => ⟨⟨0, ⟨by omega, by omega⟩, (by (repeat' apply And.intro) <;> rfl)⟩, fun j hj => ⟨fun hjl => ?_, fun hjl => ⟨⟨(0, g.2.2, g.2.1, nvD acts g), ⟨by simp, by simp, i3, i2, hK, hS, fun i hi hd => by rw [if_neg (by simp only; omega)]; exact i4 i hi hd⟩, (by (repeat' apply And.intro) <;> rfl)⟩, fun t ht => ⟨fun htl => ?_, fun htl => ?_⟩⟩⟩⟩
      · obtain ⟨j0, j1⟩ := hj
        have hlk := okL_len hK
        have hjl : j < ((nvD acts g).length : Int) := of_decide_eq_true hjl
        have hl := hS.1
        have hjn : j.toNat < (nvD acts g).length := by omega
        have hc := stpO_cnt (hS.2 j.toNat (by omega))
        have hb := obj_cnt (okL_get i2 j.toNat (by omega))
        have hget : q_get g.2.1 j = lget g.2.1 j.toNat free := get_lget j0 (by omega)
        rw [hget]
        refine ⟨⟨j0, hjl⟩, hjn, hjn, rfl, rfl, fun _ => hr _ (by omega) (by omega), fun hb => ?_, fun _ => ⟨rfl, hr _ (by omega) (by omega), j + 1, ⟨by omega, by omega⟩, by omega, (by (repeat' apply And.intro) <;> rfl)⟩⟩
        exfalso
        simp only [Bool.or_eq_true, decide_eq_true_eq] at hb
        omega
      · have htl : t.1 < (ks.length : Int) := of_decide_eq_true htl
        obtain ⟨s1, s2⟩ := nv_step ht htl
        obtain ⟨t0, t1, t2, _⟩ := ht
        have hn : t.1.toNat < llen ks := by show t.1.toNat < ks.length; omega
        have hd : t.1.toNat < llen t.2.1 := by show t.1.toNat < t.2.1.length; omega
        have hD : t.1 < (llen t.2.1 : Int) := by show t.1 < (t.2.1.length : Int); omega
        have hds : t.1.toNat < llen (nvT ks t) := by simp only [llen, nvT_len]; omega
        have hDs : t.1 < (llen (nvT ks t) : Int) := by simp only [llen, nvT_len]; omega
        refine ⟨⟨t0, htl⟩, hn, ⟨t0, htl⟩, hn, ⟨t0, hD⟩, hd, ⟨t0, hD⟩, hd, ⟨t0, hDs⟩, hds, fun hb => ?_, fun _ => ⟨hr _ (by omega) (by omega), _, s2, ?_, (by (repeat' apply And.intro) <;> rfl)⟩⟩
        · rw [s1] at hb; exact hb
        · unfold q_muNk; simp only [llen]; omega
      · obtain ⟨t0, t1, t2, t3, t4, t5, t6⟩ := ht
        have htl : ¬ t.1 < (ks.length : Int) := of_decide_eq_false htl
        refine ⟨hr _ (by omega) (by omega), (g.1 + 1, t.2.2.2, t.2.1), ⟨by simp only; omega, by simp only; omega, t4, t2, fun i hi hd => ?_⟩, ?_, (by (repeat' apply And.intro) <;> rfl)⟩
        · have := t6 i hi hd
          rwa [if_pos (by omega)] at this
        · unfold q_muNv; simp only; omega
    · refine ⟨rfl, i2, fun hE => ?_, fun hE => ⟨rfl, rfl, ?_⟩⟩
      · have hE := of_decide_eq_true hE
        have he := (bsE_in hE).1
        obtain ⟨f1, f2, f3, f4, f5, f6, f7, f8, f9, f10, f11, f12, f13⟩ := bs_facts i2 he hE
        have hbk := bnk_ok he
        have hget : q_get g.2.1 (nvQ acts g).oid = lget g.2.1 (nvQ acts g).oid.toNat free := get_lget (by show 0 ≤ (q_bsK g.2.1 (nvA acts g.1).bank (nvA acts g.1).num).oid; omega) (by show (q_bsK g.2.1 (nvA acts g.1).bank (nvA acts g.1).num).oid < _; omega)
        have hp : q_prep (nvS acts g) (nvQ acts g) = nvQ acts g := prep_is (asked_ok (bnk_ok f6).1).1
        have f13 : q_isNew (lget g.2.1 (nvQ acts g).oid.toNat free) = true := f13
        unfold q_isNew at f13
        simp only [Bool.and_eq_true, decide_eq_true_eq] at f13
        rw [hget, hp, keq_self, f13.1]
        refine ⟨fun h => by simp at h, fun _ => ⟨rfl, rfl, ?_⟩⟩
        have hS : stpL g.2.1 (nvS acts g) := stpL_bs
        have hK : q_okL (nvS acts g) := bsL_ok i2
        refine fun r0 => ⟨⟨0, ⟨by omega, by omega⟩, (by (repeat' apply And.intro) <;> rfl)⟩, fun j hj => ⟨fun hjl => ?_, fun hjl => ⟨⟨(0, g.2.2, g.2.1, nvS acts g), ⟨by simp, by simp, i3, i2, hK, hS, fun i hi hd => by rw [if_neg (by simp only; omega)]; exact i4 i hi hd⟩, (by (repeat' apply And.intro) <;> rfl)⟩, fun t ht => ⟨fun htl => ?_, fun htl => ?_⟩⟩⟩⟩
        · obtain ⟨j0, j1⟩ := hj
          have hlk := okL_len hK
          have hjl : j < ((nvS acts g).length : Int) := of_decide_eq_true hjl
          have hl := hS.1
          have hjn : j.toNat < (nvS acts g).length := by omega
          have hc := stpO_cnt (hS.2 j.toNat (by omega))
          have hb := obj_cnt (okL_get i2 j.toNat (by omega))
          have hget : q_get g.2.1 j = lget g.2.1 j.toNat free := get_lget j0 (by omega)
          rw [hget]
          refine ⟨⟨j0, hjl⟩, hjn, hjn, rfl, rfl, fun _ => hr _ (by omega) (by omega), fun hb => ?_, fun _ => ⟨rfl, hr _ (by omega) (by omega), j + 1, ⟨by omega, by omega⟩, by omega, (by (repeat' apply And.intro) <;> rfl)⟩⟩
          exfalso
          simp only [Bool.or_eq_true, decide_eq_true_eq] at hb
          omega
        · have htl : t.1 < (ks.length : Int) := of_decide_eq_true htl
          obtain ⟨s1, s2⟩ := nv_step ht htl
          obtain ⟨t0, t1, t2, _⟩ := ht
          have hn : t.1.toNat < llen ks := by show t.1.toNat < ks.length; omega
          have hd : t.1.toNat < llen t.2.1 := by show t.1.toNat < t.2.1.length; omega
          have hD : t.1 < (llen t.2.1 : Int) := by show t.1 < (t.2.1.length : Int); omega
          have hds : t.1.toNat < llen (nvT ks t) := by simp only [llen, nvT_len]; omega
          have hDs : t.1 < (llen (nvT ks t) : Int) := by simp only [llen, nvT_len]; omega
          refine ⟨⟨t0, htl⟩, hn, ⟨t0, htl⟩, hn, ⟨t0, hD⟩, hd, ⟨t0, hD⟩, hd, ⟨t0, hDs⟩, hds, fun hb => ?_, fun _ => ⟨hr _ (by omega) (by omega), _, s2, ?_, (by (repeat' apply And.intro) <;> rfl)⟩⟩
          · rw [s1] at hb; exact hb
          · unfold q_muNk; simp only [llen]; omega
        · obtain ⟨t0, t1, t2, t3, t4, t5, t6⟩ := ht
          have htl : ¬ t.1 < (ks.length : Int) := of_decide_eq_false htl
          refine ⟨hr _ (by omega) (by omega), (g.1 + 1, t.2.2.2, t.2.1), ⟨by simp only; omega, by simp only; omega, t4, t2, fun i hi hd => ?_⟩, ?_, (by (repeat' apply And.intro) <;> rfl)⟩
          · have := t6 i hi hd
            rwa [if_pos (by omega)] at this
          · unfold q_muNv; simp only; omega
      · have hS : stpL g.2.1 (nvS acts g) := stpL_bs
        have hK : q_okL (nvS acts g) := bsL_ok i2
        refine fun r0 => ⟨⟨0, ⟨by omega, by omega⟩, (by (repeat' apply And.intro) <;> rfl)⟩, fun j hj => ⟨fun hjl => ?_, fun hjl => ⟨⟨(0, g.2.2, g.2.1, nvS acts g), ⟨by simp, by simp, i3, i2, hK, hS, fun i hi hd => by rw [if_neg (by simp only; omega)]; exact i4 i hi hd⟩, (by (repeat' apply And.intro) <;> rfl)⟩, fun t ht => ⟨fun htl => ?_, fun htl => ?_⟩⟩⟩⟩
        · obtain ⟨j0, j1⟩ := hj
          have hlk := okL_len hK
          have hjl : j < ((nvS acts g).length : Int) := of_decide_eq_true hjl
          have hl := hS.1
          have hjn : j.toNat < (nvS acts g).length := by omega
          have hc := stpO_cnt (hS.2 j.toNat (by omega))
          have hb := obj_cnt (okL_get i2 j.toNat (by omega))
          have hget : q_get g.2.1 j = lget g.2.1 j.toNat free := get_lget j0 (by omega)
          rw [hget]
          refine ⟨⟨j0, hjl⟩, hjn, hjn, rfl, rfl, fun _ => hr _ (by omega) (by omega), fun hb => ?_, fun _ => ⟨rfl, hr _ (by omega) (by omega), j + 1, ⟨by omega, by omega⟩, by omega, (by (repeat' apply And.intro) <;> rfl)⟩⟩
          exfalso
          simp only [Bool.or_eq_true, decide_eq_true_eq] at hb
          omega
        · have htl : t.1 < (ks.length : Int) := of_decide_eq_true htl
          obtain ⟨s1, s2⟩ := nv_step ht htl
          obtain ⟨t0, t1, t2, _⟩ := ht
          have hn : t.1.toNat < llen ks := by show t.1.toNat < ks.length; omega
          have hd : t.1.toNat < llen t.2.1 := by show t.1.toNat < t.2.1.length; omega
          have hD : t.1 < (llen t.2.1 : Int) := by show t.1 < (t.2.1.length : Int); omega
          have hds : t.1.toNat < llen (nvT ks t) := by simp only [llen, nvT_len]; omega
          have hDs : t.1 < (llen (nvT ks t) : Int) := by simp only [llen, nvT_len]; omega
          refine ⟨⟨t0, htl⟩, hn, ⟨t0, htl⟩, hn, ⟨t0, hD⟩, hd, ⟨t0, hD⟩, hd, ⟨t0, hDs⟩, hds, fun hb => ?_, fun _ => ⟨hr _ (by omega) (by omega), _, s2, ?_, (by (repeat' apply And.intro) <;> rfl)⟩⟩
          · rw [s1] at hb; exact hb
          · unfold q_muNk; simp only [llen]; omega
        · obtain ⟨t0, t1, t2, t3, t4, t5, t6⟩ := ht
          have htl : ¬ t.1 < (ks.length : Int) := of_decide_eq_false htl
          refine ⟨hr _ (by omega) (by omega), (g.1 + 1, t.2.2.2, t.2.1), ⟨by simp only; omega, by simp only; omega, t4, t2, fun i hi hd => ?_⟩, ?_, (by (repeat' apply And.intro) <;> rfl)⟩
          · have := t6 i hi hd
            rwa [if_pos (by omega)] at this
          · unfold q_muNv; simp only; omega
    · refine ⟨rfl, i2, rfl, rfl, ?_⟩
      have hS : stpL g.2.1 (nvR acts g) := stpL_brz
      have hK : q_okL (nvR acts g) := brzL_ok2 i2
      refine fun r0 => ⟨⟨0, ⟨by omega, by omega⟩, (by (repeat' apply And.intro) <;> rfl)⟩, fun j hj => ⟨fun hjl => ?_, fun hjl => ⟨⟨(0, g.2.2, g.2.1, nvR acts g), ⟨by simp, by simp, i3, i2, hK, hS, fun i hi hd => by rw [if_neg (by simp only; omega)]; exact i4 i hi hd⟩, (by (repeat' apply And.intro) <;> rfl)⟩, fun t ht => ⟨fun htl => ?_, fun htl => ?_⟩⟩⟩⟩
      · obtain ⟨j0, j1⟩ := hj
        have hlk := okL_len hK
        have hjl : j < ((nvR acts g).length : Int) := of_decide_eq_true hjl
        have hl := hS.1
        have hjn : j.toNat < (nvR acts g).length := by omega
        have hc := stpO_cnt (hS.2 j.toNat (by omega))
        have hb := obj_cnt (okL_get i2 j.toNat (by omega))
        have hget : q_get g.2.1 j = lget g.2.1 j.toNat free := get_lget j0 (by omega)
        rw [hget]
        refine ⟨⟨j0, hjl⟩, hjn, hjn, rfl, rfl, fun _ => hr _ (by omega) (by omega), fun hb => ?_, fun _ => ⟨rfl, hr _ (by omega) (by omega), j + 1, ⟨by omega, by omega⟩, by omega, (by (repeat' apply And.intro) <;> rfl)⟩⟩
        exfalso
        simp only [Bool.or_eq_true, decide_eq_true_eq] at hb
        omega
      · have htl : t.1 < (ks.length : Int) := of_decide_eq_true htl
        obtain ⟨s1, s2⟩ := nv_step ht htl
        obtain ⟨t0, t1, t2, _⟩ := ht
        have hn : t.1.toNat < llen ks := by show t.1.toNat < ks.length; omega
        have hd : t.1.toNat < llen t.2.1 := by show t.1.toNat < t.2.1.length; omega
        have hD : t.1 < (llen t.2.1 : Int) := by show t.1 < (t.2.1.length : Int); omega
        have hds : t.1.toNat < llen (nvT ks t) := by simp only [llen, nvT_len]; omega
        have hDs : t.1 < (llen (nvT ks t) : Int) := by simp only [llen, nvT_len]; omega
        refine ⟨⟨t0, htl⟩, hn, ⟨t0, htl⟩, hn, ⟨t0, hD⟩, hd, ⟨t0, hD⟩, hd, ⟨t0, hDs⟩, hds, fun hb => ?_, fun _ => ⟨hr _ (by omega) (by omega), _, s2, ?_, (by (repeat' apply And.intro) <;> rfl)⟩⟩
        · rw [s1] at hb; exact hb
        · unfold q_muNk; simp only [llen]; omega
      · obtain ⟨t0, t1, t2, t3, t4, t5, t6⟩ := ht
        have htl : ¬ t.1 < (ks.length : Int) := of_decide_eq_false htl
        refine ⟨hr _ (by omega) (by omega), (g.1 + 1, t.2.2.2, t.2.1), ⟨by simp only; omega, by simp only; omega, t4, t2, fun i hi hd => ?_⟩, ?_, (by (repeat' apply And.intro) <;> rfl)⟩
        · have := t6 i hi hd
          rwa [if_pos (by omega)] at this
        · unfold q_muNv; simp only; omega
    · refine ⟨rfl, rfl, ?_⟩
      have hS : stpL g.2.1 (g.2.1) := stpL_refl _
      have hK : q_okL (g.2.1) := i2
      refine fun r0 => ⟨⟨0, ⟨by omega, by omega⟩, (by (repeat' apply And.intro) <;> rfl)⟩, fun j hj => ⟨fun hjl => ?_, fun hjl => ⟨⟨(0, g.2.2, g.2.1, g.2.1), ⟨by simp, by simp, i3, i2, hK, hS, fun i hi hd => by rw [if_neg (by simp only; omega)]; exact i4 i hi hd⟩, (by (repeat' apply And.intro) <;> rfl)⟩, fun t ht => ⟨fun htl => ?_, fun htl => ?_⟩⟩⟩⟩
      · obtain ⟨j0, j1⟩ := hj
        have hlk := okL_len hK
        have hjl : j < ((g.2.1).length : Int) := of_decide_eq_true hjl
        have hl := hS.1
        have hjn : j.toNat < (g.2.1).length := by omega
        have hc := stpO_cnt (hS.2 j.toNat (by omega))
        have hb := obj_cnt (okL_get i2 j.toNat (by omega))
        have hget : q_get g.2.1 j = lget g.2.1 j.toNat free := get_lget j0 (by omega)
        rw [hget]
        refine ⟨⟨j0, hjl⟩, hjn, hjn, rfl, rfl, fun _ => hr _ (by omega) (by omega), fun hb => ?_, fun _ => ⟨rfl, hr _ (by omega) (by omega), j + 1, ⟨by omega, by omega⟩, by omega, (by (repeat' apply And.intro) <;> rfl)⟩⟩
        exfalso
        simp only [Bool.or_eq_true, decide_eq_true_eq] at hb
        omega
      · have htl : t.1 < (ks.length : Int) := of_decide_eq_true htl
        obtain ⟨s1, s2⟩ := nv_step ht htl
        obtain ⟨t0, t1, t2, _⟩ := ht
        have hn : t.1.toNat < llen ks := by show t.1.toNat < ks.length; omega
        have hd : t.1.toNat < llen t.2.1 := by show t.1.toNat < t.2.1.length; omega
        have hD : t.1 < (llen t.2.1 : Int) := by show t.1 < (t.2.1.length : Int); omega
        have hds : t.1.toNat < llen (nvT ks t) := by simp only [llen, nvT_len]; omega
        have hDs : t.1 < (llen (nvT ks t) : Int) := by simp only [llen, nvT_len]; omega
        refine ⟨⟨t0, htl⟩, hn, ⟨t0, htl⟩, hn, ⟨t0, hD⟩, hd, ⟨t0, hD⟩, hd, ⟨t0, hDs⟩, hds, fun hb => ?_, fun _ => ⟨hr _ (by omega) (by omega), _, s2, ?_, (by (repeat' apply And.intro) <;> rfl)⟩⟩
        · rw [s1] at hb; exact hb
        · unfold q_muNk; simp only [llen]; omega
      · obtain ⟨t0, t1, t2, t3, t4, t5, t6⟩ := ht
        have htl : ¬ t.1 < (ks.length : Int) := of_decide_eq_false htl
        refine ⟨hr _ (by omega) (by omega), (g.1 + 1, t.2.2.2, t.2.1), ⟨by simp only; omega, by simp only; omega, t4, t2, fun i hi hd => ?_⟩, ?_, (by (repeat' apply And.intro) <;> rfl)⟩
        · have := t6 i hi hd
          rwa [if_pos (by omega)] at this
        · unfold q_muNv; simp only; omega
theorem cl_bnev (l : List Sx.Obj) (acts : List Acb) (ks : List Key)  : CallTo Try.prog 7 [.sa 0, .sa 1, .sa 2] [.ro (.arr none 163 (.ob l)), .ro (.arr none 15 (acbs acts)), .ro (.arr none 6 (.key ks))] (isV (.bo true)) (fun _ _ => False) :=
  vch_call (inl := (fun f => f == 18)) (ann := (annL [(7, 6, lpTD [1, 2, 6, 7, 8] (fun (g : Int × List Sx.Obj × List Bool) => [(9, .it .i64 g.1)]) (fun g => [(4, .store tS eS g.2.1), (5, .arr (some 4) 1 (.bo g.2.2))]) (q_invNv acts ks) (q_muNv acts)), (27000 + 52, 1, lpT [0, 1, 5] (fun (g : Int) => [(6, .it .i64 g)]) (fun _ => [(10, .gone)]) q_inv64 (fun g => i2n (isub 64 g))), (7, 32, lpT [1, 2, 6, 7, 8, 9, 10] (fun (g : Int × List Bool × List Sx.Obj × List Sx.Obj) => [(20, .it .i64 g.1)]) (fun g => [(4, .store tS eS g.2.2.2), (5, .arr (some 4) 1 (.bo g.2.1)), (7, .store tS eS g.2.2.1), (10, .gone)]) (q_invNk ks) (q_muNk ks))])) (oks_cons ct_known (oks_cons ct_size (oks_cons ct_get (oks_cons ct_named (oks_cons ct_prep oks_nil))))) (hoks_cons hc_made (hoks_cons hc_bmake (hoks_cons hc_bdes (hoks_cons hc_bsplit (hoks_cons hc_braze (hoks_cons hc_copy hoks_nil)))))) (vc_bnev l acts ks) (by kernel_rfl)
end Go.Proofs.Ytfalhknkaebfoaa
