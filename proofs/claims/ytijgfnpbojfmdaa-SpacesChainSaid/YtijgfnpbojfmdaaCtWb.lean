/- Walks through spaces: the program's and the document's. No condition. The statements vc_.. are printed by a program of the claimant's own. -/
import Derived.Test.YtijgfnpbojfmdaaCtWa
import Derived.Test.YtijgfnpbojfmdaaCtVw
namespace Go.Proofs.Ytijgfnpbojfmdaa
open Go.Sx
set_option maxRecDepth 100000
set_option linter.unusedVariables false
set_option linter.unusedSimpArgs false
theorem vc_steps  :
  ∀ (nid : Nat), some (V.mp nid) = some (V.mp nid) ∧ some [Res.mp IntKind.i64 [3, 2] [V.fn 79 [], V.fn 80 []]] = some [Res.mp IntKind.i64 [3, 2] [V.fn 79 [], V.fn 80 []]] := by
  exact fun nid => ⟨rfl, rfl⟩
theorem ct_steps : CtOK Try.prog 53 (mkNew spX spN) := mkNew_ok (π := [0]) (by decide) (fun _ => rfl) (vch_call (inl := noInl) (ann := noAnn) oks_nil hoks_nil vc_steps (by kernel_rfl))
theorem vc_walk0 (k : Key) (a : Int) (ha : inR .i64 a) :
  true = true ∧ (decide (q_size [] = 0) = true → void = q_fP (q_wR [] k a) ∧ 0 = q_fA (q_wR [] k a) ∧ void = q_fK (q_wR [] k a) ∧ 0 = q_fD (q_wR [] k a) ∧ 0 = q_uF (q_wR [] k a) ∧ void = q_uK (q_wR [] k
    a) ∧ 0 = q_uA (q_wR [] k a) a ∧ 1 = q_wE [] k a) ∧ (decide (q_size [] = 0) = false → ((!decide (q_chk k = 0) || q_named k && decide (q_size [] ≤ q_oid k)) = true → void = q_fP (q_wR [] k a) ∧ 0 = q_fA
    (q_wR [] k a) ∧ void = q_fK (q_wR [] k a) ∧ 0 = q_fD (q_wR [] k a) ∧ 0 = q_uF (q_wR [] k a) ∧ void = q_uK (q_wR [] k a) ∧ 0 = q_uA (q_wR [] k a) a ∧ 2 = q_wE [] k a) ∧ ((!decide (q_chk k = 0) ||
    q_named k && decide (q_size [] ≤ q_oid k)) = false → (decide (a < 0) = true → void = q_fP (q_wR [] k a) ∧ 0 = q_fA (q_wR [] k a) ∧ void = q_fK (q_wR [] k a) ∧ 0 = q_fD (q_wR [] k a) ∧ 0 = q_uF (q_wR []
    k a) ∧ void = q_uK (q_wR [] k a) ∧ 0 = q_uA (q_wR [] k a) a ∧ 4 = q_wE [] k a) ∧ (decide (a < 0) = false → true = true ∧ (∃ g, q_wI [] k a 0 g ∧ k = k ∧ void = void ∧ void = void ∧ void = void ∧ k = k
    ∧ Value.pointer none = Value.pointer none ∧ k = g.pos ∧ a = g.adr ∧ 0 = g.rts ∧ void = g.kpr ∧ 0 = g.dep ∧ 0 = g.hi ∧ false = false) ∧ ∀ (g : Wk), q_wI [] k a 0 g → true = true ∧ ((!(decide ((q_prep []
    g.pos).kind = 3) || decide ((q_prep [] g.pos).kind = 2))) = true → ((!decide (1 = 0)) = true → void = q_fP (q_wR [] k a) ∧ 0 = q_fA (q_wR [] k a) ∧ void = q_fK (q_wR [] k a) ∧ 0 = q_fD (q_wR [] k a) ∧
    1 = q_uF (q_wR [] k a) ∧ g.kpr = q_uK (q_wR [] k a) ∧ a = q_uA (q_wR [] k a) a ∧ 0 = q_wE [] k a) ∧ ((!decide (1 = 0)) = false → q_prep [] g.pos = q_fP (q_wR [] k a) ∧ g.adr = q_fA (q_wR [] k a) ∧
    g.kpr = q_fK (q_wR [] k a) ∧ g.dep = q_fD (q_wR [] k a) ∧ 0 = q_uF (q_wR [] k a) ∧ void = q_uK (q_wR [] k a) ∧ 0 = q_uA (q_wR [] k a) a ∧ 0 = q_wE [] k a)) ∧ ((!(decide ((q_prep [] g.pos).kind = 3) ||
    decide ((q_prep [] g.pos).kind = 2))) = false → (decide ((q_prep [] g.pos).kind = 3) = true → true = true ∧ true = true ∧ ((!decide (g.adr < 64)) = true → ((!decide (2 = 0)) = true → void = q_fP (q_wR
    [] k a) ∧ 0 = q_fA (q_wR [] k a) ∧ void = q_fK (q_wR [] k a) ∧ 0 = q_fD (q_wR [] k a) ∧ 2 = q_uF (q_wR [] k a) ∧ g.kpr = q_uK (q_wR [] k a) ∧ a = q_uA (q_wR [] k a) a ∧ 0 = q_wE [] k a) ∧ ((!decide (2
    = 0)) = false → q_prep [] g.pos = q_fP (q_wR [] k a) ∧ g.adr = q_fA (q_wR [] k a) ∧ g.kpr = q_fK (q_wR [] k a) ∧ g.dep = q_fD (q_wR [] k a) ∧ 0 = q_uF (q_wR [] k a) ∧ void = q_uK (q_wR [] k a) ∧ 0 =
    q_uA (q_wR [] k a) a ∧ 0 = q_wE [] k a)) ∧ ((!decide (g.adr < 64)) = false → ((!decide (bitsI BinOp.and IntKind.i64 g.rts 3 = 0)) = true → Key.mk (q_prep [] g.pos).kind (q_prep [] g.pos).oid (q_prep []
    g.pos).count (q_prep [] g.pos).call (bitsI BinOp.or IntKind.i64 (q_prep [] g.pos).rights 1) (q_prep [] g.pos).value = q_fP (q_wR [] k a) ∧ g.adr = q_fA (q_wR [] k a) ∧ g.kpr = q_fK (q_wR [] k a) ∧
    g.dep = q_fD (q_wR [] k a) ∧ 0 = q_uF (q_wR [] k a) ∧ void = q_uK (q_wR [] k a) ∧ 0 = q_uA (q_wR [] k a) a ∧ 0 = q_wE [] k a) ∧ ((!decide (bitsI BinOp.and IntKind.i64 g.rts 3 = 0)) = false → q_prep []
    g.pos = q_fP (q_wR [] k a) ∧ g.adr = q_fA (q_wR [] k a) ∧ g.kpr = q_fK (q_wR [] k a) ∧ g.dep = q_fD (q_wR [] k a) ∧ 0 = q_uF (q_wR [] k a) ∧ void = q_uK (q_wR [] k a) ∧ 0 = q_uA (q_wR [] k a) a ∧ 0 =
    q_wE [] k a))) ∧ (decide ((q_prep [] g.pos).kind = 3) = false → (decide ((q_prep [] g.pos).kind = 2) = true → true = true ∧ true = true ∧ ((!decide (g.dep < 8)) = true → ((!decide (3 = 0)) = true →
    void = q_fP (q_wR [] k a) ∧ 0 = q_fA (q_wR [] k a) ∧ void = q_fK (q_wR [] k a) ∧ 0 = q_fD (q_wR [] k a) ∧ 3 = q_uF (q_wR [] k a) ∧ g.kpr = q_uK (q_wR [] k a) ∧ a = q_uA (q_wR [] k a) a ∧ 0 = q_wE [] k
    a) ∧ ((!decide (3 = 0)) = false → q_prep [] g.pos = q_fP (q_wR [] k a) ∧ g.adr = q_fA (q_wR [] k a) ∧ g.kpr = q_fK (q_wR [] k a) ∧ g.dep = q_fD (q_wR [] k a) ∧ 0 = q_uF (q_wR [] k a) ∧ void = q_uK
    (q_wR [] k a) ∧ 0 = q_uA (q_wR [] k a) a ∧ 0 = q_wE [] k a)) ∧ ((!decide (g.dep < 8)) = false → true = true ∧ true = true ∧ ((!(decide ((q_nget [] (Key.mk 2 (q_prep [] g.pos).oid (q_prep []
    g.pos).count void.call void.rights void.value) 15).kind = 1) && decide (1 ≤ (q_nget [] (Key.mk 2 (q_prep [] g.pos).oid (q_prep [] g.pos).count void.call void.rights void.value) 15).value) && decide
    ((q_nget [] (Key.mk 2 (q_prep [] g.pos).oid (q_prep [] g.pos).count void.call void.rights void.value) 15).value ≤ 8) && (decide (g.dep = 0) || decide ((q_nget [] (Key.mk 2 (q_prep [] g.pos).oid (q_prep
    [] g.pos).count void.call void.rights void.value) 15).value < g.hi)))) = true → ((!decide (4 = 0)) = true → void = q_fP (q_wR [] k a) ∧ 0 = q_fA (q_wR [] k a) ∧ void = q_fK (q_wR [] k a) ∧ 0 = q_fD
    (q_wR [] k a) ∧ 4 = q_uF (q_wR [] k a) ∧ g.kpr = q_uK (q_wR [] k a) ∧ a = q_uA (q_wR [] k a) a ∧ 0 = q_wE [] k a) ∧ ((!decide (4 = 0)) = false → q_prep [] g.pos = q_fP (q_wR [] k a) ∧ g.adr = q_fA
    (q_wR [] k a) ∧ g.kpr = q_fK (q_wR [] k a) ∧ g.dep = q_fD (q_wR [] k a) ∧ 0 = q_uF (q_wR [] k a) ∧ void = q_uK (q_wR [] k a) ∧ 0 = q_uA (q_wR [] k a) a ∧ 0 = q_wE [] k a)) ∧ ((!(decide ((q_nget []
    (Key.mk 2 (q_prep [] g.pos).oid (q_prep [] g.pos).count void.call void.rights void.value) 15).kind = 1) && decide (1 ≤ (q_nget [] (Key.mk 2 (q_prep [] g.pos).oid (q_prep [] g.pos).count void.call
    void.rights void.value) 15).value) && decide ((q_nget [] (Key.mk 2 (q_prep [] g.pos).oid (q_prep [] g.pos).count void.call void.rights void.value) 15).value ≤ 8) && (decide (g.dep = 0) || decide
    ((q_nget [] (Key.mk 2 (q_prep [] g.pos).oid (q_prep [] g.pos).count void.call void.rights void.value) 15).value < g.hi)))) = false → true = true ∧ ((decide ((q_nget [] (Key.mk 2 (q_prep [] g.pos).oid
    (q_prep [] g.pos).count void.call void.rights void.value) 14).kind = 6) && decide (bitsI BinOp.and IntKind.i64 (bitsI BinOp.or IntKind.i64 g.rts (q_prep [] g.pos).rights) 4 = 0)) = true → q_eachQ
    (q_nget [] (Key.mk 2 (q_prep [] g.pos).oid (q_prep [] g.pos).count void.call void.rights void.value) 15).value ∧ (pNe (q_each (q_nget [] (Key.mk 2 (q_prep [] g.pos).oid (q_prep [] g.pos).count
    void.call void.rights void.value) 15).value) ∧ inRo IntKind.i64 (g.adr.tdiv (q_each (q_nget [] (Key.mk 2 (q_prep [] g.pos).oid (q_prep [] g.pos).count void.call void.rights void.value) 15).value))) ∧
    true = true ∧ ((!decide (g.adr.tdiv (q_each (q_nget [] (Key.mk 2 (q_prep [] g.pos).oid (q_prep [] g.pos).count void.call void.rights void.value) 15).value) < 14)) = true → ((!decide (2 = 0)) = true →
    void = q_fP (q_wR [] k a) ∧ 0 = q_fA (q_wR [] k a) ∧ void = q_fK (q_wR [] k a) ∧ 0 = q_fD (q_wR [] k a) ∧ 2 = q_uF (q_wR [] k a) ∧ q_nget [] (Key.mk 2 (q_prep [] g.pos).oid (q_prep [] g.pos).count
    void.call void.rights void.value) 14 = q_uK (q_wR [] k a) ∧ a = q_uA (q_wR [] k a) a ∧ 0 = q_wE [] k a) ∧ ((!decide (2 = 0)) = false → q_prep [] g.pos = q_fP (q_wR [] k a) ∧ g.adr = q_fA (q_wR [] k a)
    ∧ q_nget [] (Key.mk 2 (q_prep [] g.pos).oid (q_prep [] g.pos).count void.call void.rights void.value) 14 = q_fK (q_wR [] k a) ∧ g.dep = q_fD (q_wR [] k a) ∧ 0 = q_uF (q_wR [] k a) ∧ void = q_uK (q_wR
    [] k a) ∧ 0 = q_uA (q_wR [] k a) a ∧ 0 = q_wE [] k a)) ∧ ((!decide (g.adr.tdiv (q_each (q_nget [] (Key.mk 2 (q_prep [] g.pos).oid (q_prep [] g.pos).count void.call void.rights void.value) 15).value) <
    14)) = false → inRo IntKind.i64 (g.dep + 1) ∧ (pNe (q_each (q_nget [] (Key.mk 2 (q_prep [] g.pos).oid (q_prep [] g.pos).count void.call void.rights void.value) 15).value) ∧ inRo IntKind.i64 (g.adr.tmod
    (q_each (q_nget [] (Key.mk 2 (q_prep [] g.pos).oid (q_prep [] g.pos).count void.call void.rights void.value) 15).value))) ∧ ∃ g', q_wI [] k a 0 g' ∧ q_wM g' < q_wM g ∧ k = k ∧ void = void ∧ void = void
    ∧ void = void ∧ k = k ∧ Value.pointer none = Value.pointer none ∧ q_nget [] (q_prep [] g.pos) (g.adr.tdiv (q_each (q_nget [] (Key.mk 2 (q_prep [] g.pos).oid (q_prep [] g.pos).count void.call
    void.rights void.value) 15).value)) = g'.pos ∧ g.adr.tmod (q_each (q_nget [] (Key.mk 2 (q_prep [] g.pos).oid (q_prep [] g.pos).count void.call void.rights void.value) 15).value) = g'.adr ∧ bitsI
    BinOp.or IntKind.i64 g.rts (q_prep [] g.pos).rights = g'.rts ∧ q_nget [] (Key.mk 2 (q_prep [] g.pos).oid (q_prep [] g.pos).count void.call void.rights void.value) 14 = g'.kpr ∧ g.dep + 1 = g'.dep ∧
    (q_nget [] (Key.mk 2 (q_prep [] g.pos).oid (q_prep [] g.pos).count void.call void.rights void.value) 15).value = g'.hi ∧ false = false)) ∧ ((decide ((q_nget [] (Key.mk 2 (q_prep [] g.pos).oid (q_prep
    [] g.pos).count void.call void.rights void.value) 14).kind = 6) && decide (bitsI BinOp.and IntKind.i64 (bitsI BinOp.or IntKind.i64 g.rts (q_prep [] g.pos).rights) 4 = 0)) = false → q_eachQ (q_nget []
    (Key.mk 2 (q_prep [] g.pos).oid (q_prep [] g.pos).count void.call void.rights void.value) 15).value ∧ (pNe (q_each (q_nget [] (Key.mk 2 (q_prep [] g.pos).oid (q_prep [] g.pos).count void.call
    void.rights void.value) 15).value) ∧ inRo IntKind.i64 (g.adr.tdiv (q_each (q_nget [] (Key.mk 2 (q_prep [] g.pos).oid (q_prep [] g.pos).count void.call void.rights void.value) 15).value))) ∧ true = true
    ∧ ((!decide (g.adr.tdiv (q_each (q_nget [] (Key.mk 2 (q_prep [] g.pos).oid (q_prep [] g.pos).count void.call void.rights void.value) 15).value) < 14)) = true → ((!decide (2 = 0)) = true → void = q_fP
    (q_wR [] k a) ∧ 0 = q_fA (q_wR [] k a) ∧ void = q_fK (q_wR [] k a) ∧ 0 = q_fD (q_wR [] k a) ∧ 2 = q_uF (q_wR [] k a) ∧ g.kpr = q_uK (q_wR [] k a) ∧ a = q_uA (q_wR [] k a) a ∧ 0 = q_wE [] k a) ∧
    ((!decide (2 = 0)) = false → q_prep [] g.pos = q_fP (q_wR [] k a) ∧ g.adr = q_fA (q_wR [] k a) ∧ g.kpr = q_fK (q_wR [] k a) ∧ g.dep = q_fD (q_wR [] k a) ∧ 0 = q_uF (q_wR [] k a) ∧ void = q_uK (q_wR []
    k a) ∧ 0 = q_uA (q_wR [] k a) a ∧ 0 = q_wE [] k a)) ∧ ((!decide (g.adr.tdiv (q_each (q_nget [] (Key.mk 2 (q_prep [] g.pos).oid (q_prep [] g.pos).count void.call void.rights void.value) 15).value) <
    14)) = false → inRo IntKind.i64 (g.dep + 1) ∧ (pNe (q_each (q_nget [] (Key.mk 2 (q_prep [] g.pos).oid (q_prep [] g.pos).count void.call void.rights void.value) 15).value) ∧ inRo IntKind.i64 (g.adr.tmod
    (q_each (q_nget [] (Key.mk 2 (q_prep [] g.pos).oid (q_prep [] g.pos).count void.call void.rights void.value) 15).value))) ∧ ∃ g', q_wI [] k a 0 g' ∧ q_wM g' < q_wM g ∧ k = k ∧ void = void ∧ void = void
    ∧ void = void ∧ k = k ∧ Value.pointer none = Value.pointer none ∧ q_nget [] (q_prep [] g.pos) (g.adr.tdiv (q_each (q_nget [] (Key.mk 2 (q_prep [] g.pos).oid (q_prep [] g.pos).count void.call
    void.rights void.value) 15).value)) = g'.pos ∧ g.adr.tmod (q_each (q_nget [] (Key.mk 2 (q_prep [] g.pos).oid (q_prep [] g.pos).count void.call void.rights void.value) 15).value) = g'.adr ∧ bitsI
    BinOp.or IntKind.i64 g.rts (q_prep [] g.pos).rights = g'.rts ∧ g.kpr = g'.kpr ∧ g.dep + 1 = g'.dep ∧ (q_nget [] (Key.mk 2 (q_prep [] g.pos).oid (q_prep [] g.pos).count void.call void.rights void.value)
    15).value = g'.hi ∧ false = false))))) ∧ (decide ((q_prep [] g.pos).kind = 2) = false → False)))))) := by
  refine ⟨rfl, fun h => w_bad (wE1 h) (by omega), fun h => absurd h (by decide)⟩
theorem cl_walk0 (k : Key) (a : Int) (ha : inR .i64 a) : CallTo Try.prog 14 [nilp, .key k, .it .i64 a] [] (isV (walkV [] k a)) (fun _ _ => False) :=
  vcd_call (inl := (fun f => f == 29 || f == 30 || f == 54 || f == 79 || f == 80 || f == 89)) (ann := (annL [(30, 2, lpP [0, 2] (fun _ => []) 0 (fun g => .blk tW (wkV (nilp) g)) (q_wI [] k a 0) q_wM)])) (oks_cons ct_steps (oks_cons ct_size (oks_cons ct_kchk (oks_cons ct_knames (oks_cons ct_prep (oks_cons ct_each (oks_cons ct_nget oks_nil))))))) hoks_nil (dk_one dc_walk) (vc_walk0 k a ha) (by kernel_rfl)
theorem vc_walk (L : List Sx.Obj) (k : Key) (a : Int) (ha : inR .i64 a) :
  true = true ∧ (decide (q_size L = 0) = true → void = q_fP (q_wR L k a) ∧ 0 = q_fA (q_wR L k a) ∧ void = q_fK (q_wR L k a) ∧ 0 = q_fD (q_wR L k a) ∧ 0 = q_uF (q_wR L k a) ∧ void = q_uK (q_wR L k a) ∧ 0
    = q_uA (q_wR L k a) a ∧ 1 = q_wE L k a) ∧ (decide (q_size L = 0) = false → ((!decide (q_chk k = 0) || q_named k && decide (q_size L ≤ q_oid k)) = true → void = q_fP (q_wR L k a) ∧ 0 = q_fA (q_wR L k a)
    ∧ void = q_fK (q_wR L k a) ∧ 0 = q_fD (q_wR L k a) ∧ 0 = q_uF (q_wR L k a) ∧ void = q_uK (q_wR L k a) ∧ 0 = q_uA (q_wR L k a) a ∧ 2 = q_wE L k a) ∧ ((!decide (q_chk k = 0) || q_named k && decide
    (q_size L ≤ q_oid k)) = false → (decide (a < 0) = true → void = q_fP (q_wR L k a) ∧ 0 = q_fA (q_wR L k a) ∧ void = q_fK (q_wR L k a) ∧ 0 = q_fD (q_wR L k a) ∧ 0 = q_uF (q_wR L k a) ∧ void = q_uK (q_wR
    L k a) ∧ 0 = q_uA (q_wR L k a) a ∧ 4 = q_wE L k a) ∧ (decide (a < 0) = false → true = true ∧ (∃ g, q_wI L k a 0 g ∧ L = L ∧ k = k ∧ void = void ∧ void = void ∧ void = void ∧ k = k ∧ k = g.pos ∧ a =
    g.adr ∧ 0 = g.rts ∧ void = g.kpr ∧ 0 = g.dep ∧ 0 = g.hi ∧ false = false) ∧ ∀ (g : Wk), q_wI L k a 0 g → true = true ∧ ((!(decide ((q_prep L g.pos).kind = 3) || decide ((q_prep L g.pos).kind = 2))) =
    true → ((!decide (1 = 0)) = true → void = q_fP (q_wR L k a) ∧ 0 = q_fA (q_wR L k a) ∧ void = q_fK (q_wR L k a) ∧ 0 = q_fD (q_wR L k a) ∧ 1 = q_uF (q_wR L k a) ∧ g.kpr = q_uK (q_wR L k a) ∧ a = q_uA
    (q_wR L k a) a ∧ 0 = q_wE L k a) ∧ ((!decide (1 = 0)) = false → q_prep L g.pos = q_fP (q_wR L k a) ∧ g.adr = q_fA (q_wR L k a) ∧ g.kpr = q_fK (q_wR L k a) ∧ g.dep = q_fD (q_wR L k a) ∧ 0 = q_uF (q_wR L
    k a) ∧ void = q_uK (q_wR L k a) ∧ 0 = q_uA (q_wR L k a) a ∧ 0 = q_wE L k a)) ∧ ((!(decide ((q_prep L g.pos).kind = 3) || decide ((q_prep L g.pos).kind = 2))) = false → (decide ((q_prep L g.pos).kind =
    3) = true → true = true ∧ true = true ∧ ((!decide (g.adr < 64)) = true → ((!decide (2 = 0)) = true → void = q_fP (q_wR L k a) ∧ 0 = q_fA (q_wR L k a) ∧ void = q_fK (q_wR L k a) ∧ 0 = q_fD (q_wR L k a)
    ∧ 2 = q_uF (q_wR L k a) ∧ g.kpr = q_uK (q_wR L k a) ∧ a = q_uA (q_wR L k a) a ∧ 0 = q_wE L k a) ∧ ((!decide (2 = 0)) = false → q_prep L g.pos = q_fP (q_wR L k a) ∧ g.adr = q_fA (q_wR L k a) ∧ g.kpr =
    q_fK (q_wR L k a) ∧ g.dep = q_fD (q_wR L k a) ∧ 0 = q_uF (q_wR L k a) ∧ void = q_uK (q_wR L k a) ∧ 0 = q_uA (q_wR L k a) a ∧ 0 = q_wE L k a)) ∧ ((!decide (g.adr < 64)) = false → ((!decide (bitsI
    BinOp.and IntKind.i64 g.rts 3 = 0)) = true → Key.mk (q_prep L g.pos).kind (q_prep L g.pos).oid (q_prep L g.pos).count (q_prep L g.pos).call (bitsI BinOp.or IntKind.i64 (q_prep L g.pos).rights 1)
    (q_prep L g.pos).value = q_fP (q_wR L k a) ∧ g.adr = q_fA (q_wR L k a) ∧ g.kpr = q_fK (q_wR L k a) ∧ g.dep = q_fD (q_wR L k a) ∧ 0 = q_uF (q_wR L k a) ∧ void = q_uK (q_wR L k a) ∧ 0 = q_uA (q_wR L k a)
    a ∧ 0 = q_wE L k a) ∧ ((!decide (bitsI BinOp.and IntKind.i64 g.rts 3 = 0)) = false → q_prep L g.pos = q_fP (q_wR L k a) ∧ g.adr = q_fA (q_wR L k a) ∧ g.kpr = q_fK (q_wR L k a) ∧ g.dep = q_fD (q_wR L k
    a) ∧ 0 = q_uF (q_wR L k a) ∧ void = q_uK (q_wR L k a) ∧ 0 = q_uA (q_wR L k a) a ∧ 0 = q_wE L k a))) ∧ (decide ((q_prep L g.pos).kind = 3) = false → (decide ((q_prep L g.pos).kind = 2) = true → true =
    true ∧ true = true ∧ ((!decide (g.dep < 8)) = true → ((!decide (3 = 0)) = true → void = q_fP (q_wR L k a) ∧ 0 = q_fA (q_wR L k a) ∧ void = q_fK (q_wR L k a) ∧ 0 = q_fD (q_wR L k a) ∧ 3 = q_uF (q_wR L k
    a) ∧ g.kpr = q_uK (q_wR L k a) ∧ a = q_uA (q_wR L k a) a ∧ 0 = q_wE L k a) ∧ ((!decide (3 = 0)) = false → q_prep L g.pos = q_fP (q_wR L k a) ∧ g.adr = q_fA (q_wR L k a) ∧ g.kpr = q_fK (q_wR L k a) ∧
    g.dep = q_fD (q_wR L k a) ∧ 0 = q_uF (q_wR L k a) ∧ void = q_uK (q_wR L k a) ∧ 0 = q_uA (q_wR L k a) a ∧ 0 = q_wE L k a)) ∧ ((!decide (g.dep < 8)) = false → true = true ∧ true = true ∧ ((!(decide
    ((q_nget L (Key.mk 2 (q_prep L g.pos).oid (q_prep L g.pos).count void.call void.rights void.value) 15).kind = 1) && decide (1 ≤ (q_nget L (Key.mk 2 (q_prep L g.pos).oid (q_prep L g.pos).count void.call
    void.rights void.value) 15).value) && decide ((q_nget L (Key.mk 2 (q_prep L g.pos).oid (q_prep L g.pos).count void.call void.rights void.value) 15).value ≤ 8) && (decide (g.dep = 0) || decide ((q_nget
    L (Key.mk 2 (q_prep L g.pos).oid (q_prep L g.pos).count void.call void.rights void.value) 15).value < g.hi)))) = true → ((!decide (4 = 0)) = true → void = q_fP (q_wR L k a) ∧ 0 = q_fA (q_wR L k a) ∧
    void = q_fK (q_wR L k a) ∧ 0 = q_fD (q_wR L k a) ∧ 4 = q_uF (q_wR L k a) ∧ g.kpr = q_uK (q_wR L k a) ∧ a = q_uA (q_wR L k a) a ∧ 0 = q_wE L k a) ∧ ((!decide (4 = 0)) = false → q_prep L g.pos = q_fP
    (q_wR L k a) ∧ g.adr = q_fA (q_wR L k a) ∧ g.kpr = q_fK (q_wR L k a) ∧ g.dep = q_fD (q_wR L k a) ∧ 0 = q_uF (q_wR L k a) ∧ void = q_uK (q_wR L k a) ∧ 0 = q_uA (q_wR L k a) a ∧ 0 = q_wE L k a)) ∧
    ((!(decide ((q_nget L (Key.mk 2 (q_prep L g.pos).oid (q_prep L g.pos).count void.call void.rights void.value) 15).kind = 1) && decide (1 ≤ (q_nget L (Key.mk 2 (q_prep L g.pos).oid (q_prep L
    g.pos).count void.call void.rights void.value) 15).value) && decide ((q_nget L (Key.mk 2 (q_prep L g.pos).oid (q_prep L g.pos).count void.call void.rights void.value) 15).value ≤ 8) && (decide (g.dep =
    0) || decide ((q_nget L (Key.mk 2 (q_prep L g.pos).oid (q_prep L g.pos).count void.call void.rights void.value) 15).value < g.hi)))) = false → true = true ∧ ((decide ((q_nget L (Key.mk 2 (q_prep L
    g.pos).oid (q_prep L g.pos).count void.call void.rights void.value) 14).kind = 6) && decide (bitsI BinOp.and IntKind.i64 (bitsI BinOp.or IntKind.i64 g.rts (q_prep L g.pos).rights) 4 = 0)) = true →
    q_eachQ (q_nget L (Key.mk 2 (q_prep L g.pos).oid (q_prep L g.pos).count void.call void.rights void.value) 15).value ∧ (pNe (q_each (q_nget L (Key.mk 2 (q_prep L g.pos).oid (q_prep L g.pos).count
    void.call void.rights void.value) 15).value) ∧ inRo IntKind.i64 (g.adr.tdiv (q_each (q_nget L (Key.mk 2 (q_prep L g.pos).oid (q_prep L g.pos).count void.call void.rights void.value) 15).value))) ∧ true
    = true ∧ ((!decide (g.adr.tdiv (q_each (q_nget L (Key.mk 2 (q_prep L g.pos).oid (q_prep L g.pos).count void.call void.rights void.value) 15).value) < 14)) = true → ((!decide (2 = 0)) = true → void =
    q_fP (q_wR L k a) ∧ 0 = q_fA (q_wR L k a) ∧ void = q_fK (q_wR L k a) ∧ 0 = q_fD (q_wR L k a) ∧ 2 = q_uF (q_wR L k a) ∧ q_nget L (Key.mk 2 (q_prep L g.pos).oid (q_prep L g.pos).count void.call
    void.rights void.value) 14 = q_uK (q_wR L k a) ∧ a = q_uA (q_wR L k a) a ∧ 0 = q_wE L k a) ∧ ((!decide (2 = 0)) = false → q_prep L g.pos = q_fP (q_wR L k a) ∧ g.adr = q_fA (q_wR L k a) ∧ q_nget L
    (Key.mk 2 (q_prep L g.pos).oid (q_prep L g.pos).count void.call void.rights void.value) 14 = q_fK (q_wR L k a) ∧ g.dep = q_fD (q_wR L k a) ∧ 0 = q_uF (q_wR L k a) ∧ void = q_uK (q_wR L k a) ∧ 0 = q_uA
    (q_wR L k a) a ∧ 0 = q_wE L k a)) ∧ ((!decide (g.adr.tdiv (q_each (q_nget L (Key.mk 2 (q_prep L g.pos).oid (q_prep L g.pos).count void.call void.rights void.value) 15).value) < 14)) = false → inRo
    IntKind.i64 (g.dep + 1) ∧ (pNe (q_each (q_nget L (Key.mk 2 (q_prep L g.pos).oid (q_prep L g.pos).count void.call void.rights void.value) 15).value) ∧ inRo IntKind.i64 (g.adr.tmod (q_each (q_nget L
    (Key.mk 2 (q_prep L g.pos).oid (q_prep L g.pos).count void.call void.rights void.value) 15).value))) ∧ ∃ g', q_wI L k a 0 g' ∧ q_wM g' < q_wM g ∧ L = L ∧ k = k ∧ void = void ∧ void = void ∧ void = void
    ∧ k = k ∧ q_nget L (q_prep L g.pos) (g.adr.tdiv (q_each (q_nget L (Key.mk 2 (q_prep L g.pos).oid (q_prep L g.pos).count void.call void.rights void.value) 15).value)) = g'.pos ∧ g.adr.tmod (q_each
    (q_nget L (Key.mk 2 (q_prep L g.pos).oid (q_prep L g.pos).count void.call void.rights void.value) 15).value) = g'.adr ∧ bitsI BinOp.or IntKind.i64 g.rts (q_prep L g.pos).rights = g'.rts ∧ q_nget L
    (Key.mk 2 (q_prep L g.pos).oid (q_prep L g.pos).count void.call void.rights void.value) 14 = g'.kpr ∧ g.dep + 1 = g'.dep ∧ (q_nget L (Key.mk 2 (q_prep L g.pos).oid (q_prep L g.pos).count void.call
    void.rights void.value) 15).value = g'.hi ∧ false = false)) ∧ ((decide ((q_nget L (Key.mk 2 (q_prep L g.pos).oid (q_prep L g.pos).count void.call void.rights void.value) 14).kind = 6) && decide (bitsI
    BinOp.and IntKind.i64 (bitsI BinOp.or IntKind.i64 g.rts (q_prep L g.pos).rights) 4 = 0)) = false → q_eachQ (q_nget L (Key.mk 2 (q_prep L g.pos).oid (q_prep L g.pos).count void.call void.rights
    void.value) 15).value ∧ (pNe (q_each (q_nget L (Key.mk 2 (q_prep L g.pos).oid (q_prep L g.pos).count void.call void.rights void.value) 15).value) ∧ inRo IntKind.i64 (g.adr.tdiv (q_each (q_nget L
    (Key.mk 2 (q_prep L g.pos).oid (q_prep L g.pos).count void.call void.rights void.value) 15).value))) ∧ true = true ∧ ((!decide (g.adr.tdiv (q_each (q_nget L (Key.mk 2 (q_prep L g.pos).oid (q_prep L
    g.pos).count void.call void.rights void.value) 15).value) < 14)) = true → ((!decide (2 = 0)) = true → void = q_fP (q_wR L k a) ∧ 0 = q_fA (q_wR L k a) ∧ void = q_fK (q_wR L k a) ∧ 0 = q_fD (q_wR L k a)
    ∧ 2 = q_uF (q_wR L k a) ∧ g.kpr = q_uK (q_wR L k a) ∧ a = q_uA (q_wR L k a) a ∧ 0 = q_wE L k a) ∧ ((!decide (2 = 0)) = false → q_prep L g.pos = q_fP (q_wR L k a) ∧ g.adr = q_fA (q_wR L k a) ∧ g.kpr =
    q_fK (q_wR L k a) ∧ g.dep = q_fD (q_wR L k a) ∧ 0 = q_uF (q_wR L k a) ∧ void = q_uK (q_wR L k a) ∧ 0 = q_uA (q_wR L k a) a ∧ 0 = q_wE L k a)) ∧ ((!decide (g.adr.tdiv (q_each (q_nget L (Key.mk 2 (q_prep
    L g.pos).oid (q_prep L g.pos).count void.call void.rights void.value) 15).value) < 14)) = false → inRo IntKind.i64 (g.dep + 1) ∧ (pNe (q_each (q_nget L (Key.mk 2 (q_prep L g.pos).oid (q_prep L
    g.pos).count void.call void.rights void.value) 15).value) ∧ inRo IntKind.i64 (g.adr.tmod (q_each (q_nget L (Key.mk 2 (q_prep L g.pos).oid (q_prep L g.pos).count void.call void.rights void.value)
    15).value))) ∧ ∃ g', q_wI L k a 0 g' ∧ q_wM g' < q_wM g ∧ L = L ∧ k = k ∧ void = void ∧ void = void ∧ void = void ∧ k = k ∧ q_nget L (q_prep L g.pos) (g.adr.tdiv (q_each (q_nget L (Key.mk 2 (q_prep L
    g.pos).oid (q_prep L g.pos).count void.call void.rights void.value) 15).value)) = g'.pos ∧ g.adr.tmod (q_each (q_nget L (Key.mk 2 (q_prep L g.pos).oid (q_prep L g.pos).count void.call void.rights
    void.value) 15).value) = g'.adr ∧ bitsI BinOp.or IntKind.i64 g.rts (q_prep L g.pos).rights = g'.rts ∧ g.kpr = g'.kpr ∧ g.dep + 1 = g'.dep ∧ (q_nget L (Key.mk 2 (q_prep L g.pos).oid (q_prep L
    g.pos).count void.call void.rights void.value) 15).value = g'.hi ∧ false = false))))) ∧ (decide ((q_prep L g.pos).kind = 2) = false → False)))))) := by
  refine ⟨rfl, fun h => w_bad (wE1 h) (by omega), fun h => ⟨fun h2 => ?_, fun h2 => ⟨fun h3 => ?_, fun h3 => ⟨rfl, ?_, fun g hI => ⟨rfl, ?_⟩⟩⟩⟩⟩
  · rw [may_q, Bool.not_eq_true'] at h2
    exact w_bad (by rw [wE0 h, h2]; rfl) (by omega)
  · rw [may_q, Bool.not_eq_false'] at h2
    exact w_bad (by rw [wE0 h, h2, if_pos rfl, if_pos (of_decide_eq_true h3)]) (by omega)
  · refine ⟨q_w0 k a 0, wI_0 (of_decide_eq_false h3) 0, ?_⟩
    repeat' apply And.intro
    all_goals rfl
  rw [may_q, Bool.not_eq_false'] at h2
  have hE : q_wE L k a = 0 := by rw [wE0 h, h2, if_pos rfl, if_neg (of_decide_eq_false h3)]
  clear h h2 h3
  obtain ⟨⟨a1, a2⟩, ⟨r1, r2⟩, ⟨d1, d2⟩, e1, e2, e3⟩ := id hI
  refine ⟨fun v => ⟨fun _ => ?_, fun h => absurd h (by decide)⟩, fun v => ⟨fun v3 => ⟨rfl, rfl, fun b => ⟨fun _ => ?_, fun h => absurd h (by decide)⟩, fun b => ⟨fun ro => ?_, fun ro => ?_⟩⟩, fun v3 => ⟨fun v2 => ?_, fun v2 => ?_⟩⟩⟩
  · simp only [Bool.not_eq_true', Bool.or_eq_false_iff, decide_eq_false_iff_not] at v
    exact w_flt hI hE (go_void d1 d2 v.1 v.2) (by omega)
  · have v3 := of_decide_eq_true v3
    exact w_flt hI hE (go_rng d1 d2 v3 (by simpa using b)) (by omega)
  · have v3 := of_decide_eq_true v3
    have hb : g.adr < 64 := by simpa using b
    have hp := keyOk_rights (keyOk_prep L g.pos)
    have hm : q_most (q_prep L g.pos).kind = 1 := by rw [v3]; rfl
    rw [and3 r1 r2] at ro
    have ro : g.rts.tmod 4 ≠ 0 := by simpa using ro
    refine w_fnd hI hE ((go_page d1 d2 v3 hb).trans ?_)
    rw [or_with1 hp.1 (by omega)]
    unfold q_only
    rw [if_neg ro]
    rfl
  · have v3 := of_decide_eq_true v3
    have hb : g.adr < 64 := by simpa using b
    rw [and3 r1 r2] at ro
    have ro : g.rts.tmod 4 = 0 := by simpa using ro
    refine w_fnd hI hE ((go_page d1 d2 v3 hb).trans ?_)
    unfold q_only
    rw [if_pos ro]
  · have v3 := of_decide_eq_false v3
    have v2 := of_decide_eq_true v2
    obtain ⟨pe, pi⟩ := prep_is (.inl v2)
    have pi' : q_is L (q_prep L g.pos) = true := by rw [pe]; exact pi
    have hp := keyOk_r7 (keyOk_prep L g.pos)
    have ho := or_q r1 r2 hp.1 hp.2
    rw [nget_h (i := 15) pi' v2 (by omega) (by omega), nget_h (i := 14) pi' v2 (by omega) (by omega), ho.1, and4 ho.2.1 ho.2.2]
    refine ⟨rfl, rfl, fun b => ⟨fun _ => ?_, fun h => absurd h (by decide)⟩, fun b => ⟨rfl, rfl, fun f => ⟨fun _ => ?_, fun h => absurd h (by decide)⟩, fun f => ⟨rfl, ?_⟩⟩⟩
    · exact w_flt hI hE (go_dep d1 d2 v2 (by simpa using b)) (by omega)
    · have b : g.dep < 8 := by simpa using b
      exact w_flt hI hE (go_form d1 d2 v2 b (by unfold q_hOk; rw [Bool.not_eq_true'] at f; exact f)) (by omega)
    · have b : g.dep < 8 := by simpa using b
      have f : q_hOk g (q_got L (q_rts (q_prep L g.pos) 0) 15) = true := by unfold q_hOk; rw [Bool.not_eq_false'] at f; exact f
      have hf' := hOk_iff.1 f
      have he := each_le (show (q_got L (q_rts (q_prep L g.pos) 0) 15).value ≤ 9 by omega)
      have hd := div_facts a1 he.1
      have q1 : q_eachQ (q_got L (q_rts (q_prep L g.pos) 0) 15).value := ⟨by omega, by omega⟩
      have q2 : pNe (q_each (q_got L (q_rts (q_prep L g.pos) 0) 15).value) := by unfold pNe; omega
      unfold inR at ha
      have q3 : inRo IntKind.i64 (g.adr.tdiv (q_each (q_got L (q_rts (q_prep L g.pos) 0) 15).value)) := by simp only [inRo, inR]; omega
      have q4 : inRo IntKind.i64 (g.adr.tmod (q_each (q_got L (q_rts (q_prep L g.pos) 0) 15).value)) := by simp only [inRo, inR]; omega
      have q5 : inRo IntKind.i64 (g.dep + 1) := by simp only [inRo, inR]; omega
      have kp : ∀ b, (decide ((q_got L (q_rts (q_prep L g.pos) 0) 14).kind = 6) && decide (q_or g.rts (q_prep L g.pos).rights < 4)) = b → q_kp (q_or g.rts (q_prep L g.pos).rights) (q_got L (q_rts (q_prep L g.pos) 0) 14) g.kpr = if b then q_got L (q_rts (q_prep L g.pos) 0) 14 else g.kpr := by
        intro b hb
        unfold q_kp
        cases b
        · simp only [Bool.and_eq_false_iff, decide_eq_false_iff_not] at hb
          rw [if_neg (by omega)]; rfl
        · simp only [Bool.and_eq_true, decide_eq_true_eq] at hb
          rw [if_pos hb]; rfl
      refine ⟨fun c => ⟨q1, ⟨q2, q3⟩, rfl, fun s => ⟨fun _ => ?_, fun h => absurd h (by decide)⟩, fun s => ⟨q5, ⟨q2, q4⟩, nxt L g, ?_⟩⟩, fun c => ⟨q1, ⟨q2, q3⟩, rfl, fun s => ⟨fun _ => ?_, fun h => absurd h (by decide)⟩, fun s => ⟨q5, ⟨q2, q4⟩, nxt L g, ?_⟩⟩⟩
      · exact w_flt hI hE ((go_slot d1 d2 v2 b f (by simpa using s)).trans (by rw [kp _ c]; rfl)) (by omega)
      · have s : g.adr.tdiv (q_each (q_got L (q_rts (q_prep L g.pos) 0) 15).value) < 14 := by simpa using s
        obtain ⟨n1, n2⟩ := nxt_I hI v2 b f s
        rw [nget_w pi' v2 hd.1 (by omega)]
        refine ⟨n1, n2, rfl, rfl, rfl, rfl, rfl, rfl, rfl, rfl, rfl, ?_, rfl, rfl, rfl⟩
        show _ = q_kp _ _ _
        rw [kp _ c]; rfl
      · exact w_flt hI hE ((go_slot d1 d2 v2 b f (by simpa using s)).trans (by rw [kp _ c]; rfl)) (by omega)
      · have s : g.adr.tdiv (q_each (q_got L (q_rts (q_prep L g.pos) 0) 15).value) < 14 := by simpa using s
        obtain ⟨n1, n2⟩ := nxt_I hI v2 b f s
        rw [nget_w pi' v2 hd.1 (by omega)]
        refine ⟨n1, n2, rfl, rfl, rfl, rfl, rfl, rfl, rfl, rfl, rfl, ?_, rfl, rfl, rfl⟩
        show _ = q_kp _ _ _
        rw [kp _ c]; rfl
  · simp only [Bool.not_eq_false', Bool.or_eq_true, decide_eq_true_eq] at v
    have v3 := of_decide_eq_false v3
    have v2 := of_decide_eq_false v2
    omega
theorem cl_walk (L : List Sx.Obj) (k : Key) (a : Int) (ha : inR .i64 a) : CallTo Try.prog 14 [.lp 0 0, .key k, .it .i64 a] [.ro (.store tS eS L)] (isV (walkV L k a)) (fun _ _ => False) :=
  vcd_call (inl := (fun f => f == 29 || f == 30 || f == 54 || f == 79 || f == 80 || f == 89)) (ann := (annL [(30, 2, lpP [0, 2] (fun _ => []) 0 (fun g => .blk tW (wkV (.lp 0 0) g)) (q_wI L k a 0) q_wM)])) (oks_cons ct_steps (oks_cons ct_size (oks_cons ct_kchk (oks_cons ct_knames (oks_cons ct_prep (oks_cons ct_each (oks_cons ct_nget oks_nil))))))) hoks_nil (dk_one dc_walk) (vc_walk L k a ha) (by kernel_rfl)
theorem ct_walk : CtOK Try.prog 14 g_walk :=
  mkR_ok (consA_ok sA_ok (consA_ok kA_ok (consA_ok iA_ok nilA_ok))) (fun _ => rfl) fun a hq hok => by
    obtain ⟨S, k, i, _⟩ := a
    cases S with
    | none => exact cl_walk0 k i hok.2.2.1
    | some L => exact cl_walk L k i hok.2.2.1
theorem vc_rwalk (L : List Sx.Obj) (k : Key) (a : Int) (ha : inR .i64 a) (hL : q_okL L) :
  (decide (n2i (llen L) = 0) = true → void = q_fP (q_wR L k a) ∧ 0 = q_fA (q_wR L k a) ∧ void = q_fK (q_wR L k a) ∧ 0 = q_fD (q_wR L k a) ∧ 0 = q_uF (q_wR L k a) ∧ void = q_uK (q_wR L k a) ∧ 0 = q_uA
    (q_wR L k a) a ∧ 1 = q_wE L k a) ∧ (decide (n2i (llen L) = 0) = false → ((!q_may L k) = true → void = q_fP (q_wR L k a) ∧ 0 = q_fA (q_wR L k a) ∧ void = q_fK (q_wR L k a) ∧ 0 = q_fD (q_wR L k a) ∧ 0 =
    q_uF (q_wR L k a) ∧ void = q_uK (q_wR L k a) ∧ 0 = q_uA (q_wR L k a) a ∧ 2 = q_wE L k a) ∧ ((!q_may L k) = false → (decide (a < 0) = true → void = q_fP (q_wR L k a) ∧ 0 = q_fA (q_wR L k a) ∧ void =
    q_fK (q_wR L k a) ∧ 0 = q_fD (q_wR L k a) ∧ 0 = q_uF (q_wR L k a) ∧ void = q_uK (q_wR L k a) ∧ 0 = q_uA (q_wR L k a) a ∧ 4 = q_wE L k a) ∧ (decide (a < 0) = false → (∃ g, q_wI L k a 99 g ∧ a = a ∧ a =
    g.adr ∧ 0 = g.rts ∧ 99 = g.hi ∧ 0 = g.dep ∧ L = L ∧ k = k ∧ void = void ∧ void = void ∧ void = void ∧ k = g.pos ∧ void = g.kpr) ∧ ∀ (g : Wk), q_wI L k a 99 g → (decide (g.dep < 20) = true → ((!q_is L
    g.pos || !decide (g.pos.kind = 2) && !decide (g.pos.kind = 3)) = true → void = q_fP (q_wR L k a) ∧ 0 = q_fA (q_wR L k a) ∧ void = q_fK (q_wR L k a) ∧ 0 = q_fD (q_wR L k a) ∧ 1 = q_uF (q_wR L k a) ∧
    g.kpr = q_uK (q_wR L k a) ∧ a = q_uA (q_wR L k a) a ∧ 0 = q_wE L k a) ∧ ((!q_is L g.pos || !decide (g.pos.kind = 2) && !decide (g.pos.kind = 3)) = false → (decide (g.pos.kind = 3) = true → (decide (63
    < g.adr) = true → void = q_fP (q_wR L k a) ∧ 0 = q_fA (q_wR L k a) ∧ void = q_fK (q_wR L k a) ∧ 0 = q_fD (q_wR L k a) ∧ 2 = q_uF (q_wR L k a) ∧ g.kpr = q_uK (q_wR L k a) ∧ a = q_uA (q_wR L k a) a ∧ 0 =
    q_wE L k a) ∧ (decide (63 < g.adr) = false → (pNe 4 ∧ inRo IntKind.i64 (g.rts.tmod 4)) ∧ ((!decide (g.rts.tmod 4 = 0)) = true → Key.mk g.pos.kind g.pos.oid g.pos.count g.pos.call 1 g.pos.value = q_fP
    (q_wR L k a) ∧ g.adr = q_fA (q_wR L k a) ∧ g.kpr = q_fK (q_wR L k a) ∧ g.dep = q_fD (q_wR L k a) ∧ 0 = q_uF (q_wR L k a) ∧ void = q_uK (q_wR L k a) ∧ 0 = q_uA (q_wR L k a) a ∧ 0 = q_wE L k a) ∧
    ((!decide (g.rts.tmod 4 = 0)) = false → g.pos = q_fP (q_wR L k a) ∧ g.adr = q_fA (q_wR L k a) ∧ g.kpr = q_fK (q_wR L k a) ∧ g.dep = q_fD (q_wR L k a) ∧ 0 = q_uF (q_wR L k a) ∧ void = q_uK (q_wR L k a)
    ∧ 0 = q_uA (q_wR L k a) a ∧ 0 = q_wE L k a))) ∧ (decide (g.pos.kind = 3) = false → (decide (8 ≤ g.dep) = true → void = q_fP (q_wR L k a) ∧ 0 = q_fA (q_wR L k a) ∧ void = q_fK (q_wR L k a) ∧ 0 = q_fD
    (q_wR L k a) ∧ 3 = q_uF (q_wR L k a) ∧ g.kpr = q_uK (q_wR L k a) ∧ a = q_uA (q_wR L k a) a ∧ 0 = q_wE L k a) ∧ (decide (8 ≤ g.dep) = false → (∃ g_1, q_invB g_1 ∧ a = a ∧ g.adr = g.adr ∧ g.rts = q_orG
    g.rts g.pos.rights g_1 ∧ g.hi = g.hi ∧ g.dep = g.dep ∧ 1 = g_1 ∧ L = L ∧ k = k ∧ void = void ∧ void = void ∧ void = void ∧ g.pos = g.pos ∧ g.kpr = g.kpr ∧ g.kpr = g.kpr ∧ a = a) ∧ ∀ (g_1 : Int), q_invB
    g_1 → (decide (g_1 ≤ 4) = true → (pNe g_1 ∧ inRo IntKind.i64 (g.pos.rights.tdiv g_1)) ∧ (pNe 2 ∧ inRo IntKind.i64 ((g.pos.rights.tdiv g_1).tmod 2)) ∧ (decide ((g.pos.rights.tdiv g_1).tmod 2 = 1) = true
    → pNe g_1 ∧ inRo IntKind.i64 ((q_orG g.rts g.pos.rights g_1).tdiv g_1)) ∧ (decide ((g.pos.rights.tdiv g_1).tmod 2 = 1) = true → pNe 2 ∧ inRo IntKind.i64 (((q_orG g.rts g.pos.rights g_1).tdiv g_1).tmod
    2)) ∧ ((decide ((g.pos.rights.tdiv g_1).tmod 2 = 1) && decide (((q_orG g.rts g.pos.rights g_1).tdiv g_1).tmod 2 = 0)) = true → inRo IntKind.i64 (q_orG g.rts g.pos.rights g_1 + g_1) ∧ inRo IntKind.i64
    (g_1 * 2) ∧ ∃ g', q_invB g' ∧ (8 - g').toNat < (8 - g_1).toNat ∧ a = a ∧ g.adr = g.adr ∧ q_orG g.rts g.pos.rights g_1 + g_1 = q_orG g.rts g.pos.rights g' ∧ g.hi = g.hi ∧ g.dep = g.dep ∧ g_1 * 2 = g' ∧
    L = L ∧ k = k ∧ void = void ∧ void = void ∧ void = void ∧ g.pos = g.pos ∧ g.kpr = g.kpr ∧ g.kpr = g.kpr ∧ a = a) ∧ ((decide ((g.pos.rights.tdiv g_1).tmod 2 = 1) && decide (((q_orG g.rts g.pos.rights
    g_1).tdiv g_1).tmod 2 = 0)) = false → inRo IntKind.i64 (g_1 * 2) ∧ ∃ g', q_invB g' ∧ (8 - g').toNat < (8 - g_1).toNat ∧ a = a ∧ g.adr = g.adr ∧ q_orG g.rts g.pos.rights g_1 = q_orG g.rts g.pos.rights
    g' ∧ g.hi = g.hi ∧ g.dep = g.dep ∧ g_1 * 2 = g' ∧ L = L ∧ k = k ∧ void = void ∧ void = void ∧ void = void ∧ g.pos = g.pos ∧ g.kpr = g.kpr ∧ g.kpr = g.kpr ∧ a = a)) ∧ (decide (g_1 ≤ 4) = false → (0 ≤
    g.pos.oid ∧ g.pos.oid < ↑(llen L)) ∧ g.pos.oid.toNat < llen L ∧ ((!decide (((lget L g.pos.oid.toNat free).slots.at 15).kind = 1) || decide (((lget L g.pos.oid.toNat free).slots.at 15).value < 1) ||
    decide (8 < ((lget L g.pos.oid.toNat free).slots.at 15).value) || decide (g.hi ≤ ((lget L g.pos.oid.toNat free).slots.at 15).value)) = true → void = q_fP (q_wR L k a) ∧ 0 = q_fA (q_wR L k a) ∧ void =
    q_fK (q_wR L k a) ∧ 0 = q_fD (q_wR L k a) ∧ 4 = q_uF (q_wR L k a) ∧ g.kpr = q_uK (q_wR L k a) ∧ a = q_uA (q_wR L k a) a ∧ 0 = q_wE L k a) ∧ ((!decide (((lget L g.pos.oid.toNat free).slots.at 15).kind =
    1) || decide (((lget L g.pos.oid.toNat free).slots.at 15).value < 1) || decide (8 < ((lget L g.pos.oid.toNat free).slots.at 15).value) || decide (g.hi ≤ ((lget L g.pos.oid.toNat free).slots.at
    15).value)) = false → ((decide ((q_prep L ((lget L g.pos.oid.toNat free).slots.at 14)).kind = 6) && decide (q_orG g.rts g.pos.rights g_1 < 4)) = true → q_eachQ ((lget L g.pos.oid.toNat free).slots.at
    15).value ∧ (pNe (q_each ((lget L g.pos.oid.toNat free).slots.at 15).value) ∧ inRo IntKind.i64 (g.adr.tdiv (q_each ((lget L g.pos.oid.toNat free).slots.at 15).value))) ∧ (decide (13 < g.adr.tdiv
    (q_each ((lget L g.pos.oid.toNat free).slots.at 15).value)) = true → void = q_fP (q_wR L k a) ∧ 0 = q_fA (q_wR L k a) ∧ void = q_fK (q_wR L k a) ∧ 0 = q_fD (q_wR L k a) ∧ 2 = q_uF (q_wR L k a) ∧ q_prep
    L ((lget L g.pos.oid.toNat free).slots.at 14) = q_uK (q_wR L k a) ∧ a = q_uA (q_wR L k a) a ∧ 0 = q_wE L k a) ∧ (decide (13 < g.adr.tdiv (q_each ((lget L g.pos.oid.toNat free).slots.at 15).value)) =
    false → q_eachQ ((lget L g.pos.oid.toNat free).slots.at 15).value ∧ (pNe (q_each ((lget L g.pos.oid.toNat free).slots.at 15).value) ∧ inRo IntKind.i64 (g.adr.tmod (q_each ((lget L g.pos.oid.toNat
    free).slots.at 15).value))) ∧ q_dgotQ L g.pos (g.adr.tdiv (q_each ((lget L g.pos.oid.toNat free).slots.at 15).value)) ∧ inRo IntKind.i64 (g.dep + 1) ∧ ∃ g', q_wI L k a 99 g' ∧ q_wM g' < q_wM g ∧ a = a
    ∧ g.adr.tmod (q_each ((lget L g.pos.oid.toNat free).slots.at 15).value) = g'.adr ∧ q_orG g.rts g.pos.rights g_1 = g'.rts ∧ ((lget L g.pos.oid.toNat free).slots.at 15).value = g'.hi ∧ g.dep + 1 = g'.dep
    ∧ L = L ∧ k = k ∧ void = void ∧ void = void ∧ void = void ∧ q_got L g.pos (g.adr.tdiv (q_each ((lget L g.pos.oid.toNat free).slots.at 15).value)) = g'.pos ∧ q_prep L ((lget L g.pos.oid.toNat
    free).slots.at 14) = g'.kpr)) ∧ ((decide ((q_prep L ((lget L g.pos.oid.toNat free).slots.at 14)).kind = 6) && decide (q_orG g.rts g.pos.rights g_1 < 4)) = false → q_eachQ ((lget L g.pos.oid.toNat
    free).slots.at 15).value ∧ (pNe (q_each ((lget L g.pos.oid.toNat free).slots.at 15).value) ∧ inRo IntKind.i64 (g.adr.tdiv (q_each ((lget L g.pos.oid.toNat free).slots.at 15).value))) ∧ (decide (13 <
    g.adr.tdiv (q_each ((lget L g.pos.oid.toNat free).slots.at 15).value)) = true → void = q_fP (q_wR L k a) ∧ 0 = q_fA (q_wR L k a) ∧ void = q_fK (q_wR L k a) ∧ 0 = q_fD (q_wR L k a) ∧ 2 = q_uF (q_wR L k
    a) ∧ g.kpr = q_uK (q_wR L k a) ∧ a = q_uA (q_wR L k a) a ∧ 0 = q_wE L k a) ∧ (decide (13 < g.adr.tdiv (q_each ((lget L g.pos.oid.toNat free).slots.at 15).value)) = false → q_eachQ ((lget L
    g.pos.oid.toNat free).slots.at 15).value ∧ (pNe (q_each ((lget L g.pos.oid.toNat free).slots.at 15).value) ∧ inRo IntKind.i64 (g.adr.tmod (q_each ((lget L g.pos.oid.toNat free).slots.at 15).value))) ∧
    q_dgotQ L g.pos (g.adr.tdiv (q_each ((lget L g.pos.oid.toNat free).slots.at 15).value)) ∧ inRo IntKind.i64 (g.dep + 1) ∧ ∃ g', q_wI L k a 99 g' ∧ q_wM g' < q_wM g ∧ a = a ∧ g.adr.tmod (q_each ((lget L
    g.pos.oid.toNat free).slots.at 15).value) = g'.adr ∧ q_orG g.rts g.pos.rights g_1 = g'.rts ∧ ((lget L g.pos.oid.toNat free).slots.at 15).value = g'.hi ∧ g.dep + 1 = g'.dep ∧ L = L ∧ k = k ∧ void = void
    ∧ void = void ∧ void = void ∧ q_got L g.pos (g.adr.tdiv (q_each ((lget L g.pos.oid.toNat free).slots.at 15).value)) = g'.pos ∧ g.kpr = g'.kpr)))))))) ∧ (decide (g.dep < 20) = false → void = q_fP (q_wR
    L k a) ∧ 0 = q_fA (q_wR L k a) ∧ void = q_fK (q_wR L k a) ∧ 0 = q_fD (q_wR L k a) ∧ 0 = q_uF (q_wR L k a) ∧ void = q_uK (q_wR L k a) ∧ 0 = q_uA (q_wR L k a) a ∧ 2 = q_wE L k a)))) := by
  refine ⟨fun h => w_bad (wE1 h) (by omega), fun h => ⟨fun h2 => ?_, fun h2 => ⟨fun h3 => ?_, fun h3 => ⟨?_, fun g hI => ⟨fun _ => ?_, fun hd => ?_⟩⟩⟩⟩⟩
  · rw [Bool.not_eq_true'] at h2
    exact w_bad (by rw [wE0 h, h2]; rfl) (by omega)
  · rw [Bool.not_eq_false'] at h2
    exact w_bad (by rw [wE0 h, h2, if_pos rfl, if_pos (of_decide_eq_true h3)]) (by omega)
  · refine ⟨q_w0 k a 99, wI_0 (of_decide_eq_false h3) 99, ?_⟩
    repeat' apply And.intro
    all_goals rfl
  rotate_left
  · have := hI.2.2.1.2
    have := of_decide_eq_false hd
    omega
  rw [Bool.not_eq_false'] at h2
  have hE : q_wE L k a = 0 := by rw [wE0 h, h2, if_pos rfl, if_neg (of_decide_eq_false h3)]
  clear h h2 h3
  obtain ⟨⟨a1, a2⟩, ⟨r1, r2⟩, ⟨d1, d2⟩, e1, e2, e3⟩ := id hI
  refine ⟨fun v => ?_, fun v => ?_⟩
  · have hv : ∀ d : Int, d = 2 ∨ d = 3 → (q_prep L g.pos).kind ≠ d := fun d hd hk => by
      obtain ⟨p1, p2⟩ := prep_is (L := L) (k := g.pos) (by rw [hk]; exact hd)
      rw [p1] at hk
      rw [p2, hk] at v
      rcases hd with rfl | rfl <;> simp at v
    exact w_flt hI hE (go_void d1 d2 (hv 3 (.inr rfl)) (hv 2 (.inl rfl))) (by omega)
  simp only [Bool.or_eq_false_iff, Bool.not_eq_false', Bool.and_eq_false_iff, decide_eq_true_eq] at v
  obtain ⟨vi, vk⟩ := v
  have pe : q_prep L g.pos = g.pos := is_prep vi
  have hall := is_all vi
  have hp := keyOk_r7 hall.1
  refine ⟨fun v3 => ⟨fun b => ?_, fun b => ⟨⟨by unfold pNe; omega, ?_⟩, fun ro => ?_, fun ro => ?_⟩⟩, fun v3 => ⟨fun b => ?_, fun b => ⟨?_, fun i hi => ⟨fun hlt => ?_, fun hge => ?_⟩⟩⟩⟩
  · have v3 := of_decide_eq_true v3
    have b := of_decide_eq_true b
    exact w_flt hI hE (go_rng d1 d2 (by rw [pe]; exact v3) (by omega)) (by omega)
  · have h1 := Int.tmod_lt_of_pos g.rts (show (0 : Int) < 4 by omega)
    have h2 := Int.lt_tmod_of_pos g.rts (show (0 : Int) < 4 by omega)
    simp only [inRo, inR]; omega
  · have v3 := of_decide_eq_true v3
    have b := of_decide_eq_false b
    have ro : g.rts.tmod 4 ≠ 0 := by simpa using ro
    have := go_page d1 d2 (by rw [pe]; exact v3) (by omega)
    rw [pe] at this
    unfold q_only at this
    rw [if_neg ro] at this
    exact w_fnd hI hE this
  · have v3 := of_decide_eq_true v3
    have b := of_decide_eq_false b
    have ro : g.rts.tmod 4 = 0 := by simpa using ro
    have := go_page d1 d2 (by rw [pe]; exact v3) (by omega)
    rw [pe] at this
    unfold q_only at this
    rw [if_pos ro] at this
    exact w_fnd hI hE this
  · have v3 := of_decide_eq_false v3
    have b := of_decide_eq_true b
    exact w_flt hI hE (go_dep d1 d2 (by rw [pe]; omega) (by omega)) (by omega)
  · refine ⟨1, .inl rfl, ?_⟩
    have := (orG_1 (r := g.rts) (m := g.pos.rights)).symm
    repeat' apply And.intro
    all_goals first | rfl | exact this
  · have hlt := of_decide_eq_true hlt
    have hi3 : i = 1 ∨ i = 2 ∨ i = 4 := by unfold q_invB at hi; omega
    obtain ⟨⟨o1, o2⟩, o3, o4⟩ := orG_q r1 r2 hp.1 hp.2 hi3
    have hne : pNe i := by unfold pNe; omega
    have h2 : pNe 2 := by unfold pNe; omega
    have hi4 : i = 1 ∨ i = 2 ∨ i = 4 ∨ i = 8 := hi
    have hn : q_invB (i * 2) ∧ (8 - i * 2).toNat < (8 - i).toNat := by unfold q_invB; omega
    have t1 : inRo IntKind.i64 (g.pos.rights.tdiv i) := tdiv_in (by simp only [inR]; omega) hi4
    have t2 : inRo IntKind.i64 ((q_orG g.rts g.pos.rights i).tdiv i) := tdiv_in (by simp only [inR]; omega) hi4
    refine ⟨⟨hne, t1⟩, ⟨h2, tmod2_in _⟩, fun _ => ⟨hne, t2⟩, fun _ => ⟨h2, tmod2_in _⟩, fun c => ⟨by simp only [inRo, inR]; omega, by simp only [inRo, inR]; omega, i * 2, hn.1, hn.2, ?_⟩, fun c => ⟨by simp only [inRo, inR]; omega, i * 2, hn.1, hn.2, ?_⟩⟩
    · have := o3 c
      repeat' apply And.intro
      all_goals first | rfl | exact this
    · have := o4 c
      repeat' apply And.intro
      all_goals first | rfl | exact this
  · have hge := of_decide_eq_false hge
    have hi8 : i = 8 := by unfold q_invB at hi; omega
    subst hi8
    have v3 := of_decide_eq_false v3
    have b := of_decide_eq_false b
    have v2 : g.pos.kind = 2 := by omega
    have v2' : (q_prep L g.pos).kind = 2 := by rw [pe]; exact v2
    have hsl := (node_slots hL vi v2 15 (by omega)).1
    have hO : 0 ≤ q_or g.rts g.pos.rights ∧ q_or g.rts g.pos.rights ≤ 7 := (or_q r1 r2 hp.1 hp.2).2
    have hraw := raw_num (L := L) hsl (by have := hall.2.1; have := hall.2.2.1; omega)
    have eG : ∀ j, q_got L (q_rts (q_prep L g.pos) 0) j = q_prep L ((lget L g.pos.oid.toNat free).slots.at j.toNat) := fun j => by rw [pe]; rfl
    have e15 : q_got L (q_rts (q_prep L g.pos) 0) 15 = q_prep L ((lget L g.pos.oid.toNat free).slots.at 15) := eG 15
    have e14 : q_got L (q_rts (q_prep L g.pos) 0) 14 = q_prep L ((lget L g.pos.oid.toNat free).slots.at 14) := eG 14
    generalize hS : (lget L g.pos.oid.toNat free).slots.at 15 = S at *
    refine ⟨⟨hall.2.1, hall.2.2.1⟩, by have := hall.2.1; have := hall.2.2.1; unfold llen; omega, fun f => ?_, fun f => ?_⟩
    · refine w_flt hI hE (go_form d1 d2 v2' (by omega) ?_) (by omega)
      rw [e15]
      rw [Bool.eq_false_iff, ne_eq, hOk_iff]
      rintro ⟨f1, f2, f3, f4⟩
      have : q_prep L S = S := hraw.1 (by by_cases hk : S.kind = 1; exact hk; exact absurd f1 (hraw.2 hk))
      rw [this] at f1 f2 f3 f4
      simp only [Bool.or_eq_true, Bool.not_eq_true', decide_eq_true_eq, decide_eq_false_iff_not] at f
      rcases f4 with f4 | f4
      · have := e1 f4; omega
      · omega
    · simp only [Bool.or_eq_false_iff, Bool.not_eq_false', decide_eq_true_eq, decide_eq_false_iff_not] at f
      obtain ⟨⟨⟨f1, f2⟩, f3⟩, f4⟩ := f
      have eS : q_prep L S = S := hraw.1 f1
      rw [eS] at e15
      have fh : q_hOk g (q_got L (q_rts (q_prep L g.pos) 0) 15) = true := by rw [e15, hOk_iff]; exact ⟨f1, by omega, by omega, .inr (by omega)⟩
      have he := each_le (show S.value ≤ 9 by omega)
      have hd := div_facts a1 he.1
      have q1 : q_eachQ S.value := ⟨by omega, by omega⟩
      have q2 : pNe (q_each S.value) := by unfold pNe; omega
      unfold inR at ha
      have q3 : inRo IntKind.i64 (g.adr.tdiv (q_each S.value)) := by simp only [inRo, inR]; omega
      have q4 : inRo IntKind.i64 (g.adr.tmod (q_each S.value)) := by simp only [inRo, inR]; omega
      have q5 : inRo IntKind.i64 (g.dep + 1) := by simp only [inRo, inR]; omega
      have kp : ∀ b, (decide ((q_prep L ((lget L g.pos.oid.toNat free).slots.at 14)).kind = 6) && decide (q_orG g.rts g.pos.rights 8 < 4)) = b → q_kp (q_or g.rts g.pos.rights) (q_prep L ((lget L g.pos.oid.toNat free).slots.at 14)) g.kpr = if b then q_prep L ((lget L g.pos.oid.toNat free).slots.at 14) else g.kpr := by
        intro b hb
        unfold q_kp q_or
        cases b
        · simp only [Bool.and_eq_false_iff, decide_eq_false_iff_not] at hb
          rw [if_neg (by omega)]; rfl
        · simp only [Bool.and_eq_true, decide_eq_true_eq] at hb
          rw [if_pos hb]; rfl
      have gs : ∀ s : ¬ g.adr.tdiv (q_each S.value) < 14, q_wgo L (9 - g.dep).toNat g = ⟨2, void, 0, q_kp (q_or g.rts g.pos.rights) (q_prep L ((lget L g.pos.oid.toNat free).slots.at 14)) g.kpr, 0⟩ := fun s => by
        have := go_slot d1 d2 v2' (by omega) fh (by rw [e15]; exact s)
        rw [e14, pe] at this
        exact this
      have gn : ∀ s : g.adr.tdiv (q_each S.value) < 14, q_wI L k a 99 ⟨q_got L g.pos (g.adr.tdiv (q_each S.value)), g.adr.tmod (q_each S.value), q_or g.rts g.pos.rights, q_kp (q_or g.rts g.pos.rights) (q_prep L ((lget L g.pos.oid.toNat free).slots.at 14)) g.kpr, g.dep + 1, S.value⟩ ∧
          q_wM ⟨q_got L g.pos (g.adr.tdiv (q_each S.value)), g.adr.tmod (q_each S.value), q_or g.rts g.pos.rights, q_kp (q_or g.rts g.pos.rights) (q_prep L ((lget L g.pos.oid.toNat free).slots.at 14)) g.kpr, g.dep + 1, S.value⟩ < q_wM g := fun s => by
        have := nxt_I hI v2' (by omega) fh (by rw [e15]; exact s)
        unfold nxt at this
        rw [e15, e14, pe] at this
        exact this
      refine ⟨fun c => ⟨q1, ⟨q2, q3⟩, fun s => ?_, fun s => ⟨q1, ⟨q2, q4⟩, ?_, q5, _, (gn ?_).1, (gn ?_).2, ?_⟩⟩, fun c => ⟨q1, ⟨q2, q3⟩, fun s => ?_, fun s => ⟨q1, ⟨q2, q4⟩, ?_, q5, _, (gn ?_).1, (gn ?_).2, ?_⟩⟩⟩
      · have s := of_decide_eq_true s
        exact w_flt hI hE ((gs (by omega)).trans (by rw [kp _ c]; rfl)) (by omega)
      · have s := of_decide_eq_false s
        exact ⟨hd.1, by omega, hall.2.1, hall.2.2.1⟩
      · have s := of_decide_eq_false s
        omega
      · have s := of_decide_eq_false s
        omega
      · have := kp _ c
        repeat' apply And.intro
        all_goals first | with_reducible rfl | exact this.symm | rfl
      · have s := of_decide_eq_true s
        exact w_flt hI hE ((gs (by omega)).trans (by rw [kp _ c]; rfl)) (by omega)
      · have s := of_decide_eq_false s
        exact ⟨hd.1, by omega, hall.2.1, hall.2.2.1⟩
      · have s := of_decide_eq_false s
        omega
      · have s := of_decide_eq_false s
        omega
      · have := kp _ c
        repeat' apply And.intro
        all_goals first | with_reducible rfl | exact this.symm | rfl
theorem cl_rwalk (L : List Sx.Obj) (k : Key) (a : Int) (ha : inR .i64 a) (hL : q_okL L) : CallTo Try.prog 15 [.sa 0, .key k, .it .i64 a] [.ro (.arr none 163 (.ob L))] (isV (walkV L k a)) (fun _ _ => False) :=
  vc_call (inl := noInl) (ann := (annL [(15, 10, lpT [0, 2, 4, 6, 7, 8, 9, 13] (fun g => [(10, .it .i64 g.adr), (11, .it .i64 g.rts), (12, .it .i64 g.hi), (14, .it .i64 g.dep)]) (fun g => [(4, .blk tK (.key g.pos)), (5, .blk tK (.key g.kpr))]) (q_wI L k a 99) q_wM), (15, 27, lpOr [0, 2, 4, 6, 7, 8, 9, 10, 12, 13, 14, 15] q_invB 8)])) (oks_cons ct_may (oks_cons ct_lcounts (oks_cons ct_lprep (oks_cons ct_reach (oks_cons ct_dgot oks_nil))))) (vc_rwalk L k a ha hL) (by kernel_rfl)
theorem ct_rwalk : CtOK Try.prog 15 g_rwalk :=
  mkR_ok (consA_ok liA_ok (consA_ok kA_ok (consA_ok iA_ok nilA_ok))) (fun _ => rfl) fun a hq hok => by
    obtain ⟨L, k, i, _⟩ := a
    exact cl_rwalk L k i hok.2.2.1 hq
end Go.Proofs.Ytijgfnpbojfmdaa
