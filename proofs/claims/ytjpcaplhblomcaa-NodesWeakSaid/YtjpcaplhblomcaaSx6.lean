/- The plain operations of the executor: numbers, tests, parts of values. No condition. -/
import Derived.Test.YtjpcaplhblomcaaSx5
set_option linter.unusedVariables false
set_option linter.unusedSimpArgs false
namespace Go.Sx
open Go.RowKit (Below)

/-- What the executor stands on: the program, the zero values of its types, the contracts of its functions. -/
structure Ctx where
  P : Program
  Z : Nat → Option V
  Γ : Nat → Option (List Res → Nat → List V → Option (Option Prop × V × List Res))
  D : Nat → Option (Nat × Nat) := fun _ => none

theorem wrap_in {k : IntKind} {n : Int} (h : inR k n) : k.wrap n = n := by
  cases k <;> simp only [inR] at h <;> simp [IntKind.wrap, IntKind.bits, IntKind.signed] <;> omega

theorem inR_wrap (k : IntKind) (n : Int) : inR k (k.wrap n) := by
  cases k <;> simp [IntKind.wrap, IntKind.bits, IntKind.signed, inR] <;> omega

def toInt : V → Option (IntKind × Int)
  | .ci k n => some (k, n)
  | .it k n => some (k, n)
  | .bt b => some (.u8, b2i b)
  | _ => none

def isCi : V → Bool
  | .ci _ _ => true
  | _ => false

theorem toInt_spec {ρ : Env} {K : Nat → Prop} {v : V} {k : IntKind} {n : Int} (h : toInt v = some (k, n)) (hv : ok K v) : den ρ v = .int k n ∧ inR k n := by
  cases v <;> simp [toInt] at h
  · obtain ⟨rfl, rfl⟩ := h; exact ⟨rfl, hv⟩
  · obtain ⟨rfl, rfl⟩ := h; exact ⟨rfl, hv⟩
  · obtain ⟨rfl, rfl⟩ := h
    rename_i b
    have := b.toNat_lt
    exact ⟨rfl, by simp only [inR, b2i]; omega⟩

def toBool : V → Option Bool
  | .cb b => some b
  | .bo b => some b
  | _ => none

theorem toBool_spec {ρ : Env} {v : V} {b : Bool} (h : toBool v = some b) : den ρ v = .bool b := by
  cases v <;> simp [toBool] at h <;> subst h <;> rfl

def isCb : V → Bool
  | .cb _ => true
  | _ => false

/-- A number: known, if it comes of known ones. -/
def mkI (c : Bool) (k : IntKind) (n : Int) : V := if c && decide (inR k n) then .ci k n else .it k n
def mkB (c : Bool) (b : Bool) : V := if c then .cb b else .bo b

theorem mkI_den (ρ : Env) (c : Bool) (k : IntKind) (n : Int) : den ρ (mkI c k n) = .int k n := by unfold mkI; split <;> rfl
theorem mkI_ok {K : Nat → Prop} {c : Bool} {k : IntKind} {n : Int} (h : inR k n) : ok K (mkI c k n) := by unfold mkI; split <;> exact h
theorem mkB_den (ρ : Env) (c : Bool) (b : Bool) : den ρ (mkB c b) = .bool b := by unfold mkB; split <;> rfl
theorem mkB_ok {K : Nat → Prop} {c : Bool} {b : Bool} : ok K (mkB c b) := by unfold mkB; split <;> trivial
theorem mkI_tp (c : Bool) (k : IntKind) (n : Int) : isTp (mkI c k n) = false := by unfold mkI; split <;> rfl

def cmpB (op : BinOp) (a b : Int) : Option Bool :=
  match op with
  | .lss => some (ilt a b)
  | .leq => some (ile a b)
  | .gtr => some (ilt b a)
  | .geq => some (ile b a)
  | .eql => some (ieq a b)
  | .neq => some (bnt (ieq a b))
  | _ => none

/-- The bits of two numbers. -/
def bitsI (op : BinOp) (k : IntKind) (x y : Int) : Int :=
  let a := BitVec.ofInt k.bits x
  let b := BitVec.ofInt k.bits y
  match op with
  | .and => k.wrap (a &&& b).toNat
  | .or => k.wrap (a ||| b).toNat
  | .xor => k.wrap (a ^^^ b).toNat
  | _ => k.wrap (a &&& ~~~b).toNat

def arith (op : BinOp) (k : IntKind) (a b : Int) : Option (Option Prop × Int) :=
  match op with
  | .add => some (some (inRo k (iadd a b)), iadd a b)
  | .sub => some (some (inRo k (isub a b)), isub a b)
  | .mul => some (some (inRo k (imul a b)), imul a b)
  | .quo => some (some (pNe b ∧ inRo k (idiv a b)), idiv a b)
  | .rem => some (some (pNe b ∧ inRo k (imod a b)), imod a b)
  | .and => some (none, bitsI .and k a b)
  | .or => some (none, bitsI .or k a b)
  | .xor => some (none, bitsI .xor k a b)
  | .andNot => some (none, bitsI .andNot k a b)
  | _ => none

/-- The same for known numbers. -/
def cmpC (op : BinOp) (a b : Int) : Option Bool :=
  match op with
  | .lss => some (decide (a < b))
  | .leq => some (decide (a ≤ b))
  | .gtr => some (decide (b < a))
  | .geq => some (decide (b ≤ a))
  | .eql => some (decide (a = b))
  | .neq => some (!decide (a = b))
  | _ => none

def arithC (op : BinOp) (a b : Int) : Option Int :=
  match op with
  | .add => some (a + b)
  | .sub => some (a - b)
  | .mul => some (a * b)
  | _ => none

theorem cmpC_eq (op : BinOp) (a b : Int) : cmpC op a b = cmpB op a b := by cases op <;> rfl

section
variable {P : Program}

theorem run_arithC {op : BinOp} {k : IntKind} {a b n : Int} (t : Nat) (w : World) (h : arithC op a b = some n) (hp : inR k n) :
    (binOp op t (.int k a) (.int k b)).run P w = .ok (.int k n) w := by
  cases op <;> simp only [arithC, Option.some.injEq, reduceCtorEq] at h <;> subst h <;> simp [binOp, Op.intArith, wrap_in hp]

theorem run_cmp {op : BinOp} {k : IntKind} {a b : Int} {r : Bool} (t : Nat) (w : World) (h : cmpB op a b = some r) : (binOp op t (.int k a) (.int k b)).run P w = .ok (.bool r) w := by
  cases op <;> simp only [cmpB, Option.some.injEq, reduceCtorEq] at h <;> subst h <;> simp [binOp, Op.intCmp, ilt, ile, ieq, bnt] <;> rw [Bool.eq_iff_iff] <;> simp

theorem run_arith {op : BinOp} {k : IntKind} {a b n : Int} {p : Option Prop} (t : Nat) (w : World) (h : arith op k a b = some (p, n)) (hp : holdsO p) :
    (binOp op t (.int k a) (.int k b)).run P w = .ok (.int k n) w ∧ inR k n := by
  cases op <;> simp only [arith, Option.some.injEq, Prod.mk.injEq, reduceCtorEq] at h <;> obtain ⟨rfl, rfl⟩ := h
  · exact ⟨by simp [binOp, Op.intArith, iadd, wrap_in (show inR k (a + b) from hp)], hp⟩
  · exact ⟨by simp [binOp, Op.intArith, isub, wrap_in (show inR k (a - b) from hp)], hp⟩
  · exact ⟨by simp [binOp, Op.intArith, imul, wrap_in (show inR k (a * b) from hp)], hp⟩
  · exact ⟨by simp [binOp, Op.intDiv, idiv, wrap_in (show inR k (a.tdiv b) from hp.2), show b ≠ 0 from hp.1], hp.2⟩
  · exact ⟨by simp [binOp, Op.intDiv, imod, show b ≠ 0 from hp.1], hp.2⟩
  · exact ⟨by simp [binOp, Op.intBits, bitsI], inR_wrap _ _⟩
  · exact ⟨by simp [binOp, Op.intBits, bitsI], inR_wrap _ _⟩
  · exact ⟨by simp [binOp, Op.intBits, bitsI], inR_wrap _ _⟩
  · exact ⟨by simp [binOp, Op.intBits, bitsI], inR_wrap _ _⟩

end

def kKey : List Kd := List.replicate 6 (.i .i64)
def kSl : List Kd := List.replicate 96 (.i .i64)
def kBy : List Kd := List.replicate 64 (.i .u8)
def kOb : List Kd := List.replicate 99 (.i .i64) ++ List.replicate 64 (.i .u8)

theorem TyC_rep (k : Kd) : ∀ (l : List Value), (∀ v ∈ l, k.of v) → TyC (List.replicate l.length k) l
  | [], _ => trivial
  | v :: l, h => ⟨h v (by simp), TyC_rep k l fun u hu => h u (by simp [hu])⟩

theorem TyC_key (k : Key) : TyC kKey (keyCells k) := by
  refine TyC_rep (.i .i64) (keyCells k) fun v hv => ?_
  simp only [keyCells, List.mem_cons, List.not_mem_nil, or_false, i64] at hv
  rcases hv with rfl | rfl | rfl | rfl | rfl | rfl <;> exact ⟨_, rfl⟩

theorem TyC_sl (s : Slots) : TyC kSl (slCells s) := by
  have := TyC_rep (.i .i64) (slCells s) fun v hv => by
    simp only [slCells, List.mem_flatMap, keyCells, List.mem_cons, List.not_mem_nil, or_false, i64] at hv
    obtain ⟨i, _, hx⟩ := hv
    rcases hx with rfl | rfl | rfl | rfl | rfl | rfl <;> exact ⟨_, rfl⟩
  rwa [slCells_length] at this

theorem TyC_by (s : Bytes) : TyC kBy (byCells s) := by
  have := TyC_rep (.i .u8) (byCells s) fun v hv => by
    simp only [byCells, List.mem_map] at hv
    obtain ⟨i, _, rfl⟩ := hv
    exact ⟨_, rfl⟩
  rwa [byCells_length] at this

theorem TyC_ob (o : Obj) : TyC kOb (obCells o) := by
  have h1 : TyC (List.replicate 3 (.i .i64)) [i64 o.kind, i64 o.count, i64 o.calls] := ⟨⟨_, rfl⟩, ⟨_, rfl⟩, ⟨_, rfl⟩, trivial⟩
  have h2 := TyC.join h1 (TyC.join (TyC_sl o.slots) (TyC_by o.bytes))
  have e : kOb = List.replicate 3 (.i .i64) ++ (kSl ++ kBy) := rfl
  rw [e]
  simpa [obCells] using h2

theorem keyCells_inj {a b : Key} : keyCells a = keyCells b ↔ a = b := by
  refine ⟨fun h => ?_, fun h => by rw [h]⟩
  simp only [keyCells, i64, List.cons.injEq, Value.int.injEq, true_and, and_true] at h
  cases a; cases b; simp_all

theorem slCells_inj {a b : Slots} : slCells a = slCells b ↔ a = b := by
  refine ⟨fun h => ?_, fun h => by rw [h]⟩
  have key : ∀ i, i < 16 → a.at i = b.at i := fun i hi => by
    obtain ⟨p, q, e1, e2, _⟩ := slCells_at a i hi
    obtain ⟨p', q', e1', e2', _⟩ := slCells_at b i hi
    rw [e1, e1'] at h
    exact keyCells_inj.1 (append_inj_mid h (by omega) rfl).2.1
  ext i hi
  have := key i hi
  simp only [Slots.at, Array.getD_eq_getD_getElem?, Vector.getElem?_toArray, Vector.getElem?_eq_getElem hi, Option.getD_some] at this
  all_goals (first | (rw [this]) | (simp [this]))

theorem byCells_inj {a b : Bytes} : byCells a = byCells b ↔ a = b := by
  refine ⟨fun h => ?_, fun h => by rw [h]⟩
  have key : ∀ i, i < 64 → a.at i = b.at i := fun i hi => by
    obtain ⟨p, q, e1, e2, _⟩ := byCells_at a i hi
    obtain ⟨p', q', e1', e2', _⟩ := byCells_at b i hi
    rw [e1, e1'] at h
    have := (append_inj_mid h (by omega) rfl).2.1
    simp only [List.cons.injEq, Value.int.injEq, true_and, and_true] at this
    exact UInt8.toNat_inj.1 (by omega)
  ext i hi
  have := key i hi
  simp only [Bytes.at, Array.getD_eq_getD_getElem?, Vector.getElem?_toArray, Vector.getElem?_eq_getElem hi, Option.getD_some] at this
  rw [this]

theorem obCells_inj {a b : Obj} : obCells a = obCells b ↔ a = b := by
  refine ⟨fun h => ?_, fun h => by rw [h]⟩
  simp only [obCells, i64, List.cons.injEq, Value.int.injEq, true_and] at h
  obtain ⟨h1, h2, h3, h4⟩ := h
  obtain ⟨h5, h6⟩ := List.append_inj h4 (by rw [slCells_length, slCells_length])
  cases a; cases b
  simp_all [slCells_inj, byCells_inj]

def noGuard (P : Program) (t : Nat) : Bool := !(P.eqGuardType P.depth t)

/-- Are two values the same? -/
def eqV (P : Program) (t : Nat) : V → V → Option V
  | .key a, .key b => if noGuard P t && flatK P 8 t == some kKey then some (.bo (keq a b)) else none
  | .sl a, .sl b => if noGuard P t && flatK P 8 t == some kSl then some (.bo (sleq a b)) else none
  | .by a, .by b => if noGuard P t && flatK P 8 t == some kBy then some (.bo (byeq a b)) else none
  | .ob a, .ob b => if noGuard P t && flatK P 8 t == some kOb then some (.bo (oeq a b)) else none
  | .st a, .st b => some (.bo (steq a b))
  | .nl (.pointer none), .nl (.pointer none) => match P.underlying t with
    | some (.pointer _) => some (.cb true)
    | _ => none
  | .lp _ _, .nl (.pointer none) => match P.underlying t with
    | some (.pointer _) => some (.cb false)
    | _ => none
  | .fn _ _, .nl .nilFunc => match P.underlying t with
    | some (.func _ _ _) => some (.cb false)
    | _ => none
  | .nl .nilFunc, .nl .nilFunc => match P.underlying t with
    | some (.func _ _ _) => some (.cb true)
    | _ => none
  | x, y => match toBool x, toBool y with
    | some a, some b => match P.underlying t with
      | some .bool => some (mkB (isCb x && isCb y) (beqB a b))
      | _ => none
    | _, _ => none

section
variable {P : Program}

theorem run_eq_agg {t : Nat} {ks : List Kd} {xs ys : List Value} (w : World) (o1 o2 : Operand) (hk : flatK P 8 t = some ks) (hg : noGuard P t = true) (ha : aggT P t = some true) (hx : TyC ks xs) (hy : TyC ks ys) :
    ∃ b, (do eqGuard .eql t o1 o2 (.agg xs.toArray) (.agg ys.toArray); binOp .eql t (.agg xs.toArray) (.agg ys.toArray)).run P w = .ok (.bool b) w ∧
      (do eqGuard .neq t o1 o2 (.agg xs.toArray) (.agg ys.toArray); binOp .neq t (.agg xs.toArray) (.agg ys.toArray)).run P w = .ok (.bool !b) w ∧ (b = true ↔ xs = ys) := by
  obtain ⟨b, hb, hbi⟩ := run_eq_flat (P := P) 8 10000 (by omega) t ks true xs ys hk ha hx hy w
  have hg' : P.eqGuardType P.depth t = false := by simpa [noGuard] using hg
  simp only [asPart, if_true] at hb
  refine ⟨b, ?_, ?_, hbi⟩
  · simp only [Sem.run_bind, run_eqGuard_agg w .eql t o1 o2 _ _ hg', Result.andThen_ok, run_eql_struct, hb]
  · simp only [Sem.run_bind, run_eqGuard_agg w .neq t o1 o2 _ _ hg', Result.andThen_ok, run_neq_struct, hb]

theorem flatK_true {t : Nat} {ks : List Kd} (hk : flatK P 8 t = some ks) (h : 2 ≤ ks.length) : aggT P t = some true := by
  obtain ⟨a, ha⟩ := flatK_agg hk
  cases a with
  | true => exact ha
  | false => have := (flatK_tsz_agg hk ha).2 rfl; omega

/-- Both tests, of equality and of its contrary. -/
def EqRuns (P : Program) (t : Nat) (x y : Value) (b : Bool) : Prop :=
  ∀ w o1 o2, (do eqGuard .eql t o1 o2 x y; binOp .eql t x y).run P w = .ok (.bool b) w ∧ (do eqGuard .neq t o1 o2 x y; binOp .neq t x y).run P w = .ok (.bool !b) w

theorem eqRuns_of {t : Nat} {x y : Value} {b : Bool} (h1 : binOp .eql t x y = (do pure (.bool (← Op.equal t x y)))) (h2 : binOp .neq t x y = (do pure (.bool (!(← Op.equal t x y)))))
    (hg : ∀ op w o1 o2, (eqGuard op t o1 o2 x y).run P w = .ok () w) (he : ∀ d w, (Op.equalIn (d + 1) t x y).run P w = .ok b w) : EqRuns P t x y b := by
  intro w o1 o2
  have he' : (Op.equal t x y).run P w = .ok b w := he 9999 w
  constructor
  · rw [Sem.run_bind, hg, Result.andThen_ok, h1, Sem.run_bind, he', Result.andThen_ok, Sem.run_pure]
  · rw [Sem.run_bind, hg, Result.andThen_ok, h2, Sem.run_bind, he', Result.andThen_ok, Sem.run_pure]

theorem eqRuns_bool {t : Nat} (a b : Bool) (hu : P.underlying t = some .bool) : EqRuns P t (.bool a) (.bool b) (beqB a b) :=
  eqRuns_of rfl rfl (fun op w o1 o2 => by cases op <;> simp [eqGuard]) (fun d w => by simp [Op.equalIn, run_und w hu, beqB])
theorem eqRuns_nilptr {t e : Nat} (b : Option Addr) (hu : P.underlying t = some (.pointer e)) : EqRuns P t (.pointer b) (.pointer none) b.isNone :=
  eqRuns_of rfl rfl (fun op w o1 o2 => by cases op <;> simp [eqGuard]) (fun d w => by cases b <;> simp [Op.equalIn, run_und w hu])
theorem eqRuns_nilfunc {t : Nat} {p r : Array Nat} {v : Bool} (hu : P.underlying t = some (.func p r v)) : EqRuns P t .nilFunc .nilFunc true :=
  eqRuns_of rfl rfl (fun op w o1 o2 => by cases op <;> simp [eqGuard]) (fun d w => by simp [Op.equalIn, run_und w hu])
theorem eqRuns_func {t : Nat} {p r : Array Nat} {v : Bool} (f : Fn) (a c : Array Value) (hu : P.underlying t = some (.func p r v)) : EqRuns P t (.func f a c) .nilFunc false :=
  eqRuns_of rfl rfl (fun op w o1 o2 => by cases op <;> simp [eqGuard]) (fun d w => by simp [Op.equalIn, run_und w hu])
theorem eqRuns_string {t : Nat} (a b : ByteArray) : EqRuns P t (.string a) (.string b) (steq a b) := by
  intro w o1 o2
  unfold steq
  rw [← beq_bytes, beq_toListBytes]
  constructor <;> simp [eqGuard, binOp, Op.stringOp]

theorem eqV_spec {ρ : Env} {t : Nat} {x y r : V} (h : eqV P t x y = some r) : ∃ b, toBool r = some b ∧ EqRuns P t (den ρ x) (den ρ y) b := by
  unfold eqV at h
  split at h
  · rename_i u v
    split at h <;> simp only [Option.some.injEq, reduceCtorEq] at h
    rename_i hc; subst h
    simp only [Bool.and_eq_true, beq_iff_eq] at hc
    refine ⟨_, rfl, fun w o1 o2 => ?_⟩
    obtain ⟨b, h1, h2, h3⟩ := run_eq_agg w o1 o2 hc.2 hc.1 (flatK_true hc.2 (by decide)) (TyC_key u) (TyC_key v)
    rw [keyCells_inj] at h3
    have : b = keq u v := Bool.eq_iff_iff.2 (by rw [h3]; simp [keq])
    subst this
    exact ⟨h1, h2⟩
  · rename_i u v
    split at h <;> simp only [Option.some.injEq, reduceCtorEq] at h
    rename_i hc; subst h
    simp only [Bool.and_eq_true, beq_iff_eq] at hc
    refine ⟨_, rfl, fun w o1 o2 => ?_⟩
    obtain ⟨b, h1, h2, h3⟩ := run_eq_agg w o1 o2 hc.2 hc.1 (flatK_true hc.2 (by simp [kSl])) (TyC_sl u) (TyC_sl v)
    rw [slCells_inj] at h3
    have : b = sleq u v := Bool.eq_iff_iff.2 (by rw [h3]; simp [sleq])
    subst this
    exact ⟨h1, h2⟩
  · rename_i u v
    split at h <;> simp only [Option.some.injEq, reduceCtorEq] at h
    rename_i hc; subst h
    simp only [Bool.and_eq_true, beq_iff_eq] at hc
    refine ⟨_, rfl, fun w o1 o2 => ?_⟩
    obtain ⟨b, h1, h2, h3⟩ := run_eq_agg w o1 o2 hc.2 hc.1 (flatK_true hc.2 (by simp [kBy])) (TyC_by u) (TyC_by v)
    rw [byCells_inj] at h3
    have : b = byeq u v := Bool.eq_iff_iff.2 (by rw [h3]; simp [byeq])
    subst this
    exact ⟨h1, h2⟩
  · rename_i u v
    split at h <;> simp only [Option.some.injEq, reduceCtorEq] at h
    rename_i hc; subst h
    simp only [Bool.and_eq_true, beq_iff_eq] at hc
    refine ⟨_, rfl, fun w o1 o2 => ?_⟩
    obtain ⟨b, h1, h2, h3⟩ := run_eq_agg w o1 o2 hc.2 hc.1 (flatK_true hc.2 (by simp [kOb])) (TyC_ob u) (TyC_ob v)
    rw [obCells_inj] at h3
    have : b = oeq u v := Bool.eq_iff_iff.2 (by rw [h3]; simp [oeq])
    subst this
    exact ⟨h1, h2⟩
  · rename_i a b
    simp only [Option.some.injEq] at h
    subst h
    exact ⟨_, rfl, eqRuns_string _ _⟩
  · split at h <;> simp only [Option.some.injEq, reduceCtorEq] at h
    rename_i hu; subst h
    exact ⟨_, rfl, eqRuns_nilptr none hu⟩
  · split at h <;> simp only [Option.some.injEq, reduceCtorEq] at h
    rename_i hu; subst h
    exact ⟨_, rfl, eqRuns_nilptr (some _) hu⟩
  · split at h <;> simp only [Option.some.injEq, reduceCtorEq] at h
    rename_i hu; subst h
    exact ⟨_, rfl, eqRuns_func _ _ _ hu⟩
  · split at h <;> simp only [Option.some.injEq, reduceCtorEq] at h
    rename_i hu; subst h
    exact ⟨_, rfl, eqRuns_nilfunc hu⟩
  · split at h
    · rename_i a b ha hb
      split at h <;> simp only [Option.some.injEq, reduceCtorEq] at h
      rename_i hu; subst h
      refine ⟨beqB a b, by unfold mkB; split <;> rfl, ?_⟩
      rw [toBool_spec ha, toBool_spec hb]
      exact eqRuns_bool _ _ hu
    · simp at h

theorem eqV_cb {t : Nat} {x y r : V} {K : Nat → Prop} (h : eqV P t x y = some r) : ok K r ∧ isTp r = false := by
  obtain ⟨b, hb, _⟩ := eqV_spec (ρ := Env.zero) h
  cases r <;> simp [toBool] at hb <;> exact ⟨trivial, rfl⟩

end

/-- An operation on two values. -/
def binV (P : Program) (op : BinOp) (t : Nat) (x y : V) : Option (Option Prop × V) :=
  match toInt x, toInt y with
  | some (k, a), some (k', b) =>
    if k == k' then
      if isCi x && isCi y then
        match cmpC op a b with
        | some r => some (none, .cb r)
        | none => match arithC op a b with
          | some n => if inR k n then some (none, .ci k n) else none
          | none => none
      else match cmpB op a b with
      | some r => some (none, .bo r)
      | none => match arith op k a b with
        | some (p, n) => some (p, .it k n)
        | none => none
    else none
  | _, _ => match op with
    | .eql => (eqV P t x y).map fun r => (none, r)
    | .neq => match eqV P t x y with
      | some r => match toBool r with
        | some b => some (none, mkB (isCb r) (bnt b))
        | none => none
      | none => none
    | _ => none

theorem binV_spec {P : Program} {ρ : Env} {K : Nat → Prop} {op : BinOp} {t : Nat} {x y r : V} {p : Option Prop} (w : World) (o1 o2 : Operand) (h : binV P op t x y = some (p, r)) (hp : holdsO p) (hx : ok K x) (hy : ok K y) :
    (do eqGuard op t o1 o2 (den ρ x) (den ρ y); binOp op t (den ρ x) (den ρ y)).run P w = .ok (den ρ r) w ∧ ok K r := by
  unfold binV at h
  split at h
  · rename_i k a k' b ha hb
    obtain ⟨e1, r1⟩ := toInt_spec (ρ := ρ) ha hx
    obtain ⟨e2, r2⟩ := toInt_spec (ρ := ρ) hb hy
    split at h
    · rename_i hk
      have hk := beq_iff_eq.1 hk
      subst hk
      have hgd : ∀ w, (eqGuard op t o1 o2 (.int k a) (.int k b)).run P w = .ok () w := fun w => by cases op <;> simp [eqGuard]
      rw [e1, e2]
      split at h
      · split at h
        · rename_i r hr
          simp only [Option.some.injEq, Prod.mk.injEq] at h
          obtain ⟨_, rfl⟩ := h
          rw [cmpC_eq] at hr
          exact ⟨by rw [Sem.run_bind, hgd, Result.andThen_ok, run_cmp t w hr]; rfl, trivial⟩
        · split at h
          · rename_i n hn
            split at h <;> simp only [Option.some.injEq, Prod.mk.injEq, reduceCtorEq] at h
            rename_i hin
            obtain ⟨_, rfl⟩ := h
            exact ⟨by rw [Sem.run_bind, hgd, Result.andThen_ok, run_arithC t w hn hin]; rfl, hin⟩
          · simp at h
      · split at h
        · rename_i r hr
          simp only [Option.some.injEq, Prod.mk.injEq] at h
          obtain ⟨_, rfl⟩ := h
          exact ⟨by rw [Sem.run_bind, hgd, Result.andThen_ok, run_cmp t w hr]; rfl, trivial⟩
        · split at h <;> simp only [Option.some.injEq, Prod.mk.injEq, reduceCtorEq] at h
          rename_i p n hn
          obtain ⟨rfl, rfl⟩ := h
          obtain ⟨h1, h2⟩ := run_arith (P := P) t w hn hp
          exact ⟨by rw [Sem.run_bind, hgd, Result.andThen_ok, h1]; rfl, h2⟩
    · simp at h
  · split at h
    · cases he : eqV P t x y with
      | none => simp [he] at h
      | some r' =>
        simp only [he, Option.map_some, Option.some.injEq, Prod.mk.injEq] at h
        obtain ⟨_, rfl⟩ := h
        obtain ⟨b, hb, hr⟩ := eqV_spec (ρ := ρ) he
        rw [toBool_spec hb]
        exact ⟨(hr w o1 o2).1, (eqV_cb he).1⟩
    · cases he : eqV P t x y with
      | none => simp [he] at h
      | some r' =>
        simp only [he] at h
        obtain ⟨b, hb, hr⟩ := eqV_spec (ρ := ρ) he
        simp only [hb, Option.some.injEq, Prod.mk.injEq] at h
        obtain ⟨_, rfl⟩ := h
        rw [mkB_den]
        exact ⟨(hr w o1 o2).2, mkB_ok⟩
    · simp at h

end Go.Sx
