/- The symbolic values of a small verified executor for the model's code: what each stands for, how a part of one is read and replaced. No condition. -/
import Derived.WalkKit
set_option linter.unusedVariables false
set_option linter.unusedSimpArgs false
namespace Go.Sx

/-- A key, as plain numbers. -/
structure Key where
  kind : Int
  oid : Int
  count : Int
  call : Int
  rights : Int
  value : Int
  deriving DecidableEq, Inhabited

abbrev Slots := Vector Key 16
abbrev Bytes := Vector UInt8 64

def void : Key := ⟨0, 0, 0, 0, 0, 0⟩
def Slots.at (s : Slots) (i : Nat) : Key := s.toArray.getD i void
def Slots.put (s : Slots) (i : Nat) (k : Key) : Slots := s.setIfInBounds i k
def Bytes.at (s : Bytes) (i : Nat) : UInt8 := s.toArray.getD i 0
def Bytes.put (s : Bytes) (i : Nat) (k : UInt8) : Bytes := s.setIfInBounds i k

/-- An object, as plain data. -/
structure Obj where
  kind : Int
  count : Int
  calls : Int
  slots : Slots
  bytes : Bytes
  deriving DecidableEq

def noSlots : Slots := Vector.replicate 16 void
def noBytes : Bytes := Vector.replicate 64 0
def free : Obj := ⟨0, 0, 0, noSlots, noBytes⟩
instance : Inhabited Obj := ⟨free⟩

def i64 (n : Int) : Value := .int .i64 n
def keyCells (k : Key) : List Value := [i64 k.kind, i64 k.oid, i64 k.count, i64 k.call, i64 k.rights, i64 k.value]
def slCells (s : Slots) : List Value := (List.range 16).flatMap fun i => keyCells (s.at i)
def byCells (s : Bytes) : List Value := (List.range 64).map fun i => .int .u8 ((s.at i).toNat : Int)
def obCells (o : Obj) : List Value := i64 o.kind :: i64 o.count :: i64 o.calls :: (slCells o.slots ++ byCells o.bytes)

/-- A symbolic value: its shape is known, its leaves are any terms. -/
inductive V where
  | cb (b : Bool) | bo (b : Bool)
  | ci (k : IntKind) (n : Int) | it (k : IntKind) (n : Int) | bt (b : UInt8)
  | st (s : ByteArray)
  | nl (v : Value)
  | lp (id off : Nat)
  | lx (id off esz n i inner : Nat)
  | sc (id len cap : Nat)
  | so (id len : Nat)
  | ap (id esz i off : Nat)
  | sa (id : Nat)
  | op (id i : Nat)
  | yl (id : Nat)
  | fn (f : Nat) (l : List V)
  | ic (t : Nat) (x : V)
  | ag (l : List V) | tp (l : List V)
  | key (k : Key) | sl (s : Slots) | by (b : Bytes) | ob (o : Obj)
  | mp (id : Nat)
  | ch (b : Bool) (f : Nat) (l : List V) (y : V)
  | ax (id esz k off sz n i inner : Nat)

/-- Which block a place has, and which capacity; where an argument's array lies, and the slice over it. -/
structure Env where
  num : Nat → Nat
  cap : Nat → Nat
  adr : Nat → Addr
  sa : Nat → Option Addr
  sn : Nat → Nat
  ob : Nat → Nat → Nat

/-- The numbers that a kind of integers holds. -/
def inR : IntKind → Int → Prop
  | .i8, n => -128 ≤ n ∧ n ≤ 127
  | .i16, n => -32768 ≤ n ∧ n ≤ 32767
  | .i32, n => -2147483648 ≤ n ∧ n ≤ 2147483647
  | .i64, n => -9223372036854775808 ≤ n ∧ n ≤ 9223372036854775807
  | .u8, n => 0 ≤ n ∧ n ≤ 255
  | .u16, n => 0 ≤ n ∧ n ≤ 65535
  | .u32, n => 0 ≤ n ∧ n ≤ 4294967295
  | .u64, n => 0 ≤ n ∧ n ≤ 18446744073709551615

instance (k : IntKind) (n : Int) : Decidable (inR k n) := by cases k <;> unfold inR <;> infer_instance

def Key.wf (k : Key) : Prop := inR .i64 k.kind ∧ inR .i64 k.oid ∧ inR .i64 k.count ∧ inR .i64 k.call ∧ inR .i64 k.rights ∧ inR .i64 k.value
def Slots.wf (s : Slots) : Prop := ∀ i, i < 16 → (s.at i).wf
def Obj.wf (o : Obj) : Prop := inR .i64 o.kind ∧ inR .i64 o.count ∧ inR .i64 o.calls ∧ o.slots.wf

mutual
def den (ρ : Env) : V → Value
  | .cb b => .bool b
  | .bo b => .bool b
  | .ci k n => .int k n
  | .it k n => .int k n
  | .bt b => .int .u8 (b.toNat : Int)
  | .st s => .string s
  | .nl v => v
  | .lp id off => .pointer (some ⟨ρ.num id, off, none⟩)
  | .lx id off esz _ i inner => .pointer (some ⟨ρ.num id, off + i * esz + inner, none⟩)
  | .sc id len cap => .slice (some ⟨ρ.num id, 0, none⟩) len cap
  | .so id len => .slice (some ⟨ρ.num id, 0, none⟩) len (ρ.cap id)
  | .ap id esz i off => .pointer (some ⟨(ρ.adr id).block, (ρ.adr id).off + (i * esz + off), none⟩)
  | .ax id esz k off sz _ i inner => .pointer (some ⟨(ρ.adr id).block, (ρ.adr id).off + (k * esz + (off + i * sz + inner)), none⟩)
  | .sa id => .slice (ρ.sa id) (ρ.sn id) (ρ.cap id)
  | .op id i => .pointer (some ⟨ρ.ob id i, 0, none⟩)
  | .yl id => .func (.yield (ρ.num id)) #[] #[]
  | .fn f l => .func (.func f) #[] (denL ρ l).toArray
  | .ic t x => .iface t (den ρ x)
  | .ag l => .agg (cellsL ρ l).toArray
  | .tp l => .tuple (denL ρ l).toArray
  | .key k => .agg (keyCells k).toArray
  | .sl s => .agg (slCells s).toArray
  | .by b => .agg (byCells b).toArray
  | .ob o => .agg (obCells o).toArray
  | .mp id => .map (some (ρ.num id))
  | .ch b f l y => match b with
    | true => .func (.func f) #[] (denL ρ l).toArray
    | false => den ρ y
def denL (ρ : Env) : List V → List Value
  | [] => []
  | x :: l => den ρ x :: denL ρ l
def cellsL (ρ : Env) : List V → List Value
  | [] => []
  | x :: l => (den ρ x).cells.toList ++ cellsL ρ l
end

/-- The cells of a value. -/
def cells (ρ : Env) (v : V) : List Value := (den ρ v).cells.toList

/-- Is it a struct or an array? -/
def isAg : V → Bool
  | .ag _ | .key _ | .sl _ | .by _ | .ob _ => true
  | _ => false

mutual
/-- How many cells it takes. -/
def vsz : V → Nat
  | .ag l => vszL l
  | .key _ => 6
  | .sl _ => 96
  | .by _ => 64
  | .ob _ => 163
  | _ => 1
def vszL : List V → Nat
  | [] => 0
  | x :: l => vsz x + vszL l
end

mutual
/-- What is known of a value beside its shape: places are inside, constants are one cell, and well formed. -/
def ok (N : Nat → Prop) : V → Prop
  | .nl v => v.oneCell' = true
  | .ci k n => inR k n
  | .it k n => inR k n
  | .key k => k.wf
  | .sl s => s.wf
  | .ob o => o.wf
  | .lp id _ => N id
  | .lx id _ _ n i _ => N id ∧ i < n
  | .sc id _ _ => N id
  | .so id _ => N id
  | .ap id _ _ _ => N id
  | .ax id _ _ _ _ n i _ => N id ∧ i < n
  | .sa id => N id
  | .op id _ => N id
  | .yl id => N id
  | .fn _ l => okL N l
  | .ic _ x => ok N x
  | .ag l => okL N l ∧ okC l
  | .tp l => okL N l
  | .mp id => N id
  | .ch _ _ l y => okL N l ∧ ok N y ∧ ∀ ρ : Env, (den ρ y).oneCell' = true
  | _ => True
def okL (N : Nat → Prop) : List V → Prop
  | [] => True
  | x :: l => ok N x ∧ okL N l
/-- no tuple among the parts -/
def okC : List V → Prop
  | [] => True
  | x :: l => (match x with | .tp _ => False | _ => True) ∧ okC l
end

variable {N : Nat → Prop}
section lists
variable (ρ : Env)

theorem denL_eq (l : List V) : denL ρ l = l.map (den ρ) := by
  induction l with
  | nil => simp [denL]
  | cons x l ih => simp [denL, ih]

theorem cellsL_eq (l : List V) : cellsL ρ l = l.flatMap (cells ρ) := by
  induction l with
  | nil => simp [cellsL]
  | cons x l ih => simp [cellsL, ih, cells]

theorem cellsL_append (l m : List V) : cellsL ρ (l ++ m) = cellsL ρ l ++ cellsL ρ m := by
  simp [cellsL_eq]

theorem okL_iff (l : List V) : okL N l ↔ ∀ x ∈ l, ok N x := by
  induction l with
  | nil => simp [okL]
  | cons x l ih => simp [okL, ih]

end lists

def isTp : V → Bool
  | .tp _ => true
  | _ => false

theorem okC_iff (l : List V) : okC l ↔ ∀ x ∈ l, isTp x = false := by
  induction l with
  | nil => simp [okC]
  | cons x l ih =>
    simp only [okC, ih, List.mem_cons, forall_eq_or_imp]
    refine and_congr_left fun _ => ?_
    cases x <;> simp [isTp]

theorem keyCells_length (k : Key) : (keyCells k).length = 6 := rfl
theorem slCells_length (s : Slots) : (slCells s).length = 96 := by
  simp [slCells, keyCells_length, List.range, List.range.loop]
theorem byCells_length (s : Bytes) : (byCells s).length = 64 := by simp [byCells]
theorem obCells_length (s : Obj) : (obCells s).length = 163 := by simp [obCells, slCells_length, byCells_length]

theorem oneCell_cells {v : Value} (h : v.oneCell' = true) : v.cells = #[v] := by
  cases v <;> simp_all [Value.oneCell', Value.cells]

theorem den_oneCell (ρ : Env) : ∀ v, ok N v → isAg v = false → isTp v = false → (den ρ v).oneCell' = true := by
  intro v h h1 h2
  cases v <;> try (simp_all [isAg, isTp, den, Value.oneCell', ok]; done)
  rename_i b f l y
  cases b
  · exact h.2.2 ρ
  · rfl

mutual
theorem cells_length (ρ : Env) : ∀ v, ok N v → (cells ρ v).length = vsz v
  | .ag l, h => by
    simp only [ok] at h
    simpa [cells, den, Value.cells, vsz] using cellsL_length ρ l h.1
  | .tp l, _ => by simp [cells, den, Value.cells, vsz]
  | .key k, _ => by simp [cells, den, Value.cells, vsz, keyCells_length]
  | .sl k, _ => by simp [cells, den, Value.cells, vsz, slCells_length]
  | .by k, _ => by simp [cells, den, Value.cells, vsz, byCells_length]
  | .ob k, _ => by simp [cells, den, Value.cells, vsz, obCells_length]
  | .nl v, h => by simp only [ok] at h; simp [cells, den, oneCell_cells h, vsz]
  | .cb _, _ | .bo _, _ | .ci _ _, _ | .it _ _, _ | .bt _, _ | .st _, _ | .lp _ _, _ | .lx _ _ _ _ _ _, _ | .sc _ _ _, _ | .so _ _, _
  | .ap _ _ _ _, _ | .sa _, _ | .op _ _, _ | .yl _, _ | .fn _ _, _ | .ic _ _, _ | .mp _, _ | .ax _ _ _ _ _ _ _ _, _ => by simp [cells, den, Value.cells, vsz]
  | .ch b f l y, h => by
    have : (den ρ (.ch b f l y)).oneCell' = true := by
      cases b
      · exact h.2.2 ρ
      · rfl
    simp [cells, oneCell_cells this, vsz]
theorem cellsL_length (ρ : Env) : ∀ l, okL N l → (cellsL ρ l).length = vszL l
  | [], _ => by simp [cellsL, vszL]
  | x :: l, h => by
    simp only [okL] at h
    have h1 := cells_length ρ x h.1
    have h2 := cellsL_length ρ l h.2
    simp only [cells] at h1
    simp only [cellsL, List.length_append, vszL]
    omega
end

/-- The parts of a struct or an array. -/
def parts : V → Option (List V)
  | .ag l => some l
  | .key k => some [.it .i64 k.kind, .it .i64 k.oid, .it .i64 k.count, .it .i64 k.call, .it .i64 k.rights, .it .i64 k.value]
  | .sl s => some ((List.range 16).map fun i => .key (s.at i))
  | .by b => some ((List.range 64).map fun i => .bt (b.at i))
  | .ob o => some [.it .i64 o.kind, .it .i64 o.count, .it .i64 o.calls, .sl o.slots, .by o.bytes]
  | _ => none

theorem parts_den (ρ : Env) {v : V} {l : List V} (h : parts v = some l) : den ρ v = .agg (cellsL ρ l).toArray := by
  cases v <;> simp [parts] at h <;> subst h
  · simp [den]
  · simp [den, cellsL, Value.cells, keyCells, i64]
  · simp only [den, cellsL_eq, cells, List.flatMap_map, Value.cells, slCells]
  · simp only [den, cellsL_eq, cells, List.flatMap_map, Value.cells, byCells, ← List.map_eq_flatMap]
  · simp [den, cellsL, Value.cells, obCells, i64]

theorem parts_ok {v : V} {l : List V} (h : parts v = some l) (hv : ok N v) : okL N l ∧ okC l := by
  cases v <;> simp [parts] at h <;> subst h
  · exact hv
  · obtain ⟨h1, h2, h3, h4, h5, h6⟩ := hv; simp [okL, okC, ok, h1, h2, h3, h4, h5, h6]
  · simp only [okL_iff, okC_iff, List.mem_map, List.mem_range]
    exact ⟨by rintro x ⟨i, hi, rfl⟩; exact hv i hi, by rintro x ⟨i, hi, rfl⟩; rfl⟩
  · simp [okL_iff, okC_iff, ok, isTp]
  · obtain ⟨h1, h2, h3, h4⟩ := hv; simp [okL, okC, ok, h1, h2, h3, h4]

theorem parts_isAg {v : V} {l : List V} (h : parts v = some l) : isAg v = true := by
  cases v <;> simp [parts] at h <;> rfl

/-- The part that holds a cell, and where in it. -/
def find : List V → Nat → Option (V × Nat)
  | [], _ => none
  | x :: l, off => if off < vsz x then some (x, off) else find l (off - vsz x)

/-- A part of so many cells at a cell; is a struct or an array wanted? -/
def getAt : Nat → V → Nat → Nat → Bool → Option V
  | 0, _, _, _, _ => none
  | f + 1, v, off, n, a =>
    if off == 0 && n == vsz v && a == isAg v then some v
    else match parts v with
      | none => none
      | some l => match find l off with
        | none => none
        | some (x, o) => getAt f x o n a

/-- What a value of a place is, by its cells. -/
def asPart (a : Bool) (cs : List Value) : Value := if a then .agg cs.toArray else cs.getD 0 undef

theorem find_spec (ρ : Env) : ∀ (l : List V) (off : Nat) (x : V) (o : Nat), okL N l → okC l → find l off = some (x, o) →
    ∃ p q, cellsL ρ l = p ++ cells ρ x ++ q ∧ off = p.length + o ∧ o < vsz x ∧ ok N x ∧ isTp x = false
  | [], _, _, _, _, _, h => by simp [find] at h
  | y :: l, off, x, o, hk, hc, h => by
    simp only [okL] at hk
    rw [okC_iff] at hc
    simp only [find] at h
    split at h
    · rename_i hlt
      simp only [Option.some.injEq, Prod.mk.injEq] at h
      obtain ⟨rfl, rfl⟩ := h
      exact ⟨[], cellsL ρ l, by simp [cellsL, cells], by simp, hlt, hk.1, hc _ (by simp)⟩
    · rename_i hlt
      obtain ⟨p, q, h1, h2, h3⟩ := find_spec ρ l _ x o hk.2 ((okC_iff l).2 fun z hz => hc z (by simp [hz])) h
      have hl := cells_length ρ y hk.1
      exact ⟨cells ρ y ++ p, q, by simp [cellsL, h1, cells], by simp; omega, h3⟩

theorem den_of_cells (ρ : Env) {v : V} (hv : ok N v) (ht : isTp v = false) : den ρ v = asPart (isAg v) (cells ρ v) := by
  cases h : isAg v with
  | true => cases v <;> simp_all [isAg, asPart, cells, den, Value.cells]
  | false =>
    have := den_oneCell ρ v hv h ht
    simp [asPart, cells, oneCell_cells this]

theorem getAt_spec (ρ : Env) : ∀ (f : Nat) (v : V) (off n : Nat) (a : Bool) (r : V), ok N v → isTp v = false → getAt f v off n a = some r →
    (∃ p q, cells ρ v = p ++ cells ρ r ++ q ∧ off = p.length) ∧ vsz r = n ∧ isAg r = a ∧ ok N r ∧ isTp r = false
  | 0, _, _, _, _, _, _, _, h => by simp [getAt] at h
  | f + 1, v, off, n, a, r, hv, ht, h => by
    simp only [getAt] at h
    split at h
    · rename_i hc
      simp only [Bool.and_eq_true, beq_iff_eq] at hc
      obtain ⟨⟨h1, h2⟩, h3⟩ := hc
      simp only [Option.some.injEq] at h
      subst h
      exact ⟨⟨[], [], by simp, by simpa using h1⟩, h2.symm, h3.symm, hv, ht⟩
    · cases hp : parts v with
      | none => simp [hp] at h
      | some l =>
        simp only [hp] at h
        cases hf : find l off with
        | none => simp [hf] at h
        | some xo =>
          obtain ⟨x, o⟩ := xo
          simp only [hf] at h
          obtain ⟨hl, hlc⟩ := parts_ok hp hv
          obtain ⟨p, q, h1, h2, h3, h4, h4'⟩ := find_spec ρ l off x o hl hlc hf
          obtain ⟨⟨p', q', h5, h6⟩, h7⟩ := getAt_spec ρ f x o n a r h4 h4' h
          refine ⟨⟨p ++ p', q' ++ q, ?_, by simp; omega⟩, h7⟩
          rw [cells, parts_den ρ hp]
          simp [Value.cells, h1, h5]

mutual
theorem ok_mono {M : Nat → Prop} (hM : ∀ i, N i → M i) : ∀ v, ok N v → ok M v
  | .lp _ _, h | .sc _ _ _, h | .so _ _, h | .ap _ _ _ _, h | .sa _, h | .op _ _, h | .yl _, h | .mp _, h => hM _ h
  | .ch _ _ l y, h => ⟨okL_mono hM l h.1, ok_mono hM y h.2.1, h.2.2⟩
  | .lx _ _ _ _ _ _, h => ⟨hM _ h.1, h.2⟩
  | .ax _ _ _ _ _ _ _ _, h => ⟨hM _ h.1, h.2⟩
  | .fn _ l, h | .tp l, h => okL_mono hM l h
  | .ic _ x, h => ok_mono hM x h
  | .ag l, h => ⟨okL_mono hM l h.1, h.2⟩
  | .cb _, h | .bo _, h | .ci _ _, h | .it _ _, h | .bt _, h | .st _, h | .nl _, h | .key _, h | .sl _, h | .by _, h | .ob _, h => h
theorem okL_mono {M : Nat → Prop} (hM : ∀ i, N i → M i) : ∀ l, okL N l → okL M l
  | [], _ => trivial
  | x :: l, h => ⟨ok_mono hM x h.1, okL_mono hM l h.2⟩
end

/-- Two environments that say the same of some places. -/
def Env.agree (N : Nat → Prop) (ρ ρ' : Env) : Prop := ∀ i, N i → ρ'.num i = ρ.num i ∧ ρ'.cap i = ρ.cap i ∧ ρ'.adr i = ρ.adr i ∧ ρ'.sa i = ρ.sa i ∧ ρ'.sn i = ρ.sn i ∧ ρ'.ob i = ρ.ob i

theorem Env.agree.refl (N : Nat → Prop) (ρ : Env) : Env.agree N ρ ρ := fun _ _ => ⟨rfl, rfl, rfl, rfl, rfl, rfl⟩
theorem Env.agree.trans {ρ ρ' ρ'' : Env} {M : Nat → Prop} (h : Env.agree N ρ ρ') (h' : Env.agree M ρ' ρ'') (hM : ∀ i, N i → M i) : Env.agree N ρ ρ'' := fun i hi => by
  obtain ⟨a, b, c, d, e, f⟩ := h i hi
  obtain ⟨a', b', c', d', e', f'⟩ := h' i (hM i hi)
  exact ⟨a'.trans a, b'.trans b, c'.trans c, d'.trans d, e'.trans e, f'.trans f⟩
theorem Env.agree.mono {ρ ρ' : Env} {M : Nat → Prop} (h : Env.agree N ρ ρ') (hM : ∀ i, M i → N i) : Env.agree M ρ ρ' := fun i hi => h i (hM i hi)

mutual
theorem den_agree {ρ ρ' : Env} (h : Env.agree N ρ ρ') : ∀ v, ok N v → den ρ' v = den ρ v
  | .lp id _, hv => by simp only [den, (h id hv).1]
  | .yl id, hv => by simp only [den, (h id hv).1]
  | .mp id, hv => by simp only [den, (h id hv).1]
  | .ch b f l y, hv => by
    cases b
    · simp only [den]; exact den_agree h y hv.2.1
    · simp only [den, denL_agree h l hv.1]
  | .lx id _ _ _ _ _, hv => by simp only [den, (h id hv.1).1]
  | .sc id _ _, hv => by simp only [den, (h id hv).1]
  | .so id _, hv => by simp only [den, (h id hv).1, (h id hv).2.1]
  | .ap id _ _ _, hv => by simp only [den, (h id hv).2.2.1]
  | .ax id _ _ _ _ _ _ _, hv => by simp only [den, (h id hv.1).2.2.1]
  | .sa id, hv => by simp only [den, (h id hv).2.1, (h id hv).2.2.2.1, (h id hv).2.2.2.2.1]
  | .op id _, hv => by simp only [den, (h id hv).2.2.2.2.2]
  | .fn _ l, hv => by simp only [den, denL_agree h l hv]
  | .tp l, hv => by simp only [den, denL_agree h l hv]
  | .ag l, hv => by simp only [den, cellsL_agree h l hv.1]
  | .ic _ x, hv => by simp only [den, den_agree h x hv]
  | .cb _, _ | .bo _, _ | .ci _ _, _ | .it _ _, _ | .bt _, _ | .st _, _ | .nl _, _ | .key _, _ | .sl _, _ | .by _, _ | .ob _, _ => by simp only [den]
theorem denL_agree {ρ ρ' : Env} (h : Env.agree N ρ ρ') : ∀ l, okL N l → denL ρ' l = denL ρ l
  | [], _ => rfl
  | x :: l, hv => by simp only [denL, den_agree h x hv.1, denL_agree h l hv.2]
theorem cellsL_agree {ρ ρ' : Env} (h : Env.agree N ρ ρ') : ∀ l, okL N l → cellsL ρ' l = cellsL ρ l
  | [], _ => rfl
  | x :: l, hv => by simp only [cellsL, den_agree h x hv.1, cellsL_agree h l hv.2]
end

theorem cells_agree {ρ ρ' : Env} (h : Env.agree N ρ ρ') (v : V) (hv : ok N v) : cells ρ' v = cells ρ v := by simp only [cells, den_agree h v hv]

end Go.Sx
