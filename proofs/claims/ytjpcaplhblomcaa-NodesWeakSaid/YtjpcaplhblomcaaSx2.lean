/- The symbolic values of the executor: how a part of one is replaced, at a known place and at an index that is a term. No condition. -/
import Derived.Test.YtjpcaplhblomcaaSx1
set_option linter.unusedVariables false
set_option linter.unusedSimpArgs false
namespace Go.Sx
variable {N : Nat → Prop}

theorem Slots.at_put (s : Slots) (i : Nat) (k : Key) (j : Nat) (h : i < 16) : (s.put i k).at j = if j = i then k else s.at j := by
  unfold Slots.at Slots.put
  simp only [Vector.toArray_setIfInBounds, Array.getD_eq_getD_getElem?]
  by_cases e : j = i
  · subst e; simp [h]
  · rw [if_neg e, Array.getElem?_setIfInBounds_ne (Ne.symm e)]

theorem Bytes.at_put (s : Bytes) (i : Nat) (k : UInt8) (j : Nat) (h : i < 64) : (s.put i k).at j = if j = i then k else s.at j := by
  unfold Bytes.at Bytes.put
  simp only [Vector.toArray_setIfInBounds, Array.getD_eq_getD_getElem?]
  by_cases e : j = i
  · subst e; simp [h]
  · rw [if_neg e, Array.getElem?_setIfInBounds_ne (Ne.symm e)]

theorem flat_split {α : Type} (f : Nat → List α) (n i : Nat) (h : i < n) :
    (List.range n).flatMap f = (List.range i).flatMap f ++ f i ++ (List.range' (i + 1) (n - i - 1)).flatMap f := by
  have e : List.range n = List.range i ++ (i :: List.range' (i + 1) (n - i - 1)) := by
    have h1 := List.range'_append (s := 0) (m := i) (n := n - i - 1 + 1) (step := 1)
    rw [List.range_eq_range', List.range_eq_range', ← List.range'_succ]
    simp only [Nat.zero_add, Nat.one_mul] at h1
    rw [h1]
    congr 1; omega
  rw [e]
  simp

theorem flat_congr {α : Type} (f g : Nat → List α) (l : List Nat) (h : ∀ j ∈ l, f j = g j) : l.flatMap f = l.flatMap g := by
  induction l with
  | nil => rfl
  | cons x l ih => simp [h x (by simp), ih fun j hj => h j (by simp [hj])]

theorem flat_length {α : Type} (f : Nat → List α) (m : Nat) (l : List Nat) (h : ∀ j, (f j).length = m) : (l.flatMap f).length = l.length * m := by
  induction l with
  | nil => simp
  | cons x l ih => simp [h x, ih, Nat.succ_mul]; omega

theorem slCells_at (s : Slots) (i : Nat) (h : i < 16) :
    ∃ p q, slCells s = p ++ keyCells (s.at i) ++ q ∧ p.length = i * 6 ∧ ∀ k, slCells (s.put i k) = p ++ keyCells k ++ q := by
  refine ⟨_, _, flat_split _ 16 i h, by rw [flat_length _ 6 _ (fun j => keyCells_length _)]; simp, fun k => ?_⟩
  unfold slCells
  rw [flat_split _ 16 i h, Slots.at_put _ _ _ _ h, if_pos rfl]
  congr 1
  · congr 1
    refine flat_congr _ _ _ fun j hj => ?_
    rw [Slots.at_put _ _ _ _ h, if_neg (by simp at hj; omega)]
  · refine flat_congr _ _ _ fun j hj => ?_
    rw [Slots.at_put _ _ _ _ h, if_neg (by simp [List.mem_range'] at hj; omega)]

theorem Slots.wf_put {s : Slots} {i : Nat} {k : Key} (h : s.wf) (hk : k.wf) (hi : i < 16) : (s.put i k).wf := by
  intro j hj
  rw [Slots.at_put _ _ _ _ hi]
  split
  · exact hk
  · exact h j hj

theorem byCells_at (s : Bytes) (i : Nat) (h : i < 64) :
    ∃ p q, byCells s = p ++ [.int .u8 ((s.at i).toNat : Int)] ++ q ∧ p.length = i ∧ ∀ k, byCells (s.put i k) = p ++ [.int .u8 (k.toNat : Int)] ++ q := by
  have e : ∀ t : Bytes, byCells t = (List.range 64).flatMap fun j => [.int .u8 ((t.at j).toNat : Int)] := fun t => by
    simp [byCells, ← List.map_eq_flatMap]
  refine ⟨_, _, (e s).trans (flat_split _ 64 i h), by rw [flat_length _ 1 _ (fun j => rfl)]; simp, fun k => ?_⟩
  rw [e, flat_split _ 64 i h, Bytes.at_put _ _ _ _ h, if_pos rfl]
  congr 1
  · congr 1
    refine flat_congr _ _ _ fun j hj => ?_
    rw [Bytes.at_put _ _ _ _ h, if_neg (by simp at hj; omega)]
  · refine flat_congr _ _ _ fun j hj => ?_
    rw [Bytes.at_put _ _ _ _ h, if_neg (by simp [List.mem_range'] at hj; omega)]

/-- An int64 that is known or not. -/
def toI64 : V → Option Int
  | .ci .i64 n => some n
  | .it .i64 n => some n
  | _ => none

theorem toI64_spec (ρ : Env) {v : V} {n : Int} (h : toI64 v = some n) : cells ρ v = [i64 n] ∧ vsz v = 1 ∧ (ok N v → inR .i64 n) := by
  cases v <;> simp [toI64] at h
  · rename_i k m; cases k <;> simp at h; subst h; exact ⟨rfl, rfl, id⟩
  · rename_i k m; cases k <;> simp at h; subst h; exact ⟨rfl, rfl, id⟩

/-- A byte that is known or not. -/
def toByte : V → Option UInt8
  | .bt b => some b
  | .ci .u8 n => if decide (0 ≤ n) && decide (n < 256) then some (UInt8.ofNat n.toNat) else none
  | _ => none

theorem toByte_spec (ρ : Env) {v : V} {n : UInt8} (h : toByte v = some n) : cells ρ v = [.int .u8 (n.toNat : Int)] ∧ vsz v = 1 := by
  cases v <;> simp [toByte] at h
  · rename_i k m
    cases k <;> simp at h
    obtain ⟨⟨h1, h2⟩, rfl⟩ := h
    refine ⟨?_, rfl⟩
    simp only [cells, den, Value.cells]
    simp
    omega
  · subst h; exact ⟨rfl, rfl⟩

def setIn (g : V → Nat → V → Option V) : List V → Nat → V → Option (List V)
  | [], _, _ => none
  | x :: l, off, y => if off < vsz x then (g x off y).map (· :: l) else (setIn g l (off - vsz x) y).map (x :: ·)

def setKey (k : Key) (off : Nat) (y : V) : Option V :=
  match toI64 y with
  | none => none
  | some n => match off with
    | 0 => some (.key { k with kind := n })
    | 1 => some (.key { k with oid := n })
    | 2 => some (.key { k with count := n })
    | 3 => some (.key { k with call := n })
    | 4 => some (.key { k with rights := n })
    | 5 => some (.key { k with value := n })
    | _ => none

def setOb (o : Obj) (off : Nat) (y : V) : Option V :=
  match toI64 y with
  | none => none
  | some n => match off with
    | 0 => some (.ob { o with kind := n })
    | 1 => some (.ob { o with count := n })
    | 2 => some (.ob { o with calls := n })
    | _ => none

/-- A value with another one in the place of the part at a cell. -/
def setAt : Nat → V → Nat → V → Option V
  | 0, _, _, _ => none
  | f + 1, v, off, y =>
    if off == 0 && vsz y == vsz v && isAg y == isAg v then some y
    else match v with
      | .ag l => (setIn (setAt f) l off y).map .ag
      | .key k => setKey k off y
      | .sl s => if off < 96 then match setAt f (.key (s.at (off / 6))) (off % 6) y with
          | some (.key k) => some (.sl (s.put (off / 6) k))
          | _ => none
        else none
      | .by b => if off < 64 then (toByte y).map fun x => .by (b.put off x) else none
      | .ob o => if off < 3 then setOb o off y
        else if off < 99 then match setAt f (.sl o.slots) (off - 3) y with
          | some (.sl s) => some (.ob { o with slots := s })
          | _ => none
        else match setAt f (.by o.bytes) (off - 99) y with
          | some (.by s) => some (.ob { o with bytes := s })
          | _ => none
      | _ => none

/-- What stands for a value with a part replaced. -/
def Put (N : Nat → Prop) (ρ : Env) (v v' : V) (off : Nat) (y : V) : Prop :=
  (∃ p m q, cells ρ v = p ++ m ++ q ∧ cells ρ v' = p ++ cells ρ y ++ q ∧ p.length = off ∧ m.length = vsz y) ∧ isAg v' = isAg v ∧ ok N v' ∧ isTp v' = false

theorem setKey_spec (ρ : Env) {k : Key} {off : Nat} {y v' : V} (hk0 : k.wf) (hy0 : ok N y) (h : setKey k off y = some v') : Put N ρ (.key k) v' off y := by
  obtain ⟨w1, w2, w3, w4, w5, w6⟩ := hk0
  unfold setKey at h
  cases hy : toI64 y with
  | none => simp [hy] at h
  | some n =>
    simp only [hy] at h
    obtain ⟨h1, h2, hn⟩ := toI64_spec (N := N) ρ hy
    have hn := hn hy0
    have hk : cells ρ (.key k) = keyCells k := by simp [cells, den, Value.cells]
    split at h <;> simp only [Option.some.injEq, reduceCtorEq] at h <;> subst h <;>
      refine ⟨?_, rfl, ⟨by assumption, by assumption, by assumption, by assumption, by assumption, by assumption⟩, rfl⟩ <;> rw [h1, h2, hk] <;> simp only [cells, den, Value.cells, keyCells]
    · exact ⟨[], [i64 k.kind], _, rfl, rfl, rfl, rfl⟩
    · exact ⟨[i64 k.kind], [i64 k.oid], _, rfl, rfl, rfl, rfl⟩
    · exact ⟨[i64 k.kind, i64 k.oid], [i64 k.count], _, rfl, rfl, rfl, rfl⟩
    · exact ⟨[i64 k.kind, i64 k.oid, i64 k.count], [i64 k.call], _, rfl, rfl, rfl, rfl⟩
    · exact ⟨[i64 k.kind, i64 k.oid, i64 k.count, i64 k.call], [i64 k.rights], _, rfl, rfl, rfl, rfl⟩
    · exact ⟨[i64 k.kind, i64 k.oid, i64 k.count, i64 k.call, i64 k.rights], [i64 k.value], [], rfl, rfl, rfl, rfl⟩

theorem cells_ob (ρ : Env) (o : Obj) : cells ρ (.ob o) = obCells o := by simp [cells, den, Value.cells]
theorem cells_sl (ρ : Env) (o : Slots) : cells ρ (.sl o) = slCells o := by simp [cells, den, Value.cells]
theorem cells_by (ρ : Env) (o : Bytes) : cells ρ (.by o) = byCells o := by simp [cells, den, Value.cells]
theorem cells_key (ρ : Env) (o : Key) : cells ρ (.key o) = keyCells o := by simp [cells, den, Value.cells]
theorem cells_ag (ρ : Env) (l : List V) : cells ρ (.ag l) = cellsL ρ l := by simp [cells, den, Value.cells]

theorem setOb_spec (ρ : Env) {o : Obj} {off : Nat} {y v' : V} (hk0 : o.wf) (hy0 : ok N y) (h : setOb o off y = some v') : Put N ρ (.ob o) v' off y := by
  obtain ⟨w1, w2, w3, w4⟩ := hk0
  unfold setOb at h
  cases hy : toI64 y with
  | none => simp [hy] at h
  | some n =>
    simp only [hy] at h
    obtain ⟨h1, h2, hn⟩ := toI64_spec (N := N) ρ hy
    have hn := hn hy0
    split at h <;> simp only [Option.some.injEq, reduceCtorEq] at h <;> subst h <;>
      refine ⟨?_, rfl, ⟨by assumption, by assumption, by assumption, by assumption⟩, rfl⟩ <;> rw [h1, h2, cells_ob, cells_ob] <;> simp only [obCells]
    · exact ⟨[], [i64 o.kind], _, rfl, rfl, rfl, rfl⟩
    · exact ⟨[i64 o.kind], [i64 o.count], _, rfl, rfl, rfl, rfl⟩
    · exact ⟨[i64 o.kind, i64 o.count], [i64 o.calls], _, rfl, rfl, rfl, rfl⟩

theorem Put.whole (ρ : Env) {v y : V} (hv : ok N v) (hy : ok N y) (hs : vsz y = vsz v) (ha : isAg y = isAg v) (ht : isTp y = false) : Put N ρ v y 0 y :=
  ⟨⟨[], cells ρ v, [], by simp, by simp, rfl, by rw [cells_length ρ v hv, hs]⟩, ha, hy, ht⟩

theorem setIn_spec (ρ : Env) (g : V → Nat → V → Option V) (y : V)
    (hg : ∀ x off x', ok N x → isTp x = false → g x off y = some x' → Put N ρ x x' off y) :
    ∀ (l : List V) (off : Nat) (l' : List V), okL N l → okC l → setIn g l off y = some l' → Put N ρ (.ag l) (.ag l') off y
  | [], _, _, _, _, h => by simp [setIn] at h
  | x :: l, off, l', hk, hc, h => by
    have hc' := (okC_iff _).1 hc
    simp only [okL] at hk
    simp only [setIn] at h
    split at h
    · cases hx : g x off y with
      | none => simp [hx] at h
      | some x' =>
        simp only [hx, Option.map_some, Option.some.injEq] at h
        subst h
        obtain ⟨⟨p, m, q, h1, h2, h3, h4⟩, _, h6, h7⟩ := hg x off x' hk.1 (hc' x (by simp)) hx
        refine ⟨⟨p, m, q ++ cellsL ρ l, ?_, ?_, h3, h4⟩, rfl, ⟨⟨h6, hk.2⟩, (okC_iff _).2 ?_⟩, rfl⟩
        · rw [cells_ag]; simp only [cellsL]; rw [show (den ρ x).cells.toList = cells ρ x from rfl, h1]; simp
        · rw [cells_ag]; simp only [cellsL]; rw [show (den ρ x').cells.toList = cells ρ x' from rfl, h2]; simp
        · intro z hz
          rcases List.mem_cons.1 hz with rfl | hz
          · exact h7
          · exact hc' z (by simp [hz])
    · cases hx : setIn g l (off - vsz x) y with
      | none => simp [hx] at h
      | some l2 =>
        simp only [hx, Option.map_some, Option.some.injEq] at h
        subst h
        obtain ⟨⟨p, m, q, h1, h2, h3, h4⟩, _, h6, _⟩ := setIn_spec ρ g y hg l _ l2 hk.2 ((okC_iff _).2 fun z hz => hc' z (by simp [hz])) hx
        have hl := cells_length ρ x hk.1
        rw [cells_ag] at h1 h2
        refine ⟨⟨cells ρ x ++ p, m, q, ?_, ?_, by simp; omega, h4⟩, rfl, ⟨⟨hk.1, h6.1⟩, (okC_iff _).2 ?_⟩, rfl⟩
        · rw [cells_ag]; simp only [cellsL, h1]; simp [cells]
        · rw [cells_ag]; simp only [cellsL, h2]; simp [cells]
        · intro z hz
          rcases List.mem_cons.1 hz with rfl | hz
          · exact hc' _ (by simp)
          · exact (okC_iff _).1 h6.2 z hz

theorem setAt_spec (ρ : Env) (y : V) (hy : ok N y) (hty : isTp y = false) : ∀ (f : Nat) (v : V) (off : Nat) (v' : V), ok N v → isTp v = false → setAt f v off y = some v' → Put N ρ v v' off y
  | 0, _, _, _, _, _, h => by simp [setAt] at h
  | f + 1, v, off, v', hv, ht, h => by
    simp only [setAt] at h
    split at h
    · rename_i hc
      simp only [Bool.and_eq_true, beq_iff_eq] at hc
      obtain ⟨⟨rfl, h2⟩, h3⟩ := hc
      simp only [Option.some.injEq] at h
      subst h
      exact Put.whole ρ hv hy h2 h3 hty
    · split at h
      · rename_i l _
        cases hs : setIn (setAt f) l off y with
        | none => simp [hs] at h
        | some l' =>
          simp only [hs, Option.map_some, Option.some.injEq] at h
          subst h
          exact setIn_spec ρ _ y (fun x o x' hx hxt hg => setAt_spec ρ y hy hty f x o x' hx hxt hg) l off l' hv.1 hv.2 hs
      · exact setKey_spec ρ hv hy h
      · rename_i s _
        split at h
        · rename_i hlt
          split at h <;> simp only [Option.some.injEq, reduceCtorEq] at h
          rename_i k hk
          subst h
          obtain ⟨⟨p, m, q, h1, h2, h3, h4⟩, _, hkw, _⟩ := setAt_spec ρ y hy hty f (.key _) _ _ (hv (off / 6) (by omega)) rfl hk
          obtain ⟨P, Q, e1, e2, e3⟩ := slCells_at s (off / 6) (by omega)
          rw [cells_key] at h1 h2
          refine ⟨⟨P ++ p, m, q ++ Q, ?_, ?_, by simp; omega, h4⟩, rfl, Slots.wf_put hv hkw (by omega), rfl⟩
          · rw [cells_sl, e1, h1]; simp
          · rw [cells_sl, e3, h2]; simp
        · simp at h
      · rename_i b _
        split at h
        · rename_i hlt
          cases hb : toByte y with
          | none => simp [hb] at h
          | some x =>
            simp only [hb, Option.map_some, Option.some.injEq] at h
            subst h
            obtain ⟨h1, h2⟩ := toByte_spec ρ hb
            obtain ⟨P, Q, e1, e2, e3⟩ := byCells_at b off hlt
            refine ⟨⟨P, [.int .u8 ((b.at off).toNat : Int)], Q, ?_, ?_, e2, ?_⟩, rfl, trivial, rfl⟩
            · rw [cells_by, e1]
            · rw [cells_by, e3, h1]
            · rw [h2]; rfl
        · simp at h
      · rename_i o _
        split at h
        · exact setOb_spec ρ hv hy h
        · split at h
          · split at h <;> simp only [Option.some.injEq, reduceCtorEq] at h
            rename_i s hs
            subst h
            obtain ⟨w1, w2, w3, w4⟩ := hv
            obtain ⟨⟨p, m, q, h1, h2, h3, h4⟩, _, hsw, _⟩ := setAt_spec ρ y hy hty f (.sl _) _ _ w4 rfl hs
            rw [cells_sl] at h1 h2
            refine ⟨⟨i64 o.kind :: i64 o.count :: i64 o.calls :: p, m, q ++ byCells o.bytes, ?_, ?_, by simp; omega, h4⟩, rfl, ⟨w1, w2, w3, hsw⟩, rfl⟩
            · rw [cells_ob, obCells, h1]; simp
            · rw [cells_ob, obCells]; simp only [h2]; simp
          · split at h <;> simp only [Option.some.injEq, reduceCtorEq] at h
            rename_i s hs
            subst h
            obtain ⟨⟨p, m, q, h1, h2, h3, h4⟩, _⟩ := setAt_spec ρ y hy hty f (.by _) _ _ trivial rfl hs
            rw [cells_by] at h1 h2
            have hl := slCells_length o.slots
            refine ⟨⟨i64 o.kind :: i64 o.count :: i64 o.calls :: (slCells o.slots ++ p), m, q, ?_, ?_, by simp; omega, h4⟩, rfl, hv, rfl⟩
            · rw [cells_ob, obCells, h1]; simp
            · rw [cells_ob, obCells]; simp only [h2]; simp
      · simp at h

theorem Put.size {ρ : Env} {v v' y : V} {off : Nat} (h : Put N ρ v v' off y) (hy : ok N y) : (cells ρ v').length = (cells ρ v).length := by
  obtain ⟨⟨p, m, q, h1, h2, h3, h4⟩, _⟩ := h
  rw [h1, h2]
  simp [cells_length ρ y hy, h4]

/-- A part at an index that is a term. -/
def getX (v : V) (esz n i inner sz : Nat) (a : Bool) : Option V :=
  match v with
  | .sl s => if esz == 6 && n == 16 then getAt 3 (.key (s.at i)) inner sz a else none
  | .by b => if esz == 1 && n == 64 && inner == 0 && sz == 1 && !a then some (.bt (b.at i)) else none
  | _ => none

theorem getX_spec (ρ : Env) {v : V} {esz n i inner sz : Nat} {a : Bool} {r : V} (hv : ok N v) (hi : i < n) (h : getX v esz n i inner sz a = some r) :
    (∃ p q, cells ρ v = p ++ cells ρ r ++ q ∧ i * esz + inner = p.length) ∧ vsz r = sz ∧ isAg r = a ∧ ok N r ∧ isTp r = false := by
  cases v <;> simp only [getX, reduceCtorEq] at h
  · rename_i s
    split at h
    · rename_i hc
      simp only [Bool.and_eq_true, beq_iff_eq] at hc
      obtain ⟨rfl, rfl⟩ := hc
      obtain ⟨⟨p, q, h1, h2⟩, h3⟩ := getAt_spec ρ 3 (.key _) _ _ _ _ (hv i hi) rfl h
      obtain ⟨P, Q, e1, e2, e3⟩ := slCells_at s i hi
      rw [cells_key] at h1
      exact ⟨⟨P ++ p, q ++ Q, by rw [cells_sl, e1, h1]; simp, by simp; omega⟩, h3⟩
    · simp at h
  · rename_i b
    split at h
    · rename_i hc
      simp only [Bool.and_eq_true, beq_iff_eq, Bool.not_eq_true'] at hc
      obtain ⟨⟨⟨⟨rfl, rfl⟩, rfl⟩, rfl⟩, rfl⟩ := hc
      simp only [Option.some.injEq] at h
      subst h
      obtain ⟨P, Q, e1, e2, e3⟩ := byCells_at b i hi
      exact ⟨⟨P, Q, by rw [cells_by, e1]; rfl, by omega⟩, rfl, rfl, trivial, rfl⟩
    · simp at h

def setX (v : V) (esz n i inner : Nat) (y : V) : Option V :=
  match v with
  | .sl s => if esz == 6 && n == 16 then match setAt 3 (.key (s.at i)) inner y with
      | some (.key k) => some (.sl (s.put i k))
      | _ => none
    else none
  | .by b => if esz == 1 && n == 64 && inner == 0 then (toByte y).map fun x => .by (b.put i x) else none
  | _ => none

theorem setX_spec (ρ : Env) {v : V} {esz n i inner : Nat} {y v' : V} (hv : ok N v) (hi : i < n) (hy : ok N y) (hty : isTp y = false) (h : setX v esz n i inner y = some v') :
    Put N ρ v v' (i * esz + inner) y ∧ vsz v' = vsz v := by
  cases v <;> simp only [setX, reduceCtorEq] at h
  · rename_i s
    split at h
    · rename_i hc
      simp only [Bool.and_eq_true, beq_iff_eq] at hc
      obtain ⟨rfl, rfl⟩ := hc
      split at h <;> simp only [Option.some.injEq, reduceCtorEq] at h
      rename_i k hk
      subst h
      obtain ⟨⟨p, m, q, h1, h2, h3, h4⟩, _, hkw, _⟩ := setAt_spec ρ y hy hty _ (.key _) _ _ (hv i hi) rfl hk
      obtain ⟨P, Q, e1, e2, e3⟩ := slCells_at s i hi
      rw [cells_key] at h1 h2
      refine ⟨⟨⟨P ++ p, m, q ++ Q, ?_, ?_, by simp; omega, h4⟩, rfl, Slots.wf_put hv hkw hi, rfl⟩, rfl⟩
      · rw [cells_sl, e1, h1]; simp
      · rw [cells_sl, e3, h2]; simp
    · simp at h
  · rename_i b
    split at h
    · rename_i hc
      simp only [Bool.and_eq_true, beq_iff_eq] at hc
      obtain ⟨⟨rfl, rfl⟩, rfl⟩ := hc
      cases hb : toByte y with
      | none => simp [hb] at h
      | some x =>
        simp only [hb, Option.map_some, Option.some.injEq] at h
        subst h
        obtain ⟨h1, h2⟩ := toByte_spec ρ hb
        obtain ⟨P, Q, e1, e2, e3⟩ := byCells_at b i hi
        refine ⟨⟨⟨P, [.int .u8 ((b.at i).toNat : Int)], Q, ?_, ?_, by omega, ?_⟩, rfl, trivial, rfl⟩, rfl⟩
        · rw [cells_by, e1]
        · rw [cells_by, e3, h1]
        · rw [h2]; rfl
    · simp at h

/-- A part at an index behind a part. -/
def getLx (c : V) (off esz n i inner sz : Nat) (a : Bool) : Option V :=
  match getAt 8 c off (n * esz) true with
  | none => none
  | some x => getX x esz n i inner sz a

def setLx (c : V) (off esz n i inner : Nat) (y : V) : Option V :=
  match getAt 8 c off (n * esz) true with
  | none => none
  | some x => match setX x esz n i inner y with
    | none => none
    | some x' => setAt 8 c off x'

theorem getLx_spec (ρ : Env) {c : V} {off esz n i inner sz : Nat} {a : Bool} {r : V} (hc : ok N c) (ht : isTp c = false) (hi : i < n) (h : getLx c off esz n i inner sz a = some r) :
    (∃ p q, cells ρ c = p ++ cells ρ r ++ q ∧ off + i * esz + inner = p.length) ∧ vsz r = sz ∧ isAg r = a ∧ ok N r ∧ isTp r = false := by
  unfold getLx at h
  cases hx : getAt 8 c off (n * esz) true with
  | none => simp [hx] at h
  | some x =>
    simp only [hx] at h
    obtain ⟨⟨p, q, h1, h2⟩, _, _, h5, h6⟩ := getAt_spec ρ _ _ _ _ _ _ hc ht hx
    obtain ⟨⟨p', q', h1', h2'⟩, h3⟩ := getX_spec ρ h5 hi h
    exact ⟨⟨p ++ p', q' ++ q, by rw [h1, h1']; simp, by simp; omega⟩, h3⟩

theorem append_inj_mid {α : Type} {p p' m m' q q' : List α} (h : p ++ m ++ q = p' ++ m' ++ q') (h1 : p.length = p'.length) (h2 : m.length = m'.length) : p = p' ∧ m = m' ∧ q = q' := by
  rw [List.append_assoc, List.append_assoc] at h
  obtain ⟨e1, e2⟩ := List.append_inj h h1
  obtain ⟨e3, e4⟩ := List.append_inj e2 h2
  exact ⟨e1, e3, e4⟩

theorem setLx_spec (ρ : Env) {c : V} {off esz n i inner : Nat} {y c' : V} (hc : ok N c) (ht : isTp c = false) (hi : i < n) (hy : ok N y) (hty : isTp y = false) (h : setLx c off esz n i inner y = some c') :
    Put N ρ c c' (off + i * esz + inner) y := by
  unfold setLx at h
  cases hx : getAt 8 c off (n * esz) true with
  | none => simp [hx] at h
  | some x =>
    simp only [hx] at h
    cases hx' : setX x esz n i inner y with
    | none => simp [hx'] at h
    | some x' =>
      simp only [hx'] at h
      obtain ⟨⟨p, q, h1, h2⟩, hsz, _, h5, h6⟩ := getAt_spec ρ _ _ _ _ _ _ hc ht hx
      obtain ⟨⟨⟨P, M, Q, e1, e2, e3, e4⟩, e5, e6, e7⟩, e8⟩ := setX_spec ρ h5 hi hy hty hx'
      obtain ⟨⟨p2, m2, q2, f1, f2, f3, f4⟩, f5, f6, f7⟩ := setAt_spec ρ x' e6 e7 8 c off c' hc ht h
      obtain ⟨rfl, rfl, rfl⟩ := append_inj_mid (f1.symm.trans h1) (by omega) (by rw [f4, cells_length ρ x h5, e8])
      refine ⟨⟨p2 ++ P, M, Q ++ q2, ?_, ?_, by simp; omega, e4⟩, f5, f6, f7⟩
      · rw [h1, e1]; simp
      · rw [f2, e2]; simp

end Go.Sx
