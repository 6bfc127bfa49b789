/- Objects in plain Lean. No condition. -/
import Derived.Test.YtjpcaplhblomcaaCtK
set_option linter.unusedVariables false
set_option linter.unusedSimpArgs false
namespace Go.Sx
def q_slotOk (kind n : Int) (k : Key) : Bool := q_keyOk k && decide (q_names k < n) && (decide (kind = 1) || decide (k = void))
/-- May an object be, in a store of so many? -/
def q_objOk (o : Obj) (n : Int) : Bool :=
  decide (1 ≤ n) && decide (n ≤ 64) && decide (0 ≤ o.kind) && decide (o.kind ≤ 3) && decide (0 ≤ o.count) && decide (o.count ≤ 4294967295) && decide (0 ≤ o.calls) && decide (o.calls ≤ 4294967295) &&
  (decide (o.kind = 1) || decide (o.calls = 0)) && (List.range 16).all (fun i => q_slotOk o.kind n (o.slots.at i)) &&
  (List.range 64).all (fun i => decide (o.kind = 1) || decide (o.kind = 2) || decide (o.bytes.at i = 0))
def q_ochk (o : Obj) (n : Int) : Int := if q_objOk o n then 0 else 2
def q_bare (o : Obj) (b : Bool) : Bool := decide (o.slots = noSlots) && (b || decide (o.bytes = noBytes)) && decide (o.calls = 0)
def q_inv1 (o : Obj) (n : Int) (i : Int) : Prop := 0 ≤ i ∧ i ≤ 16 ∧ ∀ j : Nat, (j : Int) < i → q_slotOk o.kind n (o.slots.at j) = true
def q_inv2 (o : Obj) (n : Int) (i : Int) : Prop := 0 ≤ i ∧ i ≤ 64 ∧ (∀ j : Nat, j < 16 → q_slotOk o.kind n (o.slots.at j) = true) ∧ ∀ j : Nat, (j : Int) < i → (o.kind = 1 ∨ o.kind = 2 ∨ o.bytes.at j = 0)
def q_fin (o : Obj) (n : Int) (i : Int) : Bool := (List.range i.toNat).all fun j => q_keyOk (o.slots.at j) && decide (q_names (o.slots.at j) < n)
def q_inv3 (i : Int) : Prop := 0 ≤ i ∧ i ≤ 16
def g_bare : Ct := mk2 rO toBool fun o b => .bo (q_bare o b)
def g_ochk : Ct := mk2 rO (rI .i64) fun o n => .it .i64 (q_ochk o n)

theorem objOk_iff {o : Obj} {n : Int} : q_objOk o n = true ↔ 1 ≤ n ∧ n ≤ 64 ∧ 0 ≤ o.kind ∧ o.kind ≤ 3 ∧ 0 ≤ o.count ∧ o.count ≤ 4294967295 ∧ 0 ≤ o.calls ∧ o.calls ≤ 4294967295 ∧
    (o.kind = 1 ∨ o.calls = 0) ∧ (∀ i, i < 16 → q_slotOk o.kind n (o.slots.at i) = true) ∧ ∀ i, i < 64 → (o.kind = 1 ∨ o.kind = 2) ∨ o.bytes.at i = 0 := by
  simp only [q_objOk, Bool.and_eq_true, decide_eq_true_eq, Bool.or_eq_true, List.all_eq_true, List.mem_range, and_assoc]
theorem ochk_no {o : Obj} {n : Int} (h : ¬ q_objOk o n = true) : 2 = q_ochk o n := by simp [q_ochk, h]
theorem ochk_yes {o : Obj} {n : Int} (h : q_objOk o n = true) : 0 = q_ochk o n := by simp [q_ochk, h]
theorem slot_cond (kind n : Int) (k : Key) : (!decide (q_chk k = 0) || decide (n ≤ q_names k) || !decide (kind = 1) && !keq k void) = !q_slotOk kind n k := by
  unfold q_slotOk q_chk keq
  cases q_keyOk k <;> grind
theorem b2i_eq0 (b : UInt8) : decide (b2i b = 0) = decide (b = 0) := by
  rw [decide_eq_decide, b2i]
  constructor
  · intro h
    have : b.toNat = 0 := by omega
    exact UInt8.toNat_inj.1 (by simpa using this)
  · rintro rfl; rfl
theorem at_void {s : Slots} : s = noSlots ↔ ∀ i, i < 16 → s.at i = void := by
  constructor
  · rintro rfl i _; exact noSlots_at i
  · intro h
    refine Vector.ext fun i hi => ?_
    have := h i hi
    unfold Slots.at at this
    simp only [noSlots, Vector.getElem_replicate]
    rw [← this]
    simp [hi]
theorem at_zero {s : Bytes} : s = noBytes ↔ ∀ i, i < 64 → s.at i = 0 := by
  constructor
  · rintro rfl i hi
    unfold Bytes.at noBytes
    simp [hi]
  · intro h
    refine Vector.ext fun i hi => ?_
    have := h i hi
    unfold Bytes.at at this
    simp only [noBytes, Vector.getElem_replicate]
    rw [← this]
    simp [hi]
theorem void_ok : q_keyOk void = true ∧ q_names void = -1 := by decide
theorem slotOk_void {kind n : Int} (hk : kind ≠ 1) (hn : 1 ≤ n) (k : Key) : q_slotOk kind n k = true ↔ k = void := by
  unfold q_slotOk
  simp only [Bool.and_eq_true, decide_eq_true_eq, Bool.or_eq_true]
  constructor
  · rintro ⟨_, h | h⟩
    · exact absurd h hk
    · exact h
  · rintro rfl
    exact ⟨⟨void_ok.1, by rw [void_ok.2]; omega⟩, .inr rfl⟩
theorem bare_iff {o : Obj} {b : Bool} : q_bare o b = true ↔ (∀ i, i < 16 → o.slots.at i = void) ∧ (b = true ∨ ∀ i, i < 64 → o.bytes.at i = 0) ∧ o.calls = 0 := by
  simp only [q_bare, Bool.and_eq_true, decide_eq_true_eq, Bool.or_eq_true, at_void, at_zero, and_assoc]
/-- An object of a kind other than a node's may be if it is bare. -/
theorem objOk_bare {o : Obj} {n : Int} (h1 : 1 ≤ n) (h2 : n ≤ 64) (h3 : 0 ≤ o.count) (h4 : o.count ≤ 4294967295) (h5 : 0 ≤ o.calls) (h6 : o.calls ≤ 4294967295) {b : Bool} (hk : 0 ≤ o.kind ∧ o.kind ≤ 3 ∧ o.kind ≠ 1) (hb : b = decide (o.kind = 2)) :
    q_objOk o n = q_bare o b := by
  rw [Bool.eq_iff_iff, objOk_iff, bare_iff]
  subst hb
  constructor
  · rintro ⟨_, _, _, _, _, _, _, _, h, hs, hz⟩
    refine ⟨fun i hi => (slotOk_void hk.2.2 h1 _).1 (hs i hi), ?_, h.resolve_left hk.2.2⟩
    by_cases h2 : o.kind = 2
    · exact .inl (by simp [h2])
    · exact .inr fun i hi => (hz i hi).resolve_left fun h => h.elim hk.2.2 h2
  · rintro ⟨hs, hz, hc⟩
    refine ⟨h1, h2, hk.1, hk.2.1, h3, h4, h5, h6, .inr hc, fun i hi => (slotOk_void hk.2.2 h1 _).2 (hs i hi), fun i hi => ?_⟩
    rcases hz with h | h
    · exact .inl (.inr (by simpa using h))
    · exact .inr (h i hi)
/-- A node may be if its keys may. -/
theorem objOk_node {o : Obj} {n : Int} (h1 : 1 ≤ n) (h2 : n ≤ 64) (h3 : 0 ≤ o.count) (h4 : o.count ≤ 4294967295) (h5 : 0 ≤ o.calls) (h6 : o.calls ≤ 4294967295) (hk : o.kind = 1) : q_objOk o n = q_fin o n 16 := by
  rw [Bool.eq_iff_iff, objOk_iff]
  simp only [q_fin, List.all_eq_true, List.mem_range, hk, q_slotOk, Bool.and_eq_true, decide_true, Bool.true_or, and_true]
  constructor
  · rintro ⟨_, _, _, _, _, _, _, _, _, hs, _⟩
    exact fun i hi => hs i hi
  · intro hs
    exact ⟨h1, h2, by omega, by omega, h3, h4, h5, h6, .inl trivial, fun i hi => hs i hi, fun i hi => .inl (.inl trivial)⟩
theorem fin_succ {o : Obj} {n g : Int} : (q_fin o n g && decide (q_chk (o.slots.at g.toNat) = 0) && (!q_named (o.slots.at g.toNat) || decide (q_oid (o.slots.at g.toNat) < n))) =
    (q_fin o n g && (q_keyOk (o.slots.at g.toNat) && (!q_named (o.slots.at g.toNat) || decide ((o.slots.at g.toNat).oid < n)))) := by
  unfold q_chk q_oid
  cases q_keyOk (o.slots.at g.toNat) <;> cases q_named (o.slots.at g.toNat) <;> simp
theorem fin_step {o : Obj} {n g : Int} (h0 : 0 ≤ g) (hn : 1 ≤ n) : (q_fin o n g && decide (q_chk (o.slots.at g.toNat) = 0) && (!q_named (o.slots.at g.toNat) || decide (q_oid (o.slots.at g.toNat) < n))) = q_fin o n (g + 1) := by
  rw [fin_succ]
  unfold q_fin
  rw [show (g + 1).toNat = g.toNat + 1 by omega, List.range_succ, List.all_append]
  simp only [List.all_cons, List.all_nil, Bool.and_true]
  congr 1
  unfold q_names q_named
  cases q_keyOk (o.slots.at g.toNat)
  · rfl
  · cases q_isO (o.slots.at g.toNat).kind
    · simp; omega
    · simp
end Go.Sx
