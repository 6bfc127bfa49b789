/- Keys and objects in plain Lean: what may be, what is named, what counts. No condition. -/
import Derived.Test.YtjpcaplhblomcaaCt0
set_option linter.unusedVariables false
set_option linter.unusedSimpArgs false
namespace Go.Sx
def q_within (h : Bool) (n m : Int) : Bool := if h then decide (0 ≤ n) && decide (n ≤ m) else decide (n = 0)
def q_isO (n : Int) : Bool := decide (2 ≤ n) && decide (n ≤ 7)
def q_isR (n : Int) : Bool := decide (n = 2) || decide (n = 3)
def q_isC (n : Int) : Bool := decide (n = 7)
def q_isV (n : Int) : Bool := decide (n = 1) || decide (n = 6)
def q_most (n : Int) : Int := if n = 2 then 7 else if n = 3 then 1 else 0
/-- May a key be? -/
def q_keyOk (k : Key) : Bool :=
  decide (0 ≤ k.kind) && decide (k.kind ≤ 10) && decide (0 ≤ k.rights) && decide (k.rights ≤ q_most k.kind) && (q_isV k.kind || decide (k.value = 0)) &&
  q_within (q_isO k.kind) k.oid 63 && q_within (q_isO k.kind) k.count 4294967295 && q_within (q_isC k.kind) k.call 4294967295
def q_chk (k : Key) : Int := if q_keyOk k then 0 else 2
/-- Which object a key names; -1: none. -/
def q_names (k : Key) : Int := if q_keyOk k && q_isO k.kind then k.oid else -1
def q_wants (k : Key) : Int := if q_names k < 0 then 0 else if k.kind = 3 then 2 else 1
def q_counts (k : Key) (o : Obj) : Bool :=
  q_keyOk k && (decide (q_names k < 0) || (decide (o.kind = q_wants k) && decide (o.count = k.count) && (!decide (k.kind = 7) || decide (o.calls = k.call))))
def q_inK (k : Key) : Bool := decide (0 ≤ k.kind) && decide (k.kind ≤ 10)
def q_kn (n : Nat) : ByteArray :=
  match n with
  | 0 => "void".toUTF8
  | 1 => "number".toUTF8
  | 2 => "node".toUTF8
  | 3 => "page".toUTF8
  | 4 => "bank".toUTF8
  | 5 => "proc".toUTF8
  | 6 => "start".toUTF8
  | 7 => "resume".toUTF8
  | 8 => "discrim".toUTF8
  | 9 => "clock".toUTF8
  | 10 => "check".toUTF8
  | _ => ByteArray.empty
def q_none : ByteArray := ByteArray.empty
def kd (s : ByteArray) (a b c d : Bool) (m w : Int) : V := .ag [.st s, .cb a, .cb b, .cb c, .cb d, .ci .i64 m, .ci .i64 w]
def kindsV : V := .ag [kd (q_kn 0) false false false false 0 0, kd (q_kn 1) false false false true 0 0, kd (q_kn 2) true true false false 7 1, kd (q_kn 3) true true false false 1 2,
  kd (q_kn 4) true false false false 0 1, kd (q_kn 5) true false false false 0 1, kd (q_kn 6) true false false true 0 1, kd (q_kn 7) true false true false 0 1,
  kd (q_kn 8) false false false false 0 0, kd (q_kn 9) false false false false 0 0, kd (q_kn 10) false false false false 0 0]
def q_kname (k : Key) : ByteArray := if q_inK k then q_kn k.kind.toNat else ByteArray.empty
def q_kwant (n : Int) : Int := if n = 3 then 2 else if 2 ≤ n ∧ n ≤ 7 then 1 else 0
def g_within : Ct := mk3 toBool (rI .i64) (rI .i64) fun h n m => .bo (q_within h n m)
def g_kof : Ct := mk1 rK fun k => .tp [.ag [.st (q_kname k), .bo (q_isO k.kind), .bo (q_isR k.kind), .bo (q_isC k.kind), .bo (q_isV k.kind), .it .i64 (q_most k.kind), .it .i64 (q_kwant k.kind)], .bo (q_keyOk k)]
def g_rnm : Ct := mk1 (rI .i64) fun n => .tp [.bo (q_isO n), .bo (q_isR n), .bo (q_isC n), .bo (q_isV n)]
def g_chk : Ct := mk1 rK fun k => .it .i64 (q_chk k)
def q_named (k : Key) : Bool := q_keyOk k && q_isO k.kind
def q_oid (k : Key) : Int := if q_named k then k.oid else 0
def g_knames : Ct := mk1 rK fun k => .tp [.it .i64 (q_oid k), .bo (q_named k)]
def g_rnames : Ct := mk1 rK fun k => .it .i64 (q_names k)
def g_rwants : Ct := mk1 rK fun k => .it .i64 (q_wants k)
def g_counts : Ct := mk2 rK rO fun k o => .bo (q_counts k o)
theorem wrap_i64 {n : Int} (h : inR .i64 n) : IntKind.wrap .i64 n = n := by
  have := h
  simp only [inR] at this
  unfold IntKind.wrap
  simp [IntKind.bits, IntKind.signed]
  omega
theorem andNot_low {r : Int} (j : Nat) (hj : j < 63) (h0 : 0 ≤ r) (h1 : r ≤ 9223372036854775807) : bitsI .andNot .i64 r ((2 ^ j - 1 : Nat) : Int) = 0 ↔ r < 2 ^ j := by
  obtain ⟨n, rfl⟩ := Int.eq_ofNat_of_zero_le h0
  have hn : n < 2 ^ 64 := by omega
  have hbit : ∀ i, (BitVec.ofInt 64 (n : Int)).getLsbD i = n.testBit i := by
    intro i
    rw [BitVec.ofInt_natCast, BitVec.getLsbD_ofNat]
    by_cases hi : i < 64
    · simp [hi]
    · rw [Nat.testBit_lt_two_pow (Nat.lt_of_lt_of_le hn (Nat.pow_le_pow_right (by omega) (by omega)))]; simp
  have hx : (BitVec.ofInt 64 (n : Int) &&& ~~~BitVec.ofInt 64 ((2 ^ j - 1 : Nat) : Int)).toNat = 0 ↔ n < 2 ^ j := by
    constructor
    · intro h
      refine Nat.lt_pow_two_of_testBit _ fun i hi => ?_
      rcases Nat.lt_or_ge i 64 with h64 | h64
      · have h2 : (BitVec.ofInt 64 (n : Int) &&& ~~~BitVec.ofInt 64 ((2 ^ j - 1 : Nat) : Int)).getLsbD i = false := by
          rw [BitVec.getLsbD, h]; simp
        rw [BitVec.getLsbD_and, hbit, BitVec.getLsbD_not, BitVec.ofInt_natCast, BitVec.getLsbD_ofNat, Nat.testBit_two_pow_sub_one] at h2
        simp only [h64, decide_true, Bool.true_and, show ¬ i < j by omega, decide_false, Bool.not_false, Bool.and_true] at h2
        exact h2
      · exact Nat.testBit_lt_two_pow (Nat.lt_of_lt_of_le hn (Nat.pow_le_pow_right (by omega) h64))
    · intro h
      have : BitVec.ofInt 64 (n : Int) &&& ~~~BitVec.ofInt 64 ((2 ^ j - 1 : Nat) : Int) = 0#64 := by
        refine BitVec.eq_of_getLsbD_eq fun i hi => ?_
        rw [BitVec.getLsbD_and, hbit, BitVec.getLsbD_not, BitVec.ofInt_natCast, BitVec.getLsbD_ofNat, Nat.testBit_two_pow_sub_one]
        by_cases hij : i < j
        · simp [hij, hi]
        · rw [Nat.testBit_lt_two_pow (Nat.lt_of_lt_of_le h (Nat.pow_le_pow_right (by omega) (by omega)))]; simp
      rw [this]; rfl
  have hle : (BitVec.ofInt 64 (n : Int) &&& ~~~BitVec.ofInt 64 ((2 ^ j - 1 : Nat) : Int)).toNat ≤ n := by
    rw [BitVec.toNat_and]
    refine Nat.le_trans Nat.and_le_left ?_
    rw [BitVec.ofInt_natCast, BitVec.toNat_ofNat]
    exact Nat.mod_le _ _
  have hp : ((2 ^ j : Nat) : Int) = (2 : Int) ^ j := by simp
  change IntKind.wrap .i64 (((BitVec.ofInt 64 (n : Int) &&& ~~~BitVec.ofInt 64 ((2 ^ j - 1 : Nat) : Int)).toNat : Nat) : Int) = 0 ↔ _
  generalize (BitVec.ofInt 64 (n : Int) &&& ~~~BitVec.ofInt 64 ((2 ^ j - 1 : Nat) : Int)).toNat = x at *
  rw [wrap_i64 (by simp only [inR]; omega), ← hp]
  omega
theorem andNot7 {r : Int} (h0 : 0 ≤ r) (h1 : r ≤ 9223372036854775807) : bitsI .andNot .i64 r 7 = 0 ↔ r ≤ 7 := by
  have := andNot_low 3 (by omega) h0 h1
  rw [show ((2 ^ 3 - 1 : Nat) : Int) = 7 from rfl, show (2 : Int) ^ 3 = 8 from rfl] at this
  rw [this]; omega
theorem andNot1 {r : Int} (h0 : 0 ≤ r) (h1 : r ≤ 9223372036854775807) : bitsI .andNot .i64 r 1 = 0 ↔ r ≤ 1 := by
  have := andNot_low 1 (by omega) h0 h1
  rw [show ((2 ^ 1 - 1 : Nat) : Int) = 1 from rfl, show (2 : Int) ^ 1 = 2 from rfl] at this
  rw [this]; omega
theorem andNot0 {r : Int} (h0 : 0 ≤ r) (h1 : r ≤ 9223372036854775807) : bitsI .andNot .i64 r 0 = 0 ↔ r ≤ 0 := by
  have := andNot_low 0 (by omega) h0 h1
  rw [show ((2 ^ 0 - 1 : Nat) : Int) = 0 from rfl, show (2 : Int) ^ 0 = 1 from rfl] at this
  rw [this]; omega
theorem and_bits {r m : Int} {b : Bool} (h : 0 ≤ r → (b = decide (r ≤ m))) : (decide (0 ≤ r) && b) = (decide (0 ≤ r) && decide (r ≤ m)) := by
  by_cases h0 : 0 ≤ r
  · rw [h h0]
  · simp [h0]
end Go.Sx
