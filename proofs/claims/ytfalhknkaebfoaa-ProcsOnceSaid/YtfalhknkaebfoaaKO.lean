/- Keys and objects in plain Lean: what may be, what is named, what counts. No condition. -/
import Derived.Test.YtfalhknkaebfoaaSxF
set_option linter.unusedVariables false
set_option linter.unusedSimpArgs false
namespace Go.Sx
def q_within (h : Bool) (n m : Int) : Bool := if h then decide (0 ≤ n) && decide (n ≤ m) else decide (n = 0)
def q_isO (n : Int) : Bool := decide (2 ≤ n) && decide (n ≤ 7)
def q_isR (n : Int) : Bool := decide (n = 2) || decide (n = 3)
def q_isC (n : Int) : Bool := decide (n = 7)
def q_isV (n : Int) : Bool := decide (n = 1) || decide (n = 6)
def q_most (n : Int) : Int := if n = 2 then 7 else if n = 3 then 1 else 0
/-- May a key be? -/
def q_keyOk (k : Key) : Bool :=
  decide (0 ≤ k.kind) && decide (k.kind ≤ 10) && decide (0 ≤ k.rights) && decide (k.rights ≤ q_most k.kind) && (q_isV k.kind || decide (k.value = 0)) &&
  q_within (q_isO k.kind) k.oid 63 && q_within (q_isO k.kind) k.count 4294967295 && q_within (q_isC k.kind) k.call 4294967295
def q_chk (k : Key) : Int := if q_keyOk k then 0 else 2
/-- Which object a key names; -1: none. -/
def q_names (k : Key) : Int := if q_keyOk k && q_isO k.kind then k.oid else -1
def q_wants (k : Key) : Int := if q_names k < 0 then 0 else if k.kind = 3 then 2 else 1
def q_counts (k : Key) (o : Obj) : Bool :=
  q_keyOk k && (decide (q_names k < 0) || (decide (o.kind = q_wants k) && decide (o.count = k.count) && (!decide (k.kind = 7) || decide (o.calls = k.call))))
def q_inK (k : Key) : Bool := decide (0 ≤ k.kind) && decide (k.kind ≤ 10)
def q_kn (n : Nat) : ByteArray :=
  match n with
  | 0 => "void".toUTF8
  | 1 => "number".toUTF8
  | 2 => "node".toUTF8
  | 3 => "page".toUTF8
  | 4 => "bank".toUTF8
  | 5 => "proc".toUTF8
  | 6 => "start".toUTF8
  | 7 => "resume".toUTF8
  | 8 => "discrim".toUTF8
  | 9 => "clock".toUTF8
  | 10 => "check".toUTF8
  | _ => ByteArray.empty
def q_none : ByteArray := ByteArray.empty
def kd (s : ByteArray) (a b c d : Bool) (m w : Int) : V := .ag [.st s, .cb a, .cb b, .cb c, .cb d, .ci .i64 m, .ci .i64 w]
def kindsV : V := .ag [kd (q_kn 0) false false false false 0 0, kd (q_kn 1) false false false true 0 0, kd (q_kn 2) true true false false 7 1, kd (q_kn 3) true true false false 1 2,
  kd (q_kn 4) true false false false 0 1, kd (q_kn 5) true false false false 0 1, kd (q_kn 6) true false false true 0 1, kd (q_kn 7) true false true false 0 1,
  kd (q_kn 8) false false false false 0 0, kd (q_kn 9) false false false false 0 0, kd (q_kn 10) false false false false 0 0]
def q_kname (k : Key) : ByteArray := if q_inK k then q_kn k.kind.toNat else ByteArray.empty
def q_kwant (n : Int) : Int := if n = 3 then 2 else if 2 ≤ n ∧ n ≤ 7 then 1 else 0
def g_within : Ct := mk3 toBool (rI .i64) (rI .i64) fun h n m => .bo (q_within h n m)
def g_kof : Ct := mk1 rK fun k => .tp [.ag [.st (q_kname k), .bo (q_isO k.kind), .bo (q_isR k.kind), .bo (q_isC k.kind), .bo (q_isV k.kind), .it .i64 (q_most k.kind), .it .i64 (q_kwant k.kind)], .bo (q_keyOk k)]
def g_rnm : Ct := mk1 (rI .i64) fun n => .tp [.bo (q_isO n), .bo (q_isR n), .bo (q_isC n), .bo (q_isV n)]
def g_chk : Ct := mk1 rK fun k => .it .i64 (q_chk k)
def q_named (k : Key) : Bool := q_keyOk k && q_isO k.kind
def q_oid (k : Key) : Int := if q_named k then k.oid else 0
def g_knames : Ct := mk1 rK fun k => .tp [.it .i64 (q_oid k), .bo (q_named k)]
def g_rnames : Ct := mk1 rK fun k => .it .i64 (q_names k)
def g_rwants : Ct := mk1 rK fun k => .it .i64 (q_wants k)
def g_counts : Ct := mk2 rK rO fun k o => .bo (q_counts k o)
theorem wrap_i64 {n : Int} (h : inR .i64 n) : IntKind.wrap .i64 n = n := by
  have := h
  simp only [inR] at this
  unfold IntKind.wrap
  simp [IntKind.bits, IntKind.signed]
  omega
theorem andNot_low {r : Int} (j : Nat) (hj : j < 63) (h0 : 0 ≤ r) (h1 : r ≤ 9223372036854775807) : bitsI .andNot .i64 r ((2 ^ j - 1 : Nat) : Int) = 0 ↔ r < 2 ^ j := by
  obtain ⟨n, rfl⟩ := Int.eq_ofNat_of_zero_le h0
  have hn : n < 2 ^ 64 := by omega
  have hbit : ∀ i, (BitVec.ofInt 64 (n : Int)).getLsbD i = n.testBit i := by
    intro i
    rw [BitVec.ofInt_natCast, BitVec.getLsbD_ofNat]
    by_cases hi : i < 64
    · simp [hi]
    · rw [Nat.testBit_lt_two_pow (Nat.lt_of_lt_of_le hn (Nat.pow_le_pow_right (by omega) (by omega)))]; simp
  have hx : (BitVec.ofInt 64 (n : Int) &&& ~~~BitVec.ofInt 64 ((2 ^ j - 1 : Nat) : Int)).toNat = 0 ↔ n < 2 ^ j := by
    constructor
    · intro h
      refine Nat.lt_pow_two_of_testBit _ fun i hi => ?_
      rcases Nat.lt_or_ge i 64 with h64 | h64
      · have h2 : (BitVec.ofInt 64 (n : Int) &&& ~~~BitVec.ofInt 64 ((2 ^ j - 1 : Nat) : Int)).getLsbD i = false := by
          rw [BitVec.getLsbD, h]; simp
        rw [BitVec.getLsbD_and, hbit, BitVec.getLsbD_not, BitVec.ofInt_natCast, BitVec.getLsbD_ofNat, Nat.testBit_two_pow_sub_one] at h2
        simp only [h64, decide_true, Bool.true_and, show ¬ i < j by omega, decide_false, Bool.not_false, Bool.and_true] at h2
        exact h2
      · exact Nat.testBit_lt_two_pow (Nat.lt_of_lt_of_le hn (Nat.pow_le_pow_right (by omega) h64))
    · intro h
      have : BitVec.ofInt 64 (n : Int) &&& ~~~BitVec.ofInt 64 ((2 ^ j - 1 : Nat) : Int) = 0#64 := by
        refine BitVec.eq_of_getLsbD_eq fun i hi => ?_
        rw [BitVec.getLsbD_and, hbit, BitVec.getLsbD_not, BitVec.ofInt_natCast, BitVec.getLsbD_ofNat, Nat.testBit_two_pow_sub_one]
        by_cases hij : i < j
        · simp [hij, hi]
        · rw [Nat.testBit_lt_two_pow (Nat.lt_of_lt_of_le h (Nat.pow_le_pow_right (by omega) (by omega)))]; simp
      rw [this]; rfl
  have hle : (BitVec.ofInt 64 (n : Int) &&& ~~~BitVec.ofInt 64 ((2 ^ j - 1 : Nat) : Int)).toNat ≤ n := by
    rw [BitVec.toNat_and]
    refine Nat.le_trans Nat.and_le_left ?_
    rw [BitVec.ofInt_natCast, BitVec.toNat_ofNat]
    exact Nat.mod_le _ _
  have hp : ((2 ^ j : Nat) : Int) = (2 : Int) ^ j := by simp
  change IntKind.wrap .i64 (((BitVec.ofInt 64 (n : Int) &&& ~~~BitVec.ofInt 64 ((2 ^ j - 1 : Nat) : Int)).toNat : Nat) : Int) = 0 ↔ _
  generalize (BitVec.ofInt 64 (n : Int) &&& ~~~BitVec.ofInt 64 ((2 ^ j - 1 : Nat) : Int)).toNat = x at *
  rw [wrap_i64 (by simp only [inR]; omega), ← hp]
  omega
theorem andNot7 {r : Int} (h0 : 0 ≤ r) (h1 : r ≤ 9223372036854775807) : bitsI .andNot .i64 r 7 = 0 ↔ r ≤ 7 := by
  have := andNot_low 3 (by omega) h0 h1
  rw [show ((2 ^ 3 - 1 : Nat) : Int) = 7 from rfl, show (2 : Int) ^ 3 = 8 from rfl] at this
  rw [this]; omega
theorem andNot1 {r : Int} (h0 : 0 ≤ r) (h1 : r ≤ 9223372036854775807) : bitsI .andNot .i64 r 1 = 0 ↔ r ≤ 1 := by
  have := andNot_low 1 (by omega) h0 h1
  rw [show ((2 ^ 1 - 1 : Nat) : Int) = 1 from rfl, show (2 : Int) ^ 1 = 2 from rfl] at this
  rw [this]; omega
theorem andNot0 {r : Int} (h0 : 0 ≤ r) (h1 : r ≤ 9223372036854775807) : bitsI .andNot .i64 r 0 = 0 ↔ r ≤ 0 := by
  have := andNot_low 0 (by omega) h0 h1
  rw [show ((2 ^ 0 - 1 : Nat) : Int) = 0 from rfl, show (2 : Int) ^ 0 = 1 from rfl] at this
  rw [this]; omega
theorem and_bits {r m : Int} {b : Bool} (h : 0 ≤ r → (b = decide (r ≤ m))) : (decide (0 ≤ r) && b) = (decide (0 ≤ r) && decide (r ≤ m)) := by
  by_cases h0 : 0 ≤ r
  · rw [h h0]
  · simp [h0]
end Go.Sx
/- Contracts of keys and of the document's keys. No condition. The statements vc_.. are printed by a program of the claimant's own. -/
namespace Go.Proofs.Ytfalhknkaebfoaa
open Go.Sx
set_option maxRecDepth 100000
set_option linter.unusedVariables false
set_option linter.unusedSimpArgs false
theorem vc_within (h : Bool) (n m : Int) :
  (h && decide (0 ≤ n) && decide (n ≤ m) || !h && decide (n = 0)) = q_within h n m := by
  unfold q_within; cases h <;> simp
theorem ct_within : CtOK Try.prog 117 g_within :=
  mk3_ok rB_ok (rI_ok .i64) (rI_ok .i64) (fun _ _ _ => rfl) fun h n m _ _ _ => vc_call (inl := noInl) (ann := noAnn) oks_nil (vc_within h n m) (by kernel_rfl)
theorem ct_kinds : CtOK Try.prog 116 (mk0 kindsV) :=
  mk0_eq rfl (vc_call (inl := noInl) (ann := noAnn) oks_nil (G := kindsV = kindsV) rfl (by kernel_rfl) : CallTo _ _ _ _ (fun v _ => v = kindsV) (fun _ _ => False))
theorem vc_kof (k : Key) (hk : k.wf) :
  ((decide (k.kind < 0) || decide (10 < k.kind)) = true →
      { data := { toList := [] } } = q_kname k ∧
        false = q_isO k.kind ∧
          false = q_isR k.kind ∧
            false = q_isC k.kind ∧ false = q_isV k.kind ∧ 0 = q_most k.kind ∧ 0 = q_kwant k.kind ∧ false = q_keyOk k) ∧
    ((decide (k.kind < 0) || decide (10 < k.kind)) = false →
      (0 ≤ k.kind ∧ k.kind < ↑11) ∧
        lget [q_kn 0, q_kn 1, q_kn 2, q_kn 3, q_kn 4, q_kn 5, q_kn 6, q_kn 7, q_kn 8, q_kn 9, q_kn 10] k.kind.toNat
              { data := { toList := [] } } =
            q_kname k ∧
          lget [false, false, true, true, true, true, true, true, false, false, false] k.kind.toNat false =
              q_isO k.kind ∧
            lget [false, false, true, true, false, false, false, false, false, false, false] k.kind.toNat false =
                q_isR k.kind ∧
              lget [false, false, false, false, false, false, false, true, false, false, false] k.kind.toNat false =
                  q_isC k.kind ∧
                lget [false, true, false, false, false, false, true, false, false, false, false] k.kind.toNat false =
                    q_isV k.kind ∧
                  lget [0, 0, 7, 1, 0, 0, 0, 0, 0, 0, 0] k.kind.toNat 0 = q_most k.kind ∧
                    lget [0, 0, 1, 2, 1, 1, 1, 1, 0, 0, 0] k.kind.toNat 0 = q_kwant k.kind ∧
                      (q_within
                                    (lget [false, false, true, true, true, true, true, true, false, false, false]
                                      k.kind.toNat false)
                                    k.oid 63 &&
                                  q_within
                                    (lget [false, false, true, true, true, true, true, true, false, false, false]
                                      k.kind.toNat false)
                                    k.count 4294967295 &&
                                q_within
                                  (lget [false, false, false, false, false, false, false, true, false, false, false]
                                    k.kind.toNat false)
                                  k.call 4294967295 &&
                              decide (0 ≤ k.rights) &&
                            decide
                              (bitsI BinOp.andNot IntKind.i64 k.rights
                                  (lget [0, 0, 7, 1, 0, 0, 0, 0, 0, 0, 0] k.kind.toNat 0) =
                                0) &&
                          (lget [false, true, false, false, false, false, true, false, false, false, false] k.kind.toNat
                              false ||
                            decide (k.value = 0))) =
                        q_keyOk k) := by
  obtain ⟨kind, oid, count, call, rights, value⟩ := k
  have hr : rights ≤ 9223372036854775807 := hk.2.2.2.2.1.2
  simp only
  have he : (ByteArray.empty : ByteArray) = { data := { toList := [] } } := rfl
  refine ⟨fun h => ?_, fun h => ?_⟩
  · simp only [Bool.or_eq_true, decide_eq_true_eq] at h
    refine ⟨?_, ?_, ?_, ?_, ?_, ?_, ?_, ?_⟩ <;> simp only [q_kname, q_inK, q_isO, q_isR, q_isC, q_isV, q_most, q_kwant, q_keyOk] <;> grind
  · simp only [Bool.or_eq_false_iff, decide_eq_false_iff_not] at h
    have hb : ∀ m, (0 ≤ rights → (decide (bitsI .andNot .i64 rights m = 0)) = decide (rights ≤ m)) → (decide (0 ≤ rights) && decide (bitsI .andNot .i64 rights m = 0)) = (decide (0 ≤ rights) && decide (rights ≤ m)) := fun m hm => and_bits hm
    have h7 := hb 7 fun h0 => by rw [decide_eq_decide]; exact andNot7 h0 hr
    have h1 := hb 1 fun h0 => by rw [decide_eq_decide]; exact andNot1 h0 hr
    have h0 := hb 0 fun h0 => by rw [decide_eq_decide]; exact andNot0 h0 hr
    have hc : kind = 0 ∨ kind = 1 ∨ kind = 2 ∨ kind = 3 ∨ kind = 4 ∨ kind = 5 ∨ kind = 6 ∨ kind = 7 ∨ kind = 8 ∨ kind = 9 ∨ kind = 10 := by omega
    rcases hc with rfl | rfl | rfl | rfl | rfl | rfl | rfl | rfl | rfl | rfl | rfl <;>
      refine ⟨⟨by decide, by decide⟩, rfl, rfl, rfl, rfl, rfl, rfl, rfl, ?_⟩ <;>
      simp only [lget, q_keyOk, q_isO, q_isV, q_isC, q_most, Int.reduceToNat, List.getD_cons_zero, List.getD_cons_succ, Bool.and_assoc] <;>
      simp +decide [q_within] <;> grind
theorem ct_kof : CtOK Try.prog 103 g_kof :=
  mk1_ok rK_ok (fun _ => rfl) fun k hk => vc_call (inl := noInl) (ann := noAnn) (oks_cons ct_within (oks_cons ct_kinds oks_nil)) (vc_kof k hk) (by kernel_rfl)
theorem vc_kchk (k : Key) (hk : k.wf) :
  ((!q_keyOk k) = true → 2 = q_chk k) ∧ ((!q_keyOk k) = false → 0 = q_chk k) := by
  unfold q_chk; cases q_keyOk k <;> simp
theorem ct_kchk : CtOK Try.prog 76 g_chk :=
  mk1_ok rK_ok (fun _ => rfl) fun k hk => vc_call (inl := noInl) (ann := noAnn) (oks_cons ct_kof oks_nil) (vc_kchk k hk) (by kernel_rfl)
theorem vc_knames (k : Key) (hk : k.wf) :
  ((!q_keyOk k || !q_isO k.kind) = true → 0 = q_oid k ∧ false = q_named k) ∧
    ((!q_keyOk k || !q_isO k.kind) = false → k.oid = q_oid k ∧ true = q_named k) := by
  unfold q_oid q_named; cases q_keyOk k <;> cases q_isO k.kind <;> simp
theorem ct_knames : CtOK Try.prog 77 g_knames :=
  mk1_ok rK_ok (fun _ => rfl) fun k hk => vc_call (inl := noInl) (ann := noAnn) (oks_cons ct_kof oks_nil) (vc_knames k hk) (by kernel_rfl)
theorem vc_kcounts (k : Key) (o : Sx.Obj) (hk : k.wf) :
  ((!q_keyOk k) = true → false = q_counts k o) ∧
    ((!q_keyOk k) = false →
      ((!q_isO k.kind) = true → true = q_counts k o) ∧
        ((!q_isO k.kind) = false →
          (decide (o.kind = q_kwant k.kind) && decide (o.count = k.count) &&
              (!q_isC k.kind || decide (o.calls = k.call))) =
            q_counts k o)) := by
  cases hok : q_keyOk k
  · simp [q_counts, hok]
  · have h0 : q_isO k.kind = true → 0 ≤ k.oid := fun h => by
      simp only [q_keyOk, q_within, h, if_true, Bool.and_eq_true, decide_eq_true_eq] at hok
      omega
    simp only [q_counts, q_wants, q_names, q_kwant, q_isC, hok, Bool.true_and]
    simp only [q_isO] at *
    grind
theorem ct_kcounts : CtOK Try.prog 79 g_counts :=
  mk2_ok rK_ok rO_ok (fun _ _ => rfl) fun k o hk _ => vc_call (inl := noInl) (ann := noAnn) (oks_cons ct_kof oks_nil) (vc_kcounts k o hk) (by kernel_rfl)
theorem vc_rnm (n : Int) :
  (decide (2 ≤ n) && decide (n ≤ 7)) = q_isO n ∧
    (decide (n = 2) || decide (n = 3)) = q_isR n ∧
      decide (n = 7) = q_isC n ∧ (decide (n = 1) || decide (n = 6)) = q_isV n := by
  exact ⟨rfl, rfl, rfl, rfl⟩
theorem ct_rnm : CtOK Try.prog 60 g_rnm :=
  mk1_ok (rI_ok .i64) (fun _ => rfl) fun n _ => vc_call (inl := noInl) (ann := noAnn) oks_nil (vc_rnm n) (by kernel_rfl)
theorem vc_rchk (k : Key) (hk : k.wf) :
  (q_isR k.kind = true →
      (decide (k.kind = 3) = true →
          ((decide (k.kind < 0) || decide (10 < k.kind) || decide (k.rights < 0) || decide (1 < k.rights) ||
                  !q_isV k.kind && !decide (k.value = 0)) =
                true →
              2 = q_chk k) ∧
            ((decide (k.kind < 0) || decide (10 < k.kind) || decide (k.rights < 0) || decide (1 < k.rights) ||
                  !q_isV k.kind && !decide (k.value = 0)) =
                false →
              ((q_isO k.kind &&
                        (decide (k.oid < 0) || decide (64 ≤ k.oid) || decide (k.count < 0) ||
                          decide (4294967295 < k.count)) ||
                      !q_isO k.kind && (!decide (k.oid = 0) || !decide (k.count = 0))) =
                    true →
                  2 = q_chk k) ∧
                ((q_isO k.kind &&
                        (decide (k.oid < 0) || decide (64 ≤ k.oid) || decide (k.count < 0) ||
                          decide (4294967295 < k.count)) ||
                      !q_isO k.kind && (!decide (k.oid = 0) || !decide (k.count = 0))) =
                    false →
                  ((q_isC k.kind && (decide (k.call < 0) || decide (4294967295 < k.call)) ||
                          !q_isC k.kind && !decide (k.call = 0)) =
                        true →
                      2 = q_chk k) ∧
                    ((q_isC k.kind && (decide (k.call < 0) || decide (4294967295 < k.call)) ||
                          !q_isC k.kind && !decide (k.call = 0)) =
                        false →
                      0 = q_chk k)))) ∧
        (decide (k.kind = 3) = false →
          ((decide (k.kind < 0) || decide (10 < k.kind) || decide (k.rights < 0) || decide (7 < k.rights) ||
                  !q_isV k.kind && !decide (k.value = 0)) =
                true →
              2 = q_chk k) ∧
            ((decide (k.kind < 0) || decide (10 < k.kind) || decide (k.rights < 0) || decide (7 < k.rights) ||
                  !q_isV k.kind && !decide (k.value = 0)) =
                false →
              ((q_isO k.kind &&
                        (decide (k.oid < 0) || decide (64 ≤ k.oid) || decide (k.count < 0) ||
                          decide (4294967295 < k.count)) ||
                      !q_isO k.kind && (!decide (k.oid = 0) || !decide (k.count = 0))) =
                    true →
                  2 = q_chk k) ∧
                ((q_isO k.kind &&
                        (decide (k.oid < 0) || decide (64 ≤ k.oid) || decide (k.count < 0) ||
                          decide (4294967295 < k.count)) ||
                      !q_isO k.kind && (!decide (k.oid = 0) || !decide (k.count = 0))) =
                    false →
                  ((q_isC k.kind && (decide (k.call < 0) || decide (4294967295 < k.call)) ||
                          !q_isC k.kind && !decide (k.call = 0)) =
                        true →
                      2 = q_chk k) ∧
                    ((q_isC k.kind && (decide (k.call < 0) || decide (4294967295 < k.call)) ||
                          !q_isC k.kind && !decide (k.call = 0)) =
                        false →
                      0 = q_chk k))))) ∧
    (q_isR k.kind = false →
      (decide (k.kind = 3) = true →
          ((decide (k.kind < 0) || decide (10 < k.kind) || decide (k.rights < 0) || decide (1 < k.rights) ||
                  !q_isV k.kind && !decide (k.value = 0)) =
                true →
              2 = q_chk k) ∧
            ((decide (k.kind < 0) || decide (10 < k.kind) || decide (k.rights < 0) || decide (1 < k.rights) ||
                  !q_isV k.kind && !decide (k.value = 0)) =
                false →
              ((q_isO k.kind &&
                        (decide (k.oid < 0) || decide (64 ≤ k.oid) || decide (k.count < 0) ||
                          decide (4294967295 < k.count)) ||
                      !q_isO k.kind && (!decide (k.oid = 0) || !decide (k.count = 0))) =
                    true →
                  2 = q_chk k) ∧
                ((q_isO k.kind &&
                        (decide (k.oid < 0) || decide (64 ≤ k.oid) || decide (k.count < 0) ||
                          decide (4294967295 < k.count)) ||
                      !q_isO k.kind && (!decide (k.oid = 0) || !decide (k.count = 0))) =
                    false →
                  ((q_isC k.kind && (decide (k.call < 0) || decide (4294967295 < k.call)) ||
                          !q_isC k.kind && !decide (k.call = 0)) =
                        true →
                      2 = q_chk k) ∧
                    ((q_isC k.kind && (decide (k.call < 0) || decide (4294967295 < k.call)) ||
                          !q_isC k.kind && !decide (k.call = 0)) =
                        false →
                      0 = q_chk k)))) ∧
        (decide (k.kind = 3) = false →
          ((decide (k.kind < 0) || decide (10 < k.kind) || decide (k.rights < 0) || decide (0 < k.rights) ||
                  !q_isV k.kind && !decide (k.value = 0)) =
                true →
              2 = q_chk k) ∧
            ((decide (k.kind < 0) || decide (10 < k.kind) || decide (k.rights < 0) || decide (0 < k.rights) ||
                  !q_isV k.kind && !decide (k.value = 0)) =
                false →
              ((q_isO k.kind &&
                        (decide (k.oid < 0) || decide (64 ≤ k.oid) || decide (k.count < 0) ||
                          decide (4294967295 < k.count)) ||
                      !q_isO k.kind && (!decide (k.oid = 0) || !decide (k.count = 0))) =
                    true →
                  2 = q_chk k) ∧
                ((q_isO k.kind &&
                        (decide (k.oid < 0) || decide (64 ≤ k.oid) || decide (k.count < 0) ||
                          decide (4294967295 < k.count)) ||
                      !q_isO k.kind && (!decide (k.oid = 0) || !decide (k.count = 0))) =
                    false →
                  ((q_isC k.kind && (decide (k.call < 0) || decide (4294967295 < k.call)) ||
                          !q_isC k.kind && !decide (k.call = 0)) =
                        true →
                      2 = q_chk k) ∧
                    ((q_isC k.kind && (decide (k.call < 0) || decide (4294967295 < k.call)) ||
                          !q_isC k.kind && !decide (k.call = 0)) =
                        false →
                      0 = q_chk k))))) := by
  simp only [q_chk, q_keyOk, q_within, q_most, q_isR]
  rcases Bool.eq_false_or_eq_true (q_isO k.kind) with hA | hA <;> rcases Bool.eq_false_or_eq_true (q_isC k.kind) with hB | hB <;> rcases Bool.eq_false_or_eq_true (q_isV k.kind) with hC | hC <;> simp only [hA, hB, hC, Bool.true_and, Bool.false_and, Bool.not_true, Bool.not_false, Bool.or_false, Bool.false_or, Bool.true_or, if_true, Bool.false_eq_true, if_false, Bool.and_true] <;> grind
theorem ct_rchk : CtOK Try.prog 23 g_chk :=
  mk1_ok rK_ok (fun _ => rfl) fun k hk => vc_call (inl := noInl) (ann := noAnn) (oks_cons ct_rnm oks_nil) (vc_rchk k hk) (by kernel_rfl)
theorem vc_rnames (k : Key) (hk : k.wf) :
  ((!decide (q_chk k = 0) || !q_isO k.kind) = true → -1 = q_names k) ∧
    ((!decide (q_chk k = 0) || !q_isO k.kind) = false → k.oid = q_names k) := by
  unfold q_names q_chk; cases q_keyOk k <;> cases q_isO k.kind <;> simp
theorem ct_rnames : CtOK Try.prog 113 g_rnames :=
  mk1_ok rK_ok (fun _ => rfl) fun k hk => vc_call (inl := noInl) (ann := noAnn) (oks_cons ct_rnm (oks_cons ct_rchk oks_nil)) (vc_rnames k hk) (by kernel_rfl)
theorem vc_rwants (k : Key) (hk : k.wf) :
  (decide (q_names k < 0) = true → 0 = q_wants k) ∧
    (decide (q_names k < 0) = false →
      (decide (k.kind = 3) = true → 2 = q_wants k) ∧ (decide (k.kind = 3) = false → 1 = q_wants k)) := by
  unfold q_wants; grind
theorem ct_rwants : CtOK Try.prog 120 g_rwants :=
  mk1_ok rK_ok (fun _ => rfl) fun k hk => vc_call (inl := noInl) (ann := noAnn) (oks_cons ct_rnames oks_nil) (vc_rwants k hk) (by kernel_rfl)
theorem vc_rcounts (k : Key) (o : Sx.Obj) (hk : k.wf) :
  ((!decide (q_chk k = 0)) = true → false = q_counts k o) ∧
    ((!decide (q_chk k = 0)) = false →
      (decide (q_names k < 0) = true → true = q_counts k o) ∧
        (decide (q_names k < 0) = false →
          (decide (o.kind = q_wants k) && decide (o.count = k.count) &&
              (!decide (k.kind = 7) || decide (o.calls = k.call))) =
            q_counts k o)) := by
  unfold q_counts q_chk; cases q_keyOk k <;> grind
theorem ct_rcounts : CtOK Try.prog 118 g_counts :=
  mk2_ok rK_ok rO_ok (fun _ _ => rfl) fun k o hk _ => vc_call (inl := noInl) (ann := noAnn) (oks_cons ct_rchk (oks_cons ct_rnames (oks_cons ct_rwants oks_nil))) (vc_rcounts k o hk) (by kernel_rfl)
end Go.Proofs.Ytfalhknkaebfoaa
/- Objects in plain Lean. No condition. -/
set_option linter.unusedVariables false
set_option linter.unusedSimpArgs false
namespace Go.Sx
def q_slotOk (kind n : Int) (k : Key) : Bool := q_keyOk k && decide (q_names k < n) && (decide (kind = 1) || decide (k = void))
/-- May an object be, in a store of so many? -/
def q_objOk (o : Obj) (n : Int) : Bool :=
  decide (1 ≤ n) && decide (n ≤ 64) && decide (0 ≤ o.kind) && decide (o.kind ≤ 3) && decide (0 ≤ o.count) && decide (o.count ≤ 4294967295) && decide (0 ≤ o.calls) && decide (o.calls ≤ 4294967295) &&
  (decide (o.kind = 1) || decide (o.calls = 0)) && (List.range 16).all (fun i => q_slotOk o.kind n (o.slots.at i)) &&
  (List.range 64).all (fun i => decide (o.kind = 1) || decide (o.kind = 2) || decide (o.bytes.at i = 0))
def q_ochk (o : Obj) (n : Int) : Int := if q_objOk o n then 0 else 2
def q_bare (o : Obj) (b : Bool) : Bool := decide (o.slots = noSlots) && (b || decide (o.bytes = noBytes)) && decide (o.calls = 0)
def q_inv1 (o : Obj) (n : Int) (i : Int) : Prop := 0 ≤ i ∧ i ≤ 16 ∧ ∀ j : Nat, (j : Int) < i → q_slotOk o.kind n (o.slots.at j) = true
def q_inv2 (o : Obj) (n : Int) (i : Int) : Prop := 0 ≤ i ∧ i ≤ 64 ∧ (∀ j : Nat, j < 16 → q_slotOk o.kind n (o.slots.at j) = true) ∧ ∀ j : Nat, (j : Int) < i → (o.kind = 1 ∨ o.kind = 2 ∨ o.bytes.at j = 0)
def q_fin (o : Obj) (n : Int) (i : Int) : Bool := (List.range i.toNat).all fun j => q_keyOk (o.slots.at j) && decide (q_names (o.slots.at j) < n)
def q_inv3 (i : Int) : Prop := 0 ≤ i ∧ i ≤ 16
def g_bare : Ct := mk2 rO toBool fun o b => .bo (q_bare o b)
def g_ochk : Ct := mk2 rO (rI .i64) fun o n => .it .i64 (q_ochk o n)

theorem objOk_iff {o : Obj} {n : Int} : q_objOk o n = true ↔ 1 ≤ n ∧ n ≤ 64 ∧ 0 ≤ o.kind ∧ o.kind ≤ 3 ∧ 0 ≤ o.count ∧ o.count ≤ 4294967295 ∧ 0 ≤ o.calls ∧ o.calls ≤ 4294967295 ∧
    (o.kind = 1 ∨ o.calls = 0) ∧ (∀ i, i < 16 → q_slotOk o.kind n (o.slots.at i) = true) ∧ ∀ i, i < 64 → (o.kind = 1 ∨ o.kind = 2) ∨ o.bytes.at i = 0 := by
  simp only [q_objOk, Bool.and_eq_true, decide_eq_true_eq, Bool.or_eq_true, List.all_eq_true, List.mem_range, and_assoc]
theorem ochk_no {o : Obj} {n : Int} (h : ¬ q_objOk o n = true) : 2 = q_ochk o n := by simp [q_ochk, h]
theorem ochk_yes {o : Obj} {n : Int} (h : q_objOk o n = true) : 0 = q_ochk o n := by simp [q_ochk, h]
theorem slot_cond (kind n : Int) (k : Key) : (!decide (q_chk k = 0) || decide (n ≤ q_names k) || !decide (kind = 1) && !keq k void) = !q_slotOk kind n k := by
  unfold q_slotOk q_chk keq
  cases q_keyOk k <;> grind
theorem b2i_eq0 (b : UInt8) : decide (b2i b = 0) = decide (b = 0) := by
  rw [decide_eq_decide, b2i]
  constructor
  · intro h
    have : b.toNat = 0 := by omega
    exact UInt8.toNat_inj.1 (by simpa using this)
  · rintro rfl; rfl
theorem at_void {s : Slots} : s = noSlots ↔ ∀ i, i < 16 → s.at i = void := by
  constructor
  · rintro rfl i _; exact noSlots_at i
  · intro h
    refine Vector.ext fun i hi => ?_
    have := h i hi
    unfold Slots.at at this
    simp only [noSlots, Vector.getElem_replicate]
    rw [← this]
    simp [hi]
theorem at_zero {s : Bytes} : s = noBytes ↔ ∀ i, i < 64 → s.at i = 0 := by
  constructor
  · rintro rfl i hi
    unfold Bytes.at noBytes
    simp [hi]
  · intro h
    refine Vector.ext fun i hi => ?_
    have := h i hi
    unfold Bytes.at at this
    simp only [noBytes, Vector.getElem_replicate]
    rw [← this]
    simp [hi]
theorem void_ok : q_keyOk void = true ∧ q_names void = -1 := by decide
theorem slotOk_void {kind n : Int} (hk : kind ≠ 1) (hn : 1 ≤ n) (k : Key) : q_slotOk kind n k = true ↔ k = void := by
  unfold q_slotOk
  simp only [Bool.and_eq_true, decide_eq_true_eq, Bool.or_eq_true]
  constructor
  · rintro ⟨_, h | h⟩
    · exact absurd h hk
    · exact h
  · rintro rfl
    exact ⟨⟨void_ok.1, by rw [void_ok.2]; omega⟩, .inr rfl⟩
theorem bare_iff {o : Obj} {b : Bool} : q_bare o b = true ↔ (∀ i, i < 16 → o.slots.at i = void) ∧ (b = true ∨ ∀ i, i < 64 → o.bytes.at i = 0) ∧ o.calls = 0 := by
  simp only [q_bare, Bool.and_eq_true, decide_eq_true_eq, Bool.or_eq_true, at_void, at_zero, and_assoc]
/-- An object of a kind other than a node's may be if it is bare. -/
theorem objOk_bare {o : Obj} {n : Int} (h1 : 1 ≤ n) (h2 : n ≤ 64) (h3 : 0 ≤ o.count) (h4 : o.count ≤ 4294967295) (h5 : 0 ≤ o.calls) (h6 : o.calls ≤ 4294967295) {b : Bool} (hk : 0 ≤ o.kind ∧ o.kind ≤ 3 ∧ o.kind ≠ 1) (hb : b = decide (o.kind = 2)) :
    q_objOk o n = q_bare o b := by
  rw [Bool.eq_iff_iff, objOk_iff, bare_iff]
  subst hb
  constructor
  · rintro ⟨_, _, _, _, _, _, _, _, h, hs, hz⟩
    refine ⟨fun i hi => (slotOk_void hk.2.2 h1 _).1 (hs i hi), ?_, h.resolve_left hk.2.2⟩
    by_cases h2 : o.kind = 2
    · exact .inl (by simp [h2])
    · exact .inr fun i hi => (hz i hi).resolve_left fun h => h.elim hk.2.2 h2
  · rintro ⟨hs, hz, hc⟩
    refine ⟨h1, h2, hk.1, hk.2.1, h3, h4, h5, h6, .inr hc, fun i hi => (slotOk_void hk.2.2 h1 _).2 (hs i hi), fun i hi => ?_⟩
    rcases hz with h | h
    · exact .inl (.inr (by simpa using h))
    · exact .inr (h i hi)
/-- A node may be if its keys may. -/
theorem objOk_node {o : Obj} {n : Int} (h1 : 1 ≤ n) (h2 : n ≤ 64) (h3 : 0 ≤ o.count) (h4 : o.count ≤ 4294967295) (h5 : 0 ≤ o.calls) (h6 : o.calls ≤ 4294967295) (hk : o.kind = 1) : q_objOk o n = q_fin o n 16 := by
  rw [Bool.eq_iff_iff, objOk_iff]
  simp only [q_fin, List.all_eq_true, List.mem_range, hk, q_slotOk, Bool.and_eq_true, decide_true, Bool.true_or, and_true]
  constructor
  · rintro ⟨_, _, _, _, _, _, _, _, _, hs, _⟩
    exact fun i hi => hs i hi
  · intro hs
    exact ⟨h1, h2, by omega, by omega, h3, h4, h5, h6, .inl trivial, fun i hi => hs i hi, fun i hi => .inl (.inl trivial)⟩
theorem fin_succ {o : Obj} {n g : Int} : (q_fin o n g && decide (q_chk (o.slots.at g.toNat) = 0) && (!q_named (o.slots.at g.toNat) || decide (q_oid (o.slots.at g.toNat) < n))) =
    (q_fin o n g && (q_keyOk (o.slots.at g.toNat) && (!q_named (o.slots.at g.toNat) || decide ((o.slots.at g.toNat).oid < n)))) := by
  unfold q_chk q_oid
  cases q_keyOk (o.slots.at g.toNat) <;> cases q_named (o.slots.at g.toNat) <;> simp
theorem fin_step {o : Obj} {n g : Int} (h0 : 0 ≤ g) (hn : 1 ≤ n) : (q_fin o n g && decide (q_chk (o.slots.at g.toNat) = 0) && (!q_named (o.slots.at g.toNat) || decide (q_oid (o.slots.at g.toNat) < n))) = q_fin o n (g + 1) := by
  rw [fin_succ]
  unfold q_fin
  rw [show (g + 1).toNat = g.toNat + 1 by omega, List.range_succ, List.all_append]
  simp only [List.all_cons, List.all_nil, Bool.and_true]
  congr 1
  unfold q_names q_named
  cases q_keyOk (o.slots.at g.toNat)
  · rfl
  · cases q_isO (o.slots.at g.toNat).kind
    · simp; omega
    · simp
end Go.Sx
/- Contracts of whether an object may be. No condition. The statements vc_.. are printed by a program of the claimant's own. -/
namespace Go.Proofs.Ytfalhknkaebfoaa
open Go.Sx
set_option maxRecDepth 100000
set_option linter.unusedVariables false
set_option linter.unusedSimpArgs false
theorem vc_bare (o : Sx.Obj) (b : Bool) :
  (sleq o.slots noSlots && (b || byeq o.bytes noBytes) && decide (o.calls = 0)) = q_bare o b := by
  unfold q_bare sleq byeq; rfl
theorem ct_bare : CtOK Try.prog 114 g_bare :=
  mk2_ok rO_ok rB_ok (fun _ _ => rfl) fun o b _ _ => vc_call (inl := noInl) (ann := noAnn) oks_nil (vc_bare o b) (by kernel_rfl)
theorem vc_rochk (o : Sx.Obj) (n : Int) :
  ((decide (n < 1) || decide (64 < n) || decide (o.kind < 0) || decide (3 < o.kind) || decide (o.count < 0) ||
                decide (4294967295 < o.count) ||
              decide (o.calls < 0) ||
            decide (4294967295 < o.calls) ||
          !decide (o.kind = 1) && !decide (o.calls = 0)) =
        true →
      2 = q_ochk o n) ∧
    ((decide (n < 1) || decide (64 < n) || decide (o.kind < 0) || decide (3 < o.kind) || decide (o.count < 0) ||
                decide (4294967295 < o.count) ||
              decide (o.calls < 0) ||
            decide (4294967295 < o.calls) ||
          !decide (o.kind = 1) && !decide (o.calls = 0)) =
        false →
      (∃ g, q_inv1 o n g ∧ n = n ∧ o.kind = o.kind ∧ 0 = g ∧ o = o) ∧
        ∀ (g : Int),
          q_inv1 o n g →
            (decide (g < 16) = true →
                (0 ≤ g ∧ g < ↑16) ∧
                  ((!!decide (q_chk (o.slots.at g.toNat) = 0)) = true → 0 ≤ g ∧ g < ↑16) ∧
                    ((!decide (o.kind = 1) &&
                            !(!decide (q_chk (o.slots.at g.toNat) = 0) ||
                                decide (n ≤ q_names (o.slots.at g.toNat)))) =
                          true →
                        0 ≤ g ∧ g < ↑16) ∧
                      ((!decide (q_chk (o.slots.at g.toNat) = 0) || decide (n ≤ q_names (o.slots.at g.toNat)) ||
                              !decide (o.kind = 1) && !keq (o.slots.at g.toNat) void) =
                            true →
                          2 = q_ochk o n) ∧
                        ((!decide (q_chk (o.slots.at g.toNat) = 0) || decide (n ≤ q_names (o.slots.at g.toNat)) ||
                              !decide (o.kind = 1) && !keq (o.slots.at g.toNat) void) =
                            false →
                          inRo IntKind.i64 (g + 1) ∧
                            ∃ g',
                              q_inv1 o n g' ∧
                                (16 - g').toNat < (16 - g).toNat ∧ n = n ∧ o.kind = o.kind ∧ g + 1 = g' ∧ o = o)) ∧
              (decide (g < 16) = false →
                (∃ g, q_inv2 o n g ∧ n = n ∧ o.kind = o.kind ∧ 0 = g ∧ o = o) ∧
                  ∀ (g : Int),
                    q_inv2 o n g →
                      (decide (g < 64) = true →
                          ((!decide (o.kind = 1) && !decide (o.kind = 2)) = true → 0 ≤ g ∧ g < ↑64) ∧
                            ((!decide (o.kind = 1) && !decide (o.kind = 2) &&
                                    !decide (b2i (o.bytes.at g.toNat) = 0)) =
                                  true →
                                2 = q_ochk o n) ∧
                              ((!decide (o.kind = 1) && !decide (o.kind = 2) &&
                                    !decide (b2i (o.bytes.at g.toNat) = 0)) =
                                  false →
                                inRo IntKind.i64 (g + 1) ∧
                                  ∃ g',
                                    q_inv2 o n g' ∧
                                      (64 - g').toNat < (64 - g).toNat ∧
                                        n = n ∧ o.kind = o.kind ∧ g + 1 = g' ∧ o = o)) ∧
                        (decide (g < 64) = false → 0 = q_ochk o n))) := by
  refine ⟨fun h => ochk_no fun hh => ?_, fun h => ⟨⟨0, ⟨by omega, by omega, fun j hj => by omega⟩, rfl, rfl, rfl, rfl⟩, fun g hg => ⟨fun hlt => ?_, fun hge => ?_⟩⟩⟩
  · have := objOk_iff.1 hh
    simp only [Bool.or_eq_true, Bool.and_eq_true, Bool.not_eq_true', decide_eq_true_eq, decide_eq_false_iff_not] at h
    omega
  · obtain ⟨g0, g1, g2⟩ := hg
    have hlt := of_decide_eq_true hlt
    rw [slot_cond]
    refine ⟨⟨g0, by omega⟩, fun _ => ⟨g0, by omega⟩, fun _ => ⟨g0, by omega⟩, fun hbad => ochk_no fun hh => ?_, fun hok => ⟨?_, g + 1, ⟨by omega, by omega, fun j hj => ?_⟩, by omega, rfl, rfl, rfl, rfl⟩⟩
    · have := (objOk_iff.1 hh).2.2.2.2.2.2.2.2.2.1 g.toNat (by omega)
      rw [this] at hbad; simp at hbad
    · simp only [inRo, inR]; omega
    · by_cases e : (j : Int) < g
      · exact g2 j e
      · have : j = g.toNat := by omega
        subst this
        simpa using hok
  · obtain ⟨g0, g1, g2⟩ := hg
    have hge : ¬ g < 16 := of_decide_eq_false hge
    refine ⟨⟨0, ⟨by omega, by omega, fun j hj => g2 j (by omega), fun j hj => by omega⟩, rfl, rfl, rfl, rfl⟩, fun g hg => ⟨fun hlt => ?_, fun hge => ochk_yes ?_⟩⟩
    · obtain ⟨k0, k1, k2, k3⟩ := hg
      have hlt := of_decide_eq_true hlt
      simp only [b2i_eq0]
      refine ⟨fun _ => ⟨k0, by omega⟩, fun hbad => ochk_no fun hh => ?_, fun hok => ⟨?_, g + 1, ⟨by omega, by omega, k2, fun j hj => ?_⟩, by omega, by simp⟩⟩
      · have := (objOk_iff.1 hh).2.2.2.2.2.2.2.2.2.2 g.toNat (by omega)
        simp only [Bool.and_eq_true, Bool.not_eq_true', decide_eq_false_iff_not] at hbad
        grind
      · simp only [inRo, inR]; omega
      · by_cases e : (j : Int) < g
        · exact k3 j e
        · have : j = g.toNat := by omega
          subst this
          simp only [Bool.and_eq_false_iff, Bool.not_eq_false', decide_eq_true_eq] at hok
          grind
    · obtain ⟨k0, k1, k2, k3⟩ := hg
      have hge : ¬ g < 64 := of_decide_eq_false hge
      simp only [Bool.or_eq_false_iff, Bool.and_eq_false_iff, Bool.not_eq_false', decide_eq_true_eq, decide_eq_false_iff_not] at h
      refine objOk_iff.2 ⟨by omega, by omega, by omega, by omega, by omega, by omega, by omega, by omega, by omega, k2, fun i hi => ?_⟩
      have := k3 i (by omega)
      grind
theorem ct_rochk : CtOK Try.prog 93 g_ochk :=
  mk2_ok rO_ok (rI_ok .i64) (fun _ _ => rfl) fun o n _ _ => vc_call (inl := noInl) (ann := (annL [(93, 5, lpI [1, 2, 5] 6 (q_inv1 o n) 16), (93, 10, lpI [1, 2, 5] 7 (q_inv2 o n) 64)])) (oks_cons ct_rchk (oks_cons ct_rnames oks_nil)) (vc_rochk o n) (by kernel_rfl)
theorem vc_ochk (o : Sx.Obj) (n : Int) :
  ((decide (n < 1) || decide (64 < n) || decide (o.count < 0) || decide (4294967295 < o.count) ||
            decide (o.calls < 0) ||
          decide (4294967295 < o.calls)) =
        true →
      2 = q_ochk o n) ∧
    ((decide (n < 1) || decide (64 < n) || decide (o.count < 0) || decide (4294967295 < o.count) ||
            decide (o.calls < 0) ||
          decide (4294967295 < o.calls)) =
        false →
      (decide (o.kind = 0) = true →
          ((!q_bare o false) = true → 2 = q_ochk o n) ∧ ((!q_bare o false) = false → 0 = q_ochk o n)) ∧
        (decide (o.kind = 0) = false →
          (decide (o.kind = 3) = true →
              ((!q_bare o false) = true → 2 = q_ochk o n) ∧ ((!q_bare o false) = false → 0 = q_ochk o n)) ∧
            (decide (o.kind = 3) = false →
              (decide (o.kind = 2) = true →
                  ((!q_bare o true) = true → 2 = q_ochk o n) ∧ ((!q_bare o true) = false → 0 = q_ochk o n)) ∧
                (decide (o.kind = 2) = false →
                  (decide (o.kind = 1) = true →
                      (∃ g, q_inv3 g ∧ n = n ∧ true = q_fin o n g ∧ o.slots = o.slots ∧ 0 = g ∧ o = o) ∧
                        ∀ (g : Int),
                          q_inv3 g →
                            (decide (g < 16) = true →
                                (0 ≤ g ∧ g < ↑16) ∧
                                  inRo IntKind.i64 (g + 1) ∧
                                    ∃ g',
                                      q_inv3 g' ∧
                                        (16 - g').toNat < (16 - g).toNat ∧
                                          n = n ∧
                                            (q_fin o n g && decide (q_chk (o.slots.at g.toNat) = 0) &&
                                                  (!q_named (o.slots.at g.toNat) ||
                                                    decide (q_oid (o.slots.at g.toNat) < n))) =
                                                q_fin o n g' ∧
                                              o.slots = o.slots ∧ g + 1 = g' ∧ o = o) ∧
                              (decide (g < 16) = false →
                                ((!q_fin o n g) = true → 2 = q_ochk o n) ∧ ((!q_fin o n g) = false → 0 = q_ochk o n))) ∧
                    (decide (o.kind = 1) = false → 2 = q_ochk o n))))) := by
  refine ⟨fun h => ochk_no fun hh => ?_, fun h => ?_⟩
  · have := objOk_iff.1 hh
    simp only [Bool.or_eq_true, decide_eq_true_eq] at h
    omega
  · simp only [Bool.or_eq_false_iff, decide_eq_false_iff_not] at h
    have hb : ∀ (b : Bool), (0 ≤ o.kind ∧ o.kind ≤ 3 ∧ o.kind ≠ 1) → b = decide (o.kind = 2) → ((!q_bare o b) = true → 2 = q_ochk o n) ∧ ((!q_bare o b) = false → 0 = q_ochk o n) := fun b h1 h2 => by
      have he := objOk_bare (o := o) (n := n) (b := b) (by omega) (by omega) (by omega) (by omega) (by omega) (by omega) h1 h2
      exact ⟨fun hn => ochk_no (by rw [he]; simpa using hn), fun hy => ochk_yes (by rw [he]; simpa using hy)⟩
    refine ⟨fun h0 => ?_, fun h0 => ⟨fun h3 => ?_, fun h3 => ⟨fun h2 => ?_, fun h2 => ⟨fun h1 => ⟨⟨0, ⟨by omega, by omega⟩, rfl, rfl, rfl, rfl, rfl⟩, fun g hg => ⟨fun hlt => ?_, fun hge => ?_⟩⟩, fun h1 => ochk_no fun hh => ?_⟩⟩⟩⟩
    · have h0 := of_decide_eq_true h0
      exact hb false (by omega) (by simp [h0])
    · have h3 := of_decide_eq_true h3
      exact hb false (by omega) (by simp [h3])
    · have h2 := of_decide_eq_true h2
      exact hb true (by omega) (by simp [h2])
    · obtain ⟨g0, g1⟩ := hg
      have hlt := of_decide_eq_true hlt
      refine ⟨⟨g0, by omega⟩, by simp only [inRo, inR]; omega, g + 1, ⟨by omega, by omega⟩, by omega, rfl, fin_step g0 (by omega), rfl, rfl, rfl⟩
    · obtain ⟨g0, g1⟩ := hg
      have hge : ¬ g < 16 := of_decide_eq_false hge
      have h1 := of_decide_eq_true h1
      have e : g = 16 := by omega
      subst e
      have he := objOk_node (o := o) (n := n) (by omega) (by omega) (by omega) (by omega) (by omega) (by omega) h1
      exact ⟨fun hn => ochk_no (by rw [he]; simpa using hn), fun hy => ochk_yes (by rw [he]; simpa using hy)⟩
    · have := objOk_iff.1 hh
      have h0 : ¬ o.kind = 0 := of_decide_eq_false h0
      have h1 : ¬ o.kind = 1 := of_decide_eq_false h1
      have h2 : ¬ o.kind = 2 := of_decide_eq_false h2
      have h3 : ¬ o.kind = 3 := of_decide_eq_false h3
      omega
theorem ct_ochk : CtOK Try.prog 96 g_ochk :=
  mk2_ok rO_ok (rI_ok .i64) (fun _ _ => rfl) fun o n _ _ => vc_call (inl := noInl) (ann := (annL [(96, 12, lpG [1, 2, 51] (fun g => [(52, .it .i64 g), (5, .bo (q_fin o n g))]) q_inv3 16)])) (oks_cons ct_bare (oks_cons ct_kchk (oks_cons ct_knames oks_nil))) (vc_ochk o n) (by kernel_rfl)
end Go.Proofs.Ytfalhknkaebfoaa
