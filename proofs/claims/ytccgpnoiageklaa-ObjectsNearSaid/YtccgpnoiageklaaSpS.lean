/- Stores in plain Lean. No condition. -/
import Derived.Test.YtccgpnoiageklaaCtO
import Derived.Test.YtccgpnoiageklaaSx17
namespace Go.Sx
def q_snone (L : List Obj) : Bool := decide (llen L = 0)
def q_has (L : List Obj) (oid : Int) : Int := if llen L = 0 then 1 else if oid < 0 ∨ (llen L : Int) ≤ oid then 4 else 0
def q_get (L : List Obj) (oid : Int) : Obj := if q_has L oid = 0 then lget L oid.toNat free else free
def q_size (L : List Obj) : Int := (llen L : Int)
def q_is (L : List Obj) (k : Key) : Bool := q_named k && decide (q_has L k.oid = 0) && q_counts k (lget L k.oid.toNat free)
def q_nobj (L : List Obj) (k : Key) : Obj := if q_is L k then lget L k.oid.toNat free else free
def q_prep (L : List Obj) (k : Key) : Key := if q_snone L || !q_keyOk k || (q_named k && !q_is L k) then void else k
def q_newOk (n : Int) : Bool := decide (1 ≤ n) && decide (n ≤ 64)
def q_new (n : Int) : List Obj := List.replicate n.toNat free
def q_putL (L : List Obj) (i : Int) (o : Obj) : List Obj := if q_has L i = 0 ∧ q_ochk o (llen L : Int) = 0 then lset L i.toNat o else L
def q_put (L : List Obj) (i : Int) (o : Obj) : Int := if q_has L i = 0 then q_ochk o (llen L : Int) else q_has L i
def q_invN (n i : Int) : Prop := 0 ≤ i ∧ i ≤ n
abbrev tS : Nat := 65
abbrev eS : Nat := 78
/-- What New gives. -/
def kNew (n : Int) (v : V) (r : List Res) : Prop :=
  match v with
  | .tp l => match l with
    | [a, b] => match a with
      | .nl p => match p with
        | .pointer none => q_newOk n = false ∧ isV (.ci .i64 2) b r
        | _ => False
      | .lp j off => match stOf r j with
        | some (t, e, _, L) => if off == 0 && t == tS && e == eS then q_newOk n = true ∧ isV (.ci .i64 0) b r ∧ L = q_new n else False
        | none => False
      | _ => False
    | _ => False
  | _ => False
/-- What a change of a store gives. -/
def kSt (x : V) (M : List Obj) (v : V) (r : List Res) : Prop :=
  match stOf r 0 with
  | some (t, e, _, L) => if t == tS && e == eS then isV x v r ∧ L = M else False
  | none => False
def h_new : HCt := fun args res K =>
  match args with
  | [a] => match rI .i64 a with
    | some n => (q_newOk n = false → K (.tp [nilp, .ci .i64 2]) res) ∧ (q_newOk n = true → K (.tp [.lp res.length 0, .ci .i64 0]) (res ++ [.store tS eS (q_new n)]))
    | none => False
  | _ => False
def isZ (c : V) : Bool :=
  match c with
  | .ag l => match l with
    | [x] => match x with
      | .nl v => match v with
        | .slice none 0 0 => true
        | _ => false
      | _ => false
    | _ => false
  | _ => false
theorem isZ_spec {c : V} (h : isZ c = true) : c = .ag [.nl (.slice none 0 0)] := by
  unfold isZ at h
  split at h
  · split at h
    · split at h
      · split at h
        · rfl
        · simp at h
      · simp at h
    · simp at h
  · simp at h
def h_put : HCt := fun args res K =>
  match args with
  | [a, b, c] => match rI .i64 b with
    | some i => match rO c with
      | some o => match a with
        | .nl v => match v with
          | .pointer none => K (.it .i64 (q_put [] i o)) res
          | _ => False
        | .lp k off => if off == 0 then match rget res k with
            | .store t e L => if t == tS && e == eS then K (.it .i64 (q_put L i o)) (rset res k (.store tS eS (q_putL L i o))) else False
            | .blk t c => if t == tS && isZ c then K (.it .i64 (q_put [] i o)) res else False
            | _ => False
          else False
        | _ => False
      | none => False
    | none => False
  | _ => False
def g_known : Ct := mk0 (.bo true)
def q_invL (l : List Obj) (g : Int) : Prop := 0 ≤ g ∧ g ≤ (llen l : Int)
def q_inv40 (g : Int) : Prop := 0 ≤ g ∧ g ≤ 40
def g_none : Ct := mkS tS eS fun L => .bo (q_snone L)
def g_has : Ct := mkS1 tS eS (rI .i64) fun L i => .it .i64 (q_has L i)
def g_get : Ct := mkS1 tS eS (rI .i64) fun L i => .tp [.ob (q_get L i), .it .i64 (q_has L i)]
def g_size : Ct := mkS tS eS fun L => .it .i64 (q_size L)
def g_named : Ct := mkS1 tS eS rK fun L k => .tp [.ob (q_nobj L k), .bo (q_is L k)]
def g_prep : Ct := mkS1 tS eS rK fun L k => .key (q_prep L k)
theorem snone_nil : q_snone [] = true := rfl
theorem snone_iff {L : List Obj} : q_snone L = true ↔ L = [] := by
  unfold q_snone llen; simp [List.length_eq_zero_iff]
theorem has_nil (i : Int) : q_has [] i = 1 := rfl
theorem has_some {L : List Obj} (h : q_snone L = false) (i : Int) : q_has L i = if i < 0 ∨ (L.length : Int) ≤ i then 4 else 0 := by
  have : L ≠ [] := fun e => by rw [e] at h; simp [snone_nil] at h
  unfold q_has llen; rw [if_neg (by simpa [List.length_eq_zero_iff] using this)]
theorem has_ok {L : List Obj} {i : Int} : q_has L i = 0 ↔ 0 ≤ i ∧ i < (L.length : Int) := by
  unfold q_has llen
  split
  · omega
  · split <;> omega
theorem named_law (L : List Obj) (k : Key) : ((!q_named k) = true → free = q_nobj L k ∧ false = q_is L k) ∧
    ((!q_named k) = false →
      ((!decide (q_has L (q_oid k) = 0) || !q_counts k (q_get L (q_oid k))) = true →
          free = q_nobj L k ∧ false = q_is L k) ∧
        ((!decide (q_has L (q_oid k) = 0) || !q_counts k (q_get L (q_oid k))) = false →
          q_get L (q_oid k) = q_nobj L k ∧ true = q_is L k)) := by
  have fin : ∀ b, q_is L k = b → (b = false → free = q_nobj L k) ∧ b = q_is L k := fun b h => ⟨fun hb => by unfold q_nobj; rw [h, hb]; rfl, h.symm⟩
  refine ⟨fun h => ?_, fun h => ?_⟩
  · have h : q_named k = false := by simpa using h
    have := fin false (by unfold q_is; rw [h]; rfl)
    exact ⟨this.1 rfl, this.2⟩
  · have h : q_named k = true := by simpa using h
    have ho : q_oid k = k.oid := by unfold q_oid; rw [if_pos h]
    rw [ho]
    by_cases hh : q_has L k.oid = 0
    · have hg : q_get L k.oid = lget L k.oid.toNat free := by unfold q_get; rw [if_pos hh]
      rw [hg]
      have e : q_is L k = q_counts k (lget L k.oid.toNat free) := by unfold q_is; simp [h, hh]
      refine ⟨fun hc => ?_, fun hc => ?_⟩
      · have hc : q_counts k (lget L k.oid.toNat free) = false := by simpa [hh] using hc
        have := fin false (by rw [e, hc])
        exact ⟨this.1 rfl, this.2⟩
      · have hc : q_counts k (lget L k.oid.toNat free) = true := by simpa [hh] using hc
        have := fin true (by rw [e, hc])
        refine ⟨?_, this.2⟩
        unfold q_nobj
        rw [e, hc]; rfl
    · have := fin false (by unfold q_is; simp [hh])
      exact ⟨fun _ => ⟨this.1 rfl, this.2⟩, fun hc => by simp [hh] at hc⟩
theorem prep_law (L : List Obj) (k : Key) : ((q_snone L || !decide (q_chk k = 0)) = true → void = q_prep L k) ∧
    ((q_snone L || !decide (q_chk k = 0)) = false →
      ((q_named k && !q_is L k) = true → void = q_prep L k) ∧ ((q_named k && !q_is L k) = false → k = q_prep L k)) := by
  have hc : (!decide (q_chk k = 0)) = !q_keyOk k := by unfold q_chk; cases q_keyOk k <;> simp
  rw [hc]
  unfold q_prep
  refine ⟨fun h => ?_, fun h => ⟨fun h2 => ?_, fun h2 => ?_⟩⟩
  · rw [if_pos]; simp only [h, Bool.true_or]
  · rw [if_pos]; simp only [h2, Bool.or_true]
  · rw [if_neg]; simp only [h, h2]; simp
theorem newOk_iff {n : Int} : q_newOk n = true ↔ 1 ≤ n ∧ n ≤ 64 := by simp [q_newOk]
theorem new_app {g : Int} (h : 0 ≤ g) : lapp (q_new g) free = q_new (g + 1) := by
  unfold lapp q_new
  rw [show (g + 1).toNat = g.toNat + 1 by omega, List.replicate_succ']
theorem put_nil {i : Int} {o : Obj} : q_put [] i o = 1 := by unfold q_put; rw [has_nil]; rfl
theorem put_bad {L : List Obj} {i : Int} {o : Obj} (h : q_has L i ≠ 0) : q_put L i o = q_has L i ∧ q_putL L i o = L := by
  unfold q_put q_putL
  rw [if_neg h, if_neg (fun hh => h hh.1)]; exact ⟨rfl, rfl⟩
theorem put_no {L : List Obj} {i : Int} {o : Obj} (h : q_has L i = 0) (h2 : q_ochk o (llen L : Int) ≠ 0) : q_put L i o = q_ochk o (llen L : Int) ∧ q_putL L i o = L := by
  unfold q_put q_putL
  rw [if_pos h, if_neg (fun hh => h2 hh.2)]; exact ⟨rfl, rfl⟩
theorem put_yes {L : List Obj} {i : Int} {o : Obj} (h : q_has L i = 0) (h2 : q_ochk o (llen L : Int) = 0) : q_put L i o = 0 ∧ q_putL L i o = lset L i.toNat o := by
  unfold q_put q_putL
  rw [if_pos h, if_pos ⟨h, h2⟩]; exact ⟨h2, rfl⟩
theorem kNew_no {n : Int} (hn : q_newOk n = false) {v : V} {r : List Res} (h : kNew n v r) : isE (.tp [nilp, .ci .i64 2]) v [] := by
  unfold kNew at h
  split at h
  · split at h
    · split at h
      · split at h
        · exact isE_tp2 (isV_isE h.2)
        · exact h.elim
      · split at h
        · split at h
          · rw [hn] at h; simp at h
          · exact h.elim
        · exact h.elim
      · exact h.elim
    · exact h.elim
  · exact h.elim
theorem kNew_yes {n : Int} (hn : q_newOk n = true) {v : V} {r : List Res} (h : kNew n v r) : ∃ j b t, v = .tp [.lp j 0, b] ∧ isE (.ci .i64 0) b [] ∧ stOf r j = some (tS, eS, t, q_new n) := by
  unfold kNew at h
  split at h
  · split at h
    · split at h
      · split at h
        · rw [hn] at h; simp at h
        · exact h.elim
      · split at h
        · rename_i hst
          split at h
          · rename_i hc
            simp only [Bool.and_eq_true, beq_iff_eq] at hc
            obtain ⟨⟨rfl, rfl⟩, rfl⟩ := hc
            obtain ⟨_, h2, rfl⟩ := h
            exact ⟨_, _, _, rfl, isV_isE h2, hst⟩
          · exact h.elim
        · exact h.elim
      · exact h.elim
    · exact h.elim
  · exact h.elim
theorem kSt_out {x : V} {M : List Obj} {v : V} {r : List Res} (h : kSt x M v r) : ∃ t, stOf r 0 = some (tS, eS, t, M) ∧ isE x v r := by
  unfold kSt at h
  split at h
  · rename_i hst
    split at h
    · rename_i hc
      simp only [Bool.and_eq_true, beq_iff_eq] at hc
      obtain ⟨rfl, rfl⟩ := hc
      obtain ⟨h1, rfl⟩ := h
      exact ⟨_, hst, isV_isE h1⟩
    · exact h.elim
  · exact h.elim
/-- A change of a store, by its open form. -/
theorem onSt {P : Program} {f : Nat} {rest : List V} {res : List Res} {K KP : V → List Res → Prop} {k : Nat} {L M : List Obj} {x : V} (hr : rget res k = .store tS eS L) (hid : idfL rest = true) (hx : idf x = true)
    (h : (∀ o ∈ L, o.wf) → L.length ≤ 9223372036854775807 → CallTo P f (.lp 0 0 :: rest) [.blk tS (.ag [.sa 1]), .obs eS 2 L, .gen 1] (kSt x M) (fun _ _ => False)) (hK : K x (rset res k (.store tS eS M))) : CallTo P f (.lp k 0 :: rest) res K KP := by
  refine CallTo.onStore hr hid hx ?_ hK
  refine CallTo.fact (k := 0) rfl fun w1 w2 => ?_
  refine CallTo.openS (k := 0) rfl ?_
  refine CallTo.shut (h w1 w2) fun v r hv => ?_
  obtain ⟨t, h1, h2⟩ := kSt_out hv
  obtain ⟨r', g1, g2⟩ := stOf_shut h1
  exact .inr ⟨0, r', g1, fun ρ K => h2 ρ K, g2⟩
end Go.Sx
