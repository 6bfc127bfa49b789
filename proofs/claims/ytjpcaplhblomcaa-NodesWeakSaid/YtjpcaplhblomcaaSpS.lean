/- Stores in plain Lean. No condition. -/
import Derived.Test.YtjpcaplhblomcaaCtO
import Derived.Test.YtjpcaplhblomcaaSx17
set_option linter.unusedVariables false
set_option linter.unusedSimpArgs false
namespace Go.Sx
def q_snone (L : List Obj) : Bool := decide (llen L = 0)
def q_has (L : List Obj) (oid : Int) : Int := if llen L = 0 then 1 else if oid < 0 ∨ (llen L : Int) ≤ oid then 4 else 0
def q_get (L : List Obj) (oid : Int) : Obj := if q_has L oid = 0 then lget L oid.toNat free else free
def q_size (L : List Obj) : Int := (llen L : Int)
def q_is (L : List Obj) (k : Key) : Bool := q_named k && decide (q_has L k.oid = 0) && q_counts k (lget L k.oid.toNat free)
def q_nobj (L : List Obj) (k : Key) : Obj := if q_is L k then lget L k.oid.toNat free else free
def q_prep (L : List Obj) (k : Key) : Key := if q_snone L || !q_keyOk k || (q_named k && !q_is L k) then void else k
def q_newOk (n : Int) : Bool := decide (1 ≤ n) && decide (n ≤ 64)
def q_new (n : Int) : List Obj := List.replicate n.toNat free
def q_putL (L : List Obj) (i : Int) (o : Obj) : List Obj := if q_has L i = 0 ∧ q_ochk o (llen L : Int) = 0 then lset L i.toNat o else L
def q_put (L : List Obj) (i : Int) (o : Obj) : Int := if q_has L i = 0 then q_ochk o (llen L : Int) else q_has L i
def q_right (l : List Obj) : Bool := decide (1 ≤ llen l) && decide (llen l ≤ 64) && (List.range (llen l)).all fun i => q_objOk (lget l i free) (llen l : Int)
def q_ofL (l : List Obj) (g : Int) : List Obj := l.take g.toNat ++ List.replicate (l.length - g.toNat) free
def q_invR (l : List Obj) (g : Int) : Prop := 0 ≤ g ∧ g ≤ (llen l : Int) ∧ ∀ j : Nat, (j : Int) < g → q_objOk (lget l j free) (llen l : Int) = true
def q_invN (n i : Int) : Prop := 0 ≤ i ∧ i ≤ n
abbrev tS : Nat := 62
abbrev eS : Nat := 93
/-- What makes a store gives: one, or none. -/
def kMk (c : Bool) (M : List Obj) (v : V) (r : List Res) : Prop :=
  match v with
  | .tp l => match l with
    | [a, b] => match a with
      | .nl p => match p with
        | .pointer none => c = false ∧ isV (.ci .i64 2) b r
        | _ => False
      | .lp j off => match shOf r j with
        | some (t, e, L) => if off == 0 && t == tS && e == eS then c = true ∧ isV (.ci .i64 0) b r ∧ L = M else False
        | none => False
      | _ => False
    | _ => False
  | _ => False
def kNew (n : Int) : V → List Res → Prop := kMk (q_newOk n) (q_new n)
def kOf (l : List Obj) (v : V) (r : List Res) : Prop :=
  match rget r 0 with
  | .ro _ => kMk (q_right l) l v r
  | _ => False
theorem kOf_out {l : List Obj} {v : V} {r : List Res} (h : kOf l v r) : kMk (q_right l) l v r ∧ shOf r 0 = none := by
  unfold kOf at h
  split at h
  · rename_i hr
    refine ⟨h, ?_⟩
    unfold shOf stOf
    rw [hr]
  · exact h.elim
/-- What a change of a store gives. -/
def kSt (x : V) (M : List Obj) (v : V) (r : List Res) : Prop :=
  match stOf r 0 with
  | some (t, e, _, L) => if t == tS && e == eS then isV x v r ∧ L = M else False
  | none => False
def h_new : HCt := fun args res K =>
  match args with
  | [a] => match rI .i64 a with
    | some n => (q_newOk n = false → K (.tp [nilp, .ci .i64 2]) res) ∧ (q_newOk n = true → K (.tp [.lp res.length 0, .ci .i64 0]) (res ++ [.store tS eS (q_new n)]))
    | none => False
  | _ => False
def isZ (c : V) : Bool :=
  match c with
  | .ag l => match l with
    | [x] => match x with
      | .nl v => match v with
        | .slice none 0 0 => true
        | _ => false
      | _ => false
    | _ => false
  | _ => false
theorem isZ_spec {c : V} (h : isZ c = true) : c = .ag [.nl (.slice none 0 0)] := by
  unfold isZ at h
  split at h
  · split at h
    · split at h
      · split at h
        · rfl
        · simp at h
      · simp at h
    · simp at h
  · simp at h
def h_put : HCt := fun args res K =>
  match args with
  | [a, b, c] => match rI .i64 b with
    | some i => match rO c with
      | some o => match a with
        | .nl v => match v with
          | .pointer none => K (.it .i64 (q_put [] i o)) res
          | _ => False
        | .lp k off => if off == 0 then match rget res k with
            | .store t e L => if t == tS && e == eS then K (.it .i64 (q_put L i o)) (rset res k (.store tS eS (q_putL L i o))) else False
            | .blk t c => if t == tS && isZ c then K (.it .i64 (q_put [] i o)) res else False
            | _ => False
          else False
        | _ => False
      | none => False
    | none => False
  | _ => False
structure Stp where
  puts : Bool
  oid : Int
  ob : Obj
def Stp.wf (x : Stp) : Prop := inR .i64 x.oid ∧ x.ob.wf
def stp0 : Stp := ⟨false, 0, free⟩
def stpV (x : Stp) : V := .ag [.bo x.puts, .it .i64 x.oid, .ob x.ob]
def stps (l : List Stp) : TL := .fn (llen l) fun i => stpV (lget l i stp0)
def q_invP (l : List Stp) (n : Int) (g : Int × List Obj) : Prop := 0 ≤ g.1 ∧ g.1 ≤ (llen l : Int) ∧ (llen g.2 : Int) = n
def q_muP (l : List Stp) (g : Int × List Obj) : Nat := llen l - g.1.toNat
def g_known : Ct := mk0 (.bo true)
def q_invL (l : List Obj) (g : Int) : Prop := 0 ≤ g ∧ g ≤ (llen l : Int)
def q_invK (l : List Key) (g : Int) : Prop := 0 ≤ g ∧ g ≤ (llen l : Int)
def q_same (L M : List Obj) : Bool := decide (L = M)
def q_invS (L M : List Obj) (g : Int) : Prop := 0 ≤ g ∧ g ≤ (llen L : Int) ∧ g ≤ (llen M : Int) ∧ ∀ j : Nat, (j : Int) < g → lget L j free = lget M j free
def g_same : Ct := mkSA tS eS fun L M => .bo (q_same L M)
def q_ago (leave g : Int) : Int := if g < imax 1 leave then g else imax 1 leave
def q_invA1 (L : List Obj) (leave g : Int) : Prop := 0 ≤ g ∧ g ≤ (llen L : Int) ∧ (g = 0 ∨ g < leave)
def q_invA2 (L : List Obj) (g : Int) : Prop := 0 ≤ g ∧ g ≤ (llen L : Int)
def q_inv40 (g : Int) : Prop := 0 ≤ g ∧ g ≤ 40
def q_unlG (L M : List Obj) (g : Int) : List Int := ((List.range g.toNat).filter fun j => !oeq (lget L j free) (lget M j free)).map Int.ofNat
def q_unlNo (L M : List Obj) : Bool := q_snone L || q_snone M || !decide ((llen L : Int) = (llen M : Int))
def q_unl (L M : List Obj) : List Int := q_unlG L M (llen L : Int)
def q_take (L : List Obj) (g : Int) : List Obj := L.take g.toNat
def q_invU (L : List Obj) (g : Int) : Prop := 0 ≤ g ∧ g ≤ (llen L : Int)
abbrev nls : V := .nl (.slice none 0 0)
abbrev tI : Nat := 3
def kCopy (L : List Obj) (v : V) (r : List Res) : Prop :=
  match v with
  | .nl p => match p with
    | .pointer none => q_snone L = true
    | _ => False
  | .lp j off => match shOf r j with
    | some (t, e, M) => if off == 0 && t == tS && e == eS && Nat.ble 1 j then q_snone L = false ∧ M = L else False
    | none => False
  | _ => False
def kUnl (L M : List Obj) (v : V) (r : List Res) : Prop :=
  match v with
  | .nl p => match p with
    | .slice none 0 0 => q_unlNo L M = true
    | _ => False
  | .sa j => match rget r j with
    | .arr own esz l => match own with
      | some e => match l with
        | .it k l => match k with
          | .i64 => if e == tI && esz == 1 && Nat.ble 2 j then q_unlNo L M = false ∧ l = q_unl L M else False
          | _ => False
        | _ => False
      | none => False
    | _ => False
  | _ => False
def h_copy : HCt := fun args res K =>
  match args with
  | [a] => match a with
    | .nl v => match v with
      | .pointer none => K nilp res
      | _ => False
    | .lp k off => if off == 0 then match rlook res k with
        | .store t e L => if t == tS && e == eS then llen L ≤ 1000 ∧ (q_snone L = true → K nilp res) ∧ (q_snone L = false → K (.lp res.length 0) (res ++ [.store tS eS L])) else False
        | _ => False
      else False
    | _ => False
  | _ => False
def h_unl : HCt := fun args res K =>
  match args with
  | [a, b] => match b with
    | .lp j off => if off == 0 then match rlook res j with
        | .store t e M => if t == tS && e == eS then match a with
            | .nl v => match v with
              | .pointer none => K nls res
              | _ => False
            | .lp k off' => if off' == 0 && !(k == j) then match rlook res k with
                | .store t e L => if t == tS && e == eS then llen L ≤ 1000 ∧ (q_unlNo L M = true → K nls res) ∧ (q_unlNo L M = false → K (.sa res.length) (res ++ [.arr (some tI) 1 (.it .i64 (q_unl L M))])) else False
                | _ => False
              else False
            | _ => False
          else False
        | _ => False
      else False
    | _ => False
  | _ => False
def g_none2 : Ct := fun res nid xs => match xs with
  | [a] => match rS tS eS res a with
    | some (o, L) => match o with
      | none => some (none, .cb true, [])
      | some _ => some (none, .bo (q_snone L), [])
    | none => none
  | _ => none
def q_inv0 (g : Int) : Prop := g = 0
def q_invV (L M : List Obj) (g : Int) : Prop := 0 ≤ g ∧ g ≤ (llen L : Int) ∧ (g = 0 ∨ llen L = llen M)
def q_invW (n : Nat) (g : Int) : Prop := 0 ≤ g ∧ g ≤ (n : Int)
def q_few (L : List Obj) : Prop := llen L ≤ 1000
def g_osame : Ct := mkSS tS eS (fun L M => q_few L ∧ q_few M) fun L M => .bo (q_same L M)
def g_rsame : Ct := mkAA fun L M => .bo (q_same L M)
theorem len_llen {α : Type} (l : List α) : n2i (llen l) = (l.length : Int) := rfl
theorem len_cast {α : Type} (l : List α) : ((llen l : Nat) : Int) = (l.length : Int) := rfl
def h_of : HCt := fun args res K =>
  match args with
  | [a] => match a with
    | .sa k => match rlook res k with
      | .arr _ e l => if e == 163 then match l with
        | .ob l => (q_right l = false → K (.tp [nilp, .ci .i64 2]) res) ∧ (q_right l = true → K (.tp [.lp res.length 0, .ci .i64 0]) (res ++ [.store tS eS l]))
        | _ => False
        else False
      | _ => False
    | _ => False
  | _ => False
def g_right : Ct := mkA fun l => .bo (q_right l)
def g_lcounts : Ct := mkA1 rK fun l k => .bo (q_is l k)
def g_lprep : Ct := mkA1 rK fun l k => .key (q_prep l k)
def g_none : Ct := mkS tS eS fun L => .bo (q_snone L)
def g_has : Ct := mkS1 tS eS (rI .i64) fun L i => .it .i64 (q_has L i)
def g_get : Ct := mkS1 tS eS (rI .i64) fun L i => .tp [.ob (q_get L i), .it .i64 (q_has L i)]
def g_size : Ct := mkS tS eS fun L => .it .i64 (q_size L)
def g_named : Ct := mkS1 tS eS rK fun L k => .tp [.ob (q_nobj L k), .bo (q_is L k)]
def g_prep : Ct := mkS1 tS eS rK fun L k => .key (q_prep L k)
theorem few_fit {n : Nat} (h : n < 1000) : pFit n 8 := by unfold pFit; simp only [maxLen]; omega
theorem take_app {L : List Obj} {g : Int} (h0 : 0 ≤ g) (h1 : g < (L.length : Int)) : lapp (q_take L g) (lget L g.toNat free) = q_take L (g + 1) := by
  unfold lapp q_take lget
  rw [show (g + 1).toNat = g.toNat + 1 by omega, List.take_add_one, List.getD_eq_getElem?_getD, List.getElem?_eq_getElem (by omega)]; rfl
theorem take_all {L : List Obj} {g : Int} (h : (L.length : Int) ≤ g) : q_take L g = L := by unfold q_take; rw [List.take_of_length_le (by omega)]
theorem take_len {L : List Obj} {g : Int} : llen (q_take L g) ≤ g.toNat := by unfold llen q_take; rw [List.length_take]; omega
theorem unlG_len {L M : List Obj} {g : Int} : llen (q_unlG L M g) ≤ g.toNat := by
  unfold llen q_unlG
  rw [List.length_map]
  exact Nat.le_trans (List.length_filter_le _ _) (by rw [List.length_range]; omega)
theorem unlG_yes {L M : List Obj} {g : Int} (h0 : 0 ≤ g) (h : (!oeq (lget L g.toNat free) (lget M g.toNat free)) = true) : lapp (q_unlG L M g) g = q_unlG L M (g + 1) := by
  unfold lapp q_unlG
  rw [show (g + 1).toNat = g.toNat + 1 by omega, List.range_succ, List.filter_append, List.map_append]
  simp only [List.filter_cons, h, if_true, List.filter_nil, List.map_cons, List.map_nil]
  congr 2
  show g = ((g.toNat : Nat) : Int)
  omega
theorem unlG_no {L M : List Obj} {g : Int} (h0 : 0 ≤ g) (h : (!oeq (lget L g.toNat free) (lget M g.toNat free)) = false) : q_unlG L M g = q_unlG L M (g + 1) := by
  unfold q_unlG
  rw [show (g + 1).toNat = g.toNat + 1 by omega, List.range_succ, List.filter_append, List.map_append]
  simp only [List.filter_cons, h, Bool.false_eq_true, if_false, List.filter_nil, List.map_nil, List.append_nil]
theorem unl_nil {L M : List Obj} (h : L.length = M.length) : q_unl L M = [] ↔ L = M := by
  unfold q_unl q_unlG
  rw [List.map_eq_nil_iff, List.filter_eq_nil_iff]
  simp only [List.mem_range, Bool.not_eq_true', Bool.not_eq_false]
  constructor
  · intro hh
    refine List.ext_getElem h fun i h1 h2 => ?_
    have := hh i (by unfold llen; omega)
    simp only [oeq, decide_eq_true_eq, lget, List.getD_eq_getElem?_getD, List.getElem?_eq_getElem h1, List.getElem?_eq_getElem h2, Option.getD_some] at this
    exact this
  · rintro rfl i _
    simp [oeq]
theorem unlNo_iff {L M : List Obj} : q_unlNo L M = (q_snone L || q_snone M || !decide (n2i (llen L) = n2i (llen M))) := rfl
theorem len_q (L : List Obj) : q_size L = (L.length : Int) := rfl
theorem snone_nil : q_snone [] = true := rfl
theorem snone_iff {L : List Obj} : q_snone L = true ↔ L = [] := by
  unfold q_snone llen; simp [List.length_eq_zero_iff]
theorem has_nil (i : Int) : q_has [] i = 1 := rfl
theorem has_some {L : List Obj} (h : q_snone L = false) (i : Int) : q_has L i = if i < 0 ∨ (L.length : Int) ≤ i then 4 else 0 := by
  have : L ≠ [] := fun e => by rw [e] at h; simp [snone_nil] at h
  unfold q_has llen; rw [if_neg (by simpa [List.length_eq_zero_iff] using this)]
theorem has_ok {L : List Obj} {i : Int} : q_has L i = 0 ↔ 0 ≤ i ∧ i < (L.length : Int) := by
  unfold q_has llen
  split
  · omega
  · split <;> omega
theorem named_law (L : List Obj) (k : Key) : ((!q_named k) = true → free = q_nobj L k ∧ false = q_is L k) ∧
    ((!q_named k) = false →
      ((!decide (q_has L (q_oid k) = 0) || !q_counts k (q_get L (q_oid k))) = true →
          free = q_nobj L k ∧ false = q_is L k) ∧
        ((!decide (q_has L (q_oid k) = 0) || !q_counts k (q_get L (q_oid k))) = false →
          q_get L (q_oid k) = q_nobj L k ∧ true = q_is L k)) := by
  have fin : ∀ b, q_is L k = b → (b = false → free = q_nobj L k) ∧ b = q_is L k := fun b h => ⟨fun hb => by unfold q_nobj; rw [h, hb]; rfl, h.symm⟩
  refine ⟨fun h => ?_, fun h => ?_⟩
  · have h : q_named k = false := by simpa using h
    have := fin false (by unfold q_is; rw [h]; rfl)
    exact ⟨this.1 rfl, this.2⟩
  · have h : q_named k = true := by simpa using h
    have ho : q_oid k = k.oid := by unfold q_oid; rw [if_pos h]
    rw [ho]
    by_cases hh : q_has L k.oid = 0
    · have hg : q_get L k.oid = lget L k.oid.toNat free := by unfold q_get; rw [if_pos hh]
      rw [hg]
      have e : q_is L k = q_counts k (lget L k.oid.toNat free) := by unfold q_is; simp [h, hh]
      refine ⟨fun hc => ?_, fun hc => ?_⟩
      · have hc : q_counts k (lget L k.oid.toNat free) = false := by simpa [hh] using hc
        have := fin false (by rw [e, hc])
        exact ⟨this.1 rfl, this.2⟩
      · have hc : q_counts k (lget L k.oid.toNat free) = true := by simpa [hh] using hc
        have := fin true (by rw [e, hc])
        refine ⟨?_, this.2⟩
        unfold q_nobj
        rw [e, hc]; rfl
    · have := fin false (by unfold q_is; simp [hh])
      exact ⟨fun _ => ⟨this.1 rfl, this.2⟩, fun hc => by simp [hh] at hc⟩
theorem prep_law (L : List Obj) (k : Key) : ((q_snone L || !decide (q_chk k = 0)) = true → void = q_prep L k) ∧
    ((q_snone L || !decide (q_chk k = 0)) = false →
      ((q_named k && !q_is L k) = true → void = q_prep L k) ∧ ((q_named k && !q_is L k) = false → k = q_prep L k)) := by
  have hc : (!decide (q_chk k = 0)) = !q_keyOk k := by unfold q_chk; cases q_keyOk k <;> simp
  rw [hc]
  unfold q_prep
  refine ⟨fun h => ?_, fun h => ⟨fun h2 => ?_, fun h2 => ?_⟩⟩
  · rw [if_pos]; simp only [h, Bool.true_or]
  · rw [if_pos]; simp only [h2, Bool.or_true]
  · rw [if_neg]; simp only [h, h2]; simp
theorem newOk_iff {n : Int} : q_newOk n = true ↔ 1 ≤ n ∧ n ≤ 64 := by simp [q_newOk]
theorem new_app {g : Int} (h : 0 ≤ g) : lapp (q_new g) free = q_new (g + 1) := by
  unfold lapp q_new
  rw [show (g + 1).toNat = g.toNat + 1 by omega, List.replicate_succ']
theorem put_nil {i : Int} {o : Obj} : q_put [] i o = 1 := by unfold q_put; rw [has_nil]; rfl
theorem put_bad {L : List Obj} {i : Int} {o : Obj} (h : q_has L i ≠ 0) : q_put L i o = q_has L i ∧ q_putL L i o = L := by
  unfold q_put q_putL
  rw [if_neg h, if_neg (fun hh => h hh.1)]; exact ⟨rfl, rfl⟩
theorem put_no {L : List Obj} {i : Int} {o : Obj} (h : q_has L i = 0) (h2 : q_ochk o (llen L : Int) ≠ 0) : q_put L i o = q_ochk o (llen L : Int) ∧ q_putL L i o = L := by
  unfold q_put q_putL
  rw [if_pos h, if_neg (fun hh => h2 hh.2)]; exact ⟨rfl, rfl⟩
theorem put_yes {L : List Obj} {i : Int} {o : Obj} (h : q_has L i = 0) (h2 : q_ochk o (llen L : Int) = 0) : q_put L i o = 0 ∧ q_putL L i o = lset L i.toNat o := by
  unfold q_put q_putL
  rw [if_pos h, if_pos ⟨h, h2⟩]; exact ⟨h2, rfl⟩
theorem kMk_no {c : Bool} {M : List Obj} (hn : c = false) {v : V} {r : List Res} (h : kMk c M v r) : isE (.tp [nilp, .ci .i64 2]) v [] := by
  unfold kMk at h
  split at h
  · split at h
    · split at h
      · split at h
        · exact isE_tp2 (isV_isE h.2)
        · exact h.elim
      · split at h
        · split at h
          · rw [hn] at h; simp at h
          · exact h.elim
        · exact h.elim
      · exact h.elim
    · exact h.elim
  · exact h.elim
theorem kMk_yes {c : Bool} {M : List Obj} (hn : c = true) {v : V} {r : List Res} (h : kMk c M v r) : ∃ j b, v = .tp [.lp j 0, b] ∧ isE (.ci .i64 0) b [] ∧ shOf r j = some (tS, eS, M) := by
  unfold kMk at h
  split at h
  · split at h
    · split at h
      · split at h
        · rw [hn] at h; simp at h
        · exact h.elim
      · split at h
        · rename_i hst
          split at h
          · rename_i hc
            simp only [Bool.and_eq_true, beq_iff_eq] at hc
            obtain ⟨⟨rfl, rfl⟩, rfl⟩ := hc
            obtain ⟨_, h2, rfl⟩ := h
            exact ⟨_, _, rfl, isV_isE h2, hst⟩
          · exact h.elim
        · exact h.elim
      · exact h.elim
    · exact h.elim
  · exact h.elim
/-- What was made, as the callers see it. -/
theorem kMk_out {c : Bool} {M : List Obj} (hn : c = true) {v : V} {r : List Res} (h : kMk c M v r) : ∃ j r', shOf r j = some (tS, eS, M) ∧ (r' = r ∨ shutS r j = some r') ∧ rget r' j = .store tS eS M ∧ ∀ (κ : Nat → Option Nat) (i : Nat), κ j = some i → Turns κ v (.tp [.lp i 0, .ci .i64 0]) := by
  obtain ⟨j, b, rfl, hb, hst⟩ := kMk_yes hn h
  have ht : ∀ (κ : Nat → Option Nat) (i : Nat), κ j = some i → Turns κ (.tp [.lp j 0, b]) (.tp [.lp i 0, .ci .i64 0]) := fun κ i hi ρ2 ρ3 N N' hv hN hk => by
    obtain ⟨s1, s2, _⟩ := hb ρ2 N
    refine ⟨?_, hN j i hi hk.1, by simp [ok, inR], trivial⟩
    simp only [den, denL, (hv j i hi).1, s1]
  rcases shOf_out hst with h1 | ⟨r', h1, h2⟩
  · exact ⟨j, r, hst, .inl rfl, h1, ht⟩
  · exact ⟨j, r', hst, .inr h1, h2, ht⟩
theorem kSt_out {x : V} {M : List Obj} {v : V} {r : List Res} (h : kSt x M v r) : ∃ t, stOf r 0 = some (tS, eS, t, M) ∧ isE x v r := by
  unfold kSt at h
  split at h
  · rename_i hst
    split at h
    · rename_i hc
      simp only [Bool.and_eq_true, beq_iff_eq] at hc
      obtain ⟨rfl, rfl⟩ := hc
      obtain ⟨h1, rfl⟩ := h
      exact ⟨_, hst, isV_isE h1⟩
    · exact h.elim
  · exact h.elim
/-- A change of a store, by its open form. -/
theorem onSt {P : Program} {f : Nat} {rest : List V} {res : List Res} {K KP : V → List Res → Prop} {k : Nat} {L M : List Obj} {x : V} (hr : rget res k = .store tS eS L) (hid : idfL rest = true) (hx : idf x = true)
    (h : (∀ o ∈ L, o.wf) → L.length ≤ 9223372036854775807 → CallTo P f (.lp 0 0 :: rest) [.blk tS (.ag [.sa 1]), .obs eS 2 L, .gen 1] (kSt x M) (fun _ _ => False)) (hK : K x (rset res k (.store tS eS M))) : CallTo P f (.lp k 0 :: rest) res K KP := by
  refine CallTo.onStore hr hid hx ?_ hK
  refine CallTo.fact (k := 0) rfl fun w1 w2 => ?_
  refine CallTo.openS (k := 0) rfl ?_
  refine CallTo.shut (h w1 w2) fun v r hv => ?_
  obtain ⟨t, h1, h2⟩ := kSt_out hv
  obtain ⟨r', g1, g2⟩ := stOf_shut h1
  exact .inr ⟨0, r', g1, fun ρ K => h2 ρ K, g2⟩
theorem right_iff {l : List Obj} : q_right l = true ↔ 1 ≤ l.length ∧ l.length ≤ 64 ∧ ∀ i, i < l.length → q_objOk (lget l i free) (l.length : Int) = true := by
  unfold q_right llen
  simp only [Bool.and_eq_true, decide_eq_true_eq, List.all_eq_true, List.mem_range, and_assoc]
theorem right_no {l : List Obj} (h : ¬ (1 ≤ l.length ∧ l.length ≤ 64 ∧ ∀ i, i < l.length → q_objOk (lget l i free) (l.length : Int) = true)) : q_right l = false := by
  cases hr : q_right l with
  | false => rfl
  | true => exact absurd (right_iff.1 hr) h
theorem ofL_len {l : List Obj} {g : Int} (h1 : g ≤ (l.length : Int)) : (q_ofL l g).length = l.length := by
  unfold q_ofL
  simp only [List.length_append, List.length_take, List.length_replicate]
  omega
theorem ofL_zero {l : List Obj} : q_new (l.length : Int) = q_ofL l 0 := by unfold q_new q_ofL; simp
theorem ofL_all {l : List Obj} {g : Int} (h : (l.length : Int) ≤ g) : q_ofL l g = l := by
  unfold q_ofL
  rw [List.take_of_length_le (by omega), show l.length - g.toNat = 0 by omega]; simp
theorem ofL_set {l : List Obj} {g : Int} (h0 : 0 ≤ g) (h1 : g < (l.length : Int)) : lset (q_ofL l g) g.toNat (lget l g.toNat free) = q_ofL l (g + 1) := by
  unfold lset q_ofL lget
  obtain ⟨n, rfl⟩ := Int.eq_ofNat_of_zero_le h0
  have hn : n < l.length := by omega
  have e1 : ((n : Int) + 1).toNat = n + 1 := by omega
  have e2 : ((n : Int)).toNat = n := by omega
  rw [e1, e2]
  apply List.ext_getElem?
  intro i
  rw [List.getElem?_set]
  have hlt : (List.take n l ++ List.replicate (l.length - n) free).length = l.length := by simp; omega
  have htl : (List.take n l).length = n := by simp; omega
  have htl1 : (List.take (n + 1) l).length = n + 1 := by simp; omega
  by_cases hi : n = i
  · subst hi
    rw [if_pos rfl, if_pos (by rw [hlt]; exact hn), List.getElem?_append_left (by rw [htl1]; omega), List.getElem?_take, if_pos (by omega), List.getD_eq_getElem?_getD, List.getElem?_eq_getElem hn]; rfl
  · rw [if_neg hi]
    by_cases hl : i < n
    · rw [List.getElem?_append_left (by rw [htl]; exact hl), List.getElem?_append_left (by rw [htl1]; omega), List.getElem?_take, List.getElem?_take, if_pos hl, if_pos (by omega)]
    · rw [List.getElem?_append_right (by rw [htl]; omega), List.getElem?_append_right (by rw [htl1]; omega), htl, htl1, List.getElem?_replicate, List.getElem?_replicate]
      by_cases hb : i < l.length
      · rw [if_pos (by omega), if_pos (by omega)]
      · rw [if_neg (by omega), if_neg (by omega)]
theorem of_put {l : List Obj} {g : Int} (h0 : 0 ≤ g) (h1 : g < (l.length : Int)) (x : Obj) : q_put (q_ofL l g) g x = q_ochk x (l.length : Int) := by
  have hh : q_has (q_ofL l g) g = 0 := has_ok.2 (by rw [ofL_len (by omega)]; exact ⟨h0, h1⟩)
  unfold q_put llen
  rw [if_pos hh, ofL_len (by omega)]
theorem of_putL {l : List Obj} {g : Int} (h0 : 0 ≤ g) (h1 : g < (l.length : Int)) (hx : q_ochk (lget l g.toNat free) (l.length : Int) = 0) : q_putL (q_ofL l g) g (lget l g.toNat free) = q_ofL l (g + 1) := by
  have hh : q_has (q_ofL l g) g = 0 := has_ok.2 (by rw [ofL_len (by omega)]; exact ⟨h0, h1⟩)
  unfold q_putL llen
  rw [if_pos ⟨hh, by rw [ofL_len (by omega)]; exact hx⟩]
  exact ofL_set h0 h1
theorem ochk_cases (o : Obj) (n : Int) : (q_ochk o n = 0 ∧ q_objOk o n = true) ∨ (q_ochk o n = 2 ∧ q_objOk o n = false) := by
  unfold q_ochk
  cases q_objOk o n <;> simp
theorem names_named (k : Key) : (q_named k = true ∧ q_names k = k.oid ∧ 0 ≤ k.oid) ∨ (q_named k = false ∧ q_names k = -1) := by
  have h : q_names k = if q_named k then k.oid else -1 := rfl
  cases hn : q_named k
  · exact .inr ⟨rfl, by rw [h, hn]; rfl⟩
  · refine .inl ⟨rfl, by rw [h, hn]; rfl, ?_⟩
    unfold q_named at hn
    simp only [Bool.and_eq_true] at hn
    have := hn.1
    simp only [q_keyOk, q_within, hn.2, if_true, Bool.and_eq_true, decide_eq_true_eq] at this
    omega
theorem lcounts_law (l : List Obj) (k : Key) (hl : l.length ≤ 9223372036854775807) : ((decide (0 ≤ q_names k) && decide (q_names k < n2i (llen l))) = true → inRo IntKind.i64 (n2i (llen l) - 1)) ∧
    ((decide (0 ≤ q_names k) && decide (q_names k < n2i (llen l))) = true →
        0 ≤ imin (q_names k) (n2i (llen l) - 1) ∧ imin (q_names k) (n2i (llen l) - 1) < ↑(llen l)) ∧
      ((decide (0 ≤ q_names k) && decide (q_names k < n2i (llen l))) = true →
          (imin (q_names k) (n2i (llen l) - 1)).toNat < llen l) ∧
        (decide (0 ≤ q_names k) && decide (q_names k < n2i (llen l)) &&
            q_counts k (lget l (imin (q_names k) (n2i (llen l) - 1)).toNat free)) =
          q_is l k := by
  unfold n2i llen
  have hm : 0 ≤ q_names k → q_names k < (l.length : Int) → imin (q_names k) ((l.length : Int) - 1) = q_names k := fun h1 h2 => by
    unfold imin; rw [if_neg (by omega)]
  simp only [Bool.and_eq_true, decide_eq_true_eq]
  refine ⟨fun h => by simp only [inRo, inR]; omega, fun h => by rw [hm h.1 h.2]; exact h, fun h => by rw [hm h.1 h.2]; omega, ?_⟩
  rcases names_named k with ⟨h1, h2, h3⟩ | ⟨h1, h2⟩
  · by_cases hh : k.oid < (l.length : Int)
    · rw [hm (by omega) (by omega), h2]
      have h0 : q_has l k.oid = 0 := has_ok.2 ⟨h3, hh⟩
      unfold q_is
      simp [h1, h0, h3, hh]
    · have h0 : ¬ q_has l k.oid = 0 := fun h => hh (has_ok.1 h).2
      unfold q_is
      rw [h2]
      simp [h0, hh]
  · unfold q_is
    simp [h1, h2]
theorem lprep_law (l : List Obj) (k : Key) : ((decide (n2i (llen l) = 0) || !decide (q_chk k = 0) || decide (0 ≤ q_names k) && !q_is l k) = true → void = q_prep l k) ∧
    ((decide (n2i (llen l) = 0) || !decide (q_chk k = 0) || decide (0 ≤ q_names k) && !q_is l k) = false → k = q_prep l k) := by
  have hc : (!decide (q_chk k = 0)) = !q_keyOk k := by unfold q_chk; cases q_keyOk k <;> simp
  have hd : decide (0 ≤ q_names k) = q_named k := by
    rcases names_named k with ⟨h1, h2, h3⟩ | ⟨h1, h2⟩
    · rw [h1, h2]; simpa using h3
    · rw [h1, h2]; simp
  have he : decide (n2i (llen l) = 0) = q_snone l := by
    unfold q_snone n2i
    rw [decide_eq_decide]; omega
  rw [hc, hd, he]
  unfold q_prep
  exact ⟨fun h => by rw [h]; rfl, fun h => by rw [h]; rfl⟩
theorem prep_idem (L : List Obj) (k : Key) : q_prep L (q_prep L k) = q_prep L k := by
  cases h : (q_snone L || !q_keyOk k || (q_named k && !q_is L k)) with
  | true =>
    have e : q_prep L k = void := by unfold q_prep; rw [h]; rfl
    rw [e]
    unfold q_prep
    split <;> rfl
  | false =>
    have e : q_prep L k = k := by unfold q_prep; rw [h]; rfl
    rw [e, e]
theorem is_names {l : List Obj} {k : Key} (h : q_is l k = true) : 0 ≤ q_names k ∧ q_names k < (l.length : Int) ∧ q_nobj l k = lget l (q_names k).toNat free := by
  have h' := h
  unfold q_is at h
  simp only [Bool.and_eq_true, decide_eq_true_eq] at h
  have hb := has_ok.1 h.1.2
  rcases names_named k with ⟨h1, h2, h3⟩ | ⟨h1, h2⟩
  · rw [h2]
    exact ⟨hb.1, hb.2, by unfold q_nobj; rw [h', if_pos rfl]⟩
  · rw [h1] at h; simp at h
theorem is_free {l : List Obj} {k : Key} (h : q_is l k = false) : q_nobj l k = free := by unfold q_nobj; rw [h]; rfl
theorem keys_law (l : List Obj) (x : Key) : (!q_is l x == q_is l x || q_is l x && !oeq (q_nobj l x) (lget l (q_names x).toNat free) || !q_is l x && !oeq (q_nobj l x) free || !keq (q_prep l x) (q_prep l x) || !keq (q_prep l (q_prep l x)) (q_prep l x)) = false := by
  rw [prep_idem]
  unfold keq oeq
  cases h : q_is l x
  · rw [is_free h]; simp
  · rw [(is_names h).2.2]; simp
theorem list_ext {L M : List Obj} (h : L.length = M.length) (h2 : ∀ j : Nat, j < L.length → lget L j free = lget M j free) : L = M := by
  apply List.ext_getElem h
  intro i h3 h4
  have := h2 i h3
  unfold lget at this
  simpa [List.getD_eq_getElem?_getD, h3, h4] using this
theorem same_end {L M : List Obj} {g : Int} (hg : q_invS L M g) (hge : (llen L : Int) ≤ g) : (decide (g = n2i (llen M)) && decide (q_size L = g)) = q_same L M := by
  obtain ⟨g0, g1, g2, g3⟩ := hg
  have e : g = (L.length : Int) := by unfold llen at *; omega
  subst e
  unfold q_same q_size n2i llen
  cases hd : decide (L = M) with
  | true =>
    have := of_decide_eq_true hd
    subst this
    simp
  | false =>
    have hne := of_decide_eq_false hd
    simp only [decide_true, Bool.and_true, decide_eq_false_iff_not]
    intro hl
    exact hne (list_ext (by omega) fun j hj => g3 j (by omega))
end Go.Sx
