/- Stores in plain Lean. No condition. -/
import Derived.Test.YtfalhknkaebfoaaKO
import Derived.Test.YtfalhknkaebfoaaSxF
set_option linter.unusedVariables false
set_option linter.unusedSimpArgs false
namespace Go.Sx
def q_snone (L : List Obj) : Bool := decide (llen L = 0)
def q_has (L : List Obj) (oid : Int) : Int := if llen L = 0 then 1 else if oid < 0 ∨ (llen L : Int) ≤ oid then 4 else 0
def q_get (L : List Obj) (oid : Int) : Obj := if q_has L oid = 0 then lget L oid.toNat free else free
def q_size (L : List Obj) : Int := (llen L : Int)
def q_is (L : List Obj) (k : Key) : Bool := q_named k && decide (q_has L k.oid = 0) && q_counts k (lget L k.oid.toNat free)
def q_nobj (L : List Obj) (k : Key) : Obj := if q_is L k then lget L k.oid.toNat free else free
def q_prep (L : List Obj) (k : Key) : Key := if q_snone L || !q_keyOk k || (q_named k && !q_is L k) then void else k
def q_newOk (n : Int) : Bool := decide (1 ≤ n) && decide (n ≤ 64)
def q_new (n : Int) : List Obj := List.replicate n.toNat free
def q_putL (L : List Obj) (i : Int) (o : Obj) : List Obj := if q_has L i = 0 ∧ q_ochk o (llen L : Int) = 0 then lset L i.toNat o else L
def q_put (L : List Obj) (i : Int) (o : Obj) : Int := if q_has L i = 0 then q_ochk o (llen L : Int) else q_has L i
def q_right (l : List Obj) : Bool := decide (1 ≤ llen l) && decide (llen l ≤ 64) && (List.range (llen l)).all fun i => q_objOk (lget l i free) (llen l : Int)
def q_ofL (l : List Obj) (g : Int) : List Obj := l.take g.toNat ++ List.replicate (l.length - g.toNat) free
def q_invR (l : List Obj) (g : Int) : Prop := 0 ≤ g ∧ g ≤ (llen l : Int) ∧ ∀ j : Nat, (j : Int) < g → q_objOk (lget l j free) (llen l : Int) = true
def q_invN (n i : Int) : Prop := 0 ≤ i ∧ i ≤ n
abbrev tS : Nat := 75
abbrev eS : Nat := 118
/-- What makes a store gives: one, or none. -/
def kMk (c : Bool) (M : List Obj) (v : V) (r : List Res) : Prop :=
  match v with
  | .tp l => match l with
    | [a, b] => match a with
      | .nl p => match p with
        | .pointer none => c = false ∧ isV (.ci .i64 2) b r
        | _ => False
      | .lp j off => match shOf r j with
        | some (t, e, L) => if off == 0 && t == tS && e == eS then c = true ∧ isV (.ci .i64 0) b r ∧ L = M else False
        | none => False
      | _ => False
    | _ => False
  | _ => False
def kNew (n : Int) : V → List Res → Prop := kMk (q_newOk n) (q_new n)
def kOf (l : List Obj) (v : V) (r : List Res) : Prop :=
  match rget r 0 with
  | .ro _ => kMk (q_right l) l v r
  | _ => False
theorem kOf_out {l : List Obj} {v : V} {r : List Res} (h : kOf l v r) : kMk (q_right l) l v r ∧ shOf r 0 = none := by
  unfold kOf at h
  split at h
  · rename_i hr
    refine ⟨h, ?_⟩
    unfold shOf stOf
    rw [hr]
  · exact h.elim
/-- What a change of a store gives. -/
def kSt (x : V) (M : List Obj) (v : V) (r : List Res) : Prop :=
  match stOf r 0 with
  | some (t, e, _, L) => if t == tS && e == eS then isV x v r ∧ L = M else False
  | none => False
def h_new : HCt := fun args res K =>
  match args with
  | [a] => match rI .i64 a with
    | some n => (q_newOk n = false → K (.tp [nilp, .ci .i64 2]) res) ∧ (q_newOk n = true → K (.tp [.lp res.length 0, .ci .i64 0]) (res ++ [.store tS eS (q_new n)]))
    | none => False
  | _ => False
def isZ (c : V) : Bool :=
  match c with
  | .ag l => match l with
    | [x] => match x with
      | .nl v => match v with
        | .slice none 0 0 => true
        | _ => false
      | _ => false
    | _ => false
  | _ => false
theorem isZ_spec {c : V} (h : isZ c = true) : c = .ag [.nl (.slice none 0 0)] := by
  unfold isZ at h
  split at h
  · split at h
    · split at h
      · split at h
        · rfl
        · simp at h
      · simp at h
    · simp at h
  · simp at h
def h_put : HCt := fun args res K =>
  match args with
  | [a, b, c] => match rI .i64 b with
    | some i => match rO c with
      | some o => match a with
        | .nl v => match v with
          | .pointer none => K (.it .i64 (q_put [] i o)) res
          | _ => False
        | .lp k off => if off == 0 then match rget res k with
            | .store t e L => if t == tS && e == eS then K (.it .i64 (q_put L i o)) (rset res k (.store tS eS (q_putL L i o))) else False
            | .blk t c => if t == tS && isZ c then K (.it .i64 (q_put [] i o)) res else False
            | _ => False
          else False
        | _ => False
      | none => False
    | none => False
  | _ => False
structure Stp where
  puts : Bool
  oid : Int
  ob : Obj
def Stp.wf (x : Stp) : Prop := inR .i64 x.oid ∧ x.ob.wf
def stp0 : Stp := ⟨false, 0, free⟩
def stpV (x : Stp) : V := .ag [.bo x.puts, .it .i64 x.oid, .ob x.ob]
def stps (l : List Stp) : TL := .fn (llen l) fun i => stpV (lget l i stp0)
def q_invP (l : List Stp) (n : Int) (g : Int × List Obj) : Prop := 0 ≤ g.1 ∧ g.1 ≤ (llen l : Int) ∧ (llen g.2 : Int) = n
def q_muP (l : List Stp) (g : Int × List Obj) : Nat := llen l - g.1.toNat
def g_known : Ct := mk0 (.bo true)
def q_invL (l : List Obj) (g : Int) : Prop := 0 ≤ g ∧ g ≤ (llen l : Int)
def q_invK (l : List Key) (g : Int) : Prop := 0 ≤ g ∧ g ≤ (llen l : Int)
def q_same (L M : List Obj) : Bool := decide (L = M)
def q_invS (L M : List Obj) (g : Int) : Prop := 0 ≤ g ∧ g ≤ (llen L : Int) ∧ g ≤ (llen M : Int) ∧ ∀ j : Nat, (j : Int) < g → lget L j free = lget M j free
def g_same : Ct := mkSA tS eS fun L M => .bo (q_same L M)
def q_ago (leave g : Int) : Int := if g < imax 1 leave then g else imax 1 leave
def q_invA1 (L : List Obj) (leave g : Int) : Prop := 0 ≤ g ∧ g ≤ (llen L : Int) ∧ (g = 0 ∨ g < leave)
def q_invA2 (L : List Obj) (g : Int) : Prop := 0 ≤ g ∧ g ≤ (llen L : Int)
def q_inv40 (g : Int) : Prop := 0 ≤ g ∧ g ≤ 40
def q_unlG (L M : List Obj) (g : Int) : List Int := ((List.range g.toNat).filter fun j => !oeq (lget L j free) (lget M j free)).map Int.ofNat
def q_unlNo (L M : List Obj) : Bool := q_snone L || q_snone M || !decide ((llen L : Int) = (llen M : Int))
def q_unl (L M : List Obj) : List Int := q_unlG L M (llen L : Int)
def q_take (L : List Obj) (g : Int) : List Obj := L.take g.toNat
def q_invU (L : List Obj) (g : Int) : Prop := 0 ≤ g ∧ g ≤ (llen L : Int)
abbrev nls : V := .nl (.slice none 0 0)
abbrev tI : Nat := 3
def kCopy (L : List Obj) (v : V) (r : List Res) : Prop :=
  match v with
  | .nl p => match p with
    | .pointer none => q_snone L = true
    | _ => False
  | .lp j off => match shOf r j with
    | some (t, e, M) => if off == 0 && t == tS && e == eS && Nat.ble 1 j then q_snone L = false ∧ M = L else False
    | none => False
  | _ => False
def kUnl (L M : List Obj) (v : V) (r : List Res) : Prop :=
  match v with
  | .nl p => match p with
    | .slice none 0 0 => q_unlNo L M = true
    | _ => False
  | .sa j => match rget r j with
    | .arr own esz l => match own with
      | some e => match l with
        | .it k l => match k with
          | .i64 => if e == tI && esz == 1 && Nat.ble 2 j then q_unlNo L M = false ∧ l = q_unl L M else False
          | _ => False
        | _ => False
      | none => False
    | _ => False
  | _ => False
def h_copy : HCt := fun args res K =>
  match args with
  | [a] => match a with
    | .nl v => match v with
      | .pointer none => K nilp res
      | _ => False
    | .lp k off => if off == 0 then match rlook res k with
        | .store t e L => if t == tS && e == eS then llen L ≤ 1000 ∧ (q_snone L = true → K nilp res) ∧ (q_snone L = false → K (.lp res.length 0) (res ++ [.store tS eS L])) else False
        | _ => False
      else False
    | _ => False
  | _ => False
def h_unl : HCt := fun args res K =>
  match args with
  | [a, b] => match b with
    | .lp j off => if off == 0 then match rlook res j with
        | .store t e M => if t == tS && e == eS then match a with
            | .nl v => match v with
              | .pointer none => K nls res
              | _ => False
            | .lp k off' => if off' == 0 && !(k == j) then match rlook res k with
                | .store t e L => if t == tS && e == eS then llen L ≤ 1000 ∧ (q_unlNo L M = true → K nls res) ∧ (q_unlNo L M = false → K (.sa res.length) (res ++ [.arr (some tI) 1 (.it .i64 (q_unl L M))])) else False
                | _ => False
              else False
            | _ => False
          else False
        | _ => False
      else False
    | _ => False
  | _ => False
def g_none2 : Ct := fun res nid xs => match xs with
  | [a] => match rS tS eS res a with
    | some (o, L) => match o with
      | none => some (none, .cb true, [])
      | some _ => some (none, .bo (q_snone L), [])
    | none => none
  | _ => none
def q_inv0 (g : Int) : Prop := g = 0
def q_invV (L M : List Obj) (g : Int) : Prop := 0 ≤ g ∧ g ≤ (llen L : Int) ∧ (g = 0 ∨ llen L = llen M)
def q_invW (n : Nat) (g : Int) : Prop := 0 ≤ g ∧ g ≤ (n : Int)
def q_few (L : List Obj) : Prop := llen L ≤ 1000
def g_osame : Ct := mkSS tS eS (fun L M => q_few L ∧ q_few M) fun L M => .bo (q_same L M)
def g_rsame : Ct := mkAA fun L M => .bo (q_same L M)
theorem len_llen {α : Type} (l : List α) : n2i (llen l) = (l.length : Int) := rfl
theorem len_cast {α : Type} (l : List α) : ((llen l : Nat) : Int) = (l.length : Int) := rfl
def h_of : HCt := fun args res K =>
  match args with
  | [a] => match a with
    | .sa k => match rlook res k with
      | .arr _ e l => if e == 163 then match l with
        | .ob l => (q_right l = false → K (.tp [nilp, .ci .i64 2]) res) ∧ (q_right l = true → K (.tp [.lp res.length 0, .ci .i64 0]) (res ++ [.store tS eS l]))
        | _ => False
        else False
      | _ => False
    | _ => False
  | _ => False
def g_right : Ct := mkA fun l => .bo (q_right l)
def g_lcounts : Ct := mkA1 rK fun l k => .bo (q_is l k)
def g_lprep : Ct := mkA1 rK fun l k => .key (q_prep l k)
def g_none : Ct := mkS tS eS fun L => .bo (q_snone L)
def g_has : Ct := mkS1 tS eS (rI .i64) fun L i => .it .i64 (q_has L i)
def g_get : Ct := mkS1 tS eS (rI .i64) fun L i => .tp [.ob (q_get L i), .it .i64 (q_has L i)]
def g_size : Ct := mkS tS eS fun L => .it .i64 (q_size L)
def g_named : Ct := mkS1 tS eS rK fun L k => .tp [.ob (q_nobj L k), .bo (q_is L k)]
def g_prep : Ct := mkS1 tS eS rK fun L k => .key (q_prep L k)
theorem few_fit {n : Nat} (h : n < 1000) : pFit n 8 := by unfold pFit; simp only [maxLen]; omega
theorem take_app {L : List Obj} {g : Int} (h0 : 0 ≤ g) (h1 : g < (L.length : Int)) : lapp (q_take L g) (lget L g.toNat free) = q_take L (g + 1) := by
  unfold lapp q_take lget
  rw [show (g + 1).toNat = g.toNat + 1 by omega, List.take_add_one, List.getD_eq_getElem?_getD, List.getElem?_eq_getElem (by omega)]; rfl
theorem take_all {L : List Obj} {g : Int} (h : (L.length : Int) ≤ g) : q_take L g = L := by unfold q_take; rw [List.take_of_length_le (by omega)]
theorem take_len {L : List Obj} {g : Int} : llen (q_take L g) ≤ g.toNat := by unfold llen q_take; rw [List.length_take]; omega
theorem unlG_len {L M : List Obj} {g : Int} : llen (q_unlG L M g) ≤ g.toNat := by
  unfold llen q_unlG
  rw [List.length_map]
  exact Nat.le_trans (List.length_filter_le _ _) (by rw [List.length_range]; omega)
theorem unlG_yes {L M : List Obj} {g : Int} (h0 : 0 ≤ g) (h : (!oeq (lget L g.toNat free) (lget M g.toNat free)) = true) : lapp (q_unlG L M g) g = q_unlG L M (g + 1) := by
  unfold lapp q_unlG
  rw [show (g + 1).toNat = g.toNat + 1 by omega, List.range_succ, List.filter_append, List.map_append]
  simp only [List.filter_cons, h, if_true, List.filter_nil, List.map_cons, List.map_nil]
  congr 2
  show g = ((g.toNat : Nat) : Int)
  omega
theorem unlG_no {L M : List Obj} {g : Int} (h0 : 0 ≤ g) (h : (!oeq (lget L g.toNat free) (lget M g.toNat free)) = false) : q_unlG L M g = q_unlG L M (g + 1) := by
  unfold q_unlG
  rw [show (g + 1).toNat = g.toNat + 1 by omega, List.range_succ, List.filter_append, List.map_append]
  simp only [List.filter_cons, h, Bool.false_eq_true, if_false, List.filter_nil, List.map_nil, List.append_nil]
theorem unl_nil {L M : List Obj} (h : L.length = M.length) : q_unl L M = [] ↔ L = M := by
  unfold q_unl q_unlG
  rw [List.map_eq_nil_iff, List.filter_eq_nil_iff]
  simp only [List.mem_range, Bool.not_eq_true', Bool.not_eq_false]
  constructor
  · intro hh
    refine List.ext_getElem h fun i h1 h2 => ?_
    have := hh i (by unfold llen; omega)
    simp only [oeq, decide_eq_true_eq, lget, List.getD_eq_getElem?_getD, List.getElem?_eq_getElem h1, List.getElem?_eq_getElem h2, Option.getD_some] at this
    exact this
  · rintro rfl i _
    simp [oeq]
theorem unlNo_iff {L M : List Obj} : q_unlNo L M = (q_snone L || q_snone M || !decide (n2i (llen L) = n2i (llen M))) := rfl
theorem len_q (L : List Obj) : q_size L = (L.length : Int) := rfl
theorem snone_nil : q_snone [] = true := rfl
theorem snone_iff {L : List Obj} : q_snone L = true ↔ L = [] := by
  unfold q_snone llen; simp [List.length_eq_zero_iff]
theorem has_nil (i : Int) : q_has [] i = 1 := rfl
theorem has_some {L : List Obj} (h : q_snone L = false) (i : Int) : q_has L i = if i < 0 ∨ (L.length : Int) ≤ i then 4 else 0 := by
  have : L ≠ [] := fun e => by rw [e] at h; simp [snone_nil] at h
  unfold q_has llen; rw [if_neg (by simpa [List.length_eq_zero_iff] using this)]
theorem has_ok {L : List Obj} {i : Int} : q_has L i = 0 ↔ 0 ≤ i ∧ i < (L.length : Int) := by
  unfold q_has llen
  split
  · omega
  · split <;> omega
theorem named_law (L : List Obj) (k : Key) : ((!q_named k) = true → free = q_nobj L k ∧ false = q_is L k) ∧
    ((!q_named k) = false →
      ((!decide (q_has L (q_oid k) = 0) || !q_counts k (q_get L (q_oid k))) = true →
          free = q_nobj L k ∧ false = q_is L k) ∧
        ((!decide (q_has L (q_oid k) = 0) || !q_counts k (q_get L (q_oid k))) = false →
          q_get L (q_oid k) = q_nobj L k ∧ true = q_is L k)) := by
  have fin : ∀ b, q_is L k = b → (b = false → free = q_nobj L k) ∧ b = q_is L k := fun b h => ⟨fun hb => by unfold q_nobj; rw [h, hb]; rfl, h.symm⟩
  refine ⟨fun h => ?_, fun h => ?_⟩
  · have h : q_named k = false := by simpa using h
    have := fin false (by unfold q_is; rw [h]; rfl)
    exact ⟨this.1 rfl, this.2⟩
  · have h : q_named k = true := by simpa using h
    have ho : q_oid k = k.oid := by unfold q_oid; rw [if_pos h]
    rw [ho]
    by_cases hh : q_has L k.oid = 0
    · have hg : q_get L k.oid = lget L k.oid.toNat free := by unfold q_get; rw [if_pos hh]
      rw [hg]
      have e : q_is L k = q_counts k (lget L k.oid.toNat free) := by unfold q_is; simp [h, hh]
      refine ⟨fun hc => ?_, fun hc => ?_⟩
      · have hc : q_counts k (lget L k.oid.toNat free) = false := by simpa [hh] using hc
        have := fin false (by rw [e, hc])
        exact ⟨this.1 rfl, this.2⟩
      · have hc : q_counts k (lget L k.oid.toNat free) = true := by simpa [hh] using hc
        have := fin true (by rw [e, hc])
        refine ⟨?_, this.2⟩
        unfold q_nobj
        rw [e, hc]; rfl
    · have := fin false (by unfold q_is; simp [hh])
      exact ⟨fun _ => ⟨this.1 rfl, this.2⟩, fun hc => by simp [hh] at hc⟩
theorem prep_law (L : List Obj) (k : Key) : ((q_snone L || !decide (q_chk k = 0)) = true → void = q_prep L k) ∧
    ((q_snone L || !decide (q_chk k = 0)) = false →
      ((q_named k && !q_is L k) = true → void = q_prep L k) ∧ ((q_named k && !q_is L k) = false → k = q_prep L k)) := by
  have hc : (!decide (q_chk k = 0)) = !q_keyOk k := by unfold q_chk; cases q_keyOk k <;> simp
  rw [hc]
  unfold q_prep
  refine ⟨fun h => ?_, fun h => ⟨fun h2 => ?_, fun h2 => ?_⟩⟩
  · rw [if_pos]; simp only [h, Bool.true_or]
  · rw [if_pos]; simp only [h2, Bool.or_true]
  · rw [if_neg]; simp only [h, h2]; simp
theorem newOk_iff {n : Int} : q_newOk n = true ↔ 1 ≤ n ∧ n ≤ 64 := by simp [q_newOk]
theorem new_app {g : Int} (h : 0 ≤ g) : lapp (q_new g) free = q_new (g + 1) := by
  unfold lapp q_new
  rw [show (g + 1).toNat = g.toNat + 1 by omega, List.replicate_succ']
theorem put_nil {i : Int} {o : Obj} : q_put [] i o = 1 := by unfold q_put; rw [has_nil]; rfl
theorem put_bad {L : List Obj} {i : Int} {o : Obj} (h : q_has L i ≠ 0) : q_put L i o = q_has L i ∧ q_putL L i o = L := by
  unfold q_put q_putL
  rw [if_neg h, if_neg (fun hh => h hh.1)]; exact ⟨rfl, rfl⟩
theorem put_no {L : List Obj} {i : Int} {o : Obj} (h : q_has L i = 0) (h2 : q_ochk o (llen L : Int) ≠ 0) : q_put L i o = q_ochk o (llen L : Int) ∧ q_putL L i o = L := by
  unfold q_put q_putL
  rw [if_pos h, if_neg (fun hh => h2 hh.2)]; exact ⟨rfl, rfl⟩
theorem put_yes {L : List Obj} {i : Int} {o : Obj} (h : q_has L i = 0) (h2 : q_ochk o (llen L : Int) = 0) : q_put L i o = 0 ∧ q_putL L i o = lset L i.toNat o := by
  unfold q_put q_putL
  rw [if_pos h, if_pos ⟨h, h2⟩]; exact ⟨h2, rfl⟩
theorem kMk_no {c : Bool} {M : List Obj} (hn : c = false) {v : V} {r : List Res} (h : kMk c M v r) : isE (.tp [nilp, .ci .i64 2]) v [] := by
  unfold kMk at h
  split at h
  · split at h
    · split at h
      · split at h
        · exact isE_tp2 (isV_isE h.2)
        · exact h.elim
      · split at h
        · split at h
          · rw [hn] at h; simp at h
          · exact h.elim
        · exact h.elim
      · exact h.elim
    · exact h.elim
  · exact h.elim
theorem kMk_yes {c : Bool} {M : List Obj} (hn : c = true) {v : V} {r : List Res} (h : kMk c M v r) : ∃ j b, v = .tp [.lp j 0, b] ∧ isE (.ci .i64 0) b [] ∧ shOf r j = some (tS, eS, M) := by
  unfold kMk at h
  split at h
  · split at h
    · split at h
      · split at h
        · rw [hn] at h; simp at h
        · exact h.elim
      · split at h
        · rename_i hst
          split at h
          · rename_i hc
            simp only [Bool.and_eq_true, beq_iff_eq] at hc
            obtain ⟨⟨rfl, rfl⟩, rfl⟩ := hc
            obtain ⟨_, h2, rfl⟩ := h
            exact ⟨_, _, rfl, isV_isE h2, hst⟩
          · exact h.elim
        · exact h.elim
      · exact h.elim
    · exact h.elim
  · exact h.elim
/-- What was made, as the callers see it. -/
theorem kMk_out {c : Bool} {M : List Obj} (hn : c = true) {v : V} {r : List Res} (h : kMk c M v r) : ∃ j r', shOf r j = some (tS, eS, M) ∧ (r' = r ∨ shutS r j = some r') ∧ rget r' j = .store tS eS M ∧ ∀ (κ : Nat → Option Nat) (i : Nat), κ j = some i → Turns κ v (.tp [.lp i 0, .ci .i64 0]) := by
  obtain ⟨j, b, rfl, hb, hst⟩ := kMk_yes hn h
  have ht : ∀ (κ : Nat → Option Nat) (i : Nat), κ j = some i → Turns κ (.tp [.lp j 0, b]) (.tp [.lp i 0, .ci .i64 0]) := fun κ i hi ρ2 ρ3 N N' hv hN hk => by
    obtain ⟨s1, s2, _⟩ := hb ρ2 N
    refine ⟨?_, hN j i hi hk.1, by simp [ok, inR], trivial⟩
    simp only [den, denL, (hv j i hi).1, s1]
  rcases shOf_out hst with h1 | ⟨r', h1, h2⟩
  · exact ⟨j, r, hst, .inl rfl, h1, ht⟩
  · exact ⟨j, r', hst, .inr h1, h2, ht⟩
theorem kSt_out {x : V} {M : List Obj} {v : V} {r : List Res} (h : kSt x M v r) : ∃ t, stOf r 0 = some (tS, eS, t, M) ∧ isE x v r := by
  unfold kSt at h
  split at h
  · rename_i hst
    split at h
    · rename_i hc
      simp only [Bool.and_eq_true, beq_iff_eq] at hc
      obtain ⟨rfl, rfl⟩ := hc
      obtain ⟨h1, rfl⟩ := h
      exact ⟨_, hst, isV_isE h1⟩
    · exact h.elim
  · exact h.elim
/-- A change of a store, by its open form. -/
theorem onSt {P : Program} {f : Nat} {rest : List V} {res : List Res} {K KP : V → List Res → Prop} {k : Nat} {L M : List Obj} {x : V} (hr : rget res k = .store tS eS L) (hid : idfL rest = true) (hx : idf x = true)
    (h : (∀ o ∈ L, o.wf) → L.length ≤ 9223372036854775807 → CallTo P f (.lp 0 0 :: rest) [.blk tS (.ag [.sa 1]), .obs eS 2 L, .gen 1] (kSt x M) (fun _ _ => False)) (hK : K x (rset res k (.store tS eS M))) : CallTo P f (.lp k 0 :: rest) res K KP := by
  refine CallTo.onStore hr hid hx ?_ hK
  refine CallTo.fact (k := 0) rfl fun w1 w2 => ?_
  refine CallTo.openS (k := 0) rfl ?_
  refine CallTo.shut (h w1 w2) fun v r hv => ?_
  obtain ⟨t, h1, h2⟩ := kSt_out hv
  obtain ⟨r', g1, g2⟩ := stOf_shut h1
  exact .inr ⟨0, r', g1, fun ρ K => h2 ρ K, g2⟩
theorem right_iff {l : List Obj} : q_right l = true ↔ 1 ≤ l.length ∧ l.length ≤ 64 ∧ ∀ i, i < l.length → q_objOk (lget l i free) (l.length : Int) = true := by
  unfold q_right llen
  simp only [Bool.and_eq_true, decide_eq_true_eq, List.all_eq_true, List.mem_range, and_assoc]
theorem right_no {l : List Obj} (h : ¬ (1 ≤ l.length ∧ l.length ≤ 64 ∧ ∀ i, i < l.length → q_objOk (lget l i free) (l.length : Int) = true)) : q_right l = false := by
  cases hr : q_right l with
  | false => rfl
  | true => exact absurd (right_iff.1 hr) h
theorem ofL_len {l : List Obj} {g : Int} (h1 : g ≤ (l.length : Int)) : (q_ofL l g).length = l.length := by
  unfold q_ofL
  simp only [List.length_append, List.length_take, List.length_replicate]
  omega
theorem ofL_zero {l : List Obj} : q_new (l.length : Int) = q_ofL l 0 := by unfold q_new q_ofL; simp
theorem ofL_all {l : List Obj} {g : Int} (h : (l.length : Int) ≤ g) : q_ofL l g = l := by
  unfold q_ofL
  rw [List.take_of_length_le (by omega), show l.length - g.toNat = 0 by omega]; simp
theorem ofL_set {l : List Obj} {g : Int} (h0 : 0 ≤ g) (h1 : g < (l.length : Int)) : lset (q_ofL l g) g.toNat (lget l g.toNat free) = q_ofL l (g + 1) := by
  unfold lset q_ofL lget
  obtain ⟨n, rfl⟩ := Int.eq_ofNat_of_zero_le h0
  have hn : n < l.length := by omega
  have e1 : ((n : Int) + 1).toNat = n + 1 := by omega
  have e2 : ((n : Int)).toNat = n := by omega
  rw [e1, e2]
  apply List.ext_getElem?
  intro i
  rw [List.getElem?_set]
  have hlt : (List.take n l ++ List.replicate (l.length - n) free).length = l.length := by simp; omega
  have htl : (List.take n l).length = n := by simp; omega
  have htl1 : (List.take (n + 1) l).length = n + 1 := by simp; omega
  by_cases hi : n = i
  · subst hi
    rw [if_pos rfl, if_pos (by rw [hlt]; exact hn), List.getElem?_append_left (by rw [htl1]; omega), List.getElem?_take, if_pos (by omega), List.getD_eq_getElem?_getD, List.getElem?_eq_getElem hn]; rfl
  · rw [if_neg hi]
    by_cases hl : i < n
    · rw [List.getElem?_append_left (by rw [htl]; exact hl), List.getElem?_append_left (by rw [htl1]; omega), List.getElem?_take, List.getElem?_take, if_pos hl, if_pos (by omega)]
    · rw [List.getElem?_append_right (by rw [htl]; omega), List.getElem?_append_right (by rw [htl1]; omega), htl, htl1, List.getElem?_replicate, List.getElem?_replicate]
      by_cases hb : i < l.length
      · rw [if_pos (by omega), if_pos (by omega)]
      · rw [if_neg (by omega), if_neg (by omega)]
theorem of_put {l : List Obj} {g : Int} (h0 : 0 ≤ g) (h1 : g < (l.length : Int)) (x : Obj) : q_put (q_ofL l g) g x = q_ochk x (l.length : Int) := by
  have hh : q_has (q_ofL l g) g = 0 := has_ok.2 (by rw [ofL_len (by omega)]; exact ⟨h0, h1⟩)
  unfold q_put llen
  rw [if_pos hh, ofL_len (by omega)]
theorem of_putL {l : List Obj} {g : Int} (h0 : 0 ≤ g) (h1 : g < (l.length : Int)) (hx : q_ochk (lget l g.toNat free) (l.length : Int) = 0) : q_putL (q_ofL l g) g (lget l g.toNat free) = q_ofL l (g + 1) := by
  have hh : q_has (q_ofL l g) g = 0 := has_ok.2 (by rw [ofL_len (by omega)]; exact ⟨h0, h1⟩)
  unfold q_putL llen
  rw [if_pos ⟨hh, by rw [ofL_len (by omega)]; exact hx⟩]
  exact ofL_set h0 h1
theorem ochk_cases (o : Obj) (n : Int) : (q_ochk o n = 0 ∧ q_objOk o n = true) ∨ (q_ochk o n = 2 ∧ q_objOk o n = false) := by
  unfold q_ochk
  cases q_objOk o n <;> simp
theorem names_named (k : Key) : (q_named k = true ∧ q_names k = k.oid ∧ 0 ≤ k.oid) ∨ (q_named k = false ∧ q_names k = -1) := by
  have h : q_names k = if q_named k then k.oid else -1 := rfl
  cases hn : q_named k
  · exact .inr ⟨rfl, by rw [h, hn]; rfl⟩
  · refine .inl ⟨rfl, by rw [h, hn]; rfl, ?_⟩
    unfold q_named at hn
    simp only [Bool.and_eq_true] at hn
    have := hn.1
    simp only [q_keyOk, q_within, hn.2, if_true, Bool.and_eq_true, decide_eq_true_eq] at this
    omega
theorem lcounts_law (l : List Obj) (k : Key) (hl : l.length ≤ 9223372036854775807) : ((decide (0 ≤ q_names k) && decide (q_names k < n2i (llen l))) = true → inRo IntKind.i64 (n2i (llen l) - 1)) ∧
    ((decide (0 ≤ q_names k) && decide (q_names k < n2i (llen l))) = true →
        0 ≤ imin (q_names k) (n2i (llen l) - 1) ∧ imin (q_names k) (n2i (llen l) - 1) < ↑(llen l)) ∧
      ((decide (0 ≤ q_names k) && decide (q_names k < n2i (llen l))) = true →
          (imin (q_names k) (n2i (llen l) - 1)).toNat < llen l) ∧
        (decide (0 ≤ q_names k) && decide (q_names k < n2i (llen l)) &&
            q_counts k (lget l (imin (q_names k) (n2i (llen l) - 1)).toNat free)) =
          q_is l k := by
  unfold n2i llen
  have hm : 0 ≤ q_names k → q_names k < (l.length : Int) → imin (q_names k) ((l.length : Int) - 1) = q_names k := fun h1 h2 => by
    unfold imin; rw [if_neg (by omega)]
  simp only [Bool.and_eq_true, decide_eq_true_eq]
  refine ⟨fun h => by simp only [inRo, inR]; omega, fun h => by rw [hm h.1 h.2]; exact h, fun h => by rw [hm h.1 h.2]; omega, ?_⟩
  rcases names_named k with ⟨h1, h2, h3⟩ | ⟨h1, h2⟩
  · by_cases hh : k.oid < (l.length : Int)
    · rw [hm (by omega) (by omega), h2]
      have h0 : q_has l k.oid = 0 := has_ok.2 ⟨h3, hh⟩
      unfold q_is
      simp [h1, h0, h3, hh]
    · have h0 : ¬ q_has l k.oid = 0 := fun h => hh (has_ok.1 h).2
      unfold q_is
      rw [h2]
      simp [h0, hh]
  · unfold q_is
    simp [h1, h2]
theorem lprep_law (l : List Obj) (k : Key) : ((decide (n2i (llen l) = 0) || !decide (q_chk k = 0) || decide (0 ≤ q_names k) && !q_is l k) = true → void = q_prep l k) ∧
    ((decide (n2i (llen l) = 0) || !decide (q_chk k = 0) || decide (0 ≤ q_names k) && !q_is l k) = false → k = q_prep l k) := by
  have hc : (!decide (q_chk k = 0)) = !q_keyOk k := by unfold q_chk; cases q_keyOk k <;> simp
  have hd : decide (0 ≤ q_names k) = q_named k := by
    rcases names_named k with ⟨h1, h2, h3⟩ | ⟨h1, h2⟩
    · rw [h1, h2]; simpa using h3
    · rw [h1, h2]; simp
  have he : decide (n2i (llen l) = 0) = q_snone l := by
    unfold q_snone n2i
    rw [decide_eq_decide]; omega
  rw [hc, hd, he]
  unfold q_prep
  exact ⟨fun h => by rw [h]; rfl, fun h => by rw [h]; rfl⟩
theorem prep_idem (L : List Obj) (k : Key) : q_prep L (q_prep L k) = q_prep L k := by
  cases h : (q_snone L || !q_keyOk k || (q_named k && !q_is L k)) with
  | true =>
    have e : q_prep L k = void := by unfold q_prep; rw [h]; rfl
    rw [e]
    unfold q_prep
    split <;> rfl
  | false =>
    have e : q_prep L k = k := by unfold q_prep; rw [h]; rfl
    rw [e, e]
theorem is_names {l : List Obj} {k : Key} (h : q_is l k = true) : 0 ≤ q_names k ∧ q_names k < (l.length : Int) ∧ q_nobj l k = lget l (q_names k).toNat free := by
  have h' := h
  unfold q_is at h
  simp only [Bool.and_eq_true, decide_eq_true_eq] at h
  have hb := has_ok.1 h.1.2
  rcases names_named k with ⟨h1, h2, h3⟩ | ⟨h1, h2⟩
  · rw [h2]
    exact ⟨hb.1, hb.2, by unfold q_nobj; rw [h', if_pos rfl]⟩
  · rw [h1] at h; simp at h
theorem is_free {l : List Obj} {k : Key} (h : q_is l k = false) : q_nobj l k = free := by unfold q_nobj; rw [h]; rfl
theorem keys_law (l : List Obj) (x : Key) : (!q_is l x == q_is l x || q_is l x && !oeq (q_nobj l x) (lget l (q_names x).toNat free) || !q_is l x && !oeq (q_nobj l x) free || !keq (q_prep l x) (q_prep l x) || !keq (q_prep l (q_prep l x)) (q_prep l x)) = false := by
  rw [prep_idem]
  unfold keq oeq
  cases h : q_is l x
  · rw [is_free h]; simp
  · rw [(is_names h).2.2]; simp
theorem list_ext {L M : List Obj} (h : L.length = M.length) (h2 : ∀ j : Nat, j < L.length → lget L j free = lget M j free) : L = M := by
  apply List.ext_getElem h
  intro i h3 h4
  have := h2 i h3
  unfold lget at this
  simpa [List.getD_eq_getElem?_getD, h3, h4] using this
theorem same_end {L M : List Obj} {g : Int} (hg : q_invS L M g) (hge : (llen L : Int) ≤ g) : (decide (g = n2i (llen M)) && decide (q_size L = g)) = q_same L M := by
  obtain ⟨g0, g1, g2, g3⟩ := hg
  have e : g = (L.length : Int) := by unfold llen at *; omega
  subst e
  unfold q_same q_size n2i llen
  cases hd : decide (L = M) with
  | true =>
    have := of_decide_eq_true hd
    subst this
    simp
  | false =>
    have hne := of_decide_eq_false hd
    simp only [decide_true, Bool.and_true, decide_eq_false_iff_not]
    intro hl
    exact hne (list_ext (by omega) fun j hj => g3 j (by omega))
end Go.Sx
/- Contracts of stores: what is read. No condition. The statements vc_.. are printed by a program of the claimant's own. -/
namespace Go.Proofs.Ytfalhknkaebfoaa
open Go.Sx
set_option maxRecDepth 100000
set_option linter.unusedVariables false
set_option linter.unusedSimpArgs false
theorem vc_none0  :
  true = q_snone [] := by
  rfl
theorem vc_none1 (L : List Sx.Obj) :
  decide (n2i (llen L) = 0) = q_snone L := by
  unfold q_snone n2i llen
  rw [decide_eq_decide]; omega
theorem ct_none : CtOK Try.prog 75 g_none :=
  mkS_ok (fun _ => rfl) (vc_call (inl := noInl) (ann := noAnn) oks_nil vc_none0 (by kernel_rfl)) (fun L _ _ => vc_call (inl := noInl) (ann := noAnn) oks_nil (vc_none1 L) (by kernel_rfl))
theorem vc_has0 (i : Int) :
  (q_snone [] = true → 1 = q_has [] i) ∧
    (q_snone [] = false → ((!decide (i < 0)) = true → False) ∧ ((!decide (i < 0)) = false → 4 = q_has [] i)) := by
  exact ⟨fun _ => rfl, fun h => by simp [snone_nil] at h⟩
theorem vc_has1 (L : List Sx.Obj) (i : Int) :
  (q_snone L = true → 1 = q_has L i) ∧
    (q_snone L = false →
      ((decide (i < 0) || decide (n2i (llen L) ≤ i)) = true → 4 = q_has L i) ∧
        ((decide (i < 0) || decide (n2i (llen L) ≤ i)) = false → 0 = q_has L i)) := by
  refine ⟨fun h => ?_, fun h => ?_⟩
  · rw [snone_iff.1 h]; rfl
  · rw [has_some h]
    unfold n2i llen
    refine ⟨fun h1 => ?_, fun h1 => ?_⟩
    · simp only [Bool.or_eq_true, decide_eq_true_eq] at h1
      rw [if_pos h1]
    · simp only [Bool.or_eq_false_iff, decide_eq_false_iff_not] at h1
      rw [if_neg (by omega)]
theorem ct_has : CtOK Try.prog 74 g_has :=
  mkS1_ok (rI_ok .i64) (fun _ _ => rfl) (fun x _ => vc_call (inl := noInl) (ann := noAnn) (oks_cons ct_none oks_nil) (vc_has0 x) (by kernel_rfl)) (fun L x _ _ _ => vc_call (inl := noInl) (ann := noAnn) (oks_cons ct_none oks_nil) (vc_has1 L x) (by kernel_rfl)) fun _ => rfl
theorem vc_size0  :
  (q_snone [] = true → 0 = q_size []) ∧ (q_snone [] = false → False) := by
  exact ⟨fun _ => rfl, fun h => by simp [snone_nil] at h⟩
theorem vc_size1 (L : List Sx.Obj) :
  (q_snone L = true → 0 = q_size L) ∧ (q_snone L = false → n2i (llen L) = q_size L) := by
  exact ⟨fun h => by rw [snone_iff.1 h]; rfl, fun _ => rfl⟩
theorem ct_size : CtOK Try.prog 53 g_size :=
  mkS_ok (fun _ => rfl) (vc_call (inl := noInl) (ann := noAnn) (oks_cons ct_none oks_nil) vc_size0 (by kernel_rfl)) (fun L _ _ => vc_call (inl := noInl) (ann := noAnn) (oks_cons ct_none oks_nil) (vc_size1 L) (by kernel_rfl))
theorem vc_get0 (i : Int) :
  ((!decide (q_has [] i = 0)) = true → free = q_get [] i ∧ q_has [] i = q_has [] i) ∧
    ((!decide (q_has [] i = 0)) = false → False) := by
  exact ⟨fun _ => ⟨rfl, rfl⟩, fun h => by simp [has_nil] at h⟩
theorem vc_get1 (L : List Sx.Obj) (i : Int) :
  ((!decide (q_has L i = 0)) = true → free = q_get L i ∧ q_has L i = q_has L i) ∧
    ((!decide (q_has L i = 0)) = false →
      (0 ≤ i ∧ i < ↑(llen L)) ∧ i.toNat < llen L ∧ i.toNat < llen L ∧ lget L i.toNat free = q_get L i ∧ 0 = q_has L i) := by
  refine ⟨fun h => ⟨?_, rfl⟩, fun h => ?_⟩
  · unfold q_get
    rw [if_neg (by simpa using h)]
  · have h : q_has L i = 0 := by simpa using h
    have hb := has_ok.1 h
    unfold q_get llen
    rw [if_pos h, h]
    exact ⟨hb, by omega, by omega, rfl, rfl⟩
theorem ct_get : CtOK Try.prog 27 g_get :=
  mkS1_ok (rI_ok .i64) (fun _ _ => rfl) (fun x _ => vc_call (inl := noInl) (ann := noAnn) (oks_cons ct_has oks_nil) (vc_get0 x) (by kernel_rfl)) (fun L x _ _ _ => vc_call (inl := noInl) (ann := noAnn) (oks_cons ct_has oks_nil) (vc_get1 L x) (by kernel_rfl)) fun _ => rfl
theorem vc_named0 (k : Key) :
  ((!q_named k) = true → free = q_nobj [] k ∧ false = q_is [] k) ∧
    ((!q_named k) = false →
      ((!decide (q_has [] (q_oid k) = 0) || !q_counts k (q_get [] (q_oid k))) = true →
          free = q_nobj [] k ∧ false = q_is [] k) ∧
        ((!decide (q_has [] (q_oid k) = 0) || !q_counts k (q_get [] (q_oid k))) = false →
          q_get [] (q_oid k) = q_nobj [] k ∧ true = q_is [] k)) := by
  exact named_law [] k
theorem vc_named1 (L : List Sx.Obj) (k : Key) :
  ((!q_named k) = true → free = q_nobj L k ∧ false = q_is L k) ∧
    ((!q_named k) = false →
      ((!decide (q_has L (q_oid k) = 0) || !q_counts k (q_get L (q_oid k))) = true →
          free = q_nobj L k ∧ false = q_is L k) ∧
        ((!decide (q_has L (q_oid k) = 0) || !q_counts k (q_get L (q_oid k))) = false →
          q_get L (q_oid k) = q_nobj L k ∧ true = q_is L k)) := by
  exact named_law L k
theorem ct_named : CtOK Try.prog 33 g_named :=
  mkS1_ok rK_ok (fun _ _ => rfl) (fun x _ => vc_call (inl := noInl) (ann := noAnn) (oks_cons ct_knames (oks_cons ct_get (oks_cons ct_kcounts oks_nil))) (vc_named0 x) (by kernel_rfl)) (fun L x _ _ _ => vc_call (inl := noInl) (ann := noAnn) (oks_cons ct_knames (oks_cons ct_get (oks_cons ct_kcounts oks_nil))) (vc_named1 L x) (by kernel_rfl)) fun _ => rfl
end Go.Proofs.Ytfalhknkaebfoaa
/- Contracts of stores: what makes and changes them. No condition. The statements vc_.. are printed by a program of the claimant's own. -/
namespace Go.Proofs.Ytfalhknkaebfoaa
open Go.Sx
set_option maxRecDepth 100000
set_option linter.unusedVariables false
set_option linter.unusedSimpArgs false
theorem vc_new (n : Int) :
  ((decide (n < 1) || decide (64 < n)) = true → q_newOk n = false ∧ True) ∧
    ((decide (n < 1) || decide (64 < n)) = false →
      (∃ g, q_invN n g ∧ Value.pointer none = Value.pointer none ∧ n = n ∧ 0 = g ∧ [] = q_new g) ∧
        ∀ (g : Int),
          q_invN n g →
            (decide (g < n) = true →
                pFit (llen (q_new g)) 8 ∧
                  inRo IntKind.i64 (g + 1) ∧
                    ∃ g',
                      q_invN n g' ∧
                        (n - g').toNat < (n - g).toNat ∧
                          Value.pointer none = Value.pointer none ∧
                            n = n ∧ g + 1 = g' ∧ lapp (q_new g) free = q_new g') ∧
              (decide (g < n) = false → q_newOk n = true ∧ True ∧ q_new g = q_new n)) := by
  refine ⟨fun h => ⟨?_, trivial⟩, fun h => ⟨⟨0, ?_, rfl, rfl, rfl, rfl⟩, fun g hg => ⟨fun hlt => ?_, fun hge => ?_⟩⟩⟩
  · simp only [Bool.or_eq_true, decide_eq_true_eq] at h
    unfold q_newOk
    rw [Bool.and_eq_false_iff, decide_eq_false_iff_not, decide_eq_false_iff_not]; omega
  · simp only [Bool.or_eq_false_iff, decide_eq_false_iff_not] at h
    exact ⟨by omega, by omega⟩
  · simp only [Bool.or_eq_false_iff, decide_eq_false_iff_not] at h
    obtain ⟨g0, g1⟩ := hg
    have hlt := of_decide_eq_true hlt
    refine ⟨?_, ?_, g + 1, ⟨by omega, by omega⟩, by omega, rfl, rfl, rfl, new_app g0⟩
    · unfold pFit llen q_new
      simp only [List.length_replicate, maxLen]
      omega
    · simp only [inRo, inR]; omega
  · simp only [Bool.or_eq_false_iff, decide_eq_false_iff_not] at h
    obtain ⟨g0, g1⟩ := hg
    have hge := of_decide_eq_false hge
    exact ⟨newOk_iff.2 (by omega), trivial, by rw [show g = n by omega]⟩
theorem cl_new (n : Int) : CallTo Try.prog 92 [.it .i64 n] [] (kNew n) (fun _ _ => False) := vc_call (inl := noInl) (ann := (annL [(92, 5, lpB [2, 3, 4, 13] (fun g => [(14, .it .i64 g)]) 0 tS eS q_new (q_invN n) n)])) oks_nil (vc_new n) (by kernel_rfl)
theorem hc_new : HOK Try.prog 92 h_new := by
  intro args res K KP h
  unfold h_new at h
  split at h
  · split at h
    · rename_i n hn
      refine CallTo.args (SameB.rd (rI_ok .i64) hn SameB.nil) ?_
      cases hb : q_newOk n with
      | false => exact CallTo.pure rfl rfl ((cl_new n).mono (fun v r hv => kMk_no hb hv) fun _ _ h => h) (h.1 hb)
      | true =>
        refine CallTo.mkStore (F := fun j => .tp [.lp j 0, .ci .i64 0]) rfl ?_ (h.2 hb)
        refine CallTo.shut (cl_new n) fun v r hv => ?_
        obtain ⟨j, r', _, h1, h2, h3⟩ := kMk_out hb hv
        rcases h1 with rfl | h1
        · exact .inl ⟨j, h2, h3⟩
        · exact .inr ⟨j, r', h1, j, h2, h3⟩
    · exact h.elim
  · exact h.elim
theorem vc_put0 (i : Int) (o : Sx.Obj) :
  ((!decide (q_has [] i = 0)) = true → q_has [] i = q_put [] i o) ∧ ((!decide (q_has [] i = 0)) = false → False) := by
  refine ⟨fun _ => ?_, fun h => by simp [has_nil] at h⟩
  rw [put_nil, has_nil]
theorem cl_put0 (i : Int) (o : Sx.Obj) : CallTo Try.prog 56 [nilp, .it .i64 i, .ob o] [] (isV (.it .i64 (q_put [] i o))) (fun _ _ => False) := vc_call (inl := noInl) (ann := noAnn) (oks_cons ct_has (oks_cons ct_ochk oks_nil)) (vc_put0 i o) (by kernel_rfl)
theorem vc_put1 (L : List Sx.Obj) (i : Int) (o : Sx.Obj) :
  ((!decide (q_has L i = 0)) = true → q_has L i = q_put L i o ∧ L = q_putL L i o) ∧
    ((!decide (q_has L i = 0)) = false →
      ((!decide (q_ochk o (n2i (llen L)) = 0)) = true → q_ochk o (n2i (llen L)) = q_put L i o ∧ L = q_putL L i o) ∧
        ((!decide (q_ochk o (n2i (llen L)) = 0)) = false →
          (0 ≤ i ∧ i < ↑(llen L)) ∧ i.toNat < llen L ∧ 0 = q_put L i o ∧ lset L i.toNat o = q_putL L i o)) := by
  refine ⟨fun h => ?_, fun h => ⟨fun h2 => ?_, fun h2 => ?_⟩⟩
  · obtain ⟨a, b⟩ := put_bad (o := o) (show q_has L i ≠ 0 by simpa using h)
    rw [a, b]; exact ⟨rfl, rfl⟩
  · obtain ⟨a, b⟩ := put_no (o := o) (show q_has L i = 0 by simpa using h) (show q_ochk o (llen L : Int) ≠ 0 by unfold n2i at h2; simpa using h2)
    rw [a, b]; exact ⟨rfl, rfl⟩
  · have h := (show q_has L i = 0 by simpa using h)
    have hb := has_ok.1 h
    obtain ⟨a, b⟩ := put_yes (o := o) h (show q_ochk o (llen L : Int) = 0 by unfold n2i at h2; simpa using h2)
    rw [a, b]
    exact ⟨hb, by unfold llen; omega, rfl, rfl⟩
theorem cl_put1 (L : List Sx.Obj) (i : Int) (o : Sx.Obj) : CallTo Try.prog 56 [.lp 0 0, .it .i64 i, .ob o] [.blk tS (.ag [.sa 1]), .obs eS 2 L, .gen 1] (kSt (.it .i64 (q_put L i o)) (q_putL L i o)) (fun _ _ => False) := vc_call (inl := noInl) (ann := noAnn) (oks_cons ct_has (oks_cons ct_ochk oks_nil)) (vc_put1 L i o) (by kernel_rfl)
theorem vc_put2 (i : Int) (o : Sx.Obj) :
  ((!decide (q_has [] i = 0)) = true → q_has [] i = q_put [] i o) ∧
    ((!decide (q_has [] i = 0)) = false →
      ((!decide (q_ochk o 0 = 0)) = true → q_ochk o 0 = q_put [] i o) ∧ ((!decide (q_ochk o 0 = 0)) = false → False)) := by
  refine ⟨fun _ => ?_, fun h => by simp [has_nil] at h⟩
  rw [put_nil, has_nil]
theorem cl_put2 (i : Int) (o : Sx.Obj) : CallTo Try.prog 56 [.lp 0 0, .it .i64 i, .ob o] [.ro (.blk tS (.ag [.nl (.slice none 0 0)]))] (isV (.it .i64 (q_put [] i o))) (fun _ _ => False) := vc_call (inl := noInl) (ann := noAnn) (oks_cons ct_has (oks_cons ct_ochk oks_nil)) (vc_put2 i o) (by kernel_rfl)
theorem hc_put : HOK Try.prog 56 h_put := by
  intro args res K KP h
  unfold h_put at h
  split at h
  · split at h
    · rename_i i hi
      split at h
      · rename_i o ho
        refine CallTo.args (SameB.keep (SameB.rd (rI_ok .i64) hi (SameB.rd rO_ok ho SameB.nil))) ?_
        split at h
        · split at h
          · exact CallTo.pure rfl rfl ((cl_put0 i o).mono (fun _ _ h => isV_isE h) fun _ _ h => h) h
          · exact h.elim
        · split at h
          · rename_i hoff
            have hoff := beq_iff_eq.1 hoff
            subst hoff
            split at h
            · rename_i hr
              split at h
              · rename_i hc
                simp only [Bool.and_eq_true, beq_iff_eq] at hc
                obtain ⟨rfl, rfl⟩ := hc
                exact onSt hr rfl rfl (fun _ _ => cl_put1 _ i o) h
              · exact h.elim
            · rename_i hr
              split at h
              · rename_i hc
                simp only [Bool.and_eq_true, beq_iff_eq] at hc
                obtain ⟨rfl, hz⟩ := hc
                have := isZ_spec hz
                subst this
                refine CallTo.read1 (r0 := .blk tS (.ag [.nl (.slice none 0 0)])) (by unfold rlook; rw [hr]) (by simp) (fun κ => rfl) rfl rfl ((cl_put2 i o).mono (fun _ _ h => isV_isE h) fun _ _ h => h) h
              · exact h.elim
            · exact h.elim
          · exact h.elim
        · exact h.elim
      · exact h.elim
    · exact h.elim
  · exact h.elim
theorem vc_right (l : List Sx.Obj) (hl : l.length ≤ 9223372036854775807) :
  ((decide (n2i (llen l) < 1) || decide (64 < n2i (llen l))) = true → false = q_right l) ∧
    ((decide (n2i (llen l) < 1) || decide (64 < n2i (llen l))) = false →
      (∃ g, q_invR l g ∧ false = false ∧ 0 = g ∧ l = l) ∧
        ∀ (g : Int),
          q_invR l g →
            (decide (g < n2i (llen l)) = true →
                (0 ≤ g ∧ g < ↑(llen l)) ∧
                  g.toNat < llen l ∧
                    ((!decide (q_ochk (lget l g.toNat free) (n2i (llen l)) = 0)) = true → false = q_right l) ∧
                      ((!decide (q_ochk (lget l g.toNat free) (n2i (llen l)) = 0)) = false →
                        inRo IntKind.i64 (g + 1) ∧
                          ∃ g',
                            q_invR l g' ∧
                              (n2i (llen l) - g').toNat < (n2i (llen l) - g).toNat ∧
                                false = false ∧ g + 1 = g' ∧ l = l)) ∧
              (decide (g < n2i (llen l)) = false → true = q_right l)) := by
  refine ⟨fun h => ?_, fun h => ⟨⟨0, ⟨by omega, by omega, fun j hj => by omega⟩, rfl, rfl, rfl⟩, fun g hg => ⟨fun hlt => ?_, fun hge => ?_⟩⟩⟩
  · simp only [Bool.or_eq_true, decide_eq_true_eq] at h
    simp only [len_llen] at h
    exact (right_no fun hh => by have h1 := hh.1; have h2 := hh.2.1; omega).symm
  · obtain ⟨g0, g1, g2⟩ := hg
    have hlt := of_decide_eq_true hlt
    unfold n2i at *
    refine ⟨⟨g0, hlt⟩, by omega, fun hb => (right_no fun hh => ?_).symm, fun hb => ⟨?_, g + 1, ⟨by omega, by omega, fun j hj => ?_⟩, by omega, rfl, rfl, rfl⟩⟩
    · have := hh.2.2 g.toNat (by unfold llen at hlt; omega)
      unfold q_ochk llen at hb
      rw [this] at hb; simp at hb
    · simp only [inRo, inR]; unfold llen at *; omega
    · by_cases e : (j : Int) < g
      · exact g2 j e
      · have : j = g.toNat := by omega
        subst this
        rcases ochk_cases (lget l g.toNat free) (llen l : Int) with ⟨h1, h2⟩ | ⟨h1, h2⟩
        · exact h2
        · rw [h1] at hb; simp at hb
  · obtain ⟨g0, g1, g2⟩ := hg
    have hge := of_decide_eq_false hge
    have hle := len_cast l
    simp only [Bool.or_eq_false_iff, decide_eq_false_iff_not] at h
    simp only [len_llen] at h hge
    exact (right_iff.2 ⟨by omega, by omega, fun i hi => g2 i (by omega)⟩).symm
theorem ct_right : CtOK Try.prog 44 g_right := mkA_ok (fun _ => rfl) fun l _ hl => vc_call (inl := noInl) (ann := (annL [(44, 4, lpG [0, 2] (fun g => [(3, .it .i64 g)]) (q_invR l) (n2i (llen l)))])) (oks_cons ct_rochk oks_nil) (vc_right l hl) (by kernel_rfl)
theorem vc_lcounts (l : List Sx.Obj) (k : Key) (hl : l.length ≤ 9223372036854775807) :
  ((decide (0 ≤ q_names k) && decide (q_names k < n2i (llen l))) = true → inRo IntKind.i64 (n2i (llen l) - 1)) ∧
    ((decide (0 ≤ q_names k) && decide (q_names k < n2i (llen l))) = true →
        0 ≤ imin (q_names k) (n2i (llen l) - 1) ∧ imin (q_names k) (n2i (llen l) - 1) < ↑(llen l)) ∧
      ((decide (0 ≤ q_names k) && decide (q_names k < n2i (llen l))) = true →
          (imin (q_names k) (n2i (llen l) - 1)).toNat < llen l) ∧
        (decide (0 ≤ q_names k) && decide (q_names k < n2i (llen l)) &&
            q_counts k (lget l (imin (q_names k) (n2i (llen l) - 1)).toNat free)) =
          q_is l k := by
  exact lcounts_law l k hl
theorem ct_lcounts : CtOK Try.prog 105 g_lcounts := mkA1_ok rK_ok (fun _ _ => rfl) (fun l k _ hl _ => vc_call (inl := noInl) (ann := noAnn) (oks_cons ct_rnames (oks_cons ct_rcounts oks_nil)) (vc_lcounts l k hl) (by kernel_rfl)) fun _ => rfl
theorem vc_of (l : List Sx.Obj) (hl : l.length ≤ 9223372036854775807) :
  true = true ∧
    (q_newOk (n2i (llen l)) = false → q_right l = false ∧ True) ∧
      (q_newOk (n2i (llen l)) = true →
        (∃ g,
            q_invR l g ∧
              Value.pointer none = Value.pointer none ∧
                n2i (llen l) = n2i (llen l) ∧ 0 = g ∧ l = l ∧ q_new (n2i (llen l)) = q_ofL l g) ∧
          ∀ (g : Int),
            q_invR l g →
              (decide (g < n2i (llen l)) = true →
                  (0 ≤ g ∧ g < ↑(llen l)) ∧
                    g.toNat < llen l ∧
                      true = true ∧
                        ((!decide (q_put (q_ofL l g) g (lget l g.toNat free) = 0)) = true →
                            q_right l = false ∧ q_put (q_ofL l g) g (lget l g.toNat free) = 2) ∧
                          ((!decide (q_put (q_ofL l g) g (lget l g.toNat free) = 0)) = false →
                            inRo IntKind.i64 (g + 1) ∧
                              ∃ g',
                                q_invR l g' ∧
                                  (n2i (llen l) - g').toNat < (n2i (llen l) - g).toNat ∧
                                    Value.pointer none = Value.pointer none ∧
                                      n2i (llen l) = n2i (llen l) ∧
                                        g + 1 = g' ∧ l = l ∧ q_putL (q_ofL l g) g (lget l g.toNat free) = q_ofL l g')) ∧
                (decide (g < n2i (llen l)) = false → q_right l = true ∧ True ∧ q_ofL l g = l)) := by
  refine ⟨rfl, fun h => ⟨right_no fun hh => ?_, trivial⟩, fun h => ⟨⟨0, ⟨by omega, by omega, fun j hj => by omega⟩, rfl, rfl, rfl, rfl, ofL_zero⟩, fun g hg => ⟨fun hlt => ?_, fun hge => ?_⟩⟩⟩
  · have : q_newOk (n2i (llen l)) = true := newOk_iff.2 (by unfold n2i llen; omega)
    rw [this] at h; simp at h
  · obtain ⟨g0, g1, g2⟩ := hg
    have hlt := of_decide_eq_true hlt
    have h := newOk_iff.1 h
    have hle := len_cast l
    simp only [len_llen] at *
    rw [of_put g0 hlt]
    refine ⟨⟨g0, hlt⟩, by omega, trivial, fun hb => ⟨right_no fun hh => ?_, ?_⟩, fun hb => ⟨?_, g + 1, ⟨by omega, by omega, fun j hj => ?_⟩, by omega, trivial, trivial, rfl, trivial, of_putL g0 hlt (by simpa using hb)⟩⟩
    · have := hh.2.2 g.toNat (by omega)
      unfold q_ochk at hb
      rw [this] at hb; simp at hb
    · rcases ochk_cases (lget l g.toNat free) (l.length : Int) with ⟨h1, h2⟩ | ⟨h1, h2⟩
      · rw [h1] at hb; simp at hb
      · exact h1
    · simp only [inRo, inR]; omega
    · by_cases e : (j : Int) < g
      · exact g2 j e
      · have : j = g.toNat := by omega
        subst this
        rcases ochk_cases (lget l g.toNat free) (l.length : Int) with ⟨h1, h2⟩ | ⟨h1, h2⟩
        · exact h2
        · rw [h1] at hb; simp at hb
  · obtain ⟨g0, g1, g2⟩ := hg
    have hge := of_decide_eq_false hge
    have h := newOk_iff.1 h
    have hle := len_cast l
    simp only [len_llen] at *
    exact ⟨right_iff.2 ⟨by omega, by omega, fun i hi => g2 i (by omega)⟩, trivial, ofL_all (by omega)⟩
theorem cl_of (l : List Sx.Obj) (own : Option Nat) : CallTo Try.prog 43 [.sa 0] [.ro (.arr own 163 (.ob l))] (kOf l) (fun _ _ => False) :=
  CallTo.weakA (CallTo.factA (k := 0) rfl fun _ hl => (vch_call (inl := noInl) (ann := (annL [(43, 5, lpR [0, 2, 3, 4, 5, 18, 19] (fun g => [(20, .it .i64 g)]) 1 (fun g => .store tS eS (q_ofL l g)) (q_invR l) (n2i (llen l)))])) oks_nil (hoks_cons hc_new (hoks_cons hc_put hoks_nil)) (vc_of l hl) (by kernel_rfl) : CallTo Try.prog 43 [.sa 0] [.ro (.arr none 163 (.ob l))] (kOf l) (fun _ _ => False)))
theorem hc_of : HOK Try.prog 43 h_of := by
  intro args res K KP h
  unfold h_of at h
  split at h
  · split at h
    · split at h
      · rename_i hr
        split at h
        · rename_i he
          have he := beq_iff_eq.1 he
          subst he
          split at h
          · rename_i l
            cases hb : q_right l with
            | false => exact CallTo.readA hr rfl rfl ((cl_of l _).mono (fun v r hv => kMk_no hb (kOf_out hv).1) fun _ _ h => h) (h.1 hb)
            | true =>
              refine CallTo.mkStoreA (F := fun j => .tp [.lp j 0, .ci .i64 0]) hr rfl ?_ (h.2 hb)
              refine CallTo.shut (cl_of l _) fun v r hv => ?_
              obtain ⟨hv, h0⟩ := kOf_out hv
              obtain ⟨j, r', hs, h1, h2, h3⟩ := kMk_out hb hv
              have hj : 1 ≤ j := by
                rcases Nat.eq_zero_or_pos j with rfl | hj
                · rw [h0] at hs; simp at hs
                · exact hj
              rcases h1 with rfl | h1
              · exact .inl ⟨j, hj, h2, h3⟩
              · exact .inr ⟨j, r', h1, j, hj, h2, h3⟩
          · exact h.elim
        · exact h.elim
      · exact h.elim
    · exact h.elim
  · exact h.elim
end Go.Proofs.Ytfalhknkaebfoaa
/- Objects, keys that are weak, slots, in plain Lean: weak keys, slots that are got, put, cleared, cloned. No condition. -/
set_option linter.unusedVariables false
set_option linter.unusedSimpArgs false
namespace Go.Sx
def q_bitOf (r b : Int) : Bool := decide ((r.tdiv b).tmod 2 = 1)
def q_withG (r m g : Int) : Int := (if 2 ≤ g ∧ (q_bitOf r 1 || q_bitOf m 1) = true then 1 else 0) + (if 4 ≤ g ∧ (q_bitOf r 2 || q_bitOf m 2) = true then 2 else 0) + (if 8 ≤ g ∧ (q_bitOf r 4 || q_bitOf m 4) = true then 4 else 0)
/-- Rights with others besides. -/
def q_with (r m : Int) : Int := q_withG r m 8
def q_invB (g : Int) : Prop := g = 1 ∨ g = 2 ∨ g = 4 ∨ g = 8
def q_rts (k : Key) (r : Int) : Key := { k with rights := r }
/-- A key, weak. -/
def q_weak (k : Key) : Key := if k.kind = 2 then q_rts k (q_with k.rights 3) else if k.kind = 3 then q_rts k 1 else if k.kind = 1 ∨ k.kind = 8 then k else void
def q_weaken (k : Key) : Key := if q_keyOk k then q_weak k else void
def g_rwith : Ct := mk2 (rI .i64) (rI .i64) fun r m => .it .i64 (q_with r m)
def g_rweak : Ct := mk1 rK fun k => .key (q_weak k)
def g_weaken : Ct := mk1 rK fun k => .tp [.key (q_weaken k), .it .i64 (q_chk k)]
def q_asked (L : List Obj) (k : Key) (kind : Int) (c : Bool) : Int := if llen L = 0 then 1 else if (!q_is L k || !decide (k.kind = kind)) = true then 190 else if (c && !decide (k.rights.tmod 4 = 0)) = true then 191 else 0
def q_weakBit (k : Key) : Bool := decide ((k.rights.tdiv 2).tmod 2 = 1)
def q_gotO (L : List Obj) (o : Obj) (k : Key) (i : Int) : Key := if q_weakBit k then q_weak (q_prep L (o.slots.at i.toNat)) else q_prep L (o.slots.at i.toNat)
/-- What is got of a slot. -/
def q_got (L : List Obj) (k : Key) (i : Int) : Key := q_gotO L (lget L k.oid.toNat free) k i
def q_gotQ (k : Key) (i : Int) : Prop := 0 ≤ i ∧ i < 16 ∧ q_keyOk k = true
def q_dgotQ (L : List Obj) (k : Key) (i : Int) : Prop := 0 ≤ i ∧ i < 16 ∧ 0 ≤ k.oid ∧ k.oid < (llen L : Int)
def q_nrng (i : Int) : Bool := decide (0 ≤ i) && decide (i < 16)
def q_ngetE (L : List Obj) (k : Key) (i : Int) : Int := if q_asked L k 2 false = 0 then (if q_nrng i then 0 else 4) else q_asked L k 2 false
def q_nget (L : List Obj) (k : Key) (i : Int) : Key := if q_ngetE L k i = 0 then q_got L k i else void
def q_may (L : List Obj) (v : Key) : Bool := q_keyOk v && decide (q_names v < (llen L : Int))
def q_nputE (L : List Obj) (k : Key) (i : Int) (v : Key) : Int := if q_asked L k 2 true = 0 then (if q_nrng i then (if q_may L v then 0 else 2) else 4) else q_asked L k 2 true
def q_nput (L : List Obj) (k : Key) (i : Int) (v : Key) : Key := if q_nputE L k i v = 0 then q_got L k i else void
def q_sls (o : Obj) (s : Slots) : Obj := { o with slots := s }
def q_setO (L : List Obj) (k : Key) (s : Slots) : List Obj := lset L k.oid.toNat (q_sls (lget L k.oid.toNat free) s)
def q_nputL (L : List Obj) (k : Key) (i : Int) (v : Key) : List Obj := if q_nputE L k i v = 0 then q_setO L k ((lget L k.oid.toNat free).slots.put i.toNat (q_prep L v)) else L
def q_nclrL (L : List Obj) (k : Key) : List Obj := if q_asked L k 2 true = 0 then q_setO L k noSlots else L
def q_ncloE (L : List Obj) (t f : Key) : Int := if q_asked L t 2 true = 0 then q_asked L f 2 false else q_asked L t 2 true
def q_cloS (L : List Obj) (t f : Key) (g : Int) : Slots := (List.range g.toNat).foldl (fun s (j : Nat) => s.put j (q_got L f (j : Int))) (lget L t.oid.toNat free).slots
def q_ncloL (L : List Obj) (t f : Key) : List Obj := if q_ncloE L t f = 0 then q_setO L t (q_cloS L t f 16) else L
def q_nallG (L : List Obj) (k : Key) (g : Int) : List Key := (List.range g.toNat).map fun (j : Nat) => q_got L k (j : Int)
def q_nall (L : List Obj) (k : Key) : List Key := q_nallG L k 16
def q_okL (L : List Obj) : Prop := q_right L = true
def q_inv16 (g : Int) : Prop := 0 ≤ g ∧ g ≤ 16
def kA : Arg Key := valA rK V.key
def iA : Arg Int := valA (rI .i64) (V.it .i64)
def bA : Arg Bool := valA toBool V.bo
def oA : Arg Obj := valA rO V.ob
def sA : Arg (Option (List Obj)) := stA tS eS
def stL (o : Option (List Obj)) : List Obj := match o with
  | none => []
  | some L => L
def nB : ArgL (Obj × Option (List Obj) × Key × Unit) := consA oA (consA sA (consA kA nilA))
def g_ngot : Ct := mkR (consA (agA nB) (consA iA nilA)) (fun x => some (q_gotQ x.1.2.2.1 x.2.1)) fun x => .key (q_gotO (stL x.1.2.1) x.1.1 x.1.2.2.1 x.2.1)
def g_asked : Ct := mkR (consA liA (consA kA (consA iA (consA bA nilA)))) (fun _ => none) fun x => .it .i64 (q_asked x.1 x.2.1 x.2.2.1 x.2.2.2.1)
def g_dgot : Ct := mkR (consA liA (consA kA (consA iA nilA))) (fun x => some (q_dgotQ x.1 x.2.1 x.2.2.1)) fun x => .key (q_got x.1 x.2.1 x.2.2.1)
def g_may : Ct := mkR (consA liA (consA kA nilA)) (fun _ => none) fun x => .bo (q_may x.1 x.2.1)
def g_nget : Ct := mkR (consA sA (consA kA (consA iA nilA))) (fun _ => none) fun x => .tp [.key (q_nget (stL x.1) x.2.1 x.2.2.1), .it .i64 (q_ngetE (stL x.1) x.2.1 x.2.2.1)]
def q_rputQ (L : List Obj) (i : Int) : Prop := 0 ≤ i ∧ i < (llen L : Int) ∧ llen L ≤ 1000
def tO : Nat := 32
def g_rput : Ct := mkRN (consA liA (consA iA (consA oA nilA))) (fun x => some (q_rputQ x.1 x.2.1)) (fun _ n => .sa n) fun x _ => [.arr (some tO) 163 (.ob (lset x.1 (i2n x.2.1) x.2.2.1))]
theorem tdiv_in {r g : Int} (hr : inR .i64 r) (hg : g = 1 ∨ g = 2 ∨ g = 4 ∨ g = 8) : inR .i64 (r.tdiv g) := by
  simp only [inR] at *
  rcases Int.le_total 0 r with h | h
  · rw [Int.tdiv_eq_ediv_of_nonneg h]
    rcases hg with rfl | rfl | rfl | rfl <;> omega
  · obtain ⟨s, rfl⟩ : ∃ s, r = -s := ⟨-r, by omega⟩
    rw [Int.neg_tdiv, Int.tdiv_eq_ediv_of_nonneg (by omega)]
    rcases hg with rfl | rfl | rfl | rfl <;> omega
theorem tmod2_in (x : Int) : inR .i64 (x.tmod 2) := by
  have h1 := Int.tmod_lt_of_pos x (show (0 : Int) < 2 by omega)
  have h2 := Int.lt_tmod_of_pos x (show (0 : Int) < 2 by omega)
  simp only [inR]
  omega
theorem withG_in {r m g : Int} : 0 ≤ q_withG r m g ∧ q_withG r m g ≤ 7 := by
  unfold q_withG
  repeat' split
  all_goals omega
theorem or_with3 {r : Int} (h0 : 0 ≤ r) (h1 : r ≤ 7) : bitsI .or .i64 r 3 = q_with r 3 := by
  have : r = 0 ∨ r = 1 ∨ r = 2 ∨ r = 3 ∨ r = 4 ∨ r = 5 ∨ r = 6 ∨ r = 7 := by omega
  rcases this with rfl | rfl | rfl | rfl | rfl | rfl | rfl | rfl <;> decide
theorem or_with1 {r : Int} (h0 : 0 ≤ r) (h1 : r ≤ 1) : bitsI .or .i64 r 1 = 1 := by
  have : r = 0 ∨ r = 1 := by omega
  rcases this with rfl | rfl <;> decide
theorem keyOk_rights {k : Key} (h : q_keyOk k = true) : 0 ≤ k.rights ∧ k.rights ≤ q_most k.kind := by
  simp only [q_keyOk, Bool.and_eq_true, decide_eq_true_eq] at h
  omega
theorem keyOk_void : q_keyOk void = true := by decide
theorem keyOk_prep (L : List Obj) (k : Key) : q_keyOk (q_prep L k) = true := by
  unfold q_prep
  split
  · exact keyOk_void
  · rename_i h
    simp only [Bool.or_eq_true, not_or, Bool.not_eq_true, Bool.not_eq_false'] at h
    exact h.1.2
theorem weaken_prep (L : List Obj) (k : Key) : q_weaken (q_prep L k) = q_weak (q_prep L k) := by unfold q_weaken; rw [keyOk_prep, if_pos rfl]
theorem and2 {r : Int} (h0 : 0 ≤ r) (h1 : r ≤ 7) : decide (bitsI .and .i64 r 2 = 0) = !decide ((r.tdiv 2).tmod 2 = 1) := by
  have : r = 0 ∨ r = 1 ∨ r = 2 ∨ r = 3 ∨ r = 4 ∨ r = 5 ∨ r = 6 ∨ r = 7 := by omega
  rcases this with rfl | rfl | rfl | rfl | rfl | rfl | rfl | rfl <;> decide
theorem and3 {r : Int} (h0 : 0 ≤ r) (h1 : r ≤ 7) : decide (bitsI .and .i64 r 3 = 0) = decide (r.tmod 4 = 0) := by
  have : r = 0 ∨ r = 1 ∨ r = 2 ∨ r = 3 ∨ r = 4 ∨ r = 5 ∨ r = 6 ∨ r = 7 := by omega
  rcases this with rfl | rfl | rfl | rfl | rfl | rfl | rfl | rfl <;> decide
theorem most_le (n : Int) : q_most n ≤ 7 := by unfold q_most; split <;> (try split) <;> omega
theorem keyOk_r7 {k : Key} (h : q_keyOk k = true) : 0 ≤ k.rights ∧ k.rights ≤ 7 := by
  have := keyOk_rights h
  have := most_le k.kind
  omega
theorem is_all {L : List Obj} {k : Key} (h : q_is L k = true) : q_keyOk k = true ∧ 0 ≤ k.oid ∧ k.oid < (L.length : Int) ∧ q_nobj L k = lget L k.oid.toNat free ∧ (lget L k.oid.toNat free).kind = q_wants k := by
  have h' := h
  unfold q_is at h
  simp only [Bool.and_eq_true, decide_eq_true_eq] at h
  obtain ⟨⟨h1, h2⟩, h3⟩ := h
  have hb := has_ok.1 h2
  have hn : 0 ≤ q_names k := (is_names h').1
  simp only [q_counts, Bool.and_eq_true, Bool.or_eq_true, decide_eq_true_eq] at h3
  refine ⟨h3.1, hb.1, hb.2, by unfold q_nobj; rw [h', if_pos rfl], ?_⟩
  rcases h3.2 with h | h
  · omega
  · exact h.1.1
theorem is_nil (k : Key) : q_is [] k = false := by
  cases h : q_is [] k with
  | false => rfl
  | true =>
    have := is_all h
    simp only [List.length_nil] at this
    omega
theorem got_law {L : List Obj} {o : Obj} {k : Key} {i : Int} (hq : q_gotQ k i) : (0 ≤ i ∧ i < ↑16) ∧
    ((!decide (bitsI BinOp.and IntKind.i64 k.rights 2 = 0)) = true → q_weaken (q_prep L (o.slots.at i.toNat)) = q_gotO L o k i) ∧
      ((!decide (bitsI BinOp.and IntKind.i64 k.rights 2 = 0)) = false → q_prep L (o.slots.at i.toNat) = q_gotO L o k i) := by
  obtain ⟨h0, h1, h2⟩ := hq
  have hr := keyOk_r7 h2
  rw [and2 hr.1 hr.2, weaken_prep]
  unfold q_gotO q_weakBit
  refine ⟨⟨h0, by omega⟩, fun h => ?_, fun h => ?_⟩
  · rw [if_pos (by simpa using h)]
  · rw [if_neg (by simpa using h)]
theorem asked_ok {L : List Obj} {k : Key} {d : Int} {c : Bool} (h : q_asked L k d c = 0) : q_is L k = true ∧ k.kind = d ∧ (c = true → k.rights.tmod 4 = 0) := by
  unfold q_asked at h
  split at h
  · omega
  · split at h
    · omega
    · rename_i h2
      simp only [Bool.or_eq_true, Bool.not_eq_true', decide_eq_false_iff_not, not_or, Bool.not_eq_false, Decidable.not_not] at h2
      split at h
      · omega
      · rename_i h3
        refine ⟨h2.1, h2.2, fun hc => ?_⟩
        simpa [hc] using h3
theorem kA_ok : ArgOK kA := valA_ok rK_ok (fun _ => rfl) fun v x h => by cases v <;> simp [rK] at h; rfl
theorem oA_ok : ArgOK oA := valA_ok rO_ok (fun _ => rfl) fun v x h => by cases v <;> simp [rO] at h; rfl
theorem bA_ok : ArgOK bA := valA_ok rB_ok (fun _ => rfl) fun v x h => by cases v <;> simp [toBool] at h <;> rfl
theorem iA_ok : ArgOK iA := valA_ok (rI_ok .i64) (fun _ => rfl) fun v x h => by cases v <;> simp [rI, toInt] at h <;> rfl
theorem sA_ok : ArgOK sA := stA_ok _ _
theorem nB_ok : ArgLOK nB := consA_ok oA_ok (consA_ok sA_ok (consA_ok kA_ok nilA_ok))
/-- What a change of a store that stays shut gives. -/
def kS2 (x : V) (M : List Obj) (v : V) (r : List Res) : Prop :=
  match rget r 0 with
  | .store t e L => if t == tS && e == eS then isV x v r ∧ L = M else False
  | _ => False
theorem kS2_out {x : V} {M : List Obj} {v : V} {r : List Res} (h : kS2 x M v r) : isE x v r ∧ rget r 0 = .store tS eS M := by
  unfold kS2 at h
  split at h
  · rename_i hr
    split at h
    · rename_i hc
      simp only [Bool.and_eq_true, beq_iff_eq] at hc
      obtain ⟨rfl, rfl⟩ := hc
      obtain ⟨h1, rfl⟩ := h
      exact ⟨isV_isE h1, hr⟩
    · exact h.elim
  · exact h.elim
/-- A function that changes the store that its first argument points to. -/
def hSt {α : Type} (B : List V → Option α) (Q : List Obj → α → Prop) (F : List Obj → α → V) (M : List Obj → α → List Obj) : HCt := fun args res K =>
  match args with
  | a :: l => match B l with
    | some x => match a with
      | .nl v => match v with
        | .pointer none => K (F [] x) res
        | _ => False
      | .lp k off => if off == 0 then match rget res k with
          | .store t e L => if t == tS && e == eS then Q L x ∧ K (F L x) (rset res k (.store tS eS (M L x))) else False
          | .blk t c => if t == tS && isZ c then K (F [] x) res else False
          | _ => False
        else False
      | _ => False
    | none => False
  | _ => False
def zst : V := .ag [.nl (.slice none 0 0)]
theorem hSt_ok {P : Program} {f : Nat} {α : Type} {B : List V → Option α} {m : α → List V} {Q : List Obj → α → Prop} {F : List Obj → α → V} {M : List Obj → α → List Obj} (hB : ∀ l x, B l = some x → SameB l (m x)) (hid : ∀ x, idfL (m x) = true) (hF : ∀ L x, idf (F L x) = true)
    (h0 : ∀ x, CallTo P f (nilp :: m x) [] (isV (F [] x)) (fun _ _ => False)) (hz : ∀ x, CallTo P f (.lp 0 0 :: m x) [.ro (.blk tS zst)] (isV (F [] x)) (fun _ _ => False))
    (h1 : ∀ L x, Q L x → (∀ o ∈ L, o.wf) → L.length ≤ 9223372036854775807 → CallTo P f (.lp 0 0 :: m x) [.store tS eS L] (kS2 (F L x) (M L x)) (fun _ _ => False)) : HOK P f (hSt B Q F M) := by
  intro args res K KP h
  unfold hSt at h
  split at h
  case h_2 => exact h.elim
  split at h
  case h_2 => exact h.elim
  rename_i x hx
  refine CallTo.args (SameB.keep (hB _ _ hx)) ?_
  split at h
  · split at h
    · exact CallTo.pure (by simp only [idfL, idf, Bool.true_and]; exact hid x) (hF _ _) ((h0 x).mono (fun _ _ h => isV_isE h) fun _ _ h => h) h
    · exact h.elim
  · split at h
    · rename_i hoff
      have hoff := beq_iff_eq.1 hoff
      subst hoff
      split at h
      · rename_i hr
        split at h
        · rename_i hc
          simp only [Bool.and_eq_true, beq_iff_eq] at hc
          obtain ⟨rfl, rfl⟩ := hc
          refine CallTo.onStore hr (hid x) (hF _ _) (CallTo.fact (k := 0) rfl fun w1 w2 => (h1 _ x h.1 w1 w2).mono (fun v r hv => kS2_out hv |> fun ⟨a, b⟩ => ⟨fun ρ K => a ρ K, b⟩) fun _ _ h => h) h.2
        · exact h.elim
      · rename_i hr
        split at h
        · rename_i hc
          simp only [Bool.and_eq_true, beq_iff_eq] at hc
          obtain ⟨rfl, hz'⟩ := hc
          have := isZ_spec hz'
          subst this
          exact CallTo.read1 (r0 := .blk tS zst) (by unfold rlook; rw [hr]; rfl) (by simp) (fun κ => rfl) (hid x) (hF _ _) ((hz x).mono (fun _ _ h => isV_isE h) fun _ _ h => h) h
        · exact h.elim
      · exact h.elim
    · exact h.elim
  · exact h.elim
def rdK (l : List V) : Option Key := match l with
  | [a] => rK a
  | _ => none
def rdKK (l : List V) : Option (Key × Key) := match l with
  | [a, b] => match rK a with
    | some k => match rK b with
      | some k' => some (k, k')
      | none => none
    | none => none
  | _ => none
def rdKIK (l : List V) : Option (Key × Int × Key) := match l with
  | [a, b, c] => match rK a with
    | some k => match rI .i64 b with
      | some i => match rK c with
        | some k' => some (k, i, k')
        | none => none
      | none => none
    | none => none
  | _ => none
theorem rdK_ok : ∀ l x, rdK l = some x → SameB l [.key x] := fun l x h => by
  unfold rdK at h
  split at h
  · exact SameB.rd rK_ok h SameB.nil
  · simp at h
theorem rdKK_ok : ∀ l x, rdKK l = some x → SameB l [.key x.1, .key x.2] := fun l x h => by
  unfold rdKK at h
  split at h
  · split at h
    · rename_i h1
      split at h <;> simp only [Option.some.injEq, reduceCtorEq] at h
      rename_i h2
      subst h
      exact SameB.rd rK_ok h1 (SameB.rd rK_ok h2 SameB.nil)
    · simp at h
  · simp at h
theorem rdKIK_ok : ∀ l x, rdKIK l = some x → SameB l [.key x.1, .it .i64 x.2.1, .key x.2.2] := fun l x h => by
  unfold rdKIK at h
  split at h
  · split at h
    · rename_i h1
      split at h
      · rename_i h2
        split at h <;> simp only [Option.some.injEq, reduceCtorEq] at h
        rename_i h3
        subst h
        exact SameB.rd rK_ok h1 (SameB.rd (rI_ok .i64) h2 (SameB.rd rK_ok h3 SameB.nil))
      · simp at h
    · simp at h
  · simp at h
def nlS : V := .nl (.slice none 0 0)
def q_allOk (L : List Obj) (k : Key) : Bool := decide (q_asked L k 2 false = 0)
def tK : Nat := 28
def h_nall : HCt := hMk (consA sA (consA kA nilA)) (fun _ => True) (fun x => q_allOk (stL x.1) x.2.1) (fun x => .tp [nlS, .it .i64 (q_asked (stL x.1) x.2.1 2 false)]) (fun _ n => .tp [.sa n, .ci .i64 0])
  fun x => .arr (some tK) 6 (.key (q_nall (stL x.1) x.2.1))
def q_mu16 (g : Int) : Nat := (16 - g).toNat
def h_nput : HCt := hSt rdKIK (fun L _ => q_okL L) (fun L x => .tp [.key (q_nput L x.1 x.2.1 x.2.2), .it .i64 (q_nputE L x.1 x.2.1 x.2.2)]) fun L x => q_nputL L x.1 x.2.1 x.2.2
def h_nclr : HCt := hSt rdK (fun L _ => q_okL L) (fun L x => .it .i64 (q_asked L x 2 true)) fun L x => q_nclrL L x
def h_nclo : HCt := hSt rdKK (fun L _ => q_okL L) (fun L x => .it .i64 (q_ncloE L x.1 x.2)) fun L x => q_ncloL L x.1 x.2
theorem ask1 {L : List Obj} {k : Key} {d : Int} {c : Bool} (h : (!decide (0 < q_size L)) = true) : q_asked L k d c = 1 := by
  unfold q_asked; unfold q_size at h
  rw [if_pos (by simp at h; omega)]
theorem ask2 {L : List Obj} {k : Key} {d : Int} {c : Bool} (h : (!decide (0 < q_size L)) = false) (h2 : (!(q_is L k && decide (k.kind = d))) = true) : q_asked L k d c = 190 := by
  unfold q_asked; unfold q_size at h
  rw [if_neg (by simp at h; omega), if_pos (by simpa using h2)]
theorem ask_is {L : List Obj} {k : Key} {d : Int} (h2 : (!(q_is L k && decide (k.kind = d))) = false) : q_is L k = true ∧ k.kind = d := by simpa using h2
theorem ask3 {L : List Obj} {k : Key} {d : Int} (h : (!decide (0 < q_size L)) = false) (h2 : (!(q_is L k && decide (k.kind = d))) = false) (h3 : (!decide (bitsI BinOp.and IntKind.i64 k.rights 3 = 0)) = true) : q_asked L k d true = 191 := by
  have hr := keyOk_r7 (is_all (ask_is h2).1).1
  rw [and3 hr.1 hr.2] at h3
  unfold q_asked; unfold q_size at h
  rw [if_neg (by simp at h; omega), if_neg (by simpa using h2), if_pos (by simpa using h3)]
theorem ask0 {L : List Obj} {k : Key} {d : Int} (h : (!decide (0 < q_size L)) = false) (h2 : (!(q_is L k && decide (k.kind = d))) = false) (h3 : (!decide (bitsI BinOp.and IntKind.i64 k.rights 3 = 0)) = false) : q_asked L k d true = 0 := by
  have hr := keyOk_r7 (is_all (ask_is h2).1).1
  rw [and3 hr.1 hr.2] at h3
  unfold q_asked; unfold q_size at h
  rw [if_neg (by simp at h; omega), if_neg (by simpa using h2), if_neg (by simpa using h3)]
theorem ask0f {L : List Obj} {k : Key} {d : Int} (h : (!decide (0 < q_size L)) = false) (h2 : (!(q_is L k && decide (k.kind = d))) = false) : q_asked L k d false = 0 := by
  unfold q_asked; unfold q_size at h
  rw [if_neg (by simp at h; omega), if_neg (by simpa using h2), if_neg (by simp)]
def q_slFit (n : Int) (k : Key) : Prop := q_keyOk k = true ∧ q_names k < n
theorem slot1 {n : Int} {k : Key} : q_slotOk 1 n k = true ↔ q_slFit n k := by simp [q_slotOk, q_slFit]
theorem with3_in (r : Int) : 0 ≤ q_with r 3 ∧ q_with r 3 ≤ 7 := withG_in
theorem weak_fit {n : Int} (hn : 0 ≤ n) {k : Key} (h : q_slFit n k) : q_slFit n (q_weak k) := by
  obtain ⟨h1, h2⟩ := h
  have hv : q_slFit n void := ⟨keyOk_void, by have := void_ok.2; omega⟩
  unfold q_weak
  split
  · rename_i e
    have hw := with3_in k.rights
    have h1' : q_keyOk (q_rts k (q_with k.rights 3)) = true := by
      simp only [q_keyOk, q_rts, e, Bool.and_eq_true, decide_eq_true_eq] at h1 ⊢
      have : q_most 2 = 7 := rfl
      grind
    refine ⟨h1', ?_⟩
    unfold q_names at h2 ⊢
    rw [h1'] 
    rw [h1] at h2
    exact h2
  · split
    · rename_i e
      have h1' : q_keyOk (q_rts k 1) = true := by
        simp only [q_keyOk, q_rts, e, Bool.and_eq_true, decide_eq_true_eq] at h1 ⊢
        have : q_most 3 = 1 := rfl
        grind
      refine ⟨h1', ?_⟩
      unfold q_names at h2 ⊢
      rw [h1']
      rw [h1] at h2
      exact h2
    · split
      · exact ⟨h1, h2⟩
      · exact hv
theorem prep_fit {L : List Obj} (hL : 0 < L.length) (k : Key) : q_slFit (L.length : Int) (q_prep L k) := by
  have hv : q_slFit (L.length : Int) void := ⟨keyOk_void, by have := void_ok.2; omega⟩
  unfold q_prep
  split
  · exact hv
  · rename_i h
    simp only [Bool.or_eq_true, not_or, Bool.not_eq_true, Bool.not_eq_false', Bool.and_eq_false_imp] at h
    refine ⟨h.1.2, ?_⟩
    rcases names_named k with ⟨a, b, c⟩ | ⟨a, b⟩
    · rw [b]
      exact (is_all (h.2 a)).2.2.1
    · omega
theorem got_fit {L : List Obj} (hL : 0 < L.length) (k : Key) (i : Int) : q_slFit (L.length : Int) (q_got L k i) := by
  unfold q_got q_gotO
  split
  · exact weak_fit (by omega) (prep_fit hL _)
  · exact prep_fit hL _
theorem sls_ok {o : Obj} {n : Int} {s : Slots} (h : q_objOk o n = true) (hk : o.kind = 1) (hs : ∀ i, i < 16 → q_slFit n (s.at i)) : q_objOk (q_sls o s) n = true := by
  rw [objOk_iff] at h ⊢
  simp only [q_sls]
  obtain ⟨a1, a2, a3, a4, a5, a6, a7, a8, a9, a10, a11⟩ := h
  exact ⟨a1, a2, a3, a4, a5, a6, a7, a8, a9, fun i hi => by rw [hk]; exact slot1.2 (hs i hi), fun i hi => .inl (.inl hk)⟩
theorem node_kind {L : List Obj} {k : Key} (h : q_is L k = true) (h2 : k.kind = 2) : (lget L k.oid.toNat free).kind = 1 := by
  rw [(is_all h).2.2.2.2]
  unfold q_wants
  rw [if_neg (by have := (is_names h).1; omega), if_neg (by omega)]
theorem node_slots {L : List Obj} {k : Key} (hL : q_okL L) (h : q_is L k = true) (h2 : k.kind = 2) : ∀ i, i < 16 → q_slFit (L.length : Int) ((lget L k.oid.toNat free).slots.at i) := fun i hi => by
  obtain ⟨_, b2, b3, _⟩ := is_all h
  have := (right_iff.1 hL).2.2 k.oid.toNat (by omega)
  have := (objOk_iff.1 this).2.2.2.2.2.2.2.2.2.1 i hi
  rw [node_kind h h2] at this
  exact slot1.1 this
theorem node_put {L : List Obj} {k : Key} {s : Slots} (hL : q_okL L) (h : q_is L k = true) (h2 : k.kind = 2) (hs : ∀ i, i < 16 → q_slFit (L.length : Int) (s.at i)) : q_putL L k.oid (q_sls (q_nobj L k) s) = q_setO L k s ∧ q_okL (q_setO L k s) := by
  obtain ⟨b1, b2, b3, b4, _⟩ := is_all h
  have hr := right_iff.1 hL
  have ho := sls_ok (hr.2.2 k.oid.toNat (by omega)) (node_kind h h2) hs
  refine ⟨?_, ?_⟩
  · rw [b4]
    exact (put_yes (has_ok.2 ⟨b2, b3⟩) (ochk_yes ho).symm).2
  · refine right_iff.2 ?_
    unfold q_setO
    have hl : (lset L k.oid.toNat (q_sls (lget L k.oid.toNat free) s)).length = L.length := by simp [lset]
    rw [hl]
    refine ⟨hr.1, hr.2.1, fun i hi => ?_⟩
    by_cases e : i = k.oid.toNat
    · subst e
      rw [show lget (lset L k.oid.toNat (q_sls (lget L k.oid.toNat free) s)) k.oid.toNat free = q_sls (lget L k.oid.toNat free) s by simp [lget, lset, List.getD_eq_getElem?_getD, hi]]
      exact ho
    · rw [show lget (lset L k.oid.toNat (q_sls (lget L k.oid.toNat free) s)) i free = lget L i free by simp [lget, lset, List.getD_eq_getElem?_getD, List.getElem?_set, Ne.symm e]]
      exact hr.2.2 i hi
theorem putS_fit {L : List Obj} {k : Key} {i : Int} {v : Key} (hL : q_okL L) (h : q_is L k = true) (h2 : k.kind = 2) (h0 : 0 ≤ i) (h1 : i < 16) : ∀ j, j < 16 → q_slFit (L.length : Int) (((lget L k.oid.toNat free).slots.put i.toNat (q_prep L v)).at j) := fun j hj => by
  rw [Slots.at_put _ _ _ _ (by omega)]
  split
  · exact prep_fit (right_iff.1 hL).1 v
  · exact node_slots hL h h2 j hj
theorem noS_fit {n : Int} (hn : 0 ≤ n) : ∀ j, j < 16 → q_slFit n (noSlots.at j) := fun j hj => by
  rw [at_void.1 rfl j hj]
  exact ⟨keyOk_void, by have := void_ok.2; omega⟩
theorem may_law (L : List Obj) (v : Key) : (decide (q_chk v = 0) && (!q_named v || decide (q_oid v < q_size L))) = q_may L v := by
  unfold q_may q_chk q_oid q_size
  rcases names_named v with ⟨a, b, c⟩ | ⟨a, b⟩
  · rw [a, b]; cases q_keyOk v <;> simp
  · rw [a, b]
    have : (-1 : Int) < (llen L : Int) := by omega
    cases q_keyOk v <;> simp [this]
theorem cloS_succ {L : List Obj} {t f : Key} {g : Int} (h0 : 0 ≤ g) : q_cloS L t f (g + 1) = (q_cloS L t f g).put g.toNat (q_got L f g) := by
  unfold q_cloS
  rw [show (g + 1).toNat = g.toNat + 1 by omega, List.range_succ, List.foldl_append]
  simp only [List.foldl_cons, List.foldl_nil]
  rw [show ((g.toNat : Nat) : Int) = g by omega]
theorem clo_zero {L : List Obj} {t f : Key} (h : q_nobj L t = lget L t.oid.toNat free) : q_nobj L t = q_sls (q_nobj L t) (q_cloS L t f 0) := by
  unfold q_cloS q_sls
  simp [h]
theorem clo_step {L : List Obj} {t f : Key} {g : Int} (h0 : 0 ≤ g) (h : q_nobj L f = lget L f.oid.toNat free) (o : Obj) (s : Slots) : ({ kind := (q_sls o (q_cloS L t f g)).kind, count := (q_sls o (q_cloS L t f g)).count, calls := (q_sls o (q_cloS L t f g)).calls, slots := (q_sls o (q_cloS L t f g)).slots.put g.toNat (q_gotO L (q_nobj L f) f g), bytes := (q_sls o (q_cloS L t f g)).bytes } : Obj) = q_sls o (q_cloS L t f (g + 1)) := by
  rw [cloS_succ h0]
  unfold q_got
  rw [h]
  rfl
theorem cloS_fit {L : List Obj} {t f : Key} (hL : q_okL L) (h : q_is L t = true) (h2 : t.kind = 2) : ∀ n : Nat, n ≤ 16 → ∀ j, j < 16 → q_slFit (L.length : Int) ((q_cloS L t f n).at j)
  | 0, _, j, hj => by
    unfold q_cloS
    exact node_slots hL h h2 j hj
  | n + 1, hn, j, hj => by
    rw [show ((n + 1 : Nat) : Int) = (n : Int) + 1 by omega, cloS_succ (by omega), Slots.at_put _ _ _ _ (by omega)]
    split
    · exact got_fit (right_iff.1 hL).1 _ _
    · exact cloS_fit hL h h2 n (by omega) j hj
theorem nall_succ {L : List Obj} {k : Key} {g : Int} (h0 : 0 ≤ g) (h : q_nobj L k = lget L k.oid.toNat free) : lapp (q_nallG L k g) (q_gotO L (q_nobj L k) k g) = q_nallG L k (g + 1) := by
  unfold q_nallG lapp q_got
  rw [show (g + 1).toNat = g.toNat + 1 by omega, List.range_succ, List.map_append]
  simp only [List.map_cons, List.map_nil]
  rw [show ((g.toNat : Nat) : Int) = g by omega, h]
theorem nallG_len {L : List Obj} {k : Key} {g : Int} : llen (q_nallG L k g) = g.toNat := by simp [llen, q_nallG]
theorem nall_at {L : List Obj} {k : Key} {j : Nat} (h : j < 16) : lget (q_nall L k) j void = q_got L k j := by
  unfold q_nall q_nallG lget
  have : j < (16 : Int).toNat := by omega
  rw [List.getD_eq_getElem?_getD, List.getElem?_map, List.getElem?_range this]; rfl
theorem nall_len {L : List Obj} {k : Key} : llen (q_nall L k) = 16 := nallG_len
theorem same_end2 {L M : List Obj} {g : Int} (hg : q_invS L M g) (hge : (llen L : Int) ≤ g) : decide (g = n2i (llen M)) = q_same L M := by
  have := same_end hg hge
  have e : q_size L = g := by
    have := hg.2.1
    unfold q_size
    omega
  rw [decide_eq_true e, Bool.and_true] at this
  exact this
structure Acx where
  kind : Int
  slot : Int
  key : Key
  other : Key
def actV (a : Acx) : V := .ag [.it .i64 a.kind, .it .i64 a.slot, .key a.key, .key a.other]
def q_made (l : List Obj) : Bool := decide ((llen l : Int) ≤ 20) && q_right l
def h_made : HCt := hMk (consA liA nilA) (fun _ => True) (fun x => q_made x.1) (fun _ => nilp) (fun _ n => .lp n 0) (fun x => .store tS eS x.1)
/-- Does a call change the store? -/
def q_dchg (L : List Obj) (a : Acx) : Bool :=
  if a.kind = 1 then false else if a.kind = 2 then decide (q_nputE L a.key a.slot a.other = 0) else if a.kind = 3 then decide (q_asked L a.key 2 true = 0) else if a.kind = 4 then decide (q_ncloE L a.key a.other = 0) else false
def q_doesL (L : List Obj) (a : Acx) : List Obj :=
  if a.kind = 1 then L else if a.kind = 2 then q_nputL L a.key a.slot a.other else if a.kind = 3 then q_nclrL L a.key else if a.kind = 4 then q_ncloL L a.key a.other else L
def kDo (c : Bool) (L0 L1 : List Obj) (v : V) (r : List Res) : Prop :=
  match v with
  | .tp l => match l with
    | [a, b] => match a with
      | .sa p => match rget r 0 with
        | .store t e L => if t == tS && e == eS then
            if p == 1 then isV (.bo true) b r ∧ c = false ∧ L = L0
            else if Nat.ble 2 p then match rget r p with
              | .arr o z l => match o with
                | some e' => match l with
                  | .ob M => if e' == tO && z == 163 then isV (.bo true) b r ∧ c = true ∧ L = L1 ∧ M = L1 else False
                  | _ => False
                | none => False
              | _ => False
            else False
          else False
        | _ => False
      | _ => False
    | _ => False
  | _ => False
theorem nget_bad {L : List Obj} {k : Key} {i : Int} (h : q_asked L k 2 false ≠ 0) : q_ngetE L k i = q_asked L k 2 false ∧ q_nget L k i = void := by
  have : q_ngetE L k i = q_asked L k 2 false := by unfold q_ngetE; rw [if_neg h]
  exact ⟨this, by unfold q_nget; rw [this, if_neg h]⟩
theorem nget_rng {L : List Obj} {k : Key} {i : Int} (h : q_asked L k 2 false = 0) (hr : i < 0 ∨ 15 < i) : q_ngetE L k i = 4 ∧ q_nget L k i = void := by
  have : q_ngetE L k i = 4 := by
    unfold q_ngetE q_nrng
    rw [if_pos h, if_neg (by simp; omega)]
  exact ⟨this, by unfold q_nget; rw [this]; rfl⟩
theorem nget_ok {L : List Obj} {k : Key} {i : Int} (h : q_asked L k 2 false = 0) (hr : ¬ (i < 0 ∨ 15 < i)) : q_ngetE L k i = 0 ∧ q_nget L k i = q_got L k i := by
  have : q_ngetE L k i = 0 := by
    unfold q_ngetE q_nrng
    rw [if_pos h, if_pos (by simp; omega)]
  exact ⟨this, by unfold q_nget; rw [this]; rfl⟩
theorem nput_no {L : List Obj} {k : Key} {i : Int} {v : Key} {e : Int} (h : q_nputE L k i v = e) (he : e ≠ 0) : q_nputE L k i v = e ∧ q_nput L k i v = void ∧ q_nputL L k i v = L := ⟨h, by unfold q_nput; rw [h, if_neg he], by unfold q_nputL; rw [h, if_neg he]⟩
theorem nput_bad {L : List Obj} {k : Key} {i : Int} {v : Key} (h : q_asked L k 2 true ≠ 0) : q_nputE L k i v = q_asked L k 2 true ∧ q_nput L k i v = void ∧ q_nputL L k i v = L := nput_no (by unfold q_nputE; rw [if_neg h]) h
theorem nput_rng {L : List Obj} {k : Key} {i : Int} {v : Key} (h : q_asked L k 2 true = 0) (hr : i < 0 ∨ 15 < i) : q_nputE L k i v = 4 ∧ q_nput L k i v = void ∧ q_nputL L k i v = L :=
  nput_no (by unfold q_nputE q_nrng; rw [if_pos h, if_neg (by simp; omega)]) (by omega)
theorem nput_arg {L : List Obj} {k : Key} {i : Int} {v : Key} (h : q_asked L k 2 true = 0) (hr : ¬ (i < 0 ∨ 15 < i)) (hm : q_may L v = false) : q_nputE L k i v = 2 ∧ q_nput L k i v = void ∧ q_nputL L k i v = L :=
  nput_no (by unfold q_nputE q_nrng; rw [if_pos h, if_pos (by simp; omega), hm]; rfl) (by omega)
theorem nput_ok {L : List Obj} {k : Key} {i : Int} {v : Key} (h : q_asked L k 2 true = 0) (hr : ¬ (i < 0 ∨ 15 < i)) (hm : q_may L v = true) :
    q_nputE L k i v = 0 ∧ q_nput L k i v = q_got L k i ∧ q_nputL L k i v = q_setO L k ((lget L k.oid.toNat free).slots.put i.toNat (q_prep L v)) := by
  have : q_nputE L k i v = 0 := by unfold q_nputE q_nrng; rw [if_pos h, if_pos (by simp; omega), hm]; rfl
  exact ⟨this, by unfold q_nput; rw [this]; rfl, by unfold q_nputL; rw [this]; rfl⟩
theorem rput_ok {L : List Obj} {k : Key} (hL : q_okL L) (h : q_is L k = true) : q_rputQ L k.oid ∧ 0 ≤ k.oid ∧ k.oid < (llen L : Int) ∧ k.oid.toNat < llen L := by
  obtain ⟨_, b2, b3, _⟩ := is_all h
  have := (right_iff.1 hL).2.1
  exact ⟨⟨b2, b3, by unfold llen; omega⟩, b2, b3, by unfold llen; omega⟩
theorem keq_self (k : Key) : keq k k = true := by simp [keq]
def Acx.wf (x : Acx) : Prop := inR .i64 x.kind ∧ inR .i64 x.slot ∧ x.key.wf ∧ x.other.wf
def act0 : Acx := ⟨0, 0, void, void⟩
def acts (l : List Acx) : TL := .fn (llen l) fun i => actV (lget l i act0)
def q_invP9 (l : List Acx) (g : Int × List Obj) : Prop := 0 ≤ g.1 ∧ g.1 ≤ (llen l : Int) ∧ q_okL g.2
def q_muP9 (l : List Acx) (g : Int × List Obj) : Nat := llen l - g.1.toNat
def q_invO9 (l : List Acx) (g : Int) : Prop := 0 ≤ g ∧ g ≤ (llen l : Int)
def q_muO9 (l : List Acx) (g : Int) : Nat := llen l - g.toNat
def q_inv8 (g : Int) : Prop := 0 ≤ g ∧ g ≤ 8
def q_mu8 (g : Int) : Nat := (8 - g).toNat
def q_inv25 (g : Int) : Prop := 2 ≤ g ∧ g ≤ 5
def q_mu25 (g : Int) : Nat := (5 - g).toNat
theorem same_self (L : List Obj) : q_same L L = true := by unfold q_same; simp
theorem nputE_zero {L : List Obj} {k : Key} {i : Int} {v : Key} (h : q_nputE L k i v = 0) : q_asked L k 2 true = 0 ∧ 0 ≤ i ∧ i < 16 := by
  unfold q_nputE q_nrng at h
  split at h
  · rename_i h1
    split at h
    · rename_i h2
      simp at h2
      exact ⟨h1, h2.1, h2.2⟩
    · omega
  · rename_i h1; exact absurd h h1
theorem doesL_ok {L : List Obj} {a : Acx} (hL : q_okL L) (h : q_dchg L a = true) : q_okL (q_doesL L a) := by
  unfold q_dchg at h
  unfold q_doesL
  split at h
  · simp at h
  · rename_i h1
    rw [if_neg h1]
    split at h
    · rename_i h2
      rw [if_pos h2]
      have h := of_decide_eq_true h
      obtain ⟨e1, e2, e3⟩ := nputE_zero h
      obtain ⟨a1, a2, _⟩ := asked_ok e1
      unfold q_nputL
      rw [if_pos h]
      exact (node_put hL a1 a2 (putS_fit hL a1 a2 e2 e3)).2
    · rename_i h2
      rw [if_neg h2]
      split at h
      · rename_i h3
        rw [if_pos h3]
        have h := of_decide_eq_true h
        obtain ⟨a1, a2, _⟩ := asked_ok h
        unfold q_nclrL
        rw [if_pos h]
        exact (node_put hL a1 a2 (noS_fit (by omega))).2
      · rename_i h3
        rw [if_neg h3]
        split at h
        · rename_i h4
          rw [if_pos h4]
          have h := of_decide_eq_true h
          have h' := h
          unfold q_ncloE at h'
          split at h'
          · rename_i h5
            obtain ⟨a1, a2, _⟩ := asked_ok h5
            unfold q_ncloL
            rw [if_pos h]
            exact (node_put hL a1 a2 (cloS_fit hL a1 a2 16 (by omega))).2
          · rename_i h5; exact absurd h' h5
        · simp at h
theorem made_ok {l : List Obj} (h : q_made l = true) : q_okL l ∧ l.length ≤ 20 := by
  unfold q_made at h
  simp only [Bool.and_eq_true, decide_eq_true_eq] at h
  unfold llen at h
  exact ⟨h.2, by omega⟩
theorem setO_len {L : List Obj} {k : Key} {s : Slots} : (q_setO L k s).length = L.length := by simp [q_setO, lset]
theorem setO_get {L : List Obj} {k : Key} {s : Slots} (h0 : 0 ≤ k.oid) (h1 : k.oid < (L.length : Int)) (j : Nat) : lget (q_setO L k s) j free = if j = k.oid.toNat then q_sls (lget L j free) s else lget L j free := by
  unfold q_setO
  by_cases e : j = k.oid.toNat
  · subst e
    rw [if_pos rfl]
    have : k.oid.toNat < L.length := by omega
    simp [lget, lset, List.getD_eq_getElem?_getD, this]
  · rw [if_neg e]
    simp [lget, lset, List.getD_eq_getElem?_getD, List.getElem?_set, Ne.symm e]
section
variable {L : List Obj} {k : Key} {s : Slots} (h0 : 0 ≤ k.oid) (h1 : k.oid < (L.length : Int))
include h0 h1
theorem setO_is (x : Key) : q_is (q_setO L k s) x = q_is L x := by
  unfold q_is
  have hh : q_has (q_setO L k s) x.oid = q_has L x.oid := by unfold q_has llen; rw [setO_len]
  have hc : q_counts x (lget (q_setO L k s) x.oid.toNat free) = q_counts x (lget L x.oid.toNat free) := by rw [setO_get h0 h1]; split <;> rfl
  rw [hh, hc]
theorem setO_prep (x : Key) : q_prep (q_setO L k s) x = q_prep L x := by unfold q_prep q_snone llen; rw [setO_len, setO_is h0 h1]
theorem setO_asked (x : Key) (d : Int) (c : Bool) : q_asked (q_setO L k s) x d c = q_asked L x d c := by unfold q_asked llen; rw [setO_len, setO_is h0 h1]
theorem setO_got (j : Int) : q_got (q_setO L k s) k j = if q_weakBit k then q_weak (q_prep L (s.at j.toNat)) else q_prep L (s.at j.toNat) := by
  unfold q_got q_gotO
  rw [setO_get h0 h1, if_pos rfl, setO_prep h0 h1]; rfl
end
theorem setO_may {L : List Obj} {k : Key} {s : Slots} (x : Key) : q_may (q_setO L k s) x = q_may L x := by unfold q_may llen; rw [setO_len]
theorem asked_nweak {L : List Obj} {k : Key} (h : q_asked L k 2 true = 0) : q_weakBit k = false := by
  obtain ⟨a1, a2, a3⟩ := asked_ok h
  have hr := keyOk_r7 (is_all a1).1
  have h4 := a3 rfl
  unfold q_weakBit
  obtain ⟨h0, h7⟩ := hr
  generalize k.rights = r at *
  have : r = 0 ∨ r = 1 ∨ r = 2 ∨ r = 3 ∨ r = 4 ∨ r = 5 ∨ r = 6 ∨ r = 7 := by omega
  rcases this with rfl | rfl | rfl | rfl | rfl | rfl | rfl | rfl <;> first | rfl | exact absurd h4 (by decide)
theorem asked_ff {L : List Obj} {k : Key} (h : q_asked L k 2 true = 0) : q_asked L k 2 false = 0 := by
  unfold q_asked at h ⊢
  split at h
  · omega
  · rename_i h1
    split at h
    · omega
    · rename_i h2
      rw [if_neg h1, if_neg h2, if_neg (by simp)]
theorem weak_void : q_weak void = void := by rfl
theorem with_idem {r : Int} (h0 : 0 ≤ r) (h1 : r ≤ 7) : q_with (q_with r 3) 3 = q_with r 3 := by
  have : r = 0 ∨ r = 1 ∨ r = 2 ∨ r = 3 ∨ r = 4 ∨ r = 5 ∨ r = 6 ∨ r = 7 := by omega
  rcases this with rfl | rfl | rfl | rfl | rfl | rfl | rfl | rfl <;> decide
theorem weak_idem {k : Key} (h : q_keyOk k = true) : q_weak (q_weak k) = q_weak k := by
  have hr := keyOk_r7 h
  have hw := with_idem hr.1 hr.2
  by_cases e2 : k.kind = 2
  · have : q_weak k = q_rts k (q_with k.rights 3) := by unfold q_weak; rw [if_pos e2]
    rw [this]
    have e2' : (q_rts k (q_with k.rights 3)).kind = 2 := e2
    unfold q_weak
    rw [if_pos e2']
    show q_rts (q_rts k _) (q_with (q_with k.rights 3) 3) = _
    rw [hw]; rfl
  · by_cases e3 : k.kind = 3
    · have : q_weak k = q_rts k 1 := by unfold q_weak; rw [if_neg e2, if_pos e3]
      rw [this]
      have e2' : (q_rts k 1).kind ≠ 2 := e2
      have e3' : (q_rts k 1).kind = 3 := e3
      unfold q_weak
      rw [if_neg e2', if_pos e3']; rfl
    · by_cases e1 : k.kind = 1 ∨ k.kind = 8
      · have : q_weak k = k := by unfold q_weak; rw [if_neg e2, if_neg e3, if_pos e1]
        rw [this, this]
      · have : q_weak k = void := by unfold q_weak; rw [if_neg e2, if_neg e3, if_neg e1]
        rw [this]; rfl
def q_wk (w : Key) : Prop := q_keyOk w = true ∧ q_weak w = w
theorem wk_weak {k : Key} (h : q_keyOk k = true) : q_wk (q_weak k) := by
  refine ⟨?_, weak_idem h⟩
  have hb : ∃ n : Int, 0 ≤ n ∧ q_names k < n := by
    rcases names_named k with ⟨_, b, c⟩ | ⟨_, b⟩
    · exact ⟨k.oid + 1, by omega, by omega⟩
    · exact ⟨0, by omega, by omega⟩
  obtain ⟨n, hn, hk⟩ := hb
  exact (weak_fit hn ⟨h, hk⟩).1
theorem wk_bit {w : Key} (h : q_wk w) (h2 : w.kind = 2) : q_weakBit w = true ∧ w.rights.tmod 4 ≠ 0 := by
  obtain ⟨h1, hw⟩ := h
  have hr := keyOk_r7 h1
  have : q_weak w = q_rts w (q_with w.rights 3) := by unfold q_weak; rw [if_pos h2]
  rw [this] at hw
  have hrr : q_with w.rights 3 = w.rights := congrArg Key.rights hw
  unfold q_weakBit
  obtain ⟨h0, h7⟩ := hr
  generalize w.rights = r at *
  have : r = 0 ∨ r = 1 ∨ r = 2 ∨ r = 3 ∨ r = 4 ∨ r = 5 ∨ r = 6 ∨ r = 7 := by omega
  rcases this with rfl | rfl | rfl | rfl | rfl | rfl | rfl | rfl <;> first | exact ⟨by decide, by decide⟩ | exact absurd hrr (by decide)
theorem wk_asked {L : List Obj} {w : Key} (h : q_wk w) (ha : q_asked L w 2 false = 0) : q_asked L w 2 true = 191 := by
  obtain ⟨a1, a2, _⟩ := asked_ok ha
  have hb := (wk_bit h a2).2
  unfold q_asked at ha ⊢
  split at ha
  · omega
  · rename_i h1
    split at ha
    · omega
    · rename_i h2
      rw [if_neg h1, if_neg h2, if_pos (by simpa using hb)]
theorem wk_got {L : List Obj} {w : Key} {i : Int} (h : q_wk w) (ha : q_asked L w 2 false = 0) : q_wk (q_got L w i) := by
  obtain ⟨a1, a2, _⟩ := asked_ok ha
  unfold q_got q_gotO
  rw [(wk_bit h a2).1, if_pos rfl]
  exact wk_weak (keyOk_prep _ _)
theorem ngetE_ok {L : List Obj} {k : Key} {i : Int} (h : q_ngetE L k i = 0) : q_asked L k 2 false = 0 ∧ q_nget L k i = q_got L k i := by
  refine ⟨?_, by unfold q_nget; rw [if_pos h]⟩
  unfold q_ngetE at h
  split at h
  · assumption
  · rename_i h1; exact absurd h h1
def g_cweak : Ct := mk1 rK fun k => .tp [.key (q_weaken k), .bo (q_keyOk k)]
def q_invW9 (s : List Int) (g : Int × Key) : Prop := 0 ≤ g.1 ∧ g.1 ≤ (llen s : Int) ∧ q_wk g.2
def q_muW9 (s : List Int) (g : Int × Key) : Nat := llen s - g.1.toNat
/-- What is known behind a put that was done. -/
theorem put_facts {L : List Obj} {k : Key} {i : Int} {u : Key} (hL : q_okL L) (h : q_nputE L k i u = 0) :
    q_okL (q_nputL L k i u) ∧ (q_nputL L k i u).length = L.length ∧ (∀ x, q_prep (q_nputL L k i u) x = q_prep L x) ∧ (∀ x d c, q_asked (q_nputL L k i u) x d c = q_asked L x d c) ∧ (∀ x, q_may (q_nputL L k i u) x = q_may L x) ∧
    (∀ j : Int, 0 ≤ j → j < 16 → q_got (q_nputL L k i u) k j = if j = i then q_prep L u else q_prep L ((lget L k.oid.toNat free).slots.at j.toNat)) ∧
    (lget (q_nputL L k i u) k.oid.toNat free).slots = (lget L k.oid.toNat free).slots.put i.toNat (q_prep L u) ∧ ∀ j : Nat, j ≠ k.oid.toNat → lget (q_nputL L k i u) j free = lget L j free := by
  obtain ⟨e1, e2, e3⟩ := nputE_zero h
  obtain ⟨a1, a2, _⟩ := asked_ok e1
  obtain ⟨_, b2, b3, _⟩ := is_all a1
  have hs : q_nputL L k i u = q_setO L k ((lget L k.oid.toNat free).slots.put i.toNat (q_prep L u)) := by unfold q_nputL; rw [if_pos h]
  rw [hs]
  refine ⟨(node_put hL a1 a2 (putS_fit hL a1 a2 e2 e3)).2, setO_len, setO_prep b2 b3, setO_asked b2 b3, setO_may, fun j j0 j1 => ?_, ?_, fun j hj => ?_⟩
  · rw [setO_got b2 b3, asked_nweak e1]
    simp only [Bool.false_eq_true, if_false]
    rw [Slots.at_put _ _ _ _ (by omega)]
    by_cases e : j = i
    · subst e; simp; exact prep_idem L u
    · rw [if_neg (by omega), if_neg e]
  · rw [setO_get b2 b3, if_pos rfl]; rfl
  · rw [setO_get b2 b3, if_neg hj]
theorem put_again {L : List Obj} {k : Key} {i : Int} {u v : Key} (hL : q_okL L) (h : q_nputE L k i u = 0) (hv : q_may L v = true) : q_nputE (q_nputL L k i u) k i v = 0 := by
  obtain ⟨_, _, _, p4, p5, _⟩ := put_facts hL h
  obtain ⟨e1, e2, e3⟩ := nputE_zero h
  unfold q_nputE q_nrng
  rw [p4, p5, if_pos e1, if_pos (by simp; omega), if_pos hv]
theorem get_lget {L : List Obj} {j : Int} (h0 : 0 ≤ j) (h1 : j < (L.length : Int)) : q_get L j = lget L j.toNat free := by
  unfold q_get
  rw [if_pos (has_ok.2 ⟨h0, h1⟩)]
def q_askNo (L : List Obj) (k : Key) : Prop := q_asked L k 2 true ≠ 0
def g_nputw : Ct := mkR (consA sA (consA kA (consA iA (consA kA nilA)))) (fun x => some (q_askNo (stL x.1) x.2.1)) fun x => .tp [.key void, .it .i64 (q_asked (stL x.1) x.2.1 2 true)]
theorem lget_lset {L : List Obj} {i : Nat} {x : Obj} (hi : i < L.length) (j : Nat) : lget (lset L i x) j free = if j = i then x else lget L j free := by
  by_cases e : j = i
  · subst e
    rw [if_pos rfl]
    simp [lget, lset, List.getD_eq_getElem?_getD, hi]
  · rw [if_neg e]
    simp [lget, lset, List.getD_eq_getElem?_getD, List.getElem?_set, Ne.symm e]
theorem lset_len {L : List Obj} {i : Nat} {x : Obj} : (lset L i x).length = L.length := by simp [lset]
theorem lset_is {L : List Obj} {i : Nat} {x : Obj} (hi : i < L.length) (h1 : x.kind = (lget L i free).kind) (h2 : x.count = (lget L i free).count) (h3 : x.calls = (lget L i free).calls) (k : Key) : q_is (lset L i x) k = q_is L k := by
  unfold q_is
  have hh : q_has (lset L i x) k.oid = q_has L k.oid := by unfold q_has llen; rw [lset_len]
  have hc : q_counts k (lget (lset L i x) k.oid.toNat free) = q_counts k (lget L k.oid.toNat free) := by
    rw [lget_lset hi]
    split
    · rename_i e
      unfold q_counts
      rw [e, h1, h2, h3]
    · rfl
  rw [hh, hc]
theorem lset_asked {L : List Obj} {i : Nat} {x : Obj} (hi : i < L.length) (h1 : x.kind = (lget L i free).kind) (h2 : x.count = (lget L i free).count) (h3 : x.calls = (lget L i free).calls) (k : Key) (d : Int) (c : Bool) :
    q_asked (lset L i x) k d c = q_asked L k d c := by unfold q_asked llen; rw [lset_len, lset_is hi h1 h2 h3]
end Go.Sx
/- A call over a store and a list of the same objects, as a handler. No condition. -/
set_option linter.unusedVariables false
set_option linter.unusedSimpArgs false
set_option maxRecDepth 100000
namespace Go.Sx
theorem rd_cells {α : Type} {r : V → Option α} {m : α → V} (hr : RdOK r m) {v : V} {x : α} (h : r v = some x) (ρ : Env) : cells ρ v = cells ρ (m x) := by simp only [cells, (hr v x h).1 ρ]
def hDo {α : Type} (rd : V → Option α) (Q : List Obj → α → Prop) (chg : List Obj → α → Bool) (L1 : List Obj → α → List Obj) : HCt := fun args res K =>
  match args with
  | [a, b, c] => match rd c with
    | some x => match a with
      | .lp k off => if off == 0 then match rget res k with
          | .store t e L => if t == tS && e == eS then match b with
              | .sa j => match rlook res j with
                | .arr _ z l => if z == 163 then match l with
                    | .ob M => M = L ∧ Q L x ∧ (chg L x = false → K (.tp [.sa j, .bo true]) (rset res k (.store tS eS L))) ∧
                        (chg L x = true → K (.tp [.sa res.length, .bo true]) (rset res k (.store tS eS (L1 L x)) ++ [.arr (some tO) 163 (.ob (L1 L x))]))
                    | _ => False
                  else False
                | _ => False
              | _ => False
            else False
          | _ => False
        else False
      | _ => False
    | none => False
  | _ => False
theorem renOL_cons {κ : Nat → Option Nat} {x a : V} {l m : List V} (h1 : renO κ x = some a) (h2 : renOL κ l = some m) : renOL κ (x :: l) = some (a :: m) := by
  simp only [renOL]
  rw [h1]
  simp only
  rw [h2]
theorem kDo_out {c : Bool} {L0 L1 : List Obj} {v : V} {r : List Res} (h : kDo c L0 L1 v r) : ∃ b, isV (.bo true) b r ∧ ((v = .tp [.sa 1, b] ∧ c = false ∧ rget r 0 = .store tS eS L0) ∨
    ∃ p, 2 ≤ p ∧ v = .tp [.sa p, b] ∧ c = true ∧ rget r 0 = .store tS eS L1 ∧ rget r p = .arr (some tO) 163 (.ob L1)) := by
  unfold kDo at h
  split at h
  case h_2 => exact h.elim
  split at h
  case h_2 => exact h.elim
  rename_i a b
  split at h
  case h_2 => exact h.elim
  rename_i p
  split at h
  case h_2 => exact h.elim
  rename_i t e L hr
  split at h
  case isFalse => exact h.elim
  rename_i hc
  simp only [Bool.and_eq_true, beq_iff_eq] at hc
  obtain ⟨rfl, rfl⟩ := hc
  split at h
  · rename_i hp
    have hp := beq_iff_eq.1 hp
    subst hp
    obtain ⟨h1, h2, rfl⟩ := h
    exact ⟨b, h1, .inl ⟨rfl, h2, hr⟩⟩
  · split at h
    case isFalse => exact h.elim
    rename_i hp
    have hp : 2 ≤ p := by simpa using hp
    split at h
    case h_2 => exact h.elim
    rename_i o z l hrp
    split at h
    case h_2 => exact h.elim
    rename_i e'
    split at h
    case h_2 => exact h.elim
    rename_i M
    split at h
    case isFalse => exact h.elim
    rename_i hc
    simp only [Bool.and_eq_true, beq_iff_eq] at hc
    obtain ⟨rfl, rfl⟩ := hc
    obtain ⟨h1, h2, rfl, rfl⟩ := h
    exact ⟨b, h1, .inr ⟨p, hp, rfl, h2, hr, hrp⟩⟩
theorem isV_bo {b : V} {c : Bool} {r : List Res} (h : isV (.bo c) b r) : (∀ κ, renO κ b = some b) ∧ ∀ ρ N, Same ρ N b (.bo c) := by
  refine ⟨fun κ => ?_, fun ρ N => isV_isE h ρ N⟩
  unfold isV at h
  cases b <;> first | rfl | (simp [eqP] at h)
theorem CallTo.weak2 {P : Program} {f : Nat} {args : List V} {K KP : V → List Res → Prop} {own : Option Nat} {z t e : Nat} {l : TL} {L : List Obj} (h : CallTo P f args [.store t e L, .ro (.arr none z l)] K KP) : CallTo P f args [.store t e L, .ro (.arr own z l)] K KP := by
  have hk : ∀ i (own : Option Nat), known [.store t e L, .ro (.arr own z l)] i ↔ i < 2 := fun i own => by
    unfold known
    match i with
    | 0 => simp [rget]
    | 1 => simp [rget]
    | i + 2 => simp [rget]
  refine h.good fun ρ fps w0 F0 w hH => ⟨ρ, fps, hH.weaken fun i hi => ⟨(hk i _).2 ((hk i _).1 hi), fun fp hh => ?_⟩, Env.agree.refl _ _, fun i hi => (hk i _).2 ((hk i _).1 hi)⟩
  match i, (hk i _).1 hi with
  | 0, _ => exact hh
  | 1, _ =>
    obtain ⟨fp', g1, g2⟩ := hh
    exact ⟨fp', arr_none g1, g2⟩
theorem hDo_ok {P : Program} {f : Nat} {α : Type} {rd : V → Option α} {m : α → V} {Q : List Obj → α → Prop} {chg : List Obj → α → Bool} {L1 : List Obj → α → List Obj} (hrd : RdOK rd m) (hid : ∀ x, idf (m x) = true)
    (hcl : ∀ L x, Q L x → CallTo P f [.lp 0 0, .sa 1, m x] [.store tS eS L, .ro (.arr none 163 (.ob L))] (kDo (chg L x) L (L1 L x)) (fun _ _ => False)) : HOK P f (hDo rd Q chg L1) := by
  intro args res K KP h
  unfold hDo at h
  split at h
  case h_2 => exact h.elim
  split at h
  case h_2 => exact h.elim
  rename_i x hx
  refine CallTo.args (SameB.keep (SameB.keep (SameB.rd hrd hx SameB.nil))) ?_
  split at h
  case h_2 => exact h.elim
  rename_i k off
  split at h
  case isFalse => exact h.elim
  rename_i hoff
  have hoff := beq_iff_eq.1 hoff
  subst hoff
  split at h
  case h_2 => exact h.elim
  rename_i t e L hr
  split at h
  case isFalse => exact h.elim
  rename_i hc
  simp only [Bool.and_eq_true, beq_iff_eq] at hc
  obtain ⟨rfl, rfl⟩ := hc
  split at h
  case h_2 => exact h.elim
  rename_i j
  split at h
  case h_2 => exact h.elim
  rename_i own z l hj
  split at h
  case isFalse => exact h.elim
  rename_i hz
  have hz := beq_iff_eq.1 hz
  subst hz
  split at h
  case h_2 => exact h.elim
  rename_i M
  obtain ⟨rfl, hL, h0, h1⟩ := h
  have hk : known res k := by unfold known; rw [hr]; simp
  have hkj := rlook_known hj (by simp)
  have hkl := rget_lt hk
  have hjl := rget_lt hkj
  have hne : k ≠ j := fun e => by
    subst e
    unfold rlook at hj
    rw [hr] at hj
    simp at hj
  have hres : restr (kap 0 (fsts [(k, true), (j, false)])) res [(k, true), (j, false)] = [.store tS eS M, .ro (.arr own 163 (.ob M))] := by simp [restr, hr, hj, renR]
  refine CallTo.frame (pl := [(k, true), (j, false)]) (args0 := [.lp 0 0, .sa 1, m x]) (K0 := kDo (chg M x) M (L1 M x)) (KP0 := fun _ _ => False) (by simp [knownAll, knownB_iff.2 hk, knownB_iff.2 hkj]) (by simpa [okExt, fsts, inNl] using ⟨⟨hkl, Ne.symm hne⟩, hjl⟩) ?_ ?_ (fun v r hv => ?_) (fun _ _ h => h.elim)
  · exact renOL_cons (by simp [renO, kap, idxOf, fsts]) (renOL_cons (by simp [renO, kap, idxOf, fsts, hne]) (renOL_idf _ (by simp only [idfL, hid, Bool.and_true])))
  · rw [hres]
    exact CallTo.weak2 (hcl M x hL)
  · obtain ⟨b, hb, hv⟩ := kDo_out hv
    obtain ⟨b1, b2⟩ := isV_bo hb
    rcases hv with ⟨rfl, hc, hr0⟩ | ⟨p, hp, rfl, hc, hr0, hrp⟩
    · have hm : merge [(k, true), (j, false)] [] r res = rset res k (.store tS eS M) := by simp [merge, putBack, hr0, renR, reRes2]
      refine ⟨[], .tp [.sa j, .bo true], rfl, by simp [allOwn, hr0, ownR], rfl, Turns.ren (v2 := .tp [.sa j, b]) (by simp [renO, renOL, back, getP, b1]) (fun ρ N => ?_), by rw [hm]; exact h0 hc⟩
      obtain ⟨s1, s2, _⟩ := b2 ρ N
      exact ⟨by simp only [den, denL, s1], fun hk => ⟨hk.1, s2 hk.2.1, trivial⟩, rfl⟩
    · have hpl : p < r.length := rget_lt (by rw [hrp]; simp)
      have hm : merge [(k, true), (j, false)] [p] r res = rset res k (.store tS eS (L1 M x)) ++ [.arr (some tO) 163 (.ob (L1 M x))] := by simp [merge, putBack, hr0, hrp, renR, reRes2]
      refine ⟨[p], .tp [.sa res.length, .bo true], by simpa [okExt, inNl] using ⟨hp, hpl⟩, by simp [allOwn, hr0, ownR], by simp [allOwnE, hrp, ownR], Turns.ren (v2 := .tp [.sa res.length, b]) ?_ (fun ρ N => ?_), by rw [hm]; exact h1 hc⟩
      · have : back [(k, true), (j, false)] [p] res.length p = some res.length := by
          unfold back
          rw [getP_none _ _ (by simpa using hp)]
          simp [idxOf]
        simp [renO, renOL, this, b1]
      · obtain ⟨s1, s2, _⟩ := b2 ρ N
        exact ⟨by simp only [den, denL, s1], fun hk => ⟨hk.1, s2 hk.2.1, trivial⟩, rfl⟩
end Go.Sx
/- Functions that read a list and give it back, or another one, beside other values: as handlers. No condition. -/
set_option linter.unusedVariables false
set_option linter.unusedSimpArgs false
set_option maxRecDepth 100000
namespace Go.Sx
/-- Values, read by arguments without places. -/
def rdL {α : Type} (B : ArgL α) (l : List V) : Option α := match B.rd [] l with
  | some p => match p.1 with
    | [] => some p.2
    | _ => none
  | none => none
theorem rdL_ok {α : Type} {B : ArgL α} (hB : ArgLOK B) (hid : ∀ a, idfL (B.cn a 0) = true) : ∀ l x, rdL B l = some x → SameB l (B.cn x 0) := fun l x h => by
  unfold rdL at h
  split at h
  case h_2 => simp at h
  rename_i p hp
  obtain ⟨pls, a⟩ := p
  split at h
  case h_2 => simp at h
  rename_i h1
  simp only at h1
  subst h1
  simp only [Option.some.injEq] at h
  subst h
  obtain ⟨_, _, _, b4⟩ := hB _ _ _ _ hp
  obtain ⟨c1, c2⟩ := b4 [] []
  intro ρ K hk
  have e1 := (c1 ρ K hk).1
  have e2 := c2 K hk
  have e3 : okL (fun _ => False) (B.cn a 0) := idfL_ok _ (hid a) e2
  refine ⟨?_, idfL_ok _ (hid a) e2⟩
  rw [← e1]
  exact denL_agree (N := fun _ => False) (fun _ h => h.elim) _ e3
def hLx {α : Type} (B : List V → Option α) (Q : List Obj → α → Prop) (chg : List Obj → α → Bool) (L1 : List Obj → α → List Obj) (F : List Obj → α → List V) : HCt := fun args res K =>
  match args with
  | b :: l => match B l with
    | some x => match b with
      | .sa j => match rlook res j with
        | .arr _ z t => if z == 163 then match t with
            | .ob M => Q M x ∧ (chg M x = false → K (.tp (.sa j :: F M x)) res) ∧ (chg M x = true → K (.tp (.sa res.length :: F M x)) (res ++ [.arr (some tO) 163 (.ob (L1 M x))]))
            | _ => False
          else False
        | _ => False
      | _ => False
    | none => False
  | _ => False
/-- What such a function gives. -/
def kLx (c : Bool) (L1 : List Obj) (F : List V) (v : V) (r : List Res) : Prop :=
  match v with
  | .tp l => match l with
    | a :: bs => match a with
      | .sa p => if p == 0 then c = false ∧ isV (.tp F) (.tp bs) r else if Nat.ble 1 p then match rget r p with
          | .arr own z t => match own with
            | some e => match t with
              | .ob M => if z == 163 && e == tO then c = true ∧ isV (.tp F) (.tp bs) r ∧ M = L1 else False
              | _ => False
            | none => False
          | _ => False
        else False
      | _ => False
    | [] => False
  | _ => False
theorem kLx_out {c : Bool} {L1 : List Obj} {F : List V} {v : V} {r : List Res} (h : kLx c L1 F v r) : ∃ p bs, v = .tp (.sa p :: bs) ∧ isV (.tp F) (.tp bs) r ∧ ((p = 0 ∧ c = false) ∨ (1 ≤ p ∧ c = true ∧ rget r p = .arr (some tO) 163 (.ob L1))) := by
  unfold kLx at h
  split at h
  case h_2 => exact h.elim
  split at h
  case h_2 => exact h.elim
  split at h
  case h_2 => exact h.elim
  rename_i p
  split at h
  · rename_i e
    have e := beq_iff_eq.1 e
    exact ⟨p, _, rfl, h.2, .inl ⟨e, h.1⟩⟩
  · split at h
    case isFalse => exact h.elim
    rename_i hp
    have hp : 1 ≤ p := by simpa using hp
    split at h
    case h_2 => exact h.elim
    rename_i hrp
    split at h
    case h_2 => exact h.elim
    split at h
    case h_2 => exact h.elim
    split at h
    case isFalse => exact h.elim
    rename_i hc
    simp only [Bool.and_eq_true, beq_iff_eq] at hc
    obtain ⟨rfl, rfl⟩ := hc
    obtain ⟨h1, h2, rfl⟩ := h
    exact ⟨p, _, rfl, h2, .inr ⟨hp, h1, hrp⟩⟩
theorem CallTo.weak1 {P : Program} {f : Nat} {args : List V} {K KP : V → List Res → Prop} {own : Option Nat} {z : Nat} {l : TL} (h : CallTo P f args [.ro (.arr none z l)] K KP) : CallTo P f args [.ro (.arr own z l)] K KP := by
  have hk : ∀ i (own : Option Nat), known [.ro (.arr own z l)] i ↔ i < 1 := fun i own => by
    unfold known
    match i with
    | 0 => simp [rget]
    | i + 1 => simp [rget]
  refine h.good fun ρ fps w0 F0 w hH => ⟨ρ, fps, hH.weaken fun i hi => ⟨(hk i _).2 ((hk i _).1 hi), fun fp hh => ?_⟩, Env.agree.refl _ _, fun i hi => (hk i _).2 ((hk i _).1 hi)⟩
  match i, (hk i _).1 hi with
  | 0, _ =>
    obtain ⟨fp', g1, g2⟩ := hh
    exact ⟨fp', arr_none g1, g2⟩
theorem turns_sa {κ : Nat → Option Nat} {p j : Nat} {bs F : List V} {r : List Res} (hκ : κ p = some j) (hF : idfL F = true) (hb : isV (.tp F) (.tp bs) r) : Turns κ (.tp (.sa p :: bs)) (.tp (.sa j :: F)) := by
  intro ρ2 ρ3 N N' h1 h2 hv
  obtain ⟨hp, hbs⟩ := hv
  obtain ⟨e1, e2, _⟩ := isV_isE hb ρ2 N
  obtain ⟨a1, a2, a3, a4, a5, a6⟩ := h1 p j hκ
  have hFN : okL N F := e2 hbs
  have hF0 : okL (fun _ => False) F := idfL_ok _ hF hFN
  have e3 : denL ρ3 F = denL ρ2 F := denL_agree (N := fun _ => False) (fun _ h => h.elim) _ hF0
  simp only [den, Value.tuple.injEq] at e1
  have e1 : denL ρ2 bs = denL ρ2 F := by simpa using e1
  refine ⟨?_, h2 p j hκ hp, idfL_ok _ hF hFN⟩
  simp only [den, denL, e3, e1, a2, a4, a5]
theorem hLx_ok {P : Program} {f : Nat} {α : Type} {B : List V → Option α} {m : α → List V} {Q : List Obj → α → Prop} {chg : List Obj → α → Bool} {L1 : List Obj → α → List Obj} {F : List Obj → α → List V} (hB : ∀ l x, B l = some x → SameB l (m x)) (hid : ∀ x, idfL (m x) = true)
    (hF : ∀ L x, idfL (F L x) = true) (hcl : ∀ L x, Q L x → CallTo P f (.sa 0 :: m x) [.ro (.arr none 163 (.ob L))] (kLx (chg L x) (L1 L x) (F L x)) (fun _ _ => False)) : HOK P f (hLx B Q chg L1 F) := by
  intro args res K KP h
  unfold hLx at h
  split at h
  case h_2 => exact h.elim
  split at h
  case h_2 => exact h.elim
  rename_i x hx
  refine CallTo.args (SameB.keep (hB _ _ hx)) ?_
  split at h
  case h_2 => exact h.elim
  rename_i j
  split at h
  case h_2 => exact h.elim
  rename_i own z t hj
  split at h
  case isFalse => exact h.elim
  rename_i hz
  have hz := beq_iff_eq.1 hz
  subst hz
  split at h
  case h_2 => exact h.elim
  rename_i M
  obtain ⟨hQ, h0, h1⟩ := h
  have hkj := rlook_known hj (by simp)
  have hjl := rget_lt hkj
  have hres : restr (kap 0 (fsts [(j, false)])) res [(j, false)] = [.ro (.arr own 163 (.ob M))] := by simp [restr, hj, renR]
  refine CallTo.frame (pl := [(j, false)]) (args0 := .sa 0 :: m x) (K0 := kLx (chg M x) (L1 M x) (F M x)) (KP0 := fun _ _ => False) (by simp [knownAll, knownB_iff.2 hkj]) (by simpa [okExt, fsts, inNl] using hjl) ?_ ?_ (fun v r hv => ?_) (fun _ _ h => h.elim)
  · exact renOL_cons (by simp [renO, kap, idxOf, fsts]) (renOL_idf _ (hid x))
  · rw [hres]
    exact CallTo.weak1 (hcl M x hQ)
  · obtain ⟨p, bs, rfl, hb, hv⟩ := kLx_out hv
    rcases hv with ⟨rfl, hc⟩ | ⟨hp, hc, hrp⟩
    · have hm : merge [(j, false)] [] r res = res := by simp [merge, putBack, reRes2]
      refine ⟨[], .tp (.sa j :: F M x), rfl, by simp [allOwn], rfl, turns_sa (by simp [back, getP]) (hF M x) hb, by rw [hm]; exact h0 hc⟩
    · have hpl : p < r.length := rget_lt (by rw [hrp]; simp)
      have hm : merge [(j, false)] [p] r res = res ++ [.arr (some tO) 163 (.ob (L1 M x))] := by simp [merge, putBack, hrp, renR, reRes2]
      refine ⟨[p], .tp (.sa res.length :: F M x), by simpa [okExt, inNl] using ⟨hp, hpl⟩, by simp [allOwn], by simp [allOwnE, hrp, ownR], turns_sa ?_ (hF M x) hb, by rw [hm]; exact h1 hc⟩
      unfold back
      rw [getP_none _ _ (by simpa using hp)]
      simp [idxOf]
/-- A call over a store that may be none, with something asked also there. -/
def hSr {α : Type} (B : List V → Option α) (R : α → Prop) (Q : List Obj → α → Prop) (F : List Obj → α → V) (M : List Obj → α → List Obj) : HCt := fun args res K =>
  match args with
  | a :: l => match B l with
    | some x => R x ∧ match a with
      | .nl v => match v with
        | .pointer none => K (F [] x) res
        | _ => False
      | .lp k off => if off == 0 then match rget res k with
          | .store t e L => if t == tS && e == eS then Q L x ∧ K (F L x) (rset res k (.store tS eS (M L x))) else False
          | .blk t c => if t == tS && isZ c then K (F [] x) res else False
          | _ => False
        else False
      | _ => False
    | none => False
  | _ => False
theorem hSr_ok {P : Program} {f : Nat} {α : Type} {B : List V → Option α} {m : α → List V} {R : α → Prop} {Q : List Obj → α → Prop} {F : List Obj → α → V} {M : List Obj → α → List Obj} (hB : ∀ l x, B l = some x → SameB l (m x)) (hid : ∀ x, idfL (m x) = true) (hF : ∀ L x, idf (F L x) = true)
    (h0 : ∀ x, R x → CallTo P f (nilp :: m x) [] (isV (F [] x)) (fun _ _ => False)) (hz : ∀ x, R x → CallTo P f (.lp 0 0 :: m x) [.ro (.blk tS zst)] (isV (F [] x)) (fun _ _ => False))
    (h1 : ∀ L x, Q L x → CallTo P f (.lp 0 0 :: m x) [.store tS eS L] (kS2 (F L x) (M L x)) (fun _ _ => False)) : HOK P f (hSr B R Q F M) := by
  intro args res K KP h
  unfold hSr at h
  split at h
  case h_2 => exact h.elim
  split at h
  case h_2 => exact h.elim
  rename_i x hx
  obtain ⟨hR, h⟩ := h
  refine CallTo.args (SameB.keep (hB _ _ hx)) ?_
  split at h
  · split at h
    · exact CallTo.pure (by simp only [idfL, idf, Bool.true_and]; exact hid x) (hF _ _) ((h0 x hR).mono (fun _ _ h => isV_isE h) fun _ _ h => h) h
    · exact h.elim
  · split at h
    · rename_i hoff
      have hoff := beq_iff_eq.1 hoff
      subst hoff
      split at h
      · rename_i hr
        split at h
        · rename_i hc
          simp only [Bool.and_eq_true, beq_iff_eq] at hc
          obtain ⟨rfl, rfl⟩ := hc
          exact CallTo.onStore hr (hid x) (hF _ _) ((h1 _ x h.1).mono (fun v r hv => kS2_out hv |> fun ⟨a, b⟩ => ⟨fun ρ K => a ρ K, b⟩) fun _ _ h => h) h.2
        · exact h.elim
      · rename_i hr
        split at h
        · rename_i hc
          simp only [Bool.and_eq_true, beq_iff_eq] at hc
          obtain ⟨rfl, hz'⟩ := hc
          have := isZ_spec hz'
          subst this
          exact CallTo.read1 (r0 := .blk tS zst) (by unfold rlook; rw [hr]; rfl) (by simp) (fun κ => rfl) (hid x) (hF _ _) ((hz x hR).mono (fun _ _ h => isV_isE h) fun _ _ h => h) h
        · exact h.elim
      · exact h.elim
    · exact h.elim
  · exact h.elim
def q_num (n : Int) : Key := ⟨1, 0, 0, 0, 0, n⟩
theorem okL_get {L : List Obj} (h : q_okL L) (j : Nat) (hj : j < L.length) : q_objOk (lget L j free) (L.length : Int) = true := (right_iff.1 h).2.2 j hj
theorem okL_len {L : List Obj} (h : q_okL L) : 1 ≤ L.length ∧ L.length ≤ 64 := ⟨(right_iff.1 h).1, (right_iff.1 h).2.1⟩
theorem okL_of {L M : List Obj} (h : q_okL L) (hl : M.length = L.length) (hm : ∀ j, j < L.length → q_objOk (lget M j free) (L.length : Int) = true) : q_okL M := by
  obtain ⟨a, b⟩ := okL_len h
  unfold q_okL
  rw [right_iff, hl]
  exact ⟨a, b, hm⟩
theorem lset_ok {L : List Obj} {i : Nat} {x : Obj} (h : q_okL L) (hx : q_objOk x (L.length : Int) = true) : q_okL (lset L i x) := by
  by_cases hi : i < L.length
  · refine okL_of h lset_len fun j hj => ?_
    rw [lget_lset hi]
    split
    · exact hx
    · exact okL_get h j hj
  · rw [show lset L i x = L from List.set_eq_of_length_le (by omega)]; exact h
/-- A put of what may be. -/
theorem put_ok {L : List Obj} {i : Int} {x : Obj} (h0 : 0 ≤ i) (h1 : i < (L.length : Int)) (hx : q_objOk x (L.length : Int) = true) : q_putL L i x = lset L i.toNat x ∧ q_put L i x = 0 := by
  have e : q_has L i = 0 := has_ok.2 ⟨h0, h1⟩
  have e2 : q_ochk x (llen L : Int) = 0 := by unfold q_ochk; exact if_pos hx
  exact ⟨(put_yes e e2).2, (put_yes e e2).1⟩
theorem put_fit {n : Int} {s : Slots} {k : Key} {j : Nat} (hj : j < 16) (h : ∀ i, i < 16 → q_slFit n (s.at i)) (hk : q_slFit n k) (i : Nat) (hi : i < 16) : q_slFit n ((s.put j k).at i) := by
  rw [Slots.at_put _ _ _ _ hj]
  split
  · exact hk
  · exact h i hi
theorem num_fit {n : Int} (hn : 0 ≤ n) (x : Int) : q_slFit n (q_num x) := by
  refine ⟨by simp [q_num, q_keyOk, q_most, q_isV, q_isO, q_isC, q_within], ?_⟩
  unfold q_names
  rw [show q_isO (q_num x).kind = false by simp [q_num, q_isO]]
  simp; omega
theorem slots_fit {o : Obj} {n : Int} (h : q_objOk o n = true) (hk : o.kind = 1) (i : Nat) (hi : i < 16) : q_slFit n (o.slots.at i) := by
  obtain ⟨a1, a2, a3, a4, a5, a6, a7, a8, a9, a10, a11⟩ := objOk_iff.1 h
  have := a10 i hi
  rw [hk] at this
  exact slot1.1 this
theorem oeq_self (o : Obj) : oeq o o = true := by simp [oeq]
end Go.Sx
