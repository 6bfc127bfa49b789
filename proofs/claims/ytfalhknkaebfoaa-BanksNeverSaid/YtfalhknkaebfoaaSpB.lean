/- Banks in plain Lean: what is made, destroyed, razed. No condition. -/
import Derived.Test.YtfalhknkaebfoaaKS
set_option linter.unusedVariables false
set_option linter.unusedSimpArgs false
namespace Go.Sx
def q_isRet (o : Obj) : Bool := decide (o.kind = 0) && decide (4294967295 ≤ o.count)
def q_isNew (o : Obj) : Bool := decide (o.kind = 0) && decide (o.count < 4294967295)
def q_retO (o : Obj) : Obj := ⟨3, o.count, 0, noSlots, noBytes⟩
def q_newO (o : Obj) (kind : Int) : Obj := ⟨kind, o.count + 1, 0, noSlots, noBytes⟩
def q_desO (o : Obj) : Obj := ⟨0, o.count, 0, noSlots, noBytes⟩
/-- All objects, some turned. -/
def q_mapO (L : List Obj) (p : Nat → Obj → Bool) (t : Obj → Obj) : List Obj := (List.range L.length).map fun j => if p j (lget L j free) then t (lget L j free) else lget L j free
def q_mkG (L : List Obj) (f g : Int) : List Obj := q_mapO L (fun j o => decide (f ≤ (j : Int)) && decide ((j : Int) < g) && q_isRet o) q_retO
def q_noNew (L : List Obj) (f g : Int) : Prop := ∀ j : Nat, f ≤ (j : Int) → (j : Int) < g → q_isNew (lget L j free) = false
def q_anyR (L : List Obj) (f g : Int) : Bool := (List.range L.length).any fun (j : Nat) => decide (f ≤ (j : Int)) && decide ((j : Int) < g) && q_isRet (lget L j free)
def q_mkI (L : List Obj) (f l : Int) : Int := match (List.range L.length).find? fun (j : Nat) => decide (f ≤ (j : Int)) && decide ((j : Int) ≤ l) && q_isNew (lget L j free) with
  | some j => (j : Int)
  | none => -1
def q_mkL (L : List Obj) (f l kind : Int) : List Obj := if q_mkI L f l = -1 then q_mkG L f (l + 1) else lset (q_mkG L f (q_mkI L f l)) (q_mkI L f l).toNat (q_newO (lget L (q_mkI L f l).toNat free) kind)
def q_mkc (L : List Obj) (f l : Int) : Bool := !decide (q_mkI L f l = -1) || q_anyR L f (l + 1)
def q_bkey (kind oid count : Int) : Key := ⟨if kind = 2 then 3 else 2, oid, count, 0, 0, 0⟩
/-- Is a node a bank, of so many objects? -/
def q_bnkOk (o : Obj) (n : Int) : Bool := decide ((o.slots.at 0).kind = 1) && decide ((o.slots.at 1).kind = 1) && decide (0 ≤ (o.slots.at 0).value) && decide ((o.slots.at 0).value ≤ (o.slots.at 1).value) && decide ((o.slots.at 1).value < n)
def q_bnkE (L : List Obj) (k : Key) : Int := if q_asked L k 4 false = 0 then (if q_bnkOk (lget L k.oid.toNat free) (llen L : Int) then 0 else 220) else q_asked L k 4 false
def q_bnkA (L : List Obj) (k : Key) : Int := ((lget L k.oid.toNat free).slots.at 0).value
def q_bnkB (L : List Obj) (k : Key) : Int := ((lget L k.oid.toNat free).slots.at 1).value
def q_bnkX (L : List Obj) (k : Key) : Int := if q_bnkE L k = 0 then q_bnkA L k else 0
def q_bnkY (L : List Obj) (k : Key) : Int := if q_bnkE L k = 0 then q_bnkB L k else 0
def q_bmkE0 (L : List Obj) (k : Key) (kind : Int) : Int := if q_bnkE L k = 0 then (if kind = 1 ∨ kind = 2 then 0 else 2) else q_bnkE L k
def q_bmkE (L : List Obj) (k : Key) (kind : Int) : Int := if q_bmkE0 L k kind = 0 then (if q_mkI L (q_bnkA L k) (q_bnkB L k) = -1 then 221 else 0) else q_bmkE0 L k kind
def q_bmkL (L : List Obj) (k : Key) (kind : Int) : List Obj := if q_bmkE0 L k kind = 0 then q_mkL L (q_bnkA L k) (q_bnkB L k) kind else L
def q_bmkC (L : List Obj) (k : Key) (kind : Int) : Bool := decide (q_bmkE0 L k kind = 0) && q_mkc L (q_bnkA L k) (q_bnkB L k)
def q_bmkK (L : List Obj) (k : Key) (kind : Int) : Key := if q_bmkE L k kind = 0 then q_bkey kind (q_mkI L (q_bnkA L k) (q_bnkB L k)) ((lget L (q_mkI L (q_bnkA L k) (q_bnkB L k)).toNat free).count + 1) else void
def q_thing (L : List Obj) (v : Key) : Bool := q_is L v && (decide (v.kind = 2) || decide (v.kind = 3))
def q_bdsE (L : List Obj) (k v : Key) : Int := if q_bnkE L k = 0 then (if q_thing L v then (if q_bnkA L k ≤ v.oid ∧ v.oid ≤ q_bnkB L k ∧ v.oid ≠ k.oid then 0 else 4) else 5) else q_bnkE L k
def q_bdsL (L : List Obj) (k v : Key) : List Obj := if q_bdsE L k v = 0 then lset L v.oid.toNat (q_desO (lget L v.oid.toNat free)) else L
def q_bdsC (L : List Obj) (k v : Key) : Bool := decide (q_bdsE L k v = 0)
def q_busy (o : Obj) : Bool := decide (o.kind = 1) || decide (o.kind = 2)
def q_rzP (f g oid : Int) (j : Nat) (o : Obj) : Bool := decide (f ≤ (j : Int)) && decide ((j : Int) < g) && q_busy o && !decide ((j : Int) = oid)
def q_rzG (L : List Obj) (f g oid : Int) : List Obj := q_mapO L (q_rzP f g oid) q_desO
def q_rzN (L : List Obj) (f g oid : Int) : Int := (((List.range L.length).filter fun j => q_rzP f g oid j (lget L j free)).length : Int)
def q_brzL (L : List Obj) (k : Key) : List Obj := if q_bnkE L k = 0 then q_rzG L (q_bnkA L k) (q_bnkB L k + 1) k.oid else L
def q_brzN (L : List Obj) (k : Key) : Int := if q_bnkE L k = 0 then q_rzN L (q_bnkA L k) (q_bnkB L k + 1) k.oid else 0
def q_brzC (L : List Obj) (k : Key) : Bool := decide (q_bnkE L k = 0) && !decide (q_rzN L (q_bnkA L k) (q_bnkB L k + 1) k.oid = 0)
def q_bow (L : List Obj) (k v : Key) : Bool := decide (q_bnkE L k = 0) && q_thing L v && decide (q_bnkA L k ≤ v.oid) && decide (v.oid ≤ q_bnkB L k)
theorem mapO_len {L : List Obj} {p : Nat → Obj → Bool} {t : Obj → Obj} : (q_mapO L p t).length = L.length := by simp [q_mapO]
theorem mapO_get {L : List Obj} {p : Nat → Obj → Bool} {t : Obj → Obj} {j : Nat} (h : j < L.length) : lget (q_mapO L p t) j free = if p j (lget L j free) then t (lget L j free) else lget L j free := by
  rw [show lget (q_mapO L p t) j free = (q_mapO L p t).getD j free from rfl, List.getD_eq_getElem?_getD]
  unfold q_mapO
  rw [List.getElem?_map, List.getElem?_range h]; rfl
theorem mapO_nil {L : List Obj} {p : Nat → Obj → Bool} {t : Obj → Obj} (h : ∀ j, j < L.length → p j (lget L j free) = false) : q_mapO L p t = L := by
  refine list_ext mapO_len fun j hj => ?_
  rw [mapO_len] at hj
  rw [mapO_get hj, h j hj]; rfl
theorem mapO_set {L : List Obj} {p p' : Nat → Obj → Bool} {t : Obj → Obj} {g : Nat} (hg : g < L.length) (hp : ∀ j, j ≠ g → p' j (lget L j free) = p j (lget L j free)) (h1 : p' g (lget L g free) = true) :
    lset (q_mapO L p t) g (t (lget L g free)) = q_mapO L p' t := by
  refine list_ext (by rw [lset_len, mapO_len, mapO_len]) fun j hj => ?_
  rw [lset_len, mapO_len] at hj
  rw [lget_lset (by rw [mapO_len]; exact hg), mapO_get hj, mapO_get hj]
  by_cases e : j = g
  · subst e; rw [if_pos rfl, h1, if_pos rfl]
  · rw [if_neg e, hp j e]
theorem mapO_same {L : List Obj} {p p' : Nat → Obj → Bool} {t : Obj → Obj} (hp : ∀ j, j < L.length → p' j (lget L j free) = p j (lget L j free)) : q_mapO L p' t = q_mapO L p t := by
  refine list_ext (by rw [mapO_len, mapO_len]) fun j hj => ?_
  rw [mapO_len] at hj
  rw [mapO_get hj, mapO_get hj, hp j hj]
theorem mkG_len {L : List Obj} {f g : Int} : (q_mkG L f g).length = L.length := mapO_len
theorem mkG_zero {L : List Obj} {f : Int} : L = q_mkG L f f := by
  symm
  refine mapO_nil fun j hj => ?_
  simp only [Bool.and_eq_false_iff, decide_eq_false_iff_not]
  omega
theorem mkG_at {L : List Obj} {f g : Int} (h0 : 0 ≤ g) : lget (q_mkG L f g) g.toNat free = lget L g.toNat free := by
  by_cases h : g.toNat < L.length
  · unfold q_mkG
    rw [mapO_get h, if_neg]
    simp only [Bool.and_eq_true, decide_eq_true_eq]
    omega
  · rw [show lget (q_mkG L f g) g.toNat free = free by simp [lget, List.getD_eq_getElem?_getD, List.getElem?_eq_none (show (q_mkG L f g).length ≤ g.toNat by rw [mkG_len]; omega)]]
    simp [lget, List.getD_eq_getElem?_getD, List.getElem?_eq_none (show L.length ≤ g.toNat by omega)]
theorem mkG_ret {L : List Obj} {f g : Int} (h0 : 0 ≤ g) (h1 : g < (L.length : Int)) (hf : f ≤ g) (hr : q_isRet (lget L g.toNat free) = true) : lset (q_mkG L f g) g.toNat (q_retO (lget L g.toNat free)) = q_mkG L f (g + 1) := by
  refine mapO_set (by omega) (fun j hj => ?_) ?_
  · have : decide ((j : Int) < g + 1) = decide ((j : Int) < g) := by rw [decide_eq_decide]; omega
    rw [this]
  · rw [hr]; simp; omega
theorem mkG_same {L : List Obj} {f g : Int} (h0 : 0 ≤ g) (hr : q_isRet (lget L g.toNat free) = false) : q_mkG L f (g + 1) = q_mkG L f g := by
  refine mapO_same fun j hj => ?_
  by_cases e : (j : Int) = g
  · rw [show j = g.toNat by omega, hr, Bool.and_false, Bool.and_false]
  · have : decide ((j : Int) < g + 1) = decide ((j : Int) < g) := by rw [decide_eq_decide]; omega
    rw [this]
theorem mkI_at {L : List Obj} {f l g : Int} (h0 : 0 ≤ f) (hf : f ≤ g) (hl : g ≤ l) (hg : g < (L.length : Int)) (hn : q_noNew L f g) (hw : q_isNew (lget L g.toNat free) = true) : q_mkI L f l = g := by
  unfold q_mkI
  have : (List.range L.length).find? (fun (j : Nat) => decide (f ≤ (j : Int)) && decide ((j : Int) ≤ l) && q_isNew (lget L j free)) = some g.toNat := by
    rw [List.find?_eq_some_iff_getElem]
    refine ⟨by rw [hw]; simp; omega, g.toNat, by simp; omega, by simp, fun j hj => ?_⟩
    simp only [List.getElem_range, Bool.not_eq_true', Bool.and_eq_false_iff, decide_eq_false_iff_not]
    by_cases e : f ≤ (j : Int)
    · right; exact hn j e (by omega)
    · left; left; exact e
  rw [this]
  show ((g.toNat : Nat) : Int) = g
  omega
theorem mkI_none {L : List Obj} {f l : Int} (hn : q_noNew L f (l + 1)) : q_mkI L f l = -1 := by
  unfold q_mkI
  have : (List.range L.length).find? (fun (j : Nat) => decide (f ≤ (j : Int)) && decide ((j : Int) ≤ l) && q_isNew (lget L j free)) = none := by
    rw [List.find?_eq_none]
    intro j hj h
    simp only [Bool.and_eq_true, decide_eq_true_eq] at h
    rw [hn j h.1.1 (by omega)] at h
    simp at h
  rw [this]
theorem noNew_succ {L : List Obj} {f g : Int} (h : q_noNew L f g) (hg : q_isNew (lget L g.toNat free) = false) : q_noNew L f (g + 1) := fun j h1 h2 => by
  by_cases e : (j : Int) = g
  · rw [show j = g.toNat by omega]; exact hg
  · exact h j h1 (by omega)
theorem noNew_zero {L : List Obj} {f : Int} : q_noNew L f f := fun j h1 h2 => by omega
theorem anyR_zero {L : List Obj} {f : Int} : q_anyR L f f = false := by
  unfold q_anyR
  rw [List.any_eq_false]
  intro j hj h
  simp only [Bool.and_eq_true, decide_eq_true_eq] at h
  omega
theorem anyR_yes {L : List Obj} {f g : Int} (h0 : 0 ≤ g) (h1 : g < (L.length : Int)) (hf : f ≤ g) (hr : q_isRet (lget L g.toNat free) = true) : q_anyR L f (g + 1) = true := by
  unfold q_anyR
  rw [List.any_eq_true]
  exact ⟨g.toNat, by simp; omega, by rw [hr]; simp; omega⟩
theorem anyR_no {L : List Obj} {f g : Int} (h0 : 0 ≤ g) (hr : q_isRet (lget L g.toNat free) = false) : q_anyR L f (g + 1) = q_anyR L f g := by
  unfold q_anyR
  rw [Bool.eq_iff_iff, List.any_eq_true, List.any_eq_true]
  refine exists_congr fun j => and_congr_right fun _ => ?_
  simp only [Bool.and_eq_true, decide_eq_true_eq]
  constructor
  · rintro ⟨⟨a, b⟩, c⟩
    refine ⟨⟨a, ?_⟩, c⟩
    by_cases e : (j : Int) = g
    · rw [show j = g.toNat by omega, hr] at c; simp at c
    · omega
  · rintro ⟨⟨a, b⟩, c⟩
    exact ⟨⟨a, by omega⟩, c⟩
theorem rzG_len {L : List Obj} {f g oid : Int} : (q_rzG L f g oid).length = L.length := mapO_len
theorem rzG_none {L : List Obj} {f g oid : Int} (h : q_rzN L f g oid = 0) : q_rzG L f g oid = L := by
  refine mapO_nil fun j hj => ?_
  unfold q_rzN at h
  have h2 : ((List.range L.length).filter fun j => q_rzP f g oid j (lget L j free)) = [] := List.eq_nil_of_length_eq_zero (by omega)
  rw [List.filter_eq_nil_iff] at h2
  have := h2 j (by simp; omega)
  simpa using this
theorem rzN_zero {L : List Obj} {f oid : Int} : q_rzN L f f oid = 0 := by
  unfold q_rzN
  rw [show ((List.range L.length).filter fun j => q_rzP f f oid j (lget L j free)) = [] from ?_]
  · rfl
  · rw [List.filter_eq_nil_iff]
    intro j hj
    unfold q_rzP
    simp only [Bool.and_eq_true, decide_eq_true_eq]
    omega
theorem rzG_zero {L : List Obj} {f oid : Int} : L = q_rzG L f f oid := (rzG_none rzN_zero).symm
theorem rzG_at {L : List Obj} {f g oid : Int} (h0 : 0 ≤ g) : lget (q_rzG L f g oid) g.toNat free = lget L g.toNat free := by
  by_cases h : g.toNat < L.length
  · unfold q_rzG
    rw [mapO_get h, if_neg]
    unfold q_rzP
    simp only [Bool.and_eq_true, decide_eq_true_eq]
    omega
  · rw [show lget (q_rzG L f g oid) g.toNat free = free by simp [lget, List.getD_eq_getElem?_getD, List.getElem?_eq_none (show (q_rzG L f g oid).length ≤ g.toNat by rw [rzG_len]; omega)]]
    simp [lget, List.getD_eq_getElem?_getD, List.getElem?_eq_none (show L.length ≤ g.toNat by omega)]
/-- What stands for the place of one more. -/
def q_rzHit (L : List Obj) (g oid : Int) : Bool := q_busy (lget L g.toNat free) && !decide (g = oid)
theorem rzP_at {L : List Obj} {f g oid : Int} (h0 : 0 ≤ g) (hf : f ≤ g) : q_rzP f (g + 1) oid g.toNat (lget L g.toNat free) = q_rzHit L g oid := by
  unfold q_rzP q_rzHit
  rw [show ((g.toNat : Nat) : Int) = g by omega]
  have a : decide (f ≤ g) = true := by simp; omega
  have b : decide (g < g + 1) = true := by simp; omega
  rw [a, b]
  simp
theorem rzP_off {L : List Obj} {f g oid : Int} {j : Nat} (h : (j : Int) ≠ g) (o : Obj) : q_rzP f (g + 1) oid j o = q_rzP f g oid j o := by
  unfold q_rzP
  have : decide ((j : Int) < g + 1) = decide ((j : Int) < g) := by rw [decide_eq_decide]; omega
  rw [this]
theorem rzP_now {f g oid : Int} {j : Nat} (h : (j : Int) = g) (o : Obj) : q_rzP f g oid j o = false := by
  unfold q_rzP
  have : decide ((j : Int) < g) = false := by simp; omega
  rw [this]
  simp
theorem rzG_set {L : List Obj} {f g oid : Int} (h0 : 0 ≤ g) (h1 : g < (L.length : Int)) (hf : f ≤ g) (hr : q_rzHit L g oid = true) : lset (q_rzG L f g oid) g.toNat (q_desO (lget L g.toNat free)) = q_rzG L f (g + 1) oid :=
  mapO_set (by omega) (fun j hj => rzP_off (L := L) (by omega) _) (by rw [rzP_at h0 hf]; exact hr)
theorem rzG_same {L : List Obj} {f g oid : Int} (h0 : 0 ≤ g) (hf : f ≤ g) (hr : q_rzHit L g oid = false) : q_rzG L f (g + 1) oid = q_rzG L f g oid := by
  refine mapO_same fun j hj => ?_
  by_cases e : (j : Int) = g
  · rw [show j = g.toNat by omega, rzP_at h0 hf, hr, rzP_now (by omega)]
  · exact rzP_off (L := L) e _
theorem rzN_same {L : List Obj} {f g oid : Int} (h0 : 0 ≤ g) (hf : f ≤ g) (hr : q_rzHit L g oid = false) : q_rzN L f (g + 1) oid = q_rzN L f g oid := by
  unfold q_rzN
  rw [show ((List.range L.length).filter fun j => q_rzP f (g + 1) oid j (lget L j free)) = (List.range L.length).filter fun j => q_rzP f g oid j (lget L j free) from List.filter_congr fun j hj => ?_]
  by_cases e : (j : Int) = g
  · rw [show j = g.toNat by omega, rzP_at h0 hf, hr, rzP_now (by omega)]
  · exact rzP_off (L := L) e _
theorem filter_one {l : List Nat} {p p' : Nat → Bool} {g : Nat} (hn : l.Nodup) (hg : g ∈ l) (hp : ∀ j, j ≠ g → p' j = p j) (h0 : p g = false) (h1 : p' g = true) : (l.filter p').length = (l.filter p).length + 1 := by
  induction l with
  | nil => simp at hg
  | cons a l ih =>
    rw [List.nodup_cons] at hn
    by_cases e : a = g
    · subst e
      have : l.filter p' = l.filter p := List.filter_congr fun j hj => hp j fun e => hn.1 (e ▸ hj)
      rw [List.filter_cons, List.filter_cons, h0, h1, if_pos rfl, if_neg (by simp), this]
      simp
    · have hg2 : g ∈ l := by
        rcases List.mem_cons.1 hg with h | h
        · exact absurd h.symm e
        · exact h
      rw [List.filter_cons, List.filter_cons, hp a e]
      split
      · simp only [List.length_cons]; rw [ih hn.2 hg2]
      · exact ih hn.2 hg2
theorem rzN_succ {L : List Obj} {f g oid : Int} (h0 : 0 ≤ g) (h1 : g < (L.length : Int)) (hf : f ≤ g) (hr : q_rzHit L g oid = true) : q_rzN L f (g + 1) oid = q_rzN L f g oid + 1 := by
  unfold q_rzN
  have := filter_one (l := List.range L.length) (p := fun j => q_rzP f g oid j (lget L j free)) (p' := fun j => q_rzP f (g + 1) oid j (lget L j free)) (g := g.toNat) List.nodup_range (by simp; omega) (fun j hj => rzP_off (L := L) (by omega) _) (rzP_now (by omega) _) (by show q_rzP f (g + 1) oid g.toNat (lget L g.toNat free) = true; rw [rzP_at h0 hf]; exact hr)
  omega
theorem rzN_nonneg {L : List Obj} {f g oid : Int} : 0 ≤ q_rzN L f g oid := by unfold q_rzN; omega
theorem rzN_le {L : List Obj} {f g oid : Int} : q_rzN L f g oid ≤ (L.length : Int) := by
  unfold q_rzN
  have := List.length_filter_le (fun j => q_rzP f g oid j (lget L j free)) (List.range L.length)
  rw [List.length_range] at this
  omega
theorem okL_get {L : List Obj} (h : q_okL L) (j : Nat) (hj : j < L.length) : q_objOk (lget L j free) (L.length : Int) = true := (right_iff.1 h).2.2 j hj
theorem okL_len {L : List Obj} (h : q_okL L) : 1 ≤ L.length ∧ L.length ≤ 64 := ⟨(right_iff.1 h).1, (right_iff.1 h).2.1⟩
theorem okL_of {L M : List Obj} (h : q_okL L) (hl : M.length = L.length) (hm : ∀ j, j < L.length → q_objOk (lget M j free) (L.length : Int) = true) : q_okL M := by
  obtain ⟨a, b⟩ := okL_len h
  unfold q_okL
  rw [right_iff, hl]
  exact ⟨a, b, hm⟩
/-- An object without keys and bytes may be. -/
theorem bare_ok {n : Int} {kind count : Int} (h1 : 1 ≤ n) (h2 : n ≤ 64) (h3 : 0 ≤ kind) (h4 : kind ≤ 3) (h5 : 0 ≤ count) (h6 : count ≤ 4294967295) : q_objOk ⟨kind, count, 0, noSlots, noBytes⟩ n = true := by
  rw [objOk_iff]
  refine ⟨h1, h2, h3, h4, h5, h6, by simp, by simp, .inr rfl, fun i hi => ?_, fun i hi => ?_⟩
  · simp only [noSlots_at]
    unfold q_slotOk
    rw [void_ok.1, void_ok.2]
    simp
    omega
  · have hz := at_zero.1 (show noBytes = noBytes from rfl) i hi
    first | exact .inr (.inr hz) | exact hz | simp [hz]
theorem obj_cnt {o : Obj} {n : Int} (h : q_objOk o n = true) : 0 ≤ o.count ∧ o.count ≤ 4294967295 ∧ 0 ≤ o.kind ∧ o.kind ≤ 3 ∧ 1 ≤ n ∧ n ≤ 64 := by
  obtain ⟨a1, a2, a3, a4, a5, a6, _⟩ := objOk_iff.1 h
  exact ⟨a5, a6, a3, a4, a1, a2⟩
theorem retO_ok {o : Obj} {n : Int} (h : q_objOk o n = true) : q_objOk (q_retO o) n = true := by
  obtain ⟨a, b, c, d, e, f⟩ := obj_cnt h
  exact bare_ok e f (by omega) (by omega) a b
theorem desO_ok {o : Obj} {n : Int} (h : q_objOk o n = true) : q_objOk (q_desO o) n = true := by
  obtain ⟨a, b, c, d, e, f⟩ := obj_cnt h
  exact bare_ok e f (by omega) (by omega) a b
theorem newO_ok {o : Obj} {n kind : Int} (h : q_objOk o n = true) (hn : q_isNew o = true) (hk : kind = 1 ∨ kind = 2) : q_objOk (q_newO o kind) n = true := by
  obtain ⟨a, b, c, d, e, f⟩ := obj_cnt h
  unfold q_isNew at hn
  simp only [Bool.and_eq_true, decide_eq_true_eq] at hn
  exact bare_ok e f (by omega) (by omega) (by omega) (by omega)
theorem mapO_ok {L : List Obj} {p : Nat → Obj → Bool} {t : Obj → Obj} (h : q_okL L) (ht : ∀ o, q_objOk o (L.length : Int) = true → q_objOk (t o) (L.length : Int) = true) : q_okL (q_mapO L p t) := by
  refine okL_of h mapO_len fun j hj => ?_
  rw [mapO_get hj]
  split
  · exact ht _ (okL_get h j hj)
  · exact okL_get h j hj
theorem mkG_ok {L : List Obj} {f g : Int} (h : q_okL L) : q_okL (q_mkG L f g) := mapO_ok h fun o ho => retO_ok ho
theorem lset_ok {L : List Obj} {i : Nat} {x : Obj} (h : q_okL L) (hx : q_objOk x (L.length : Int) = true) : q_okL (lset L i x) := by
  by_cases hi : i < L.length
  · refine okL_of h lset_len fun j hj => ?_
    rw [lget_lset hi]
    split
    · exact hx
    · exact okL_get h j hj
  · rw [show lset L i x = L from List.set_eq_of_length_le (by omega)]; exact h
/-- A put of what may be. -/
theorem put_ok {L : List Obj} {i : Int} {x : Obj} (h0 : 0 ≤ i) (h1 : i < (L.length : Int)) (hx : q_objOk x (L.length : Int) = true) : q_putL L i x = lset L i.toNat x ∧ q_put L i x = 0 := by
  have e : q_has L i = 0 := has_ok.2 ⟨h0, h1⟩
  have e2 : q_ochk x (llen L : Int) = 0 := by unfold q_ochk; exact if_pos hx
  exact ⟨(put_yes e e2).2, (put_yes e e2).1⟩
def iB : ArgL (Int × Unit) := consA iA nilA
def kB : ArgL (Key × Unit) := consA kA nilA
def kkB : ArgL (Key × Key × Unit) := consA kA (consA kA nilA)
def kiB : ArgL (Key × Int × Unit) := consA kA (consA iA nilA)
def i3B : ArgL (Int × Int × Int × Unit) := consA iA (consA iA (consA iA nilA))
theorem iB_ok : ArgLOK iB := consA_ok iA_ok nilA_ok
theorem kB_ok : ArgLOK kB := consA_ok kA_ok nilA_ok
theorem kkB_ok : ArgLOK kkB := consA_ok kA_ok (consA_ok kA_ok nilA_ok)
theorem kiB_ok : ArgLOK kiB := consA_ok kA_ok (consA_ok iA_ok nilA_ok)
theorem i3B_ok : ArgLOK i3B := consA_ok iA_ok (consA_ok iA_ok (consA_ok iA_ok nilA_ok))
def q_mkQ (L : List Obj) (f l : Int) : Prop := q_okL L ∧ 0 ≤ f ∧ l < (llen L : Int) ∧ f ≤ l + 1
def g_rbank : Ct := mkR (consA liA kB) (fun _ => none) fun x => .tp [.it .i64 (q_bnkX x.1 x.2.1), .it .i64 (q_bnkY x.1 x.2.1), .it .i64 (q_bnkE x.1 x.2.1)]
def h_rmake1 : HCt := hLx (rdL i3B) (fun L x => q_mkQ L x.1 x.2.1) (fun L x => q_mkc L x.1 x.2.1) (fun L x => q_mkL L x.1 x.2.1 x.2.2.1) fun L x => [.it .i64 (q_mkI L x.1 x.2.1)]
def h_rmake : HCt := hLx (rdL kiB) (fun L _ => q_okL L) (fun L x => q_bmkC L x.1 x.2.1) (fun L x => q_bmkL L x.1 x.2.1) fun L x => [.key (q_bmkK L x.1 x.2.1), .it .i64 (q_bmkE L x.1 x.2.1)]
def h_rdes : HCt := hLx (rdL kkB) (fun L _ => q_okL L) (fun L x => q_bdsC L x.1 x.2.1) (fun L x => q_bdsL L x.1 x.2.1) fun L x => [.it .i64 (q_bdsE L x.1 x.2.1)]
def h_rraze : HCt := hLx (rdL kB) (fun L _ => q_okL L) (fun L x => q_brzC L x.1) (fun L x => q_brzL L x.1) fun L x => [.it .i64 (q_brzN L x.1), .it .i64 (q_bnkE L x.1)]
def g_rowns : Ct := mkR (consA liA kkB) (fun _ => none) fun x => .tp [.bo (q_bow x.1 x.2.1 x.2.2.1), .it .i64 (q_bnkE x.1 x.2.1)]
def q_inv1m (L : List Obj) (f l : Int) (g : Int) : Prop := f ≤ g ∧ g ≤ l + 1 ∧ q_noNew L f g ∧ q_anyR L f g = false
def q_inv2m (L : List Obj) (f l : Int) (g : Int) : Prop := f ≤ g ∧ g ≤ l + 1 ∧ q_noNew L f g ∧ q_anyR L f g = true
def g_bkey : Ct := mk3 (rI .i64) (rI .i64) (rI .i64) fun a b c => .key (q_bkey a b c)
theorem mkG_none {L : List Obj} {f g : Int} (h : q_anyR L f g = false) : q_mkG L f g = L := by
  refine mapO_nil fun j hj => ?_
  unfold q_anyR at h
  rw [List.any_eq_false] at h
  simpa using h j (by simpa using hj)
theorem mk_busy {o : Obj} (h : o.kind ≠ 0) : q_isRet o = false ∧ q_isNew o = false := by simp [q_isRet, q_isNew, h]
theorem mk_ret {o : Obj} (h : o.kind = 0) (h2 : 4294967295 ≤ o.count) : q_isRet o = true ∧ q_isNew o = false := by simp [q_isRet, q_isNew, h, h2]
theorem mk_new {o : Obj} (h : o.kind = 0) (h2 : ¬ 4294967295 ≤ o.count) : q_isRet o = false ∧ q_isNew o = true := by
  refine ⟨by simp [q_isRet, h2], ?_⟩
  simp only [q_isNew, Bool.and_eq_true, decide_eq_true_eq]
  omega
theorem mk_made {L : List Obj} {f l g : Int} (kind : Int) (h0 : 0 ≤ f) (hf : f ≤ g) (hl : g ≤ l) (hg : g < (L.length : Int)) (hn : q_noNew L f g) (hw : q_isNew (lget L g.toNat free) = true) :
    q_mkI L f l = g ∧ q_mkc L f l = true ∧ q_mkL L f l kind = lset (q_mkG L f g) g.toNat (q_newO (lget L g.toNat free) kind) := by
  have e := mkI_at h0 hf hl hg hn hw
  refine ⟨e, ?_, ?_⟩
  · unfold q_mkc; rw [e]; simp; left; omega
  · unfold q_mkL; rw [e, if_neg (by omega)]
theorem mk_end {L : List Obj} {f l : Int} (kind : Int) (hn : q_noNew L f (l + 1)) : q_mkI L f l = -1 ∧ q_mkL L f l kind = q_mkG L f (l + 1) ∧ q_mkc L f l = q_anyR L f (l + 1) := by
  have e := mkI_none hn
  refine ⟨e, ?_, ?_⟩
  · unfold q_mkL; rw [e, if_pos rfl]
  · unfold q_mkc; rw [e]; rfl
theorem bnk_cond (o : Obj) (n : Nat) : (!decide ((o.slots.at 0).kind = 1) || !decide ((o.slots.at 1).kind = 1) || decide ((o.slots.at 0).value < 0) || decide ((o.slots.at 1).value < (o.slots.at 0).value) || decide (n2i n ≤ (o.slots.at 1).value)) = !q_bnkOk o (n : Int) := by
  unfold q_bnkOk n2i
  rw [Bool.eq_iff_iff]
  simp only [Bool.or_eq_true, Bool.not_eq_true', Bool.and_eq_false_iff, decide_eq_true_eq, decide_eq_false_iff_not]
  omega
theorem bnkE_asked {L : List Obj} {k : Key} (h : q_asked L k 4 false ≠ 0) : q_bnkE L k = q_asked L k 4 false ∧ q_bnkX L k = 0 ∧ q_bnkY L k = 0 := by
  have e : q_bnkE L k = q_asked L k 4 false := by unfold q_bnkE; rw [if_neg h]
  refine ⟨e, ?_, ?_⟩
  · unfold q_bnkX; rw [e, if_neg h]
  · unfold q_bnkY; rw [e, if_neg h]
theorem bnkE_no {L : List Obj} {k : Key} (h : q_asked L k 4 false = 0) (h2 : q_bnkOk (lget L k.oid.toNat free) (llen L : Int) = false) : q_bnkE L k = 220 ∧ q_bnkX L k = 0 ∧ q_bnkY L k = 0 := by
  have e : q_bnkE L k = 220 := by unfold q_bnkE; rw [if_pos h, h2]; rfl
  refine ⟨e, ?_, ?_⟩
  · unfold q_bnkX; rw [e]; rfl
  · unfold q_bnkY; rw [e]; rfl
theorem bnkE_yes {L : List Obj} {k : Key} (h : q_asked L k 4 false = 0) (h2 : q_bnkOk (lget L k.oid.toNat free) (llen L : Int) = true) : q_bnkE L k = 0 ∧ q_bnkX L k = q_bnkA L k ∧ q_bnkY L k = q_bnkB L k := by
  have e : q_bnkE L k = 0 := by unfold q_bnkE; rw [if_pos h, h2]; rfl
  refine ⟨e, ?_, ?_⟩
  · unfold q_bnkX; rw [e]; rfl
  · unfold q_bnkY; rw [e]; rfl
theorem bnk_ok {L : List Obj} {k : Key} (h : q_bnkE L k = 0) : q_asked L k 4 false = 0 ∧ 0 ≤ q_bnkA L k ∧ q_bnkA L k ≤ q_bnkB L k ∧ q_bnkB L k < (L.length : Int) ∧ 0 ≤ k.oid ∧ k.oid < (L.length : Int) := by
  have ha : q_asked L k 4 false = 0 := by
    unfold q_bnkE at h
    split at h
    · assumption
    · rename_i h1; exact absurd h h1
  have hb : q_bnkOk (lget L k.oid.toNat free) (llen L : Int) = true := by
    cases hb : q_bnkOk (lget L k.oid.toNat free) (llen L : Int) with
    | true => rfl
    | false => rw [(bnkE_no ha hb).1] at h; simp at h
  obtain ⟨_, b2, b3, _⟩ := is_all (asked_ok ha).1
  unfold q_bnkOk at hb
  simp only [Bool.and_eq_true, decide_eq_true_eq] at hb
  obtain ⟨⟨⟨⟨_, _⟩, h3⟩, h4⟩, h5⟩ := hb
  exact ⟨ha, h3, h4, h5, b2, b3⟩
theorem mkI_in {L : List Obj} {f l : Int} (h0 : 0 ≤ f) : q_mkI L f l = -1 ∨ (f ≤ q_mkI L f l ∧ q_mkI L f l ≤ l ∧ q_mkI L f l < (L.length : Int) ∧ q_isNew (lget L (q_mkI L f l).toNat free) = true) := by
  unfold q_mkI
  split
  · rename_i j hj
    right
    have h1 := List.find?_some hj
    have h2 := List.mem_of_find?_eq_some hj
    simp only [Bool.and_eq_true, decide_eq_true_eq] at h1
    rw [List.mem_range] at h2
    exact ⟨h1.1.1, h1.1.2, by omega, h1.2⟩
  · exact .inl rfl
theorem mkL_len {L : List Obj} {f l kind : Int} : (q_mkL L f l kind).length = L.length := by
  unfold q_mkL
  split
  · exact mkG_len
  · rw [lset_len, mkG_len]
theorem mkL_at {L : List Obj} {f l kind : Int} (h0 : 0 ≤ f) (h : q_mkI L f l ≠ -1) : lget (q_mkL L f l kind) (q_mkI L f l).toNat free = q_newO (lget L (q_mkI L f l).toNat free) kind := by
  rcases mkI_in (L := L) (l := l) h0 with e | ⟨a, b, c, d⟩
  · exact absurd e h
  · unfold q_mkL
    rw [if_neg h, lget_lset (by rw [mkG_len]; omega), if_pos rfl]
theorem mkc_yes {L : List Obj} {f l : Int} (h : q_mkI L f l ≠ -1) : q_mkc L f l = true := by unfold q_mkc; simp [h]
theorem bnkXY {L : List Obj} {k : Key} (h : q_bnkE L k = 0) : q_bnkX L k = q_bnkA L k ∧ q_bnkY L k = q_bnkB L k := by
  unfold q_bnkX q_bnkY; rw [if_pos h, if_pos h]; exact ⟨rfl, rfl⟩
theorem bmk_bad {L : List Obj} {k : Key} {kind : Int} (h : q_bnkE L k = 0) (h1 : kind ≠ 1) (h2 : kind ≠ 2) : q_bmkC L k kind = false ∧ void = q_bmkK L k kind ∧ 2 = q_bmkE L k kind := by
  have e : q_bmkE0 L k kind = 2 := by unfold q_bmkE0; rw [if_pos h, if_neg (by omega)]
  have e2 : q_bmkE L k kind = 2 := by unfold q_bmkE; rw [e]; rfl
  refine ⟨by unfold q_bmkC; rw [e]; rfl, by unfold q_bmkK; rw [e2]; rfl, e2.symm⟩
theorem bmk_err {L : List Obj} {k : Key} {kind : Int} (h : q_bnkE L k ≠ 0) : q_bmkC L k kind = false ∧ void = q_bmkK L k kind ∧ q_bnkE L k = q_bmkE L k kind := by
  have e : q_bmkE0 L k kind = q_bnkE L k := by unfold q_bmkE0; rw [if_neg h]
  have e2 : q_bmkE L k kind = q_bnkE L k := by unfold q_bmkE; rw [e, if_neg h]
  refine ⟨by unfold q_bmkC; rw [e]; simp [h], by unfold q_bmkK; rw [e2, if_neg h], e2.symm⟩
theorem bmk_full {L : List Obj} {k : Key} {kind : Int} (h : q_bnkE L k = 0) (hk : kind = 1 ∨ kind = 2) (hi : q_mkI L (q_bnkA L k) (q_bnkB L k) = -1) : q_bmkC L k kind = q_mkc L (q_bnkA L k) (q_bnkB L k) ∧ void = q_bmkK L k kind ∧ 221 = q_bmkE L k kind ∧ q_mkL L (q_bnkA L k) (q_bnkB L k) kind = q_bmkL L k kind := by
  have e : q_bmkE0 L k kind = 0 := by unfold q_bmkE0; rw [if_pos h, if_pos hk]
  have e2 : q_bmkE L k kind = 221 := by unfold q_bmkE; rw [if_pos e, if_pos hi]
  refine ⟨by unfold q_bmkC; rw [e]; simp, by unfold q_bmkK; rw [e2]; rfl, e2.symm, by unfold q_bmkL; rw [if_pos e]⟩
theorem bmk_yes {L : List Obj} {k : Key} {kind : Int} (h : q_bnkE L k = 0) (hk : kind = 1 ∨ kind = 2) (hi : q_mkI L (q_bnkA L k) (q_bnkB L k) ≠ -1) : q_bmkC L k kind = true ∧ Key.mk (1 + kind) (q_mkI L (q_bnkA L k) (q_bnkB L k)) (lget (q_mkL L (q_bnkA L k) (q_bnkB L k) kind) (q_mkI L (q_bnkA L k) (q_bnkB L k)).toNat free).count 0 0 0 = q_bmkK L k kind ∧ 0 = q_bmkE L k kind ∧ q_mkL L (q_bnkA L k) (q_bnkB L k) kind = q_bmkL L k kind := by
  have e : q_bmkE0 L k kind = 0 := by unfold q_bmkE0; rw [if_pos h, if_pos hk]
  have e2 : q_bmkE L k kind = 0 := by unfold q_bmkE; rw [if_pos e, if_neg hi]
  refine ⟨by unfold q_bmkC; rw [e, mkc_yes hi]; rfl, ?_, e2.symm, by unfold q_bmkL; rw [if_pos e]⟩
  unfold q_bmkK
  rw [if_pos e2, mkL_at (bnk_ok h).2.1 hi]
  unfold q_bkey q_newO
  rcases hk with rfl | rfl <;> rfl
theorem thing_eq {L : List Obj} {v : Key} : q_thing L v = !(!q_is L v || !decide (v.kind = 2) && !decide (v.kind = 3)) := by unfold q_thing; cases q_is L v <;> cases decide (v.kind = 2) <;> cases decide (v.kind = 3) <;> rfl
theorem thing_is {L : List Obj} {v : Key} (h : q_thing L v = true) : q_is L v = true := by unfold q_thing at h; simp only [Bool.and_eq_true] at h; exact h.1
/-- A bank split: an error, its list, its key. -/
def q_bsI (L : List Obj) (k : Key) : Int := q_mkI L (q_bnkA L k) (q_bnkB L k)
def q_bsM (L : List Obj) (k : Key) : List Obj := q_mkL L (q_bnkA L k) (q_bnkB L k) 1
def q_bsyG (M : List Obj) (f g : Int) : Bool := (List.range M.length).any fun (j : Nat) => decide (f ≤ (j : Int)) && decide ((j : Int) < g) && q_busy (lget M j free)
def q_bsE0 (L : List Obj) (k : Key) (n : Int) : Int := if q_bnkE L k = 0 then (if n < 1 ∨ q_bnkB L k - q_bnkA L k < n then 4 else 0) else q_bnkE L k
def q_bsE (L : List Obj) (k : Key) (n : Int) : Int := if q_bsE0 L k n = 0 then (if q_bsI L k < 0 ∨ q_bnkB L k - n < q_bsI L k then 221 else if q_bsyG (q_bsM L k) (q_bnkB L k - n + 1) (q_bnkB L k + 1) = true then 221 else 0) else q_bsE0 L k n
def q_bsC (L : List Obj) (k : Key) (n : Int) : Bool := decide (q_bsE L k n = 0)
def q_num (n : Int) : Key := ⟨1, 0, 0, 0, 0, n⟩
def q_bsO1 (o : Obj) (a b : Int) : Obj := { o with slots := (o.slots.put 0 (q_num a)).put 1 (q_num b) }
def q_bsO2 (o : Obj) (b : Int) : Obj := { o with slots := o.slots.put 1 (q_num b) }
def q_bsL (L : List Obj) (k : Key) (n : Int) : List Obj := if q_bsE L k n = 0 then lset (lset (q_bsM L k) (q_bsI L k).toNat (q_bsO1 (lget (q_bsM L k) (q_bsI L k).toNat free) (q_bnkB L k - n + 1) (q_bnkB L k))) k.oid.toNat (q_bsO2 (lget (q_bsM L k) k.oid.toNat free) (q_bnkB L k - n)) else L
def q_bsK (L : List Obj) (k : Key) (n : Int) : Key := if q_bsE L k n = 0 then ⟨4, q_bsI L k, (lget (q_bsM L k) (q_bsI L k).toNat free).count, 0, 0, 0⟩ else void
def h_rsplit : HCt := hLx (rdL kiB) (fun L _ => q_okL L) (fun L x => q_bsC L x.1 x.2.1) (fun L x => q_bsL L x.1 x.2.1) fun L x => [.key (q_bsK L x.1 x.2.1), .it .i64 (q_bsE L x.1 x.2.1)]
def q_invSp (L : List Obj) (k : Key) (n g : Int) : Prop := q_bnkB L k - n + 1 ≤ g ∧ g ≤ q_bnkB L k + 1 ∧ q_bsyG (q_bsM L k) (q_bnkB L k - n + 1) g = false
theorem bs_no {L : List Obj} {k : Key} {n e : Int} (h : q_bsE L k n = e) (he : e ≠ 0) : q_bsC L k n = false ∧ void = q_bsK L k n ∧ e = q_bsE L k n := by
  refine ⟨by unfold q_bsC; rw [h]; simpa using he, by unfold q_bsK; rw [h, if_neg he], h.symm⟩
theorem bsE_bank {L : List Obj} {k : Key} {n : Int} (h : q_bnkE L k ≠ 0) : q_bsE L k n = q_bnkE L k := by
  have e : q_bsE0 L k n = q_bnkE L k := by unfold q_bsE0; rw [if_neg h]
  unfold q_bsE; rw [e, if_neg h]
theorem bsE_range {L : List Obj} {k : Key} {n : Int} (h : q_bnkE L k = 0) (hn : n < 1 ∨ q_bnkB L k - q_bnkA L k < n) : q_bsE L k n = 4 := by
  have e : q_bsE0 L k n = 4 := by unfold q_bsE0; rw [if_pos h, if_pos hn]
  unfold q_bsE; rw [e]; rfl
theorem bsE0_ok {L : List Obj} {k : Key} {n : Int} (h : q_bnkE L k = 0) (h1 : 1 ≤ n) (h2 : n ≤ q_bnkB L k - q_bnkA L k) : q_bsE0 L k n = 0 := by
  unfold q_bsE0; rw [if_pos h, if_neg (by omega)]
theorem bsE_full {L : List Obj} {k : Key} {n : Int} (h : q_bsE0 L k n = 0) (hi : q_bsI L k < 0 ∨ q_bnkB L k - n < q_bsI L k) : q_bsE L k n = 221 := by
  unfold q_bsE; rw [if_pos h, if_pos hi]
theorem bsE_busy {L : List Obj} {k : Key} {n : Int} (h : q_bsE0 L k n = 0) (hi : q_bsyG (q_bsM L k) (q_bnkB L k - n + 1) (q_bnkB L k + 1) = true) : q_bsE L k n = 221 := by
  unfold q_bsE; rw [if_pos h, if_pos hi]; split <;> rfl
theorem bsE_yes {L : List Obj} {k : Key} {n : Int} (h : q_bsE0 L k n = 0) (h1 : 0 ≤ q_bsI L k) (h2 : q_bsI L k ≤ q_bnkB L k - n) (hi : q_bsyG (q_bsM L k) (q_bnkB L k - n + 1) (q_bnkB L k + 1) = false) : q_bsE L k n = 0 := by
  unfold q_bsE; rw [if_pos h, if_neg (by omega), hi]; rfl
theorem bsyG_zero {M : List Obj} {f : Int} : q_bsyG M f f = false := by
  unfold q_bsyG
  rw [List.any_eq_false]
  intro j hj h
  simp only [Bool.and_eq_true, decide_eq_true_eq] at h
  omega
theorem bsyG_yes {M : List Obj} {f g e : Int} (h0 : 0 ≤ g) (h1 : g < (M.length : Int)) (hf : f ≤ g) (he : g < e) (hr : q_busy (lget M g.toNat free) = true) : q_bsyG M f e = true := by
  unfold q_bsyG
  rw [List.any_eq_true]
  exact ⟨g.toNat, by simp; omega, by rw [hr]; simp; omega⟩
theorem bsyG_no {M : List Obj} {f g : Int} (h0 : 0 ≤ g) (hr : q_busy (lget M g.toNat free) = false) : q_bsyG M f (g + 1) = q_bsyG M f g := by
  unfold q_bsyG
  rw [Bool.eq_iff_iff, List.any_eq_true, List.any_eq_true]
  refine exists_congr fun j => and_congr_right fun _ => ?_
  simp only [Bool.and_eq_true, decide_eq_true_eq]
  constructor
  · rintro ⟨⟨a, b⟩, c⟩
    refine ⟨⟨a, ?_⟩, c⟩
    by_cases e : (j : Int) = g
    · rw [show j = g.toNat by omega, hr] at c; simp at c
    · omega
  · rintro ⟨⟨a, b⟩, c⟩
    exact ⟨⟨a, by omega⟩, c⟩
theorem is_oid {L : List Obj} {k : Key} (h : q_is L k = true) : q_oid k = k.oid := by
  unfold q_is at h
  simp only [Bool.and_eq_true] at h
  unfold q_oid; rw [if_pos h.1.1]
theorem bk1 {L : List Obj} {k : Key} (h : (!decide (0 < q_size L)) = true) : q_bnkE L k = 1 := by unfold q_bnkE; rw [ask1 h]; rfl
theorem bk2 {L : List Obj} {k : Key} (h : (!decide (0 < q_size L)) = false) (h2 : (!(q_is L k && decide (k.kind = 4))) = true) : q_bnkE L k = 190 := by unfold q_bnkE; rw [ask2 h h2]; rfl
theorem bk3 {L : List Obj} {k : Key} (h : (!decide (0 < q_size L)) = false) (h2 : (!(q_is L k && decide (k.kind = 4))) = false) (h3 : (!q_bnkOk (q_nobj L k) (q_size L)) = true) : q_bnkE L k = 220 := by
  have ha := ask0f h h2
  rw [(is_all (ask_is h2).1).2.2.2.1] at h3
  exact (bnkE_no ha (show q_bnkOk (lget L k.oid.toNat free) (q_size L) = false by simpa using h3)).1
theorem bk0 {L : List Obj} {k : Key} (h : (!decide (0 < q_size L)) = false) (h2 : (!(q_is L k && decide (k.kind = 4))) = false) (h3 : (!q_bnkOk (q_nobj L k) (q_size L)) = false) : q_bnkE L k = 0 ∧ ((q_nobj L k).slots.at 0).value = q_bnkA L k ∧ ((q_nobj L k).slots.at 1).value = q_bnkB L k := by
  have ha := ask0f h h2
  have e := (is_all (ask_is h2).1).2.2.2.1
  rw [e] at h3
  rw [e]
  exact ⟨(bnkE_yes ha (show q_bnkOk (lget L k.oid.toNat free) (q_size L) = true by simpa using h3)).1, rfl, rfl⟩
theorem rg_no {L : List Obj} {k : Key} {e : Int} (h : q_bnkE L k = e) (he : e ≠ 0) : 0 = q_bnkX L k ∧ 0 = q_bnkY L k ∧ e = q_bnkE L k := by
  unfold q_bnkX q_bnkY
  rw [h, if_neg he, if_neg he]; exact ⟨rfl, rfl, rfl⟩
theorem bow_no {L : List Obj} {k v : Key} {e : Int} (h : q_bnkE L k = e) (he : e ≠ 0) : false = q_bow L k v ∧ e = q_bnkE L k := by
  refine ⟨?_, h.symm⟩
  unfold q_bow
  rw [h]
  simp [he]
theorem bds_no {L : List Obj} {k v : Key} {e : Int} (h : q_bdsE L k v = e) (he : e ≠ 0) : e = q_bdsE L k v ∧ L = q_bdsL L k v := by
  refine ⟨h.symm, ?_⟩
  unfold q_bdsL
  rw [h, if_neg he]
theorem bds_bank {L : List Obj} {k v : Key} {e : Int} (h : q_bnkE L k = e) (he : e ≠ 0) : q_bdsE L k v = e := by
  unfold q_bdsE; rw [h, if_neg he]
theorem brz_no {L : List Obj} {k : Key} {e : Int} (h : q_bnkE L k = e) (he : e ≠ 0) : (0 = q_brzN L k ∧ e = q_bnkE L k) ∧ L = q_brzL L k := by
  unfold q_brzN q_brzL
  rw [h, if_neg he, if_neg he]; exact ⟨⟨rfl, rfl⟩, rfl⟩
theorem bmk_no {L : List Obj} {k : Key} {kind e : Int} (h : q_bmkE0 L k kind = e) (he : e ≠ 0) : (void = q_bmkK L k kind ∧ e = q_bmkE L k kind) ∧ L = q_bmkL L k kind := by
  have e2 : q_bmkE L k kind = e := by unfold q_bmkE; rw [h, if_neg he]
  unfold q_bmkK q_bmkL
  rw [e2, h, if_neg he, if_neg he]; exact ⟨⟨rfl, rfl⟩, rfl⟩
theorem bmk_bank {L : List Obj} {k : Key} {kind e : Int} (h : q_bnkE L k = e) (he : e ≠ 0) : q_bmkE0 L k kind = e := by unfold q_bmkE0; rw [h, if_neg he]
theorem bmk_kind {L : List Obj} {k : Key} {kind : Int} (h : q_bnkE L k = 0) (h2 : (!(decide (kind = 1) || decide (kind = 2))) = true) : q_bmkE0 L k kind = 2 := by
  unfold q_bmkE0
  rw [if_pos h, if_neg]
  simp only [Bool.not_eq_true', Bool.or_eq_false_iff, decide_eq_false_iff_not] at h2
  omega
theorem bs_no2 {L : List Obj} {k : Key} {n e : Int} (h : q_bsE L k n = e) (he : e ≠ 0) : (void = q_bsK L k n ∧ e = q_bsE L k n) ∧ L = q_bsL L k n := by
  unfold q_bsK q_bsL
  rw [h, if_neg he, if_neg he]; exact ⟨⟨rfl, rfl⟩, rfl⟩
theorem bs_bank {L : List Obj} {k : Key} {n e : Int} (h : q_bnkE L k = e) (he : e ≠ 0) : q_bsE L k n = e := by rw [bsE_bank (by omega), h]
def g_brange : Ct := mkR (consA sA kB) (fun _ => none) fun x => .tp [.it .i64 (q_bnkX (stL x.1) x.2.1), .it .i64 (q_bnkY (stL x.1) x.2.1), .it .i64 (q_bnkE (stL x.1) x.2.1)]
def g_bowns : Ct := mkR (consA sA kkB) (fun _ => none) fun x => .tp [.bo (q_bow (stL x.1) x.2.1 x.2.2.1), .it .i64 (q_bnkE (stL x.1) x.2.1)]
def h_bmake : HCt := hSt (rdL kiB) (fun L _ => q_okL L) (fun L x => .tp [.key (q_bmkK L x.1 x.2.1), .it .i64 (q_bmkE L x.1 x.2.1)]) fun L x => q_bmkL L x.1 x.2.1
def h_bdes : HCt := hSt (rdL kkB) (fun L _ => q_okL L) (fun L x => .it .i64 (q_bdsE L x.1 x.2.1)) fun L x => q_bdsL L x.1 x.2.1
def h_braze : HCt := hSt (rdL kB) (fun L _ => q_okL L) (fun L x => .tp [.it .i64 (q_brzN L x.1), .it .i64 (q_bnkE L x.1)]) fun L x => q_brzL L x.1
def h_bsplit : HCt := hSt (rdL kiB) (fun L _ => q_okL L) (fun L x => .tp [.key (q_bsK L x.1 x.2.1), .it .i64 (q_bsE L x.1 x.2.1)]) fun L x => q_bsL L x.1 x.2.1
def q_invSb (L : List Obj) (k : Key) (n g : Int) : Prop := q_bnkA L k ≤ g ∧ g ≤ q_bnkB L k + 1 ∧ q_bsyG (q_bsM L k) (q_bnkB L k - n + 1) g = false
/-- The first of what is unlike is put over. -/
def q_unA (L M : List Obj) (g : Int) : Int := lget (q_unl L M) g.toNat 0
def unN : List Obj → List Obj → Nat → List Obj
  | L, _, 0 => L
  | L, M, g + 1 => q_putL (unN L M g) (q_unA L M (g : Int)) (q_get M (q_unA L M (g : Int)))
def q_unS (L M : List Obj) (g : Int) : List Obj := unN L M g.toNat
def q_invUn (L M : List Obj) (g : Int) : Prop := 0 ≤ g ∧ g ≤ ((q_unl L M).length : Int)
def bsO0 (L : List Obj) (k : Key) (g : Int) : Obj := q_get (q_mkG L (q_bnkA L k) g) g
def bsP1 (L : List Obj) (k : Key) (g : Int) : List Obj := q_putL (q_mkG L (q_bnkA L k) g) g (Obj.mk 1 ((bsO0 L k g).count + 1) free.calls free.slots free.bytes)
def bsKn (x : Int) : Key := Key.mk 1 void.oid void.count void.call void.rights x
def bsR1 (L : List Obj) (k : Key) (n g : Int) : Obj := Obj.mk (q_get (bsP1 L k g) g).kind (q_get (bsP1 L k g) g).count (q_get (bsP1 L k g) g).calls (((q_get (bsP1 L k g) g).slots.put 0 (bsKn (((q_nobj L k).slots.at 1).value - n + 1))).put 1 (bsKn ((q_nobj L k).slots.at 1).value)) (q_get (bsP1 L k g) g).bytes
def bsP2 (L : List Obj) (k : Key) (n g : Int) : List Obj := q_putL (bsP1 L k g) g (bsR1 L k n g)
def bsR2 (L : List Obj) (k : Key) (n g : Int) : Obj := Obj.mk (q_get (bsP2 L k n g) k.oid).kind (q_get (bsP2 L k n g) k.oid).count (q_get (bsP2 L k n g) k.oid).calls ((q_get (bsP2 L k n g) k.oid).slots.put 1 (bsKn (((q_nobj L k).slots.at 1).value - n))) (q_get (bsP2 L k n g) k.oid).bytes
def bsP3 (L : List Obj) (k : Key) (n g : Int) : List Obj := q_putL (bsP2 L k n g) k.oid (bsR2 L k n g)
def q_inv1k (L : List Obj) (k : Key) (g : Int) : Prop := q_bnkA L k ≤ g ∧ g ≤ q_bnkB L k + 1 ∧ q_noNew L (q_bnkA L k) g
def q_invRz (L : List Obj) (k : Key) (g : Int) : Prop := q_bnkA L k ≤ g ∧ g ≤ q_bnkB L k + 1
def q_inv1r (L : List Obj) (k : Key) (g : Int) : Prop := q_bnkA L k ≤ g ∧ g ≤ q_bnkB L k + 1 ∧ q_rzN L (q_bnkA L k) g k.oid = 0
def q_inv2r (L : List Obj) (k : Key) (g : Int) : Prop := q_bnkA L k ≤ g ∧ g ≤ q_bnkB L k + 1 ∧ q_rzN L (q_bnkA L k) g k.oid ≠ 0
theorem bank_kind {L : List Obj} {k : Key} (h : q_is L k = true) (h2 : k.kind = 4) : (lget L k.oid.toNat free).kind = 1 := by
  unfold q_is at h
  simp only [Bool.and_eq_true] at h
  obtain ⟨⟨h1, _⟩, h3⟩ := h
  unfold q_counts at h3
  simp only [Bool.and_eq_true, Bool.or_eq_true, decide_eq_true_eq] at h3
  rcases names_named k with ⟨_, e, h0⟩ | ⟨e, _⟩
  · rcases h3.2 with h | h
    · omega
    · rw [h.1.1]
      unfold q_wants
      rw [if_neg (by omega), if_neg (by omega)]
  · rw [e] at h1; simp at h1
theorem num_fit {n : Int} (hn : 0 ≤ n) (x : Int) : q_slFit n (q_num x) := by
  refine ⟨by simp [q_num, q_keyOk, q_most, q_isV, q_isO, q_isC, q_within], ?_⟩
  unfold q_names
  rw [show q_isO (q_num x).kind = false by simp [q_num, q_isO]]
  simp; omega
theorem slots_fit {o : Obj} {n : Int} (h : q_objOk o n = true) (hk : o.kind = 1) (i : Nat) (hi : i < 16) : q_slFit n (o.slots.at i) := by
  obtain ⟨a1, a2, a3, a4, a5, a6, a7, a8, a9, a10, a11⟩ := objOk_iff.1 h
  have := a10 i hi
  rw [hk] at this
  exact slot1.1 this
theorem bsO2_ok {o : Obj} {n b : Int} (h : q_objOk o n = true) (hk : o.kind = 1) : q_objOk (q_bsO2 o b) n = true := by
  refine sls_ok h hk fun i hi => ?_
  have := (obj_cnt h).2.2.2.2.1
  rw [Slots.at_put _ _ _ _ (by omega)]
  split
  · exact num_fit (by omega) _
  · exact slots_fit h hk i hi
theorem bsO1_ok {o : Obj} {n a b : Int} (h : q_objOk o n = true) (hk : o.kind = 1) : q_objOk (q_bsO1 o a b) n = true := by
  refine sls_ok h hk fun i hi => ?_
  have := (obj_cnt h).2.2.2.2.1
  rw [Slots.at_put _ _ _ _ (by omega), Slots.at_put _ _ _ _ (by omega)]
  split
  · exact num_fit (by omega) _
  split
  · exact num_fit (by omega) _
  · exact slots_fit h hk i hi
/-- Where a new one is made. -/
theorem bs_in {L : List Obj} {k : Key} {g : Int} (hL : q_okL L) (e : q_bnkE L k = 0) (hk : (lget L k.oid.toNat free).kind = 1) (g0 : q_bnkA L k ≤ g) (gl : g ≤ q_bnkB L k) (g2 : q_noNew L (q_bnkA L k) g) (f2 : q_isNew (lget L g.toNat free) = true) :
    q_bsI L k = g ∧ bsO0 L k g = lget L g.toNat free ∧ bsP1 L k g = q_bsM L k ∧ (q_bsM L k).length = L.length ∧ q_okL (q_bsM L k) ∧ lget (q_bsM L k) g.toNat free = q_newO (lget L g.toNat free) 1 ∧ lget (q_bsM L k) k.oid.toNat free = lget L k.oid.toNat free ∧ k.oid.toNat ≠ g.toNat := by
  obtain ⟨_, a0, a1, a2, a3, a4⟩ := bnk_ok e
  have hgn : g.toNat < L.length := by omega
  have hgz : (q_mkG L (q_bnkA L k) g).length = L.length := mkG_len
  have hgt : q_get (q_mkG L (q_bnkA L k) g) g = lget L g.toNat free := by rw [get_lget (by omega) (by omega), mkG_at (by omega)]
  obtain ⟨m1, m2, m3⟩ := mk_made (l := q_bnkB L k) 1 a0 g0 gl (by omega) g2 f2
  have hO : bsO0 L k g = lget L g.toNat free := hgt
  have hnew := newO_ok (okL_get hL g.toNat hgn) f2 (.inl rfl)
  have hp := (put_ok (L := q_mkG L (q_bnkA L k) g) (i := g) (x := q_newO (lget L g.toNat free) 1) (by omega) (by omega) (by rw [hgz]; exact hnew)).1
  have hP : bsP1 L k g = q_bsM L k := by
    unfold bsP1
    rw [hO]
    exact hp.trans m3.symm
  have hne : k.oid.toNat ≠ g.toNat := fun h => by
    rw [h] at hk
    unfold q_isNew at f2
    simp only [Bool.and_eq_true, decide_eq_true_eq] at f2
    omega
  have hM : q_bsM L k = lset (q_mkG L (q_bnkA L k) g) g.toNat (q_newO (lget L g.toNat free) 1) := m3
  have hko : k.oid.toNat < L.length := by omega
  refine ⟨m1, hO, hP, mkL_len, ?_, ?_, ?_, hne⟩
  · rw [hM]
    exact lset_ok (mkG_ok hL) (by rw [hgz]; exact hnew)
  · rw [hM, lget_lset (by rw [hgz]; exact hgn), if_pos rfl]
  · rw [hM, lget_lset (by rw [hgz]; exact hgn), if_neg hne]
    unfold q_mkG
    rw [mapO_get hko, if_neg]
    simp only [q_isRet, hk, Bool.and_eq_true, decide_eq_true_eq]
    omega
theorem bs_last {L : List Obj} {k : Key} {n g : Int} (hL : q_okL L) (e : q_bnkE L k = 0) (hk : (lget L k.oid.toNat free).kind = 1) (hB : ((q_nobj L k).slots.at 1).value = q_bnkB L k) (g0 : q_bnkA L k ≤ g) (gl : g ≤ q_bnkB L k) (g2 : q_noNew L (q_bnkA L k) g) (f2 : q_isNew (lget L g.toNat free) = true) (h : q_bsE L k n = 0) :
    bsP3 L k n g = q_bsL L k n ∧ q_okL (q_bsL L k n) ∧ (q_bsL L k n).length = L.length ∧ Key.mk 4 g ((bsO0 L k g).count + 1) 0 0 0 = q_bsK L k n := by
  obtain ⟨i1, i2, i3, i4, i5, i6, i7, i8⟩ := bs_in hL e hk g0 gl g2 f2
  obtain ⟨_, a0, a1, a2, a3, a4⟩ := bnk_ok e
  have hgM : q_get (q_bsM L k) g = lget (q_bsM L k) g.toNat free := get_lget (by omega) (by omega)
  have hR1 : bsR1 L k n g = q_bsO1 (lget (q_bsM L k) g.toNat free) (q_bnkB L k - n + 1) (q_bnkB L k) := by
    unfold bsR1
    rw [i3, hgM, hB]
    rfl
  have o1 : q_objOk (q_bsO1 (lget (q_bsM L k) g.toNat free) (q_bnkB L k - n + 1) (q_bnkB L k)) ((q_bsM L k).length : Int) = true := bsO1_ok (okL_get i5 g.toNat (by omega)) (by rw [i6]; rfl)
  have hP2 : bsP2 L k n g = lset (q_bsM L k) g.toNat (q_bsO1 (lget (q_bsM L k) g.toNat free) (q_bnkB L k - n + 1) (q_bnkB L k)) := by
    unfold bsP2
    rw [i3, hR1]
    exact (put_ok (by omega) (by omega) o1).1
  have ok2 := lset_ok (i := g.toNat) i5 o1
  have l2 : (lset (q_bsM L k) g.toNat (q_bsO1 (lget (q_bsM L k) g.toNat free) (q_bnkB L k - n + 1) (q_bnkB L k))).length = L.length := by rw [lset_len]; exact i4
  have g2' : q_get (bsP2 L k n g) k.oid = lget (q_bsM L k) k.oid.toNat free := by
    rw [hP2, get_lget (by omega) (by omega), lget_lset (by omega), if_neg i8]
  have hR2 : bsR2 L k n g = q_bsO2 (lget (q_bsM L k) k.oid.toNat free) (q_bnkB L k - n) := by
    unfold bsR2
    rw [g2', hB]
    rfl
  have o2 : q_objOk (q_bsO2 (lget (q_bsM L k) k.oid.toNat free) (q_bnkB L k - n)) (L.length : Int) = true := bsO2_ok (by rw [← i4]; exact okL_get i5 k.oid.toNat (by omega)) (by rw [i7]; exact hk)
  have hlast : q_bsL L k n = lset (lset (q_bsM L k) g.toNat (q_bsO1 (lget (q_bsM L k) g.toNat free) (q_bnkB L k - n + 1) (q_bnkB L k))) k.oid.toNat (q_bsO2 (lget (q_bsM L k) k.oid.toNat free) (q_bnkB L k - n)) := by
    unfold q_bsL
    rw [if_pos h, i1]
  refine ⟨?_, ?_, ?_, ?_⟩
  · unfold bsP3
    rw [hR2, hP2, hlast]
    exact (put_ok (by omega) (by omega) (by rw [l2]; exact o2)).1
  · rw [hlast]
    exact lset_ok ok2 (by rw [l2]; exact o2)
  · rw [hlast, lset_len]; exact l2
  · unfold q_bsK
    rw [if_pos h, i1, i6, i2]
    rfl
theorem unl_mem {L M : List Obj} {x : Int} (h : x ∈ q_unl L M) : 0 ≤ x ∧ x < (L.length : Int) := by
  unfold q_unl q_unlG at h
  rw [List.mem_map] at h
  obtain ⟨j, h1, rfl⟩ := h
  have := List.mem_range.1 (List.mem_filter.1 h1).1
  unfold llen at this
  exact ⟨Int.natCast_nonneg j, by show (j : Int) < _; omega⟩
theorem unl_at {L M : List Obj} {i : Nat} (h : i < (q_unl L M).length) : lget (q_unl L M) i 0 ∈ q_unl L M := by
  unfold lget
  rw [List.getD_eq_getElem?_getD, List.getElem?_eq_getElem h]
  exact List.getElem_mem h
theorem unl_all {L M : List Obj} {j : Nat} (hj : j < L.length) (h : lget L j free ≠ lget M j free) : ∃ i, i < (q_unl L M).length ∧ lget (q_unl L M) i 0 = (j : Int) := by
  have : (j : Int) ∈ q_unl L M := by
    unfold q_unl q_unlG
    rw [List.mem_map]
    refine ⟨j, List.mem_filter.2 ⟨List.mem_range.2 (by unfold llen; omega), ?_⟩, rfl⟩
    simp [oeq, h]
  obtain ⟨i, hi, e⟩ := List.mem_iff_getElem.1 this
  refine ⟨i, hi, ?_⟩
  unfold lget
  rw [List.getD_eq_getElem?_getD, List.getElem?_eq_getElem hi, e]; rfl
theorem unN_at {L M : List Obj} (hl : M.length = L.length) (hM : q_okL M) : ∀ g : Nat, g ≤ (q_unl L M).length → (unN L M g).length = L.length ∧ (∀ j, j < L.length → lget (unN L M g) j free = lget L j free ∨ lget (unN L M g) j free = lget M j free) ∧
    ∀ i, i < g → lget (unN L M g) (lget (q_unl L M) i 0).toNat free = lget M (lget (q_unl L M) i 0).toNat free
  | 0, _ => ⟨rfl, fun j hj => .inl rfl, fun i hi => by omega⟩
  | g + 1, hg => by
    obtain ⟨h1, h2, h3⟩ := unN_at hl hM g (by omega)
    obtain ⟨u1, u2⟩ := unl_mem (unl_at (L := L) (M := M) (i := g) (by omega))
    have e : q_unA L M (g : Int) = lget (q_unl L M) g 0 := rfl
    generalize hu : lget (q_unl L M) g 0 = u at *
    have hp := (put_ok (L := unN L M g) (i := u) (x := lget M u.toNat free) u1 (by omega) (by rw [h1, ← hl]; exact okL_get hM _ (by omega))).1
    have hs : unN L M (g + 1) = lset (unN L M g) u.toNat (lget M u.toNat free) := by
      simp only [unN]
      rw [e, get_lget u1 (by omega)]
      exact hp
    rw [hs]
    refine ⟨by rw [lset_len]; exact h1, fun j hj => ?_, fun i hi => ?_⟩
    · rw [lget_lset (by omega)]
      split
      · rename_i hj'; rw [hj']; exact .inr rfl
      · exact h2 j hj
    · rw [lget_lset (by omega)]
      split
      · rename_i hj'; rw [hj']
      · rename_i hne
        by_cases hig : i = g
        · rw [hig, hu] at hne; exact absurd rfl hne
        · exact h3 i (by omega)
theorem unS_all {L M : List Obj} (hl : M.length = L.length) (hM : q_okL M) {g : Int} (hg : g = ((q_unl L M).length : Int)) : q_unS L M g = M := by
  obtain ⟨h1, h2, h3⟩ := unN_at hl hM (q_unl L M).length (Nat.le_refl _)
  have e : q_unS L M g = unN L M (q_unl L M).length := by unfold q_unS; rw [hg]; rfl
  rw [e]
  refine list_ext (by omega) fun j hj => ?_
  by_cases hne : lget L j free = lget M j free
  · rcases h2 j (by omega) with h | h
    · rw [h, hne]
    · exact h
  · obtain ⟨i, hi, hij⟩ := unl_all (by omega) hne
    have := h3 i hi
    rw [hij] at this
    exact this
theorem unS_step {L M : List Obj} {g : Int} (h0 : 0 ≤ g) : q_putL (q_unS L M g) (lget (q_unl L M) g.toNat 0) (q_get M (lget (q_unl L M) g.toNat 0)) = q_unS L M (g + 1) := by
  unfold q_unS
  rw [show (g + 1).toNat = g.toNat + 1 by omega]
  simp only [unN]
  rfl
theorem unlNo_no {L M : List Obj} (hl : M.length = L.length) (h : 1 ≤ L.length) : q_unlNo L M = false := by
  unfold q_unlNo q_snone llen
  simp only [hl, show decide (L.length = 0) = false from decide_eq_false (by omega), Bool.false_or, decide_true, Bool.not_true]
theorem bsyG_le {M : List Obj} {f g : Int} (h : g ≤ f) : q_bsyG M f g = false := by
  unfold q_bsyG
  rw [List.any_eq_false]
  intro j _
  simp only [Bool.and_eq_true, decide_eq_true_eq, not_and]
  intro h1 h2
  omega
theorem unl_len {L M : List Obj} : (q_unl L M).length ≤ L.length := by
  unfold q_unl q_unlG
  rw [List.length_map]
  have := List.length_filter_le (fun j => !oeq (lget L j free) (lget M j free)) (List.range (llen L : Int).toNat)
  simpa [llen] using this
/-- A call of layer 12's statements. -/
structure Acb where
  kind : Int
  num : Int
  bank : Key
  key : Key
  obj : Int
def acbV (a : Acb) : V := .ag [.it .i64 a.kind, .it .i64 a.num, .key a.bank, .key a.key, .it .i64 a.obj]
def Acb.wf (x : Acb) : Prop := inR .i64 x.kind ∧ inR .i64 x.num ∧ x.bank.wf ∧ x.key.wf ∧ inR .i64 x.obj
def acb0 : Acb := ⟨0, 0, void, void, 0⟩
def acbs (l : List Acb) : TL := .fn (llen l) fun i => acbV (lget l i acb0)
/-- What a bank's node is told by. -/
theorem asked_obj {L M : List Obj} {k : Key} {d : Int} {c : Bool} (hl : M.length = L.length) (h1 : (lget M k.oid.toNat free).kind = (lget L k.oid.toNat free).kind) (h2 : (lget M k.oid.toNat free).count = (lget L k.oid.toNat free).count) (h3 : (lget M k.oid.toNat free).calls = (lget L k.oid.toNat free).calls) : q_asked M k d c = q_asked L k d c := by
  have hi : q_is M k = q_is L k := by
    unfold q_is q_has q_counts llen
    rw [hl, h1, h2, h3]
  unfold q_asked llen
  rw [hl, hi]
theorem bnk_same {L M : List Obj} {h : Key} (hl : M.length = L.length) (ho : lget M h.oid.toNat free = lget L h.oid.toNat free) : q_bnkE M h = q_bnkE L h ∧ q_bnkA M h = q_bnkA L h ∧ q_bnkB M h = q_bnkB L h := by
  unfold q_bnkE q_bnkA q_bnkB
  rw [asked_obj hl (by rw [ho]) (by rw [ho]) (by rw [ho]), ho]
  unfold llen
  rw [hl]
  exact ⟨rfl, rfl, rfl⟩
theorem bnk_obj {L : List Obj} {k : Key} (h : q_bnkE L k = 0) : q_bnkOk (lget L k.oid.toNat free) (L.length : Int) = true ∧ (lget L k.oid.toNat free).kind = 1 := by
  obtain ⟨ha, _⟩ := bnk_ok h
  obtain ⟨i1, i2, _⟩ := asked_ok ha
  refine ⟨?_, bank_kind i1 i2⟩
  unfold q_bnkE at h
  rw [if_pos ha] at h
  split at h
  · rename_i hc; exact hc
  · omega
theorem mkL_keep {L : List Obj} {f l kind : Int} {j : Nat} (h0 : 0 ≤ f) (hj : j < L.length) (hk : (lget L j free).kind ≠ 0) : lget (q_mkL L f l kind) j free = lget L j free := by
  have hG : ∀ g, lget (q_mkG L f g) j free = lget L j free := fun g => by
    unfold q_mkG
    rw [mapO_get hj, if_neg]
    simp only [q_isRet, Bool.and_eq_true, decide_eq_true_eq]
    omega
  unfold q_mkL
  split
  · exact hG _
  · rename_i hi
    rcases mkI_in (L := L) (l := l) h0 with e | ⟨a, b, c, d⟩
    · exact absurd e hi
    · rw [lget_lset (by rw [mkG_len]; omega), if_neg, hG]
      intro e
      rw [← e] at d
      unfold q_isNew at d
      simp only [Bool.and_eq_true, decide_eq_true_eq] at d
      exact hk d.1
theorem mkL_ok {L : List Obj} {f l kind : Int} (hL : q_okL L) (h0 : 0 ≤ f) (hk : kind = 1 ∨ kind = 2) : q_okL (q_mkL L f l kind) := by
  unfold q_mkL
  split
  · exact mkG_ok hL
  · rename_i hi
    rcases mkI_in (L := L) (l := l) h0 with e | ⟨a, b, c, d⟩
    · exact absurd e hi
    · exact lset_ok (mkG_ok hL) (by rw [mkG_len]; exact newO_ok (okL_get hL _ (by omega)) d hk)
theorem bmkL_ok {L : List Obj} {k : Key} {kind : Int} (hL : q_okL L) : q_okL (q_bmkL L k kind) := by
  unfold q_bmkL
  split
  · rename_i h
    have he : q_bnkE L k = 0 := by
      unfold q_bmkE0 at h
      split at h
      · assumption
      · rename_i h'; exact absurd h h'
    refine mkL_ok hL (bnk_ok he).2.1 ?_
    unfold q_bmkE0 at h
    rw [if_pos he] at h
    split at h
    · assumption
    · omega
  · exact hL
theorem bmkL_keep {L : List Obj} {k : Key} {kind : Int} {j : Nat} (hj : j < L.length) (hk : (lget L j free).kind ≠ 0) : lget (q_bmkL L k kind) j free = lget L j free := by
  unfold q_bmkL
  split
  · rename_i h
    have he : q_bnkE L k = 0 := by
      unfold q_bmkE0 at h
      split at h
      · assumption
      · rename_i h'; exact absurd h h'
    exact mkL_keep (bnk_ok he).2.1 hj hk
  · rfl
theorem bmkL_len {L : List Obj} {k : Key} {kind : Int} : (q_bmkL L k kind).length = L.length := by
  unfold q_bmkL
  split
  · exact mkL_len
  · rfl
/-- A bank stays what it is when something is made. -/
theorem bmk_bnk {L : List Obj} {k h : Key} {kind : Int} (hh : q_bnkE L h = 0) : q_bnkE (q_bmkL L k kind) h = 0 ∧ q_bnkA (q_bmkL L k kind) h = q_bnkA L h ∧ q_bnkB (q_bmkL L k kind) h = q_bnkB L h := by
  obtain ⟨_, _, _, _, a3, a4⟩ := bnk_ok hh
  have := bnk_same (h := h) (bmkL_len (L := L) (k := k) (kind := kind)) (bmkL_keep (by omega) (by rw [(bnk_obj hh).2]; omega))
  rw [hh] at this
  exact this
theorem bmkE_in {L : List Obj} {k : Key} {kind : Int} (h : q_bmkE L k kind = 0) : q_bnkE L k = 0 ∧ (kind = 1 ∨ kind = 2) ∧ q_bnkA L k ≤ (q_bmkK L k kind).oid ∧ (q_bmkK L k kind).oid ≤ q_bnkB L k ∧ (q_bmkK L k kind).oid < (L.length : Int) ∧ q_mkI L (q_bnkA L k) (q_bnkB L k) = (q_bmkK L k kind).oid ∧
    q_isNew (lget L (q_bmkK L k kind).oid.toNat free) = true ∧ (q_bmkK L k kind).count = (lget L (q_bmkK L k kind).oid.toNat free).count + 1 := by
  have h' := h
  unfold q_bmkE at h
  split at h
  case isFalse h2 => exact absurd h h2
  rename_i hE0
  have he : q_bnkE L k = 0 := by
    unfold q_bmkE0 at hE0
    split at hE0
    · assumption
    · rename_i h2; exact absurd hE0 h2
  have hk : kind = 1 ∨ kind = 2 := by
    unfold q_bmkE0 at hE0
    rw [if_pos he] at hE0
    split at hE0
    · assumption
    · omega
  split at h
  · omega
  · rename_i hi
    have hK : q_bmkK L k kind = q_bkey kind (q_mkI L (q_bnkA L k) (q_bnkB L k)) ((lget L (q_mkI L (q_bnkA L k) (q_bnkB L k)).toNat free).count + 1) := by unfold q_bmkK; rw [if_pos h']
    rcases mkI_in (L := L) (l := q_bnkB L k) (bnk_ok he).2.1 with e | ⟨a, b, c, d⟩
    · exact absurd e hi
    · rw [hK]
      exact ⟨he, hk, a, b, c, rfl, d, rfl⟩
/-- Behind a split. -/
theorem bs_facts {L : List Obj} {k : Key} {n : Int} (hL : q_okL L) (e : q_bnkE L k = 0) (h : q_bsE L k n = 0) :
    q_okL (q_bsL L k n) ∧ (q_bsL L k n).length = L.length ∧ q_bnkE (q_bsL L k n) k = 0 ∧ q_bnkA (q_bsL L k n) k = q_bnkA L k ∧ q_bnkB (q_bsL L k n) k = q_bnkB L k - n ∧
    q_bnkE (q_bsL L k n) (q_bsK L k n) = 0 ∧ q_bnkA (q_bsL L k n) (q_bsK L k n) = q_bnkB L k - n + 1 ∧ q_bnkB (q_bsL L k n) (q_bsK L k n) = q_bnkB L k ∧ q_bnkA L k ≤ (q_bsK L k n).oid ∧ (q_bsK L k n).oid ≤ q_bnkB L k - n ∧ 1 ≤ n ∧ n ≤ q_bnkB L k - q_bnkA L k ∧
    q_isNew (lget L (q_bsK L k n).oid.toNat free) = true := by
  obtain ⟨ha, a0, a1, a2, a3, a4⟩ := bnk_ok e
  obtain ⟨hok, hk1⟩ := bnk_obj e
  obtain ⟨x1, x2⟩ := okL_len hL
  have h' := h
  unfold q_bsE at h
  split at h
  case isFalse h2 => exact absurd h h2
  rename_i hE0
  split at h
  case isTrue => omega
  rename_i hI
  have hn : 1 ≤ n ∧ n ≤ q_bnkB L k - q_bnkA L k := by
    unfold q_bsE0 at hE0
    rw [if_pos e] at hE0
    split at hE0
    · omega
    · omega
  have hin := mkI_in (L := L) (l := q_bnkB L k) a0
  have hIe : q_mkI L (q_bnkA L k) (q_bnkB L k) = q_bsI L k := rfl
  have hne1 : q_mkI L (q_bnkA L k) (q_bnkB L k) ≠ -1 := by rw [hIe]; omega
  rw [hIe] at hin
  rcases hin with hin | ⟨i1, i2, i3, i4⟩
  · omega
  have hMlen : (q_bsM L k).length = L.length := mkL_len
  have hMok : q_okL (q_bsM L k) := mkL_ok hL a0 (.inl rfl)
  have hMI : lget (q_bsM L k) (q_bsI L k).toNat free = q_newO (lget L (q_bsI L k).toNat free) 1 := mkL_at a0 hne1
  have hMk : lget (q_bsM L k) k.oid.toNat free = lget L k.oid.toNat free := mkL_keep a0 (by omega) (by omega)
  have hne : k.oid.toNat ≠ (q_bsI L k).toNat := fun hh => by
    rw [hh] at hk1
    unfold q_isNew at i4
    simp only [Bool.and_eq_true, decide_eq_true_eq] at i4
    omega
  have hLL : q_bsL L k n = lset (lset (q_bsM L k) (q_bsI L k).toNat (q_bsO1 (lget (q_bsM L k) (q_bsI L k).toNat free) (q_bnkB L k - n + 1) (q_bnkB L k))) k.oid.toNat (q_bsO2 (lget (q_bsM L k) k.oid.toNat free) (q_bnkB L k - n)) := by
    unfold q_bsL; rw [if_pos h']
  have hKK : q_bsK L k n = ⟨4, q_bsI L k, (lget L (q_bsI L k).toNat free).count + 1, 0, 0, 0⟩ := by
    unfold q_bsK; rw [if_pos h', hMI]; rfl
  have o1 : q_objOk (q_bsO1 (lget (q_bsM L k) (q_bsI L k).toNat free) (q_bnkB L k - n + 1) (q_bnkB L k)) (L.length : Int) = true := bsO1_ok (by rw [← hMlen]; exact okL_get hMok _ (by omega)) (by rw [hMI]; rfl)
  have o2 : q_objOk (q_bsO2 (lget (q_bsM L k) k.oid.toNat free) (q_bnkB L k - n)) (L.length : Int) = true := bsO2_ok (by rw [← hMlen]; exact okL_get hMok _ (by omega)) (by rw [hMk]; exact hk1)
  have l1 : (lset (q_bsM L k) (q_bsI L k).toNat (q_bsO1 (lget (q_bsM L k) (q_bsI L k).toNat free) (q_bnkB L k - n + 1) (q_bnkB L k))).length = L.length := by rw [lset_len]; exact hMlen
  have okX := lset_ok (i := (q_bsI L k).toNat) hMok (by rw [hMlen]; exact o1)
  have hlen : (q_bsL L k n).length = L.length := by rw [hLL, lset_len]; exact l1
  have hokL : q_okL (q_bsL L k n) := by rw [hLL]; exact lset_ok okX (by rw [l1]; exact o2)
  have hgk : lget (q_bsL L k n) k.oid.toNat free = q_bsO2 (lget L k.oid.toNat free) (q_bnkB L k - n) := by
    rw [hLL, lget_lset (by omega), if_pos rfl, hMk]
  have hgI : lget (q_bsL L k n) (q_bsI L k).toNat free = q_bsO1 (q_newO (lget L (q_bsI L k).toNat free) 1) (q_bnkB L k - n + 1) (q_bnkB L k) := by
    rw [hLL, lget_lset (by omega), if_neg (Ne.symm hne), lget_lset (by omega), if_pos rfl, hMI]
  have s2 : ∀ (o : Obj) (b : Int), (q_bsO2 o b).slots.at 0 = o.slots.at 0 ∧ (q_bsO2 o b).slots.at 1 = q_num b := fun o b => by
    unfold q_bsO2
    simp only
    rw [Slots.at_put _ _ _ _ (by omega), Slots.at_put _ _ _ _ (by omega)]
    exact ⟨rfl, rfl⟩
  have s1 : ∀ (o : Obj) (a b : Int), (q_bsO1 o a b).slots.at 0 = q_num a ∧ (q_bsO1 o a b).slots.at 1 = q_num b := fun o a b => by
    unfold q_bsO1
    simp only
    rw [Slots.at_put _ _ _ _ (by omega), Slots.at_put _ _ _ _ (by omega), Slots.at_put _ _ _ _ (by omega)]
    exact ⟨rfl, rfl⟩
  have hask : q_asked (q_bsL L k n) k 4 false = 0 := by
    rw [asked_obj hlen (by rw [hgk]; rfl) (by rw [hgk]; rfl) (by rw [hgk]; rfl)]; exact ha
  unfold q_bnkOk at hok
  simp only [Bool.and_eq_true, decide_eq_true_eq] at hok
  obtain ⟨⟨⟨⟨c1, c2⟩, c3⟩, c4⟩, c5⟩ := hok
  have hA' : q_bnkA (q_bsL L k n) k = q_bnkA L k := by unfold q_bnkA; rw [hgk, (s2 _ _).1]
  have hB' : q_bnkB (q_bsL L k n) k = q_bnkB L k - n := by
    have : q_bnkB (q_bsL L k n) k = ((q_bsO2 (lget L k.oid.toNat free) (q_bnkB L k - n)).slots.at 1).value := by rw [← hgk]; rfl
    rw [this, (s2 _ _).2]; rfl
  have hE' : q_bnkE (q_bsL L k n) k = 0 := (bnkE_yes hask (by
    rw [hgk]
    unfold q_bnkOk llen
    rw [(s2 _ _).1, (s2 _ _).2, hlen]
    have v0 : ((lget L k.oid.toNat free).slots.at 0).value = q_bnkA L k := rfl
    simp only [q_num, Bool.and_eq_true, decide_eq_true_eq]
    refine ⟨⟨⟨⟨c1, ?_⟩, c3⟩, ?_⟩, ?_⟩
    · trivial
    · exact decide_eq_true (by omega)
    · exact decide_eq_true (by omega))).1
  have i4' := i4
  unfold q_isNew at i4'
  simp only [Bool.and_eq_true, decide_eq_true_eq] at i4'
  have hcb := obj_cnt (okL_get hL (q_bsI L k).toNat (by omega))
  have hkey : q_keyOk (q_bsK L k n) = true := by
    rw [hKK]
    unfold q_keyOk q_within
    simp only [q_isO, q_isC, q_isV, q_most]
    simp
    omega
  have hoid : (q_bsK L k n).oid = q_bsI L k := by rw [hKK]
  have hisO : q_isO (q_bsK L k n).kind = true := by rw [hKK]; rfl
  have hnm : q_named (q_bsK L k n) = true := by unfold q_named; rw [hkey, hisO]; rfl
  have hnames : q_names (q_bsK L k n) = q_bsI L k := by unfold q_names; rw [hkey, hisO, hoid]; rfl
  have hcounts : q_counts (q_bsK L k n) (lget (q_bsL L k n) (q_bsK L k n).oid.toNat free) = true := by
    unfold q_counts q_wants
    rw [hkey, hnames, hoid, hgI, if_neg (by omega), hKK]
    simp [q_bsO1, q_newO]
  have his : q_is (q_bsL L k n) (q_bsK L k n) = true := by
    unfold q_is
    rw [hnm, hcounts, has_ok.2 ⟨by omega, by omega⟩]; rfl
  have hask2 : q_asked (q_bsL L k n) (q_bsK L k n) 4 false = 0 := by
    unfold q_asked llen
    rw [if_neg (by omega), if_neg (by rw [his, hKK]; simp), if_neg (by simp)]
  have hobj : lget (q_bsL L k n) (q_bsK L k n).oid.toNat free = q_bsO1 (q_newO (lget L (q_bsI L k).toNat free) 1) (q_bnkB L k - n + 1) (q_bnkB L k) := by rw [hoid]; exact hgI
  refine ⟨hokL, hlen, hE', hA', hB', (bnkE_yes hask2 ?_).1, ?_, ?_, by rw [hoid]; exact i1, by rw [hoid]; omega, hn.1, hn.2, by rw [hoid]; exact i4⟩
  · rw [hobj]
    unfold q_bnkOk llen
    rw [(s1 _ _ _).1, (s1 _ _ _).2, hlen]
    simp only [q_num, Bool.and_eq_true, decide_eq_true_eq]
    refine ⟨⟨⟨⟨?_, ?_⟩, ?_⟩, ?_⟩, ?_⟩
    · trivial
    · trivial
    · exact decide_eq_true (by omega)
    · exact decide_eq_true (by omega)
    · exact decide_eq_true (by omega)
  · unfold q_bnkA; rw [hobj, (s1 _ _ _).1]; rfl
  · have : q_bnkB (q_bsL L k n) (q_bsK L k n) = ((q_bsO1 (q_newO (lget L (q_bsI L k).toNat free) 1) (q_bnkB L k - n + 1) (q_bnkB L k)).slots.at 1).value := by rw [← hobj]; rfl
    rw [this, (s1 _ _ _).2]; rfl
def q_invBs (l : List Obj) (k : Key) (n : Int) (x : List Int) (g : Int × List Obj) : Prop := 0 ≤ g.1 ∧ g.1 ≤ (llen x : Int) ∧ q_okL g.2 ∧ q_bnkE g.2 k = 0 ∧ q_bnkA g.2 k = q_bnkA (q_bsL l k n) k ∧ q_bnkB g.2 k = q_bnkB (q_bsL l k n) k ∧ q_bnkE g.2 (q_bsK l k n) = 0 ∧ q_bnkA g.2 (q_bsK l k n) = q_bnkA (q_bsL l k n) (q_bsK l k n) ∧ q_bnkB g.2 (q_bsK l k n) = q_bnkB (q_bsL l k n) (q_bsK l k n)
def q_muBs (x : List Int) (g : Int × List Obj) : Nat := llen x - g.1.toNat
end Go.Sx
