/- The executor: stores into rows that are owned. No condition. -/
import Derived.Test.YtjpcaplhblomcaaSx10w
set_option linter.unusedVariables false
set_option linter.unusedSimpArgs false
namespace Go.Sx
open Go.RowKit (Below)

theorem take_seg {α : Type} (l vs : List α) (off m : Nat) (hm : off + vs.length ≤ m) (hl : m ≤ l.length) :
    (l.take off ++ vs ++ l.drop (off + vs.length)).take m = (l.take m).take off ++ vs ++ (l.take m).drop (off + vs.length) := by
  have h1 : (l.take off ++ vs).length = off + vs.length := by simp; omega
  rw [List.take_append, List.take_of_length_le (by rw [h1]; exact hm), h1, List.take_take, Nat.min_eq_left (by omega), List.drop_take]

/-- Cells are written in a row that is owned. -/
theorem run_own_store {P : Program} {w : World} {e size n cap g : Nat} {xs : List Value} (hown : w.ownsRow 0 e size (.slice (some ⟨g, 0, none⟩) n cap) n xs) (vs : List Value) (off : Nat)
    (h1 : ∀ v ∈ vs, v.oneCell' = true) (hoff : off + vs.length ≤ n * size) :
    ∃ w', (storeCells ⟨g, off, none⟩ vs 0).run P w = .ok () w' ∧ w'.ownsRow 0 e size (.slice (some ⟨g, 0, none⟩) n cap) n (xs.take off ++ vs ++ xs.drop (off + vs.length)) ∧ w.grownBy w' (some g) := by
  rcases hown.2 with ⟨h, _⟩ | ⟨g', cap', cur, h, hb, hg, hnc, hcm, hcs, htake⟩
  · simp at h
  · simp only [Value.slice.injEq, Option.some.injEq, Addr.mk.injEq, and_true, true_and] at h
    obtain ⟨rfl, rfl⟩ := h
    have hle : n * size ≤ cur.size := by rw [hcs]; exact Nat.mul_le_mul_right _ hnc
    have hst := run_storeCells_at (P := P) g off e vs 0 cur w hg (by omega) h1
    simp only [Nat.add_zero] at hst
    refine ⟨_, hst, ⟨?_, .inr ⟨g, cap, _, rfl, hb, setRow_heap w g cur _ e _ hg, hnc, hcm, ?_, ?_⟩⟩, ⟨rfl, rfl, rfl, by simp [World.setRow], fun k _ hk => setRow_other w g _ k (fun e => hk (by simp [e]))⟩⟩
    · have := hown.1
      simp only [List.length_append, List.length_take, List.length_drop]
      omega
    · simp only [List.size_toArray, List.length_append, List.length_take, List.length_drop, Array.length_toList]
      omega
    · simp only [List.toList_toArray]
      rw [take_seg _ _ _ _ hoff (by simpa using hle), htake]

/-- A place is turned where it is; some are gone; marks are new. -/
theorem HRep.inplace {ρ ρ' : Env} {fps : Nat → Nat → Prop} {res : List Res} {w0 : World} {F0 : Nat → Prop} {w w' : World} (h : HRep ρ fps res (known res) w0 F0 w) (ts : List Nat) (j : Nat) (r : Res) (ms : List Res) (fp : Nat → Prop)
    (hms : ∀ m ∈ ms, ∃ j, m = .gen j) (hts : ∀ t ∈ ts, known res t) (hj : known res j) (hjt : j ∉ ts) (hr : r ≠ .yet) (hag : Env.agree (known res) ρ ρ')
    (hh : r.holds (known (goneL ts (rset res j r) ++ ms)) ρ' j fp w0 F0 w') (hfp : ∀ b, fp b → fps j b ∨ (∃ t ∈ ts, fps t b) ∨ (w.heap.size ≤ b ∧ b < w'.heap.size))
    (hos : w'.os = w.os) (htape : w'.tape = w.tape) (hout : w'.output = w.output) (hsize : w.heap.size ≤ w'.heap.size)
    (hsame : ∀ b, b < w.heap.size → ¬ fps j b → (∀ t ∈ ts, ¬ fps t b) → w'.heap[b]? = w.heap[b]?) :
    ∃ fps', HRep ρ' fps' (goneL ts (rset res j r) ++ ms) (known (goneL ts (rset res j r) ++ ms)) w0 F0 w' ∧ Env.agree (known res) ρ ρ' ∧ (∀ i, known res i → known (goneL ts (rset res j r) ++ ms) i) := by
  have hlj := rget_lt hj
  have hlt : ∀ t ∈ ts, t < (rset res j r).length := fun t ht => by rw [rset_length]; exact rget_lt (hts t ht)
  have hget : ∀ i, rget (goneL ts (rset res j r) ++ ms) i = if i < res.length then (if i ∈ ts then .gone else if i = j then r else rget res i) else rget ms (i - res.length) := by
    intro i
    rw [rget_append, goneL_length, rset_length]
    by_cases hi : i < res.length
    · rw [if_pos hi, if_pos hi, rget_goneL ts _ i hlt, rget_rset _ _ _ _ hlj]
    · rw [if_neg hi, if_neg hi]
  have hmget : ∀ k, rget ms k = .yet ∨ ∃ j, rget ms k = .gen j := fun k => by
    rw [rget_eq, List.getD_eq_getElem?_getD]
    cases hm : ms[k]? with
    | none => exact .inl rfl
    | some m =>
      obtain ⟨j, rfl⟩ := hms m (List.mem_of_getElem? hm)
      exact .inr ⟨j, rfl⟩
  have hmono : ∀ i, known res i → known (goneL ts (rset res j r) ++ ms) i := fun i hi => by
    unfold known
    rw [hget, if_pos (rget_lt hi)]
    split
    · simp
    · split
      · exact hr
      · exact hi
  obtain ⟨fps', g⟩ := h.turn (res' := goneL ts (rset res j r) ++ ms) (K' := known (goneL ts (rset res j r) ++ ms)) (fun i => i ∈ ts ∨ i = j) (fun i => i ∈ ts ∨ i = j ∨ res.length ≤ i) (fun i b => i = j ∧ fp b)
    (fun i hi => hi) hmono hag (fun i hi hb => by
      have hi' := hi
      unfold known at hi'
      rw [hget] at hi'
      have h1 : i ∉ ts := fun e => hb (.inl e)
      have h2 : i ≠ j := fun e => hb (.inr (.inl e))
      have hl : i < res.length := by
        rcases Nat.lt_or_ge i res.length with h | h
        · exact h
        · exact absurd (.inr (.inr h)) hb
      rw [if_pos hl, if_neg h1, if_neg h2] at hi'
      exact ⟨hi', fun e => e.elim h1 h2, by rw [hget, if_pos hl, if_neg h1, if_neg h2]⟩)
    (fun i hi hb => by
      by_cases e : i = j
      · subst e
        refine ⟨?_, fun b hf => ?_⟩
        · rw [hget, if_pos hlj, if_neg hjt, if_pos rfl]
          have : (fun b => i = i ∧ fp b) = fp := by funext b; simp
          rw [this]; exact hh
        · rcases hfp b hf.2 with hf | ⟨t, ht, hft⟩ | hn
          · exact .inl ⟨i, .inr rfl, hj, hf⟩
          · exact .inl ⟨t, .inl ht, hts t ht, hft⟩
          · exact .inr hn
      · refine ⟨?_, fun b hf => absurd hf.1 e⟩
        rw [hget]
        by_cases hl : i < res.length
        · rw [if_pos hl, if_pos (hb.resolve_right fun hh => hh.elim e (by omega))]
          trivial
        · rw [if_neg hl]
          rcases hmget (i - res.length) with h | ⟨j, h⟩ <;> rw [h] <;> trivial)
    (fun i j b _ _ hne hf hf' => hne (hf.1.trans hf'.1.symm))
    hos htape hout hsize (fun b hb hno => hsame b hb (hno j (.inr rfl) hj) fun t ht => hno t (.inl ht) (hts t ht))
  exact ⟨fps', g, hag, hmono⟩

def lset {α : Type} (l : List α) (i : Nat) (x : α) : List α := l.set i x

/-- An element is replaced. -/
def tlSet (l : TL) (i : Nat) (v : V) : Option TL :=
  match l with
  | .ob l => match v with
    | .ob o => some (.ob (lset l i o))
    | _ => none
  | .key l => match v with
    | .key k => some (.key (lset l i k))
    | _ => none
  | .it k l => match toInt v with
    | some (k', n) => if k == k' then some (.it k (lset l i n)) else none
    | none => none
  | .bo l => match toBool v with
    | some b => some (.bo (lset l i b))
    | none => none
  | .st l => match v with
    | .st s => some (.st (lset l i s))
    | _ => none
  | .fn _ _ => none

/-- What a replaced element is. -/
def Setted (K : Nat → Prop) (l : TL) (i : Nat) (v : V) (l' : TL) : Prop :=
  l'.len = l.len ∧ (∀ j, j ≠ i → l'.get j = l.get j) ∧ (i < l.len → (∀ ρ, cells ρ (l'.get i) = cells ρ v) ∧ (ok K v → ok (fun _ => False) (l'.get i)) ∧ isTp (l'.get i) = false ∧ vsz (l'.get i) = vsz v)

theorem lget_set {α : Type} (l : List α) (i : Nat) (x d : α) : (∀ j, j ≠ i → lget (lset l i x) j d = lget l j d) ∧ (i < l.length → lget (lset l i x) i d = x) := by
  unfold lget lset
  refine ⟨fun j hj => ?_, fun hi => ?_⟩
  · simp [List.getD_eq_getElem?_getD, List.getElem?_set, Ne.symm hj]
  · simp [List.getD_eq_getElem?_getD, List.getElem?_set, hi]

theorem tlSet_spec {K : Nat → Prop} {l l' : TL} {i : Nat} {v : V} (h : tlSet l i v = some l') : Setted K l i v l' := by
  unfold tlSet at h
  cases l with
  | fn n g => simp at h
  | ob l =>
    cases v <;> simp only [Option.some.injEq, reduceCtorEq] at h
    subst h
    rename_i o
    obtain ⟨a, b⟩ := lget_set l i o free
    exact ⟨by simp [TL.len, llen, lset], fun j hj => congrArg V.ob (a j hj), fun hi => ⟨fun ρ => by simp only [TL.get, b hi], fun hk => by simp only [TL.get, b hi]; exact hk, rfl, rfl⟩⟩
  | key l =>
    cases v <;> simp only [Option.some.injEq, reduceCtorEq] at h
    subst h
    rename_i o
    obtain ⟨a, b⟩ := lget_set l i o void
    exact ⟨by simp [TL.len, llen, lset], fun j hj => congrArg V.key (a j hj), fun hi => ⟨fun ρ => by simp only [TL.get, b hi], fun hk => by simp only [TL.get, b hi]; exact hk, rfl, rfl⟩⟩
  | it k l =>
    simp only at h
    split at h
    · rename_i k' n hn
      split at h <;> simp only [Option.some.injEq, reduceCtorEq] at h
      rename_i hk
      have hk := beq_iff_eq.1 hk
      subst hk; subst h
      obtain ⟨a, b⟩ := lget_set l i n 0
      obtain ⟨c1, c2, c3⟩ := toInt_added (K := K) hn
      exact ⟨by simp [TL.len, llen, lset], fun j hj => congrArg (V.it k) (a j hj), fun hi => ⟨fun ρ => by simp only [TL.get, b hi]; exact c1 ρ, fun hk => by simp only [TL.get, b hi]; exact c2 hk, rfl, c3⟩⟩
    · simp at h
  | bo l =>
    simp only at h
    split at h <;> simp only [Option.some.injEq, reduceCtorEq] at h
    rename_i b hb
    subst h
    obtain ⟨a, b'⟩ := lget_set l i b false
    obtain ⟨c1, c3⟩ := toBool_added hb
    exact ⟨by simp [TL.len, llen, lset], fun j hj => congrArg V.bo (a j hj), fun hi => ⟨fun ρ => by simp only [TL.get, b' hi]; exact c1 ρ, fun _ => trivial, rfl, c3⟩⟩
  | st l =>
    cases v <;> simp only [Option.some.injEq, reduceCtorEq] at h
    subst h
    rename_i o
    obtain ⟨a, b⟩ := lget_set l i o ByteArray.empty
    exact ⟨by simp [TL.len, llen, lset], fun j hj => congrArg V.st (a j hj), fun hi => ⟨fun ρ => by simp only [TL.get, b hi], fun hk => by simp only [TL.get, b hi]; exact hk, rfl, rfl⟩⟩

theorem flat_len {α : Type} {f : Nat → List α} {esz : Nat} : ∀ {n : Nat}, (∀ j, j < n → (f j).length = esz) → ((List.range n).flatMap f).length = n * esz
  | 0, _ => by simp
  | n + 1, h => by
    rw [List.range_succ, List.flatMap_append, List.length_append, flat_len fun j hj => h j (by omega)]
    simp [h n (by omega), Nat.succ_mul]

theorem flat_set {α : Type} {f f' : Nat → List α} {esz : Nat} : ∀ {n i : Nat}, (∀ j, j < n → (f j).length = esz) → (∀ j, j < n → j ≠ i → f' j = f j) → (f' i).length = esz → i < n →
    (List.range n).flatMap f' = ((List.range n).flatMap f).take (i * esz) ++ f' i ++ ((List.range n).flatMap f).drop (i * esz + esz)
  | 0, i, _, _, _, hi => by omega
  | n + 1, i, h, hf, hl, hi => by
    have hlen : ((List.range n).flatMap f).length = n * esz := flat_len fun j hj => h j (by omega)
    rw [List.range_succ, List.flatMap_append, List.flatMap_append]
    simp only [List.flatMap_cons, List.flatMap_nil, List.append_nil]
    by_cases e : i = n
    · subst e
      have e1 : (List.range i).flatMap f' = (List.range i).flatMap f := by
        rw [List.flatMap_def, List.flatMap_def]
        congr 1
        exact List.map_congr_left fun j hj => hf j (by have := List.mem_range.1 hj; omega) (by have := List.mem_range.1 hj; omega)
      rw [e1, List.take_append, List.take_of_length_le (by omega), hlen, Nat.sub_self, List.take_zero, List.append_nil, List.drop_of_length_le (by simp [hlen, h i (by omega)]), List.append_nil]
    · have hin : i < n := by omega
      have hm : i * esz + esz ≤ n * esz := by rw [← Nat.succ_mul]; exact Nat.mul_le_mul_right _ hin
      rw [flat_set (fun j hj => h j (by omega)) (fun j hj hne => hf j (by omega) hne) hl hin, hf n (by omega) (fun e' => e e'.symm)]
      rw [List.take_append_of_le_length (by omega), List.drop_append_of_le_length (by omega)]
      simp only [List.append_assoc]

/-- A store into a row that is owned. -/
def storeW (P : Program) (res : List Res) (t : Nat) (p y : V) : Option (Option Prop × List Res) :=
  match p with
  | .ap j esz i off => if tsz P t == some (vsz y) && !isTp y && vsz y == esz && off == 0 then
      match rget res j with
      | .arr (some e) esz' l => if esz == esz' then (tlSet l i y).map fun l' => (some (pLt i l.len), rset res j (.arr (some e) esz l')) else none
      | .obs ty _ L => match objOf res y with
        | some (k, o) => if esz == 1 then some (some (pLt i (llen L)), goneL [k] (rset res j (.obs ty res.length (lset L i o))) ++ [.gen j]) else none
        | none => none
      | _ => none
    else none
  | _ => none

def Env.setOb (ρ : Env) (q : Nat) (f : Nat → Nat) : Env := { ρ with ob := fun j => if j = q then f else ρ.ob j }

theorem setOb_agree {N : Nat → Prop} {ρ : Env} {q : Nat} {f : Nat → Nat} (h : ¬ N q) : Env.agree N ρ (ρ.setOb q f) := fun j hj => by
  have : j ≠ q := fun e => h (e ▸ hj)
  simp [Env.setOb, this]

section
variable {P : Program} {ρ : Env} {fps : Nat → Nat → Prop} {res : List Res} {w0 w : World} {F0 : Nat → Prop}

theorem run_storeVar {t : Nat} {y : V} {K : Nat → Prop} {b off : Nat} {w' : World} (hs : tsz P t = some (vsz y)) (hy : ok K y) (h : (storeCells ⟨b, off, none⟩ (cells ρ y) 0).run P w = .ok () w') :
    (Instr.storeAt t (.pointer (some ⟨b, off, none⟩)) (den ρ y)).run P w = .ok () w' := by
  have hz : (den ρ y).cells.size = vsz y := by rw [← cells_length ρ y hy]; simp [cells]
  simp only [Instr.storeAt, Instr.sureAddr, storeVar, Sem.run_bind, Sem.run_pure, run_tsz w hs, Result.andThen_ok, hz, ne_eq, not_true_eq_false, if_false]
  rw [show (den ρ y).cells.toList = cells ρ y from rfl, h]

theorem storeW_spec {t : Nat} {p y : V} {q : Option Prop} {res' : List Res} (h : HRep ρ fps res (known res) w0 F0 w) (hs : storeW P res t p y = some (q, res')) (hq : holdsO q) (hp : ok (known res) p) (hy : ok (known res) y) :
    ∃ w' ρ' fps', (Instr.storeAt t (den ρ p) (den ρ y)).run P w = .ok () w' ∧ HRep ρ' fps' res' (known res') w0 F0 w' ∧ Env.agree (known res) ρ ρ' ∧ ∀ i, known res i → known res' i := by
  unfold storeW at hs
  split at hs
  · rename_i j esz i off
    split at hs
    · rename_i hc
      simp only [Bool.and_eq_true, beq_iff_eq, Bool.not_eq_true'] at hc
      obtain ⟨⟨⟨hts, hty⟩, hvs⟩, rfl⟩ := hc
      have hkj : known res j := hp
      have hj := h.holds j hkj
      split at hs
      · rename_i e esz' l hr
        rw [hr] at hj
        split at hs
        · rename_i he
          have he := beq_iff_eq.1 he
          subst he
          cases hl : tlSet l i y with
          | none => simp [hl] at hs
          | some l' =>
            simp only [hl, Option.map_some, Option.some.injEq, Prod.mk.injEq] at hs
            obtain ⟨rfl, rfl⟩ := hs
            have hi : i < l.len := hq
            obtain ⟨s1, s2, s3⟩ := tlSet_spec (K := known res) hl
            obtain ⟨t1, t2, t3, t4⟩ := s3 hi
            obtain ⟨a1, a2, a3, a4, a5, a6, a7⟩ := hj
            rcases a7 with ⟨b1, _⟩ | ⟨e2, b1, b2, b3⟩
            · simp at b1
            · have := b1 e rfl
              subst this
              obtain ⟨g, f1, f2, f3, f4⟩ := owns_form b2 (by omega)
              have hadr := a4 _ f1
              have hm : i * esz + esz ≤ l.len * esz := by rw [← Nat.succ_mul]; exact Nat.mul_le_mul_right _ hi
              have hlen : ∀ j, j < l.len → (cells Env.zero (l.get j)).length = esz := fun j hj => by rw [cells_length Env.zero _ (a1 j hj).1]; exact (a1 j hj).2.2
              have hsl : ρ.sl j = .slice (some ⟨g, 0, none⟩) l.len (ρ.cap j) := by simp [Env.sl, f1, f2]
              rw [hsl] at b2
              have hcy := cells_length ρ y hy
              have hcz : cells ρ y = cells Env.zero (l'.get i) := by
                rw [← t1 ρ]
                exact cells_agree (N := fun _ => False) (fun _ h => h.elim) _ (t2 hy)
              obtain ⟨w', r1, r2, r3⟩ := run_own_store (P := P) b2 (cells ρ y) (i * esz) (cells_oneCell ρ y hy hty) (by omega)
              have hfj : fps j g := b3 _ f1
              obtain ⟨fps', g1, g2, g3⟩ := h.inplace (ρ' := ρ) (w' := w') [] j (.arr (some e) esz l') [] (fps j) (by simp) (by simp) hkj (by simp) (by simp) (Env.agree.refl _ _)
                (by
                  refine ⟨fun k hk => ?_, by rw [s1]; exact a2, by rw [s1]; exact a3, a4, by rw [s1]; exact a5, by rw [s1]; exact a6, .inr ⟨e, fun e' he => by simpa using he.symm, ?_, b3⟩⟩
                  · by_cases ek : k = i
                    · subst ek; exact ⟨t2 hy, t3, t4.trans hvs⟩
                    · rw [s2 k ek]; exact a1 k (by omega)
                  · rw [hsl, s1]
                    have : l'.cells = l.cells.take (i * esz) ++ cells ρ y ++ l.cells.drop (i * esz + (cells ρ y).length) := by
                      unfold TL.cells
                      rw [s1, hcz, flat_set (f := fun j => cells Env.zero (l.get j)) (f' := fun j => cells Env.zero (l'.get j)) (i := i) hlen (fun j _ hne => by simp only [s2 j hne]) (by rw [← hcz, hcy]; exact hvs) hi, ← hcz, hcy, hvs]
                    rw [this]
                    exact r2)
                (fun b hb => .inl hb) r3.os r3.tape r3.output r3.size (fun b hb hno _ => r3.block b hb fun e => hno (by simp only [Option.some.injEq] at e; rw [e]; exact hfj))
              refine ⟨w', ρ, fps', ?_, by simpa [goneL] using g1, g2, by simpa [goneL] using g3⟩
              simp only [den]
              rw [← hadr]
              simp only [Nat.zero_add, Nat.add_zero]
              exact run_storeVar hts hy r1
        · simp at hs
      · rename_i ty q0 L hr
        rw [hr] at hj
        split at hs
        · rename_i k o hob
          obtain ⟨rfl, bt, hrk⟩ := objOf_spec hob
          split at hs <;> simp only [Option.some.injEq, Prod.mk.injEq, reduceCtorEq] at hs
          rename_i he
          have he := beq_iff_eq.1 he
          subst he
          obtain ⟨rfl, rfl⟩ := hs
          have hi : i < L.length := hq
          obtain ⟨a0, a1, a2, a3, a4, a5, a6, a7⟩ := hj
          have hkk : known res k := by unfold known; rw [hrk]; simp
          have hne : j ≠ k := fun e => by rw [e, hrk] at hr; simp at hr
          have hk := h.holds k hkk
          rw [hrk] at hk
          obtain ⟨k1, _, k3, k4⟩ := hk
          have k1 : o.wf := k1
          rw [cells_ob] at k4
          obtain ⟨g, f1, f2, f3, f4⟩ := owns_form a6 (by omega)
          obtain ⟨hadr, hfj⟩ := a4 _ f1
          have hfj : fps j g := hfj
          have hsl : ρ.sl j = .slice (some ⟨g, 0, none⟩) L.length (ρ.cap j) := by simp [Env.sl, f1, f2]
          have a6' := a6
          rw [hsl] at a6
          obtain ⟨w', r1, r2, r3⟩ := run_own_store (P := P) a6 (cells ρ (.lp k 0)) i (by simp [cells, den, Value.cells, Value.oneCell']) (by simp [cells, den, Value.cells]; omega)
          have hnk : ¬ known res res.length := fun hk => by have := rget_lt hk; omega
          have hgb : ∀ x y, w.heap[x]? = some y → x ≠ g → w'.heap[x]? = some y := fun x y hy hne => by
            rw [r3.block x (Array.getElem?_eq_some_iff.1 hy).1 fun hh => hne (by simpa using hh)]; exact hy
          have hkg : ρ.num k ≠ g := fun e => h.disj j k g hkj hkk hne hfj (e ▸ k3)
          have hog : ∀ x, x < L.length → ρ.ob q0 x ≠ g := fun x hx => by
            obtain ⟨_, t, hti⟩ := a7 x hx
            exact ptrs_not_obj a6 (fun i => ⟨_, rfl⟩) (by rfl) hti (by omega)
          have hnr : known (goneL [k] (rset res j (.obs ty res.length (lset L i o))) ++ [.gen j]) res.length := by
            unfold known; rw [rget_append, goneL_length, rset_length, if_neg (by omega)]; simp [rget]
          have hll : (lset L i o).length = L.length := by simp [lset]
          obtain ⟨fps', g1, g2, g3⟩ := h.inplace (ρ' := ρ.setOb res.length (fun x => if x = i then ρ.num k else ρ.ob q0 x)) (w' := w') [k] j (.obs ty res.length (lset L i o)) [.gen j] (fun b => fps j b ∨ fps k b) (by simp) (by simpa using hkk) hkj (by simpa using hne) (by simp)
            (setOb_agree hnk)
            (by
              refine ⟨hnr, fun x hx => ?_, by rw [hll]; exact a2, by rw [hll]; exact a3, fun a ha => ⟨(a4 a ha).1, .inl (a4 a ha).2⟩, by rw [hll]; exact a5, ?_, fun x hx => ?_⟩
              · rcases List.mem_or_eq_of_mem_set hx with hx | rfl
                · exact a1 x hx
                · exact k1
              · rw [hll, show (ρ.setOb res.length (fun x => if x = i then ρ.num k else ρ.ob q0 x)).sl j = ρ.sl j from rfl, hsl]
                have : ((List.range L.length).map fun x => Value.pointer (some ⟨(ρ.setOb res.length (fun x => if x = i then ρ.num k else ρ.ob q0 x)).ob res.length x, 0, none⟩)) =
                    ((List.range L.length).map fun x => Value.pointer (some ⟨ρ.ob q0 x, 0, none⟩)).take i ++ cells ρ (.lp k 0) ++ ((List.range L.length).map fun x => Value.pointer (some ⟨ρ.ob q0 x, 0, none⟩)).drop (i + (cells ρ (.lp k 0)).length) := by
                  have hl1 : (cells ρ (.lp k 0)).length = 1 := rfl
                  rw [hl1]
                  apply List.ext_getElem?
                  intro x
                  rw [List.append_assoc]
                  by_cases hx : x < i
                  · rw [List.getElem?_append_left (by simp; omega)]
                    have : x ≠ i := by omega
                    have : x < L.length := by omega
                    simp [Env.setOb, List.getElem?_take, hx, *]
                  · rw [List.getElem?_append_right (by simp; omega)]
                    have hti : (List.take i (List.map (fun x => Value.pointer (some ⟨ρ.ob q0 x, 0, none⟩)) (List.range L.length))).length = i := by simp; omega
                    rw [hti]
                    by_cases hxi : x = i
                    · subst hxi
                      simp [Env.setOb, hi, cells, den, Value.cells]
                    · rw [List.getElem?_append_right (by omega), List.getElem?_drop, hl1, show i + 1 + (x - i - 1) = x by omega]
                      by_cases hxl : x < L.length
                      · simp [Env.setOb, hxi, hxl]
                      · simp [hxl]
                rw [this]
                exact r2
              · rw [hll] at hx
                have hob : (ρ.setOb res.length (fun x => if x = i then ρ.num k else ρ.ob q0 x)).ob res.length x = if x = i then ρ.num k else ρ.ob q0 x := by simp [Env.setOb]
                rw [hob]
                by_cases hxi : x = i
                · rw [if_pos hxi]
                  refine ⟨.inr k3, bt, ?_⟩
                  rw [show (lset L i o).getD x free = o by subst hxi; simp [lset, List.getD_eq_getElem?_getD, hi]]
                  exact hgb _ _ k4 hkg
                · rw [if_neg hxi]
                  obtain ⟨c1, t, c2⟩ := a7 x hx
                  refine ⟨.inl c1, t, ?_⟩
                  rw [show (lset L i o).getD x free = L.getD x free by simp [lset, List.getD_eq_getElem?_getD, List.getElem?_set, Ne.symm hxi]]
                  exact hgb _ _ c2 (hog x hx))
            (fun b hb => hb.elim .inl fun hb => .inr (.inl ⟨k, by simp, hb⟩)) r3.os r3.tape r3.output r3.size (fun b hb hno _ => r3.block b hb fun e => hno (by simp only [Option.some.injEq] at e; rw [e]; exact hfj))
          refine ⟨w', _, fps', ?_, g1, g2, g3⟩
          have hd : den ρ (.ap j 1 i 0) = .pointer (some ⟨g, i, none⟩) := by
            simp only [den]
            rw [← hadr]
            simp
          rw [hd]
          exact run_storeVar hts hy r1
        · simp at hs
      · simp at hs
    · simp at hs
  · simp at hs

end
end Go.Sx
