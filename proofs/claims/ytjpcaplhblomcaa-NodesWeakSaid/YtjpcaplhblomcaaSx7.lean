/- The executor: an element at an index that is a term, out of values that are written out. No condition. -/
import Derived.Test.YtjpcaplhblomcaaSx6
set_option linter.unusedVariables false
set_option linter.unusedSimpArgs false
namespace Go.Sx

def allM {α β : Type} (g : α → Option β) : List α → Option (List β)
  | [] => some []
  | x :: l => match g x, allM g l with
    | some y, some ys => some (y :: ys)
    | _, _ => none

theorem allM_length {α β : Type} {g : α → Option β} : ∀ {l : List α} {r : List β}, allM g l = some r → r.length = l.length
  | [], r, h => by simp only [allM, Option.some.injEq] at h; subst h; rfl
  | x :: l, r, h => by
    simp only [allM] at h
    split at h
    · rename_i y ys _ hys
      simp only [Option.some.injEq] at h
      subst h
      simp [allM_length hys]
    · simp at h

theorem allM_get {α β : Type} {g : α → Option β} : ∀ {l : List α} {r : List β}, allM g l = some r → ∀ (i : Nat) (x : α), l[i]? = some x → ∃ y, r[i]? = some y ∧ g x = some y
  | [], r, h, i, x, hx => by simp at hx
  | a :: l, r, h, i, x, hx => by
    simp only [allM] at h
    split at h
    · rename_i y ys hy hys
      simp only [Option.some.injEq] at h
      subst h
      cases i with
      | zero => simp only [List.getElem?_cons_zero, Option.some.injEq] at hx; subst hx; exact ⟨y, rfl, hy⟩
      | succ i => simp only [List.getElem?_cons_succ] at hx ⊢; exact allM_get hys i x hx
    · simp at h

def asI (k : IntKind) : V → Option Int
  | .ci k' n => if k' == k then some n else none
  | .it k' n => if k' == k then some n else none
  | _ => none
def asStr : V → Option ByteArray
  | .st s => some s
  | _ => none
def asKey : V → Option Key
  | .key k => some k
  | _ => none
def asAg : V → Option (List V)
  | .ag l => some l
  | _ => none

/-- The columns of rows. -/
def colsOf (g : List V → Option V) (rows : List (List V)) : Nat → Nat → Option (List V)
  | _, 0 => some []
  | j, n + 1 => match allM (fun m : List V => m[j]?) rows with
    | none => none
    | some c => match g c, colsOf g rows (j + 1) n with
      | some x, some xs => some (x :: xs)
      | _, _ => none

/-- The element of a list at an index that is a term. -/
def selV : Nat → List V → Nat → Option V
  | 0, _, _ => none
  | f + 1, l, i => match l with
    | [] => none
    | x :: _ => match x with
      | .ci k _ => (allM (asI k) l).map fun ns => .it k (lget ns i 0)
      | .it k _ => (allM (asI k) l).map fun ns => .it k (lget ns i 0)
      | .cb _ => (allM toBool l).map fun bs => .bo (lget bs i false)
      | .bo _ => (allM toBool l).map fun bs => .bo (lget bs i false)
      | .st _ => (allM asStr l).map fun bs => .st (lget bs i ByteArray.empty)
      | .key _ => (allM asKey l).map fun bs => .key (lget bs i void)
      | .ag m => match allM asAg l with
        | none => none
        | some rows => if rows.all fun r => r.length == m.length then (colsOf (fun c => selV f c i) rows 0 m.length).map .ag else none
      | _ => none

/-- One value stands for another. -/
def Like (ρ : Env) (K : Nat → Prop) (r x : V) : Prop := cells ρ r = cells ρ x ∧ isAg r = isAg x ∧ ok K r ∧ isTp r = false

theorem getD_of {α : Type} {l : List α} {i : Nat} {a d : α} (h : l[i]? = some a) : l.getD i d = a := by simp [List.getD_eq_getElem?_getD, h]

theorem colsOf_spec {ρ : Env} {K : Nat → Prop} {g : List V → Option V} {i : Nat} {rows : List (List V)} {row : List V} (hrow : rows[i]? = some row)
    (hg : ∀ c r x, g c = some r → c[i]? = some x → (∀ y ∈ c, ok K y ∧ isTp y = false) → Like ρ K r x) (hok : ∀ m ∈ rows, ∀ y ∈ m, ok K y ∧ isTp y = false) :
    ∀ (n j : Nat) (rs : List V), colsOf g rows j n = some rs → rs.length = n ∧ (∀ k, k < n → ∃ r x, rs[k]? = some r ∧ row[j + k]? = some x ∧ Like ρ K r x)
  | 0, j, rs, h => by simp only [colsOf, Option.some.injEq] at h; subst h; exact ⟨rfl, fun k hk => absurd hk (by omega)⟩
  | n + 1, j, rs, h => by
    simp only [colsOf] at h
    split at h
    · simp at h
    · rename_i c hc
      split at h
      · rename_i x xs hx hxs
        simp only [Option.some.injEq] at h
        subst h
        obtain ⟨h1, h2⟩ := colsOf_spec hrow hg hok n (j + 1) xs hxs
        refine ⟨by simp [h1], fun k hk => ?_⟩
        cases k with
        | zero =>
          obtain ⟨y, hy1, hy2⟩ := allM_get hc i row hrow
          refine ⟨x, y, rfl, hy2, hg c x y hx hy1 fun z hz => ?_⟩
          obtain ⟨q, hq⟩ := List.getElem?_of_mem hz
          have hql : q < rows.length := by
            rw [← allM_length hc]; exact (List.getElem?_eq_some_iff.1 hq).1
          obtain ⟨z', hz1, hz2⟩ := allM_get hc q rows[q] (List.getElem?_eq_getElem hql)
          rw [hz1] at hq
          simp only [Option.some.injEq] at hq
          subst hq
          exact hok rows[q] (List.getElem_mem hql) _ (List.mem_of_getElem? hz2)
        | succ k =>
          obtain ⟨r, y, e1, e2, e3⟩ := h2 k (by omega)
          exact ⟨r, y, by simpa using e1, by rw [← e2]; congr 1; omega, e3⟩
      · simp at h

theorem asI_spec {ρ : Env} {K : Nat → Prop} {k : IntKind} {v : V} {n : Int} (h : asI k v = some n) : cells ρ v = [.int k n] ∧ isAg v = false ∧ (ok K v → inR k n) := by
  cases v <;> simp [asI] at h
  · obtain ⟨rfl, rfl⟩ := h; exact ⟨rfl, rfl, id⟩
  · obtain ⟨rfl, rfl⟩ := h; exact ⟨rfl, rfl, id⟩

theorem sel_aux {α : Type} {ρ : Env} {K : Nat → Prop} {g : V → Option α} {mk : α → V} {d : α} {l : List V} {i : Nat} {r x : V} (h : (allM g l).map (fun ns => mk (lget ns i d)) = some r) (hx : l[i]? = some x)
    (H : ∀ a, g x = some a → Like ρ K (mk a) x) : Like ρ K r x := by
  cases hm : allM g l with
  | none => simp [hm] at h
  | some ns =>
    simp only [hm, Option.map_some, Option.some.injEq] at h
    subst h
    obtain ⟨n, hn1, hn2⟩ := allM_get hm i x hx
    rw [lget, getD_of hn1]
    exact H n hn2

theorem like_rows {ρ : Env} {K : Nat → Prop} : ∀ (a b : List V), a.length = b.length → (∀ k, k < a.length → ∃ r x, a[k]? = some r ∧ b[k]? = some x ∧ Like ρ K r x) → cellsL ρ a = cellsL ρ b ∧ okL K a ∧ okC a
  | [], [], _, _ => ⟨rfl, trivial, trivial⟩
  | [], _ :: _, h, _ => by simp at h
  | _ :: _, [], h, _ => by simp at h
  | a0 :: a, b0 :: b, hb, hh => by
    obtain ⟨r, x, e1, e2, e3⟩ := hh 0 (by simp)
    simp only [List.getElem?_cons_zero, Option.some.injEq] at e1 e2
    subst e1; subst e2
    obtain ⟨i1, i2, i3⟩ := like_rows a b (by simpa using hb) fun k hk => by
      obtain ⟨r, x, e1, e2, e3⟩ := hh (k + 1) (by simp; omega)
      exact ⟨r, x, by simpa using e1, by simpa using e2, e3⟩
    refine ⟨?_, ⟨e3.2.2.1, i2⟩, (okC_iff _).2 fun z hz => ?_⟩
    · simp only [cellsL, i1]; rw [show (den ρ a0).cells.toList = cells ρ a0 from rfl, e3.1]; rfl
    · rcases List.mem_cons.1 hz with rfl | hz
      · exact e3.2.2.2
      · exact (okC_iff _).1 i3 z hz

theorem selV_spec {ρ : Env} {K : Nat → Prop} {i : Nat} : ∀ (f : Nat) (l : List V) (r x : V), selV f l i = some r → l[i]? = some x → (∀ y ∈ l, ok K y ∧ isTp y = false) → Like ρ K r x
  | 0, _, _, _, h, _, _ => by simp [selV] at h
  | f + 1, [], _, _, h, _, _ => by simp [selV] at h
  | f + 1, y :: l, r, x, h, hx, hok => by
    have hxm : ok K x ∧ isTp x = false := hok x (List.mem_of_getElem? hx)
    simp only [selV] at h
    split at h
    · exact sel_aux h hx fun a ha => by
        obtain ⟨e1, e2, e3⟩ := asI_spec (ρ := ρ) (K := K) ha
        exact ⟨by rw [e1]; rfl, e2.symm, e3 hxm.1, rfl⟩
    · exact sel_aux h hx fun a ha => by
        obtain ⟨e1, e2, e3⟩ := asI_spec (ρ := ρ) (K := K) ha
        exact ⟨by rw [e1]; rfl, e2.symm, e3 hxm.1, rfl⟩
    · exact sel_aux h hx fun a ha => ⟨by unfold cells; rw [toBool_spec ha]; rfl, by cases x <;> simp [toBool] at ha <;> rfl, trivial, rfl⟩
    · exact sel_aux h hx fun a ha => ⟨by unfold cells; rw [toBool_spec ha]; rfl, by cases x <;> simp [toBool] at ha <;> rfl, trivial, rfl⟩
    · exact sel_aux h hx fun a ha => by
        cases x <;> simp [asStr] at ha
        subst ha
        exact ⟨rfl, rfl, trivial, rfl⟩
    · exact sel_aux h hx fun a ha => by
        cases x <;> simp [asKey] at ha
        subst ha
        exact ⟨rfl, rfl, hxm.1, rfl⟩
    · rename_i m
      generalize V.ag m :: l = L at h hx hok
      split at h
      · simp at h
      · rename_i rows hm
        split at h
        · rename_i hlen
          cases hc : colsOf (fun c => selV f c i) rows 0 m.length with
          | none => simp [hc] at h
          | some rs =>
            simp only [hc, Option.map_some, Option.some.injEq] at h
            subst h
            obtain ⟨row, hr1, hr2⟩ := allM_get hm i x hx
            cases x <;> simp [asAg] at hr2
            subst hr2
            rename_i row
            have hrl : row.length = m.length := by
              have := List.all_eq_true.1 hlen row (List.mem_of_getElem? hr1)
              simpa using this
            obtain ⟨h1, h2⟩ := colsOf_spec (ρ := ρ) (K := K) hr1 (fun c r x hg hc hok => selV_spec f c r x hg hc hok) (fun q hq z hz => by
              obtain ⟨p, hp⟩ := List.getElem?_of_mem hq
              have hpl : p < L.length := by
                rw [← allM_length hm]; exact (List.getElem?_eq_some_iff.1 hp).1
              obtain ⟨q', hq1, hq2⟩ := allM_get hm p _ (List.getElem?_eq_getElem hpl)
              rw [hq1] at hp
              simp only [Option.some.injEq] at hp
              subst hp
              have hk := hok _ (List.getElem_mem hpl)
              generalize L[p] = t at hk hq2
              cases t <;> simp [asAg] at hq2
              subst hq2
              exact ⟨(okL_iff _).1 hk.1.1 z hz, (okC_iff _).1 hk.1.2 z hz⟩) m.length 0 rs hc
            obtain ⟨c1, c2, c3⟩ := like_rows (ρ := ρ) (K := K) rs row (by omega) fun k hk => by
              obtain ⟨r, x, e1, e2, e3⟩ := h2 k (by omega)
              exact ⟨r, x, e1, by simpa using e2, e3⟩
            exact ⟨by rw [cells_ag, cells_ag, c1], rfl, ⟨c2, c3⟩, rfl⟩
        · simp at h
    · simp at h

/-- A part at an index of a value that is written out or is slots or bytes. -/
def getY (v : V) (esz n i inner sz : Nat) (a : Bool) : Option V :=
  match v with
  | .ag l => if l.length == n && l.all (fun x => vsz x == esz) then
      match selV 4 l i with
      | none => none
      | some x => getAt 8 x inner sz a
    else none
  | _ => getX v esz n i inner sz a

theorem cells_nth (ρ : Env) {K : Nat → Prop} : ∀ (l : List V) (esz i : Nat) (x : V), okL K l → (∀ y ∈ l, vsz y = esz) → l[i]? = some x → ∃ p q, cellsL ρ l = p ++ cells ρ x ++ q ∧ p.length = i * esz
  | [], _, _, _, _, _, h => by simp at h
  | y :: l, esz, 0, x, hk, hs, h => by
    simp only [List.getElem?_cons_zero, Option.some.injEq] at h
    subst h
    exact ⟨[], cellsL ρ l, by simp [cellsL, cells], by simp⟩
  | y :: l, esz, i + 1, x, hk, hs, h => by
    simp only [List.getElem?_cons_succ] at h
    obtain ⟨p, q, h1, h2⟩ := cells_nth ρ l esz i x hk.2 (fun z hz => hs z (by simp [hz])) h
    have hl := cells_length ρ y hk.1
    have := hs y (by simp)
    exact ⟨cells ρ y ++ p, q, by simp [cellsL, h1, cells], by simp; rw [Nat.succ_mul]; omega⟩

theorem getY_spec (ρ : Env) {N : Nat → Prop} {v : V} {esz n i inner sz : Nat} {a : Bool} {r : V} (hv : ok N v) (hi : i < n) (h : getY v esz n i inner sz a = some r) :
    (∃ p q, cells ρ v = p ++ cells ρ r ++ q ∧ i * esz + inner = p.length) ∧ vsz r = sz ∧ isAg r = a ∧ ok N r ∧ isTp r = false := by
  unfold getY at h
  split at h
  · rename_i l
    split at h
    · rename_i hc
      simp only [Bool.and_eq_true, beq_iff_eq, List.all_eq_true] at hc
      obtain ⟨rfl, hs⟩ := hc
      split at h
      · simp at h
      · rename_i x hx
        have hxl : l[i]? = some l[i] := List.getElem?_eq_getElem hi
        obtain ⟨e1, e2, e3, e4⟩ := selV_spec (ρ := ρ) (K := N) 4 l x _ hx hxl fun y hy => ⟨(okL_iff _).1 hv.1 y hy, (okC_iff _).1 hv.2 y hy⟩
        obtain ⟨⟨p, q, h1, h2⟩, h3⟩ := getAt_spec ρ 8 x inner sz a r e3 e4 h
        obtain ⟨P, Q, f1, f2⟩ := cells_nth ρ l esz i _ hv.1 hs hxl
        exact ⟨⟨P ++ p, q ++ Q, by rw [cells_ag, f1, ← e1, h1]; simp, by simp; omega⟩, h3⟩
    · simp at h
  · exact getX_spec ρ hv hi h

/-- A part at an index behind a part. -/
def getLy (c : V) (off esz n i inner sz : Nat) (a : Bool) : Option V :=
  match getAt 8 c off (n * esz) true with
  | none => none
  | some x => getY x esz n i inner sz a

theorem getLy_spec (ρ : Env) {N : Nat → Prop} {c : V} {off esz n i inner sz : Nat} {a : Bool} {r : V} (hc : ok N c) (ht : isTp c = false) (hi : i < n) (h : getLy c off esz n i inner sz a = some r) :
    (∃ p q, cells ρ c = p ++ cells ρ r ++ q ∧ off + i * esz + inner = p.length) ∧ vsz r = sz ∧ isAg r = a ∧ ok N r ∧ isTp r = false := by
  unfold getLy at h
  cases hx : getAt 8 c off (n * esz) true with
  | none => simp [hx] at h
  | some x =>
    simp only [hx] at h
    obtain ⟨⟨p, q, h1, h2⟩, _, _, h5, h6⟩ := getAt_spec ρ _ _ _ _ _ _ hc ht hx
    obtain ⟨⟨p', q', h1', h2'⟩, h3⟩ := getY_spec ρ h5 hi h
    exact ⟨⟨p ++ p', q' ++ q, by rw [h1, h1']; simp, by simp; omega⟩, h3⟩

end Go.Sx
