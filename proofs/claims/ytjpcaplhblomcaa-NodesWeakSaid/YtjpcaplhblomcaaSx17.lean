/- Contracts of functions that make or change places. No condition. -/
import Derived.Test.YtjpcaplhblomcaaSx16
set_option linter.unusedVariables false
set_option linter.unusedSimpArgs false
namespace Go.Sx
open Go.RowKit (Below)

/-- What a call asks for, and gives. -/
abbrev HCt := List V → List Res → (V → List Res → Prop) → Prop
def HOK (P : Program) (f : Nat) (h : HCt) : Prop := ∀ args res K KP, h args res K → CallTo P f args res K KP
def hLook : List (Nat × HCt) → Handler
  | [], _, _, _, _, _ => False
  | (g, h) :: l, f, args, res, K, KP => if f == g then h args res K else hLook l f args res K KP

theorem hLook_ok {P : Program} : ∀ {l : List (Nat × HCt)}, (∀ p ∈ l, HOK P p.1 p.2) → Handler.OK P (hLook l)
  | [], _, f, args, res, K, KP, h => h.elim
  | (g, x) :: l, hl, f, args, res, K, KP, h => by
    simp only [hLook] at h
    split at h
    · rename_i e
      have e := beq_iff_eq.1 e
      subst e
      exact hl (f, x) (by simp) args res K KP h
    · exact hLook_ok (fun p hp => hl p (by simp [hp])) f args res K KP h

theorem hoks_nil {P : Program} : ∀ p ∈ ([] : List (Nat × HCt)), HOK P p.1 p.2 := by simp
theorem hoks_cons {P : Program} {f : Nat} {g : HCt} {l : List (Nat × HCt)} (h : HOK P f g) (t : ∀ p ∈ l, HOK P p.1 p.2) : ∀ p ∈ (f, g) :: l, HOK P p.1 p.2 := by
  intro p hp
  rcases List.mem_cons.1 hp with rfl | hp
  · exact h
  · exact t p hp

theorem renO_idf {κ : Nat → Option Nat} : ∀ v, idf v = true → renO κ v = some v := by
  intro v
  exact V.rec (motive_1 := fun v => idf v = true → renO κ v = some v) (motive_2 := fun l => idfL l = true → renOL κ l = some l)
    (fun b _ => rfl) (fun b _ => rfl) (fun k n _ => rfl) (fun k n _ => rfl) (fun b _ => rfl) (fun s _ => rfl) (fun v _ => rfl) (fun _ _ h => by simp [idf] at h) (fun _ _ _ _ _ _ h => by simp [idf] at h)
    (fun _ _ _ h => by simp [idf] at h) (fun _ _ h => by simp [idf] at h) (fun _ _ _ _ h => by simp [idf] at h) (fun _ h => by simp [idf] at h) (fun _ _ h => by simp [idf] at h) (fun _ h => by simp [idf] at h)
    (fun f l ih h => by simp only [renO]; rw [ih h]) (fun t x ih h => by simp only [renO]; rw [ih h]) (fun l ih h => by simp only [renO]; rw [ih h]) (fun l ih h => by simp only [renO]; rw [ih h])
    (fun _ _ => rfl) (fun _ _ => rfl) (fun _ _ => rfl) (fun _ _ => rfl) (fun _ h => by simp [idf] at h) (fun _ _ _ _ _ _ h => by simp [idf] at h) (fun _ _ _ _ _ _ _ _ h => by simp [idf] at h) (fun _ => rfl)
    (fun x l ih1 ih2 h => by simp only [idfL, Bool.and_eq_true] at h; simp only [renOL]; rw [ih1 h.1]; simp only; rw [ih2 h.2]) v

theorem renOL_idf {κ : Nat → Option Nat} : ∀ l, idfL l = true → renOL κ l = some l
  | [], _ => rfl
  | x :: l, h => by
    simp only [idfL, Bool.and_eq_true] at h
    simp only [renOL]
    rw [renO_idf x h.1]
    simp only
    rw [renOL_idf l h.2]

/-- Arguments that stand for the same. -/
def SameB (l m : List V) : Prop := ∀ (ρ : Env) K, okL K l → denL ρ l = denL ρ m ∧ okL K m
theorem SameB.nil : SameB [] [] := fun _ _ _ => ⟨rfl, trivial⟩
theorem SameB.keep {x : V} {l m : List V} (h : SameB l m) : SameB (x :: l) (x :: m) := fun ρ K hk => ⟨by simp only [denL, (h ρ K hk.2).1], hk.1, (h ρ K hk.2).2⟩
theorem SameB.rd {α : Type} {r : V → Option α} {f : α → V} (hr : RdOK r f) {a : V} {x : α} (hx : r a = some x) {l m : List V} (h : SameB l m) : SameB (a :: l) (f x :: m) := fun ρ K hk => by
  obtain ⟨a1, a2⟩ := hr a x hx
  exact ⟨by simp only [denL, (h ρ K hk.2).1, a1], ok_empty (a2 K hk.1), (h ρ K hk.2).2⟩

section
variable {P : Program}

theorem CallTo.args {f : Nat} {args args' : List V} {res : List Res} {K KP : V → List Res → Prop} (h : SameB args args') (hc : CallTo P f args' res K KP) : CallTo P f args res K KP := by
  intro ρ fps w0 F0 w hH hargs
  obtain ⟨h1, h2⟩ := h ρ _ hargs
  rw [h1]
  exact hc ρ fps w0 F0 w hH h2

/-- What is known of arguments. -/
theorem CallTo.okArgs {f : Nat} {args : List V} {res : List Res} {K KP : V → List Res → Prop} (h : okL (known res) args → CallTo P f args res K KP) : CallTo P f args res K KP := by
  intro ρ fps w0 F0 w hH hargs
  exact h hargs ρ fps w0 F0 w hH hargs

/-- A call that changes one store. -/
theorem CallTo.onStore {f : Nat} {rest : List V} {res : List Res} {K KP : V → List Res → Prop} {k t e : Nat} {L M : List Obj} {x : V} (hr : rget res k = .store t e L) (hid : idfL rest = true) (hx : idf x = true)
    (h : CallTo P f (.lp 0 0 :: rest) [.store t e L] (fun v r => isE x v r ∧ rget r 0 = .store t e M) (fun _ _ => False)) (hK : K x (rset res k (.store t e M))) : CallTo P f (.lp k 0 :: rest) res K KP := by
  have hk : known res k := by unfold known; rw [hr]; simp
  have hlt := rget_lt hk
  refine CallTo.frame (pl := [(k, true)]) (args0 := .lp 0 0 :: rest) (K0 := fun v r => isE x v r ∧ rget r 0 = .store t e M) (KP0 := fun _ _ => False) (by simp [knownAll, knownB_iff.2 hk]) (by simpa [okExt, fsts, inNl] using hlt) ?_ ?_ (fun v r hv => ?_) (fun _ _ h => h.elim)
  · simp only [renOL, renO, kap, idxOf, fsts]
    rw [renOL_idf rest hid]; simp
  · have : restr (kap 0 (fsts [(k, true)])) res [(k, true)] = [.store t e L] := by simp [restr, hr, renR]
    rw [this]
    exact h
  · obtain ⟨h1, h2⟩ := hv
    have hm : merge [(k, true)] [] r res = rset res k (.store t e M) := by simp [merge, putBack, h2, renR, reRes2]
    exact ⟨[], x, rfl, by simp [allOwn, h2, ownR], rfl, Turns.idf h1 hx, by rw [hm]; exact hK⟩

/-- A call of values alone. -/
theorem CallTo.pure {f : Nat} {args : List V} {res : List Res} {K KP : V → List Res → Prop} {x : V} (hid : idfL args = true) (hx : idf x = true)
    (h : CallTo P f args [] (fun v _ => isE x v []) (fun _ _ => False)) (hK : K x res) : CallTo P f args res K KP := by
  refine CallTo.frame (pl := []) (args0 := args) (K0 := fun v _ => isE x v []) (KP0 := fun _ _ => False) rfl rfl (renOL_idf args hid) h (fun v r hv => ?_) (fun _ _ h => h.elim)
  have hm : merge [] [] r res = res := by simp [merge, putBack, reRes2]
  exact ⟨[], x, rfl, rfl, rfl, Turns.idf hv hx, by rw [hm]; exact hK⟩

/-- A call that reads one place. -/
theorem CallTo.read1 {f : Nat} {rest : List V} {res : List Res} {K KP : V → List Res → Prop} {k : Nat} {r0 : Res} {x : V} (hr : rlook res k = r0) (hne : r0 ≠ .yet) (hren : ∀ κ, renR κ r0 = r0) (hid : idfL rest = true) (hx : idf x = true)
    (h : CallTo P f (.lp 0 0 :: rest) [.ro r0] (fun v _ => isE x v []) (fun _ _ => False)) (hK : K x res) : CallTo P f (.lp k 0 :: rest) res K KP := by
  have hk := rlook_known hr hne
  have hlt := rget_lt hk
  refine CallTo.frame (pl := [(k, false)]) (args0 := .lp 0 0 :: rest) (K0 := fun v _ => isE x v []) (KP0 := fun _ _ => False) (by simp [knownAll, knownB_iff.2 hk]) (by simpa [okExt, fsts, inNl] using hlt) ?_ ?_ (fun v r hv => ?_) (fun _ _ h => h.elim)
  · simp only [renOL, renO, kap, idxOf, fsts]
    rw [renOL_idf rest hid]; simp
  · have : restr (kap 0 (fsts [(k, false)])) res [(k, false)] = [.ro r0] := by simp [restr, hr, hren]
    rw [this]
    exact h
  · have hm : merge [(k, false)] [] r res = res := by simp [merge, putBack, reRes2]
    exact ⟨[], x, rfl, by simp [allOwn], rfl, Turns.idf hv hx, by rw [hm]; exact hK⟩

theorem HRep.weaken {ρ : Env} {fps : Nat → Nat → Prop} {res res' : List Res} {w0 w : World} {F0 : Nat → Prop} (h : HRep ρ fps res (known res) w0 F0 w)
    (hk : ∀ i, known res' i → known res i ∧ ∀ fp, (rget res i).holds (known res) ρ i fp w0 F0 w → (rget res' i).holds (known res') ρ i fp w0 F0 w) : HRep ρ fps res' (known res') w0 F0 w :=
  ⟨fun i hi => hi, h.old, h.os, h.tape, h.output, fun i hi => (hk i hi).2 _ (h.holds i (hk i hi).1), fun i b hi => h.lt i b (hk i hi).1, fun i j b hi hj => h.disj i j b (hk i hi).1 (hk j hj).1, fun i b hi => h.inF i b (hk i hi).1, h.same⟩

theorem arr_none {K K' : Nat → Prop} {ρ : Env} {i : Nat} {fp : Nat → Prop} {w0 w : World} {F0 : Nat → Prop} {own : Option Nat} {e : Nat} {l : TL} (h : (Res.arr own e l).holds K ρ i fp w0 F0 w) : (Res.arr none e l).holds K' ρ i fp w0 F0 w := by
  obtain ⟨h1, h2, h3, h4, h5, h6, h7⟩ := h
  refine ⟨h1, h2, h3, h4, h5, h6, ?_⟩
  rcases h7 with ⟨e, h7⟩ | ⟨e, e1, e2⟩
  · exact .inl ⟨rfl, h7⟩
  · exact .inr ⟨e, by simp, e2⟩

theorem CallTo.weakA {f : Nat} {args : List V} {K KP : V → List Res → Prop} {own : Option Nat} {e : Nat} {l : TL} (h : CallTo P f args [.ro (.arr none e l)] K KP) : CallTo P f args [.ro (.arr own e l)] K KP := by
  have hk : ∀ i (own : Option Nat), known [.ro (.arr own e l)] i ↔ i = 0 := fun i own => by
    unfold known
    cases i with
    | zero => simp [rget]
    | succ i => simp [rget]
  refine h.good fun ρ fps w0 F0 w hH => ⟨ρ, fps, hH.weaken fun i hi => ?_, Env.agree.refl _ _, fun i hi => (hk i _).2 ((hk i _).1 hi)⟩
  have := (hk i _).1 hi
  subst this
  refine ⟨(hk 0 _).2 rfl, fun fp hh => ?_⟩
  obtain ⟨fp', g1, g2⟩ := hh
  exact ⟨fp', arr_none g1, g2⟩

/-- A call that reads a list of objects, and makes a store. -/
theorem CallTo.mkStoreA {f : Nat} {rest : List V} {res : List Res} {K KP : V → List Res → Prop} {t e k esz : Nat} {own : Option Nat} {l : TL} {M : List Obj} {F : Nat → V} (hr : rlook res k = .arr own esz l) (hid : idfL rest = true)
    (h : CallTo P f (.sa 0 :: rest) [.ro (.arr own esz l)] (fun v r => ∃ j, 1 ≤ j ∧ rget r j = .store t e M ∧ (∀ (κ : Nat → Option Nat) (i : Nat), κ j = some i → Turns κ v (F i))) (fun _ _ => False)) (hK : K (F res.length) (res ++ [.store t e M])) : CallTo P f (.sa k :: rest) res K KP := by
  have hk := rlook_known hr (by simp)
  have hlt := rget_lt hk
  refine CallTo.frame (pl := [(k, false)]) (args0 := .sa 0 :: rest) (K0 := fun v r => ∃ j, 1 ≤ j ∧ rget r j = .store t e M ∧ (∀ (κ : Nat → Option Nat) (i : Nat), κ j = some i → Turns κ v (F i))) (KP0 := fun _ _ => False) (by simp [knownAll, knownB_iff.2 hk]) (by simpa [okExt, fsts, inNl] using hlt) ?_ ?_ (fun v r hv => ?_) (fun _ _ h => h.elim)
  · simp only [renOL, renO, kap, idxOf, fsts]
    rw [renOL_idf rest hid]; simp
  · have : restr (kap 0 (fsts [(k, false)])) res [(k, false)] = [.ro (.arr own esz l)] := by simp [restr, hr, renR]
    rw [this]
    exact h
  · obtain ⟨j, hj1, hj, hv⟩ := hv
    have hjl : j < r.length := rget_lt (by rw [hj]; simp)
    have hm : merge [(k, false)] [j] r res = res ++ [.store t e M] := by simp [merge, putBack, reRes2, hj, renR]
    refine ⟨[j], F res.length, by simpa [okExt, inNl] using ⟨hj1, hjl⟩, by simp [allOwn], by simp [allOwnE, hj, ownR], hv _ _ ?_, by rw [hm]; exact hK⟩
    obtain ⟨m, rfl⟩ : ∃ m, j = m + 1 := ⟨j - 1, by omega⟩
    simp [back, getP, idxOf]

/-- A call that reads a list of objects. -/
theorem CallTo.readA {f : Nat} {rest : List V} {res : List Res} {K KP : V → List Res → Prop} {k esz : Nat} {own : Option Nat} {l : TL} {x : V} (hr : rlook res k = .arr own esz l) (hid : idfL rest = true) (hx : idf x = true)
    (h : CallTo P f (.sa 0 :: rest) [.ro (.arr own esz l)] (fun v _ => isE x v []) (fun _ _ => False)) (hK : K x res) : CallTo P f (.sa k :: rest) res K KP := by
  have hk := rlook_known hr (by simp)
  have hlt := rget_lt hk
  refine CallTo.frame (pl := [(k, false)]) (args0 := .sa 0 :: rest) (K0 := fun v _ => isE x v []) (KP0 := fun _ _ => False) (by simp [knownAll, knownB_iff.2 hk]) (by simpa [okExt, fsts, inNl] using hlt) ?_ ?_ (fun v r hv => ?_) (fun _ _ h => h.elim)
  · simp only [renOL, renO, kap, idxOf, fsts]
    rw [renOL_idf rest hid]; simp
  · have : restr (kap 0 (fsts [(k, false)])) res [(k, false)] = [.ro (.arr own esz l)] := by simp [restr, hr, renR]
    rw [this]
    exact h
  · have hm : merge [(k, false)] [] r res = res := by simp [merge, putBack, reRes2]
    exact ⟨[], x, rfl, by simp [allOwn], rfl, Turns.idf hv hx, by rw [hm]; exact hK⟩

theorem putBack_ro (κ2 : Nat → Option Nat) (r' : List Res) : ∀ (l : List (Nat × Bool)) (i : Nat) (res : List Res), (∀ p ∈ l, p.2 = false) → putBack κ2 r' i l res = res
  | [], _, _, _ => rfl
  | (p, o) :: l, i, res, h => by
    have := h (p, o) (by simp)
    simp only at this
    subst this
    simp only [putBack, Bool.false_eq_true, if_false]
    exact putBack_ro κ2 r' l _ _ fun p hp => h p (by simp [hp])
theorem allOwn_ro (r' : List Res) : ∀ (l : List (Nat × Bool)) (i : Nat), (∀ p ∈ l, p.2 = false) → allOwn r' i l = true
  | [], _, _ => rfl
  | (p, o) :: l, i, h => by
    have := h (p, o) (by simp)
    simp only at this
    subst this
    simp only [allOwn, Bool.false_eq_true, if_false, Bool.true_and]
    exact allOwn_ro r' l _ fun p hp => h p (by simp [hp])
theorem getP_none : ∀ (l : List (Nat × Bool)) (j : Nat), l.length ≤ j → getP l j = none
  | [], _, _ => rfl
  | (p, o) :: l, 0, h => by simp at h
  | (p, o) :: l, j + 1, h => by simp only [getP]; exact getP_none l j (by simpa using h)

/-- A call that reads places, and makes one. -/
theorem CallTo.mkRo {f : Nat} {args args0 : List V} {res : List Res} {K KP : V → List Res → Prop} {pl : List (Nat × Bool)} {new : Res} {F : Nat → V} (hk : knownAll res pl = true) (hnd : okExt 0 res.length (fsts pl) = true) (hro : ∀ p ∈ pl, p.2 = false)
    (ha : renOL (kap 0 (fsts pl)) args = some args0) (hnew : ownR new = true) (hne : new ≠ .yet) (hren : ∀ κ, renR κ new = new)
    (h : CallTo P f args0 (restr (kap 0 (fsts pl)) res pl) (fun v r => ∃ j, pl.length ≤ j ∧ rget r j = new ∧ (∀ (κ : Nat → Option Nat) (i : Nat), κ j = some i → Turns κ v (F i))) (fun _ _ => False))
    (hK : K (F res.length) (res ++ [new])) : CallTo P f args res K KP := by
  refine CallTo.frame hk hnd ha h (fun v r hv => ?_) (fun _ _ h => h.elim)
  obtain ⟨j, hj1, hj, hv⟩ := hv
  have hjl : j < r.length := rget_lt (by rw [hj]; exact hne)
  have hm : merge pl [j] r res = res ++ [new] := by simp [merge, putBack_ro _ _ pl 0 res hro, reRes2, hj, hren]
  refine ⟨[j], F res.length, by simpa [okExt, inNl] using ⟨hj1, hjl⟩, allOwn_ro _ _ _ hro, by simp [allOwnE, hj, hnew], hv _ _ ?_, by rw [hm]; exact hK⟩
  simp [back, getP_none pl j hj1, idxOf]

/-- A call that reads places. -/
theorem CallTo.rdRo {f : Nat} {args args0 : List V} {res : List Res} {K KP : V → List Res → Prop} {pl : List (Nat × Bool)} {x : V} (hk : knownAll res pl = true) (hnd : okExt 0 res.length (fsts pl) = true) (hro : ∀ p ∈ pl, p.2 = false)
    (ha : renOL (kap 0 (fsts pl)) args = some args0) (hx : idf x = true)
    (h : CallTo P f args0 (restr (kap 0 (fsts pl)) res pl) (fun v _ => isE x v []) (fun _ _ => False)) (hK : K x res) : CallTo P f args res K KP := by
  refine CallTo.frame hk hnd ha h (fun v r hv => ?_) (fun _ _ h => h.elim)
  have hm : merge pl [] r res = res := by simp [merge, putBack_ro _ _ pl 0 res hro, reRes2]
  exact ⟨[], x, rfl, allOwn_ro _ _ _ hro, rfl, Turns.idf hv hx, by rw [hm]; exact hK⟩

theorem stOf_shut {r : List Res} {k t e j : Nat} {L : List Obj} (h : stOf r k = some (t, e, j, L)) : ∃ r', shutS r k = some r' ∧ rget r' k = .store t e L := by
  unfold shutS
  rw [h]
  refine ⟨_, rfl, ?_⟩
  have hk : k < r.length := by
    unfold stOf at h
    split at h
    · rename_i hr
      exact rget_lt (by rw [hr]; simp)
    · simp at h
  rw [rget_rset _ _ _ _ (by rw [rset_length]; exact hk), if_pos rfl]

/-- What a store's objects are, open or shut. -/
def shOf (r : List Res) (k : Nat) : Option (Nat × Nat × List Obj) :=
  match rget r k with
  | .store t e L => some (t, e, L)
  | _ => match stOf r k with
    | some (t, e, _, L) => some (t, e, L)
    | none => none

theorem shOf_out {r : List Res} {k t e : Nat} {L : List Obj} (h : shOf r k = some (t, e, L)) : rget r k = .store t e L ∨ ∃ r', shutS r k = some r' ∧ rget r' k = .store t e L := by
  unfold shOf at h
  split at h
  · rename_i hr
    simp only [Option.some.injEq, Prod.mk.injEq] at h
    obtain ⟨rfl, rfl, rfl⟩ := h
    exact .inl hr
  · split at h
    · rename_i hst
      simp only [Option.some.injEq, Prod.mk.injEq] at h
      obtain ⟨rfl, rfl, rfl⟩ := h
      exact .inr (stOf_shut hst)
    · simp at h

theorem isE_tp2 {a b c : V} (h : isE c b []) : isE (.tp [a, c]) (.tp [a, b]) [] := fun ρ K => by
  obtain ⟨s1, s2, _⟩ := h ρ K
  exact ⟨by simp only [den, denL, s1], fun hk => ⟨hk.1, s2 hk.2.1, trivial⟩, rfl⟩

/-- A call of values alone that makes a store. -/
theorem CallTo.mkStore {f : Nat} {args : List V} {res : List Res} {K KP : V → List Res → Prop} {t e : Nat} {M : List Obj} {F : Nat → V} (hid : idfL args = true)
    (h : CallTo P f args [] (fun v r => ∃ j, rget r j = .store t e M ∧ (∀ (κ : Nat → Option Nat) (i : Nat), κ j = some i → Turns κ v (F i))) (fun _ _ => False)) (hK : K (F res.length) (res ++ [.store t e M])) : CallTo P f args res K KP := by
  refine CallTo.frame (pl := []) (args0 := args) (K0 := fun v r => ∃ j, rget r j = .store t e M ∧ (∀ (κ : Nat → Option Nat) (i : Nat), κ j = some i → Turns κ v (F i))) (KP0 := fun _ _ => False) rfl rfl (renOL_idf args hid) h (fun v r hv => ?_) (fun _ _ h => h.elim)
  obtain ⟨j, hj, hv⟩ := hv
  have hlt : j < r.length := rget_lt (by rw [hj]; simp)
  have hm : merge [] [j] r res = res ++ [.store t e M] := by simp [merge, putBack, reRes2, hj, renR]
  exact ⟨[j], F res.length, by simpa [okExt, inNl] using hlt, rfl, by simp [allOwnE, hj, ownR], hv _ _ (by simp [back, getP, idxOf]), by rw [hm]; exact hK⟩

end

/-- Which place a slice lies over. -/
def saOf (v : V) : Option Nat :=
  match v with
  | .sa j => some j
  | .ag l => match l with
    | [x] => match x with
      | .sa j => some j
      | _ => none
    | _ => none
  | _ => none

/-- Where a list lies that a block holds. -/
def extB (c : Nat) (σ : St) : Option (List Nat) :=
  match rget σ.res c with
  | .blk _ x => match saOf x with
    | some j => match rget σ.res j with
      | .obs _ q _ => some [j, q]
      | _ => some [j]
    | none => some []
  | _ => some []

/-- A loop that turns a place. -/
def lpR (keep : List Nat) (set : Int → List (Nat × V)) (k : Nat) (R : Int → Res) (inv : Int → Prop) (m : Int) : LoopAnn :=
  { γ := Int, head := fun σ g => { σ with slots := hdS keep (set g) 0 σ.slots, res := rset σ.res k (R g) }, inv := inv, μ := fun g => i2n (isub m g) }

def rsets : List (Nat × Res) → List Res → List Res
  | [], r => r
  | (k, x) :: l, r => rsets l (rset r k x)

/-- A loop that turns several places, by what it likes. -/
def lpT {γ : Type} (keep : List Nat) (set : γ → List (Nat × V)) (rs : γ → List (Nat × Res)) (inv : γ → Prop) (μ : γ → Nat) : LoopAnn :=
  { γ := γ, head := fun σ g => { σ with slots := hdS keep (set g) 0 σ.slots, res := rsets (rs g) σ.res }, inv := inv, μ := μ }

def TL.emp : TL → TL
  | .ob _ => .ob []
  | .key _ => .key []
  | .it k _ => .it k []
  | .bo _ => .bo []
  | .st _ => .st []
  | .fn n g => .fn n g

/-- Where a list lies that a slot holds. -/
def extS (t : Nat) (σ : St) : Option (List Nat) :=
  match sget σ.slots t with
  | .v x => match saOf x with
    | some j => some [j]
    | none => some []
  | _ => some []

/-- A loop that makes a list of values, in a slot. -/
def lpS (keep : List Nat) (set : Int → List (Nat × V)) (t e esz : Nat) (L : Int → TL) (inv : Int → Prop) (m : Int) : LoopAnn :=
  { γ := Int, head := fun σ g => { σ with slots := hdS keep ((t, .sa σ.res.length) :: set g) 0 σ.slots, res := σ.res ++ [.arr (some e) esz (L g)] },
    inv := inv, μ := fun g => i2n (isub m g), pre := [.sl t e esz (TL.emp (L 0))], ext := extS t }

/-- A loop whose list, in a slot, may be replaced. -/
def lpAl {γ : Type} (keep : List Nat) (set : γ → List (Nat × V)) (t esz : Nat) (L : γ → TL) (rs : γ → List (Nat × Res)) (inv : γ → Prop) (μ : γ → Nat) : LoopAnn :=
  { γ := γ, head := fun σ g => { σ with slots := hdS keep ((t, .sa σ.res.length) :: set g) 0 σ.slots, res := rsets (rs g) σ.res ++ [.arr none esz (L g)] },
    inv := inv, μ := μ, pre := [.al t], ext := extS t }

/-- A loop that makes a list of values, in a block. -/
def lpV (keep : List Nat) (set : Int → List (Nat × V)) (c ty e esz : Nat) (L : Int → TL) (inv : Int → Prop) (m : Int) : LoopAnn :=
  { γ := Int, head := fun σ g => { σ with slots := hdS keep (set g) 0 σ.slots, res := rset σ.res c (.blk ty (.sa σ.res.length)) ++ [.arr (some e) esz (L g)] },
    inv := inv, μ := fun g => i2n (isub m g), pre := [.bv c e esz (TL.emp (L 0))], ext := extB c }

/-- A loop that turns the block that a slot points to. -/
def lpP {γ : Type} (keep : List Nat) (set : γ → List (Nat × V)) (t : Nat) (R : γ → Res) (inv : γ → Prop) (μ : γ → Nat) : LoopAnn :=
  { γ := γ, head := fun σ g => match sget σ.slots t with
      | .v x => match x with
        | .lp k _ => { σ with slots := hdS keep (set g) 0 σ.slots, res := rset σ.res k (R g) }
        | _ => σ
      | _ => σ, inv := inv, μ := μ }

/-- A loop that makes a list of pointers to objects, in a block. -/
def lpB (keep : List Nat) (set : Int → List (Nat × V)) (c t e : Nat) (L : Int → List Obj) (inv : Int → Prop) (m : Int) : LoopAnn :=
  { γ := Int, head := fun σ g => { σ with slots := hdS keep (set g) 0 σ.slots, res := rset σ.res c (.blk t (.ag [.sa σ.res.length])) ++ [.obs e (σ.res.length + 1) (L g), .gen σ.res.length] },
    inv := inv, μ := fun g => i2n (isub m g), pre := [.bl c e], ext := extB c }
end Go.Sx
namespace Go.Proofs.Ytjpcaplhblomcaa
open Go.Sx
/-- The seat's configuration over contracts of both kinds. -/
noncomputable def cfh (l : List (Nat × Ct)) (hl : List (Nat × HCt)) (inl : Nat → Bool) (ann : Nat → Nat → Option LoopAnn) : Cfg := { P := Try.prog, Z := zeroOf, Γ := gamLook l, H0 := hLook hl, inl := inl, ann := ann }
theorem cfh_sound {l : List (Nat × Ct)} {hl : List (Nat × HCt)} {inl : Nat → Bool} {ann : Nat → Nat → Option LoopAnn} (h : ∀ p ∈ l, CtOK Try.prog p.1 p.2) : (cfh l hl inl ann).toCtx.Sound :=
  ⟨zok_of zeroOf_ok, Try.checked.mixed, fun f g hg => gamLook_spec h f g hg, fun f ts te h => by simp [cfh] at h⟩
/-- The obligation of a function. -/
abbrev vch (l : List (Nat × Ct)) (hl : List (Nat × HCt)) (inl : Nat → Bool) (ann : Nat → Nat → Option LoopAnn) (f : Nat) (args : List V) (res : List Res) (K KP : V → List Res → Prop) : Prop :=
  enter (cfh l hl inl ann).toCtx (exec (cfh l hl inl ann) 100 ⟨false, none⟩ f) f args res K KP
theorem vch_call {l : List (Nat × Ct)} {hl : List (Nat × HCt)} {inl : Nat → Bool} {ann : Nat → Nat → Option LoopAnn} (h : ∀ p ∈ l, CtOK Try.prog p.1 p.2) (hh : ∀ p ∈ hl, HOK Try.prog p.1 p.2) {f : Nat} {args : List V} {res : List Res}
    {K KP : V → List Res → Prop} {G : Prop} (hG : G) (he : G = vch l hl inl ann f args res K KP) : CallTo Try.prog f args res K KP :=
  fn_spec (cfh_sound h) (hLook_ok hh) (Eq.mp he hG)
def dLook : List (Nat × Nat × Nat) → Nat → Option (Nat × Nat)
  | [], _ => none
  | (g, ts, te) :: l, f => if f == g then some (ts, te) else dLook l f
theorem dLook_ok {P : Program} : ∀ {l : List (Nat × Nat × Nat)}, (∀ p ∈ l, CatchOK P p.1 p.2.1 p.2.2) → ∀ f ts te, dLook l f = some (ts, te) → CatchOK P f ts te
  | [], _, f, ts, te, h => by simp [dLook] at h
  | (g, a, b) :: l, hl, f, ts, te, h => by
    simp only [dLook] at h
    split at h
    · rename_i e
      have e := beq_iff_eq.1 e
      simp only [Option.some.injEq, Prod.mk.injEq] at h
      obtain ⟨rfl, rfl⟩ := h
      subst e
      exact hl (f, a, b) (by simp)
    · exact dLook_ok (fun p hp => hl p (by simp [hp])) f ts te h
/-- The seat's configuration over contracts of both kinds, and functions that catch. -/
noncomputable def cfd (l : List (Nat × Ct)) (hl : List (Nat × HCt)) (dl : List (Nat × Nat × Nat)) (inl : Nat → Bool) (ann : Nat → Nat → Option LoopAnn) : Cfg := { P := Try.prog, Z := zeroOf, Γ := gamLook l, D := dLook dl, H0 := hLook hl, inl := inl, ann := ann }
abbrev vcd (l : List (Nat × Ct)) (hl : List (Nat × HCt)) (dl : List (Nat × Nat × Nat)) (inl : Nat → Bool) (ann : Nat → Nat → Option LoopAnn) (f : Nat) (args : List V) (res : List Res) (K KP : V → List Res → Prop) : Prop :=
  enter (cfd l hl dl inl ann).toCtx (exec (cfd l hl dl inl ann) 100 ⟨false, none⟩ f) f args res K KP
theorem vcd_call {l : List (Nat × Ct)} {hl : List (Nat × HCt)} {dl : List (Nat × Nat × Nat)} {inl : Nat → Bool} {ann : Nat → Nat → Option LoopAnn} (h : ∀ p ∈ l, CtOK Try.prog p.1 p.2) (hh : ∀ p ∈ hl, HOK Try.prog p.1 p.2) (hd : ∀ p ∈ dl, CatchOK Try.prog p.1 p.2.1 p.2.2) {f : Nat} {args : List V} {res : List Res}
    {K KP : V → List Res → Prop} {G : Prop} (hG : G) (he : G = vcd l hl dl inl ann f args res K KP) : CallTo Try.prog f args res K KP :=
  fn_spec (C := cfd l hl dl inl ann) ⟨zok_of zeroOf_ok, Try.checked.mixed, fun f g hg => gamLook_spec h f g hg, dLook_ok hd⟩ (hLook_ok hh) (Eq.mp he hG)
end Go.Proofs.Ytjpcaplhblomcaa
