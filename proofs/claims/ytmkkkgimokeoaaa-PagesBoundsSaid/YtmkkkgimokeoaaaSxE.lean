/- The executor: a region whose order is drawn. No condition. -/
import Derived.Test.YtmkkkgimokeoaaaSxD
set_option linter.unusedVariables false
set_option linter.unusedSimpArgs false
namespace Go.Sx
open Go.RowKit (Below)

/-- How a piece of code ends. -/
inductive Out where
  | norm
  | exit (i : Nat)
  | goto (l : Nat)
  | ret
  | pan (v : V)

/-- One way to end is another's. -/
def OutIs (ρ : Env) (res : List Res) : Exit → Out → Prop
  | .normal, .norm => True
  | .exit i, .exit j => i = j
  | .goto i, .goto j => i = j
  | .ret, .ret => True
  | .panic chain, .pan v => chain = [{ v := den ρ v, recovered := false }] ∧ ok (known res) v
  | _, _ => False

def Post (ρ0 : Env) (res0 : List Res) (w0 : World) (F0 : Nat → Prop) (K : Out → St → Prop) : Exit → Act → World → Prop := fun e a w =>
  ∃ out σ ρ fps, OutIs ρ σ.res e out ∧ K out σ ∧ Rep ρ fps σ w0 F0 a w ∧ Good ρ0 res0 ρ σ.res

theorem Post.noOut {ρ0 : Env} {res0 : List Res} {w0 : World} {F0 : Nat → Prop} {K : Out → St → Prop} : ¬ LetsOut (Post ρ0 res0 w0 F0 K) := by
  rintro ⟨a, w, out, σ, ρ, fps, h1, _⟩
  cases out <;> exact h1

theorem Post.mono {ρ0 : Env} {res0 : List Res} {w0 : World} {F0 : Nat → Prop} {K K' : Out → St → Prop} {e : Exit} {a : Act} {w : World} (h : Post ρ0 res0 w0 F0 K e a w) (hK : ∀ o σ, K o σ → K' o σ) :
    Post ρ0 res0 w0 F0 K' e a w :=
  let ⟨o, σ, ρ, fps, h1, h2, h3, h4⟩ := h
  ⟨o, σ, ρ, fps, h1, hK _ _ h2, h3, h4⟩

def ancAt (ds : List (Option Nat × Nat)) (i : Nat) : Nat :=
  match ds[i]? with
  | some p => p.2
  | none => 0

/-- Which operations are before one. -/
def maskOf (ds : List (Option Nat × Nat)) (es : List Edge) : Nat :=
  match es with
  | [] => 0
  | e :: l => if Region.binds .any e then (2 ^ e.on ||| ancAt ds e.on) ||| maskOf ds l else maskOf ds l

def dsGo : List Oper → List (Option Nat × Nat) → List (Option Nat × Nat)
  | [], acc => acc
  | o :: l, acc => dsGo l (acc ++ [(o.dst, maskOf acc o.after.toList)])

def optNe : Option Nat → Option Nat → Bool
  | some a, some b => !(a == b)
  | _, _ => true

def dist : List (Option Nat × Nat) → Bool
  | [] => true
  | p :: l => l.all (fun q => optNe p.1 q.1) && dist l

def okGo (ds : List (Option Nat × Nat)) : Nat → List Oper → List (Option Nat × Nat) → Bool
  | i, o :: l, d :: m => (match o.dst, d.1 with | none, none => true | some a, some b => a == b | _, _ => false) && maskOf ds o.after.toList == d.2 && Nat.ble (d.2 + 1) (2 ^ i)
      && (List.range i).all (fun j => !(Nat.testBit d.2 j) || ((ancAt ds j ||| d.2) == d.2)) && okGo ds (i + 1) l m
  | _, [], [] => true
  | _, _, _ => false

/-- What an operation sees of the slots. -/
def viewS (anc i : Nat) : Nat → List (Option Nat × Nat) → List S → List S → List S
  | j, (some d, _) :: ds, s :: done, sl => viewS anc i (j + 1) ds done (sset sl d (if Nat.testBit anc j then s else .und))
  | j, (some d, m) :: ds, [], sl => if j == i || Nat.testBit m i then viewS anc i (j + 1) ds [] sl else viewS anc i (j + 1) ds [] (sset sl d .und)
  | j, (none, _) :: ds, done, sl => viewS anc i (j + 1) ds done.tail sl
  | _, [], _, sl => sl

/-- What is known of an operation that was done. -/
structure Dr where
  s : S
  g : Bool
  q : Option Prop
  new : List Res

def yets : List Res → List Res
  | [] => []
  | _ :: l => .yet :: yets l

def viewR (p : Nat → Bool) : Nat → List Dr → List Res
  | _, [] => []
  | j, d :: l => match d.new with
    | [] => viewR p (j + 1) l
    | r :: n => (if p j then r :: n else .yet :: yets n) ++ viewR p (j + 1) l

def lens : List Dr → Nat
  | [] => 0
  | d :: l => d.new.length + lens l

def drS : List Dr → List S
  | [] => []
  | d :: l => d.s :: drS l

def guardIn (m : Nat) : Option (Nat × Bool) → Bool
  | none => true
  | some (j, _) => Nat.testBit m j

def planOp (C : Ctx) (ops : List Oper) (D : List S) (R : List Res) (nid : Nat) (o : Oper) : Option Dr :=
  match chainOf D ops o.guard with
  | none => none
  | some none => some { s := .ud, g := false, q := none, new := [] }
  | some (some ch) => match opRO C D R nid ch o.op with
    | some (q, x, new) => match ch with
      | [] => some { s := .v x, g := true, q := q, new := new }
      | c :: ch => if new.isEmpty then some { s := .gv (c :: ch) x, g := gOf D (c :: ch), q := q, new := [] } else none
    | none => none

def dstIn (n : Nat) : Option Nat → Bool
  | none => true
  | some d => Nat.blt d n

def planOne (C : Ctx) (ops : List Oper) (ds : List (Option Nat × Nat)) (sl : List S) (res : List Res) (done : List Dr) (i : Nat) (o : Oper) : Option Dr :=
  if guardIn (ancAt ds i) o.guard && dstIn sl.length o.dst then
    planOp C ops (viewS (ancAt ds i) i 0 ds (drS done) sl) (addR res (viewR (Nat.testBit (ancAt ds i)) 0 done)) (res.length + lens done) o
  else none

/-- All that can be done one by one; what is left. -/
def planGo (C : Ctx) (ops : List Oper) (ds : List (Option Nat × Nat)) (sl : List S) (res : List Res) : Nat → List Oper → List Dr → List Dr × List Oper
  | _, [], done => (done, [])
  | i, o :: l, done => match planOne C ops ds sl res done i o with
    | some d => planGo C ops ds sl res (i + 1) l (done ++ [d])
    | none => (done, o :: l)

def reqAll : List Dr → Prop → Prop
  | [], k => k
  | d :: l, k => match d.s with
    | .gv _ _ => reqG d.g d.q (reqAll l k)
    | _ => reqO d.q (reqAll l k)

def allM' (n : Nat) : Nat := 2 ^ n - 1

/-- The same in the order of evaluation. -/
def planK (C : Ctx) (ops : List Oper) (ds : List (Option Nat × Nat)) (sl : List S) (res : List Res) : Nat → List Oper → List Dr → (List Dr → List Oper → Prop) → Prop
  | _, [], done, k => k done []
  | i, o :: l, done, k => frcK (viewS (ancAt ds i) i 0 ds (drS done) sl) fun D =>
    match (if guardIn (ancAt ds i) o.guard && dstIn sl.length o.dst then planOp C ops D (addR res (viewR (Nat.testBit (ancAt ds i)) 0 done)) (res.length + lens done) o else none) with
    | some d => planK C ops ds sl res (i + 1) l (done ++ [d]) k
    | none => k done (o :: l)

theorem planK_eq (C : Ctx) (ops : List Oper) (ds : List (Option Nat × Nat)) (sl : List S) (res : List Res) : ∀ (l : List Oper) (i : Nat) (done : List Dr) (k : List Dr → List Oper → Prop),
    planK C ops ds sl res i l done k = k (planGo C ops ds sl res i l done).1 (planGo C ops ds sl res i l done).2
  | [], _, _, _ => rfl
  | o :: l, i, done, k => by
    simp only [planK, planGo, frcK_eq, planOne]
    split
    · rename_i d hd
      exact planK_eq C ops ds sl res l (i + 1) (done ++ [d]) k
    · rename_i hd
      rfl

/-- The rest of a region, each behind all before it. -/
def tailS (C : Ctx) (H : Handler) (Y : YHandler) (ops : List Oper) : List Oper → St → (Out → St → Prop) → Prop
  | [], σ, K => cleanK σ.slots fun sl => K .norm { σ with slots := sl }
  | o :: l, σ, K => stepS C H Y ops o σ (fun σ' => tailS C H Y ops l σ' K) (fun v σ' => K (.pan v) σ')
def tailOK (ds : List (Option Nat × Nat)) : Nat → List Oper → Bool
  | _, [] => true
  | i, _ :: l => ancAt ds i == allM' i && tailOK ds (i + 1) l

/-- The one operation that is not before another one. -/
def lateOf (m n : Nat) : Option Nat := (List.range n).find? fun e => !(Nat.testBit m e) && (m ||| 2 ^ e) == allM' n
def opNe (o : Operand) (d : Nat) : Bool :=
  match o with
  | .tmp s => !(s == d)
  | _ => true
/-- A store that need not wait for a part of a tuple that is taken out. -/
def tailLate (ops : List Oper) (ds : List (Option Nat × Nat)) (n : Nat) (o : Oper) (l : List Oper) : Bool :=
  match o.op with
  | .store _ p x => match o.dst with
    | none => match o.guard with
      | none => match lateOf (ancAt ds n) n with
        | some e => match ops[e]? with
          | some oe => match oe.op with
            | .extract y _ => match oe.dst with
              | some d => match oe.guard with
                | none => opNe p d && opNe x d && opNe y d && tailOK ds (n + 1) l
                | some _ => false
              | none => false
            | _ => false
          | none => false
        | none => false
      | some _ => false
    | some _ => false
  | _ => false

/-- An operation that takes a value, or a part of a tuple. -/
def srcOf (o : Oper) : Option Operand :=
  match o.op with
  | .move x => some x
  | .assign x => some x
  | .extract x _ => some x
  | _ => none
def isPure (o : Oper) : Bool :=
  match o.guard with
  | none => match o.dst with
    | some _ => (srcOf o).isSome
    | none => false
  | some _ => false
def apart (x y : Oper) : Bool :=
  match srcOf x, x.dst, srcOf y, y.dst with
  | some sx, some dx, some sy, some dy => opNe sy dx && opNe sx dy && !(dx == dy)
  | _, _, _, _ => false
def pairsOK (ds : List (Option Nat × Nat)) (j : Nat) (x : Oper) : Nat → List Oper → Bool
  | _, [] => true
  | i, y :: l => (Nat.testBit (ancAt ds i) j || apart x y) && pairsOK ds j x (i + 1) l
def pureOK (ds : List (Option Nat × Nat)) (n : Nat) : Nat → List Oper → Bool
  | _, [] => true
  | i, x :: l => isPure x && (ancAt ds i ||| allM' (n + 1)) == ancAt ds i && pairsOK ds i x (i + 1) l && pureOK ds n (i + 1) l
/-- Behind an operation that waits for all before it: what only takes values. -/
def tailPure (ds : List (Option Nat × Nat)) (n : Nat) (l : List Oper) : Bool := ancAt ds n == allM' n && pureOK ds n (n + 1) l

def drawEnd (C : Ctx) (H : Handler) (Y : YHandler) (ops : List Oper) (ds : List (Option Nat × Nat)) (σ : St) (K : Out → St → Prop) (drs : List Dr) (rest : List Oper) : Prop :=
  reqAll drs (match rest with
    | [] => frcK (viewS (allM' drs.length) drs.length 0 ds (drS drs) (clean σ.slots)) fun sl => cleanK sl fun sl => K .norm { σ with slots := sl, res := addR σ.res (viewR (fun _ => true) 0 drs) }
    | o :: l => if tailOK ds drs.length (o :: l) || tailLate ops ds drs.length o l || tailPure ds drs.length l then
        frcK (viewS (allM' drs.length) drs.length 0 ds (drS drs) (clean σ.slots)) fun sl => tailS C H Y ops (o :: l) { σ with slots := sl, res := addR σ.res (viewR (fun _ => true) 0 drs) } K
      else False)

def drawGo (C : Ctx) (H : Handler) (Y : YHandler) (ops : List Oper) (ds : List (Option Nat × Nat)) (σ : St) (K : Out → St → Prop) : Prop :=
  if okGo ds 0 ops ds && dist ds then
    cleanK σ.slots fun sl => planK C ops ds sl σ.res 0 ops [] fun drs rest => drawEnd C H Y ops ds σ K drs rest
  else False

/-- A region whose order is drawn. -/
def drawS (C : Ctx) (H : Handler) (Y : YHandler) (ops : List Oper) (σ : St) (K : Out → St → Prop) : Prop := drawGo C H Y ops (dsGo ops []) σ K

theorem testBit_mask {ds : List (Option Nat × Nat)} {k : Nat} : ∀ {es : List Edge}, (maskOf ds es).testBit k = true ↔ ∃ e ∈ es, Region.binds .any e = true ∧ (e.on = k ∨ (ancAt ds e.on).testBit k = true)
  | [] => by simp [maskOf]
  | e :: l => by
    have ih := testBit_mask (ds := ds) (k := k) (es := l)
    simp only [maskOf, List.mem_cons, exists_eq_or_imp]
    split
    · rename_i h
      simp only [Nat.testBit_or, Bool.or_eq_true, ih, h, true_and, Nat.testBit_two_pow, decide_eq_true_eq]
    · rename_i h
      simp [ih, h]

theorem viewS_length (anc i : Nat) : ∀ (ds : List (Option Nat × Nat)) (j : Nat) (done sl : List S), (viewS anc i j ds done sl).length = sl.length
  | [], j, done, sl => by simp [viewS]
  | (none, m) :: ds, j, done, sl => by simp only [viewS]; exact viewS_length anc i ds _ _ _
  | (some d, m) :: ds, j, s :: done, sl => by simp only [viewS]; rw [viewS_length anc i ds _ _ _, sset_length]
  | (some d, m) :: ds, j, [], sl => by
    simp only [viewS]
    split
    · exact viewS_length anc i ds _ _ _
    · rw [viewS_length anc i ds _ _ _, sset_length]

theorem viewS_cases (anc i t : Nat) : ∀ (ds : List (Option Nat × Nat)) (j : Nat) (done sl : List S),
    sget (viewS anc i j ds done sl) t = .und ∨
    (∃ k m s, ds[k]? = some (some t, m) ∧ done[k]? = some s ∧ anc.testBit (j + k) = true ∧ sget (viewS anc i j ds done sl) t = s) ∨
    (sget (viewS anc i j ds done sl) t = sget sl t ∧ ∀ k m, ds[k]? = some (some t, m) → done.length ≤ k ∧ (j + k = i ∨ m.testBit i = true))
  | [], j, done, sl => .inr (.inr ⟨by simp [viewS], by simp⟩)
  | (none, m) :: ds, j, done, sl => by
    simp only [viewS]
    rcases viewS_cases anc i t ds (j + 1) done.tail sl with h | ⟨k, m', s, h1, h2, h3, h4⟩ | ⟨h1, h2⟩
    · exact .inl h
    · refine .inr (.inl ⟨k + 1, m', s, by simpa using h1, ?_, by rw [show j + (k + 1) = j + 1 + k by omega]; exact h3, h4⟩)
      cases done <;> first | (simp at h2; done) | simpa using h2
    · refine .inr (.inr ⟨h1, fun k m' hk => ?_⟩)
      cases k with
      | zero => simp at hk
      | succ k =>
        obtain ⟨a, b⟩ := h2 k m' (by simpa using hk)
        refine ⟨?_, by rw [show j + (k + 1) = j + 1 + k by omega]; exact b⟩
        cases done with
        | nil => simp
        | cons x l => simpa using a
  | (some d, m) :: ds, j, s :: done, sl => by
    simp only [viewS]
    rcases viewS_cases anc i t ds (j + 1) done (sset sl d (if anc.testBit j = true then s else .und)) with h | ⟨k, m', s', h1, h2, h3, h4⟩ | ⟨h1, h2⟩
    · exact .inl h
    · exact .inr (.inl ⟨k + 1, m', s', by simpa using h1, by simpa using h2, by rw [show j + (k + 1) = j + 1 + k by omega]; exact h3, h4⟩)
    · rw [sget_sset] at h1
      by_cases e : t = d ∧ d < sl.length
      · rw [if_pos e] at h1
        obtain ⟨rfl, hd⟩ := e
        by_cases hb : anc.testBit j = true
        · rw [if_pos hb] at h1
          exact .inr (.inl ⟨0, m, s, by simp, by simp, by simpa using hb, by rw [if_pos hb]; exact h1⟩)
        · rw [if_neg hb] at h1
          exact .inl (by rw [if_neg hb]; exact h1)
      · rw [if_neg e] at h1
        by_cases e' : t = d
        · subst e'
          have hl : ¬ t < sl.length := fun hh => e ⟨rfl, hh⟩
          refine .inl ?_
          rw [h1, sget_eq, List.getD_eq_getElem?_getD, List.getElem?_eq_none (by omega)]; rfl
        · refine .inr (.inr ⟨h1, fun k m' hk => ?_⟩)
          cases k with
          | zero => simp only [List.getElem?_cons_zero, Option.some.injEq, Prod.mk.injEq] at hk; exact absurd hk.1.symm e'
          | succ k =>
            obtain ⟨a, b⟩ := h2 k m' (by simpa using hk)
            exact ⟨by simpa using a, by rw [show j + (k + 1) = j + 1 + k by omega]; exact b⟩
  | (some d, m) :: ds, j, [], sl => by
    simp only [viewS]
    split
    · rename_i hc
      rcases viewS_cases anc i t ds (j + 1) [] sl with h | ⟨k, m', s', h1, h2, h3, h4⟩ | ⟨h1, h2⟩
      · exact .inl h
      · simp at h2
      · refine .inr (.inr ⟨h1, fun k m' hk => ⟨by simp, ?_⟩⟩)
        cases k with
        | zero =>
          simp only [List.getElem?_cons_zero, Option.some.injEq, Prod.mk.injEq] at hk
          obtain ⟨_, rfl⟩ := hk
          simpa using hc
        | succ k =>
          obtain ⟨a, b⟩ := h2 k m' (by simpa using hk)
          rw [show j + (k + 1) = j + 1 + k by omega]; exact b
    · rename_i hc
      rcases viewS_cases anc i t ds (j + 1) [] (sset sl d .und) with h | ⟨k, m', s', h1, h2, h3, h4⟩ | ⟨h1, h2⟩
      · exact .inl h
      · simp at h2
      · rw [sget_sset] at h1
        by_cases e : t = d ∧ d < sl.length
        · rw [if_pos e] at h1; exact .inl h1
        · rw [if_neg e] at h1
          by_cases e' : t = d
          · subst e'
            have hl : ¬ t < sl.length := fun hh => e ⟨rfl, hh⟩
            refine .inl ?_
            rw [h1, sget_eq, List.getD_eq_getElem?_getD, List.getElem?_eq_none (by omega)]; rfl
          · refine .inr (.inr ⟨h1, fun k m' hk => ⟨by simp, ?_⟩⟩)
            cases k with
            | zero => simp only [List.getElem?_cons_zero, Option.some.injEq, Prod.mk.injEq] at hk; exact absurd hk.1.symm e'
            | succ k =>
              obtain ⟨a, b⟩ := h2 k m' (by simpa using hk)
              rw [show j + (k + 1) = j + 1 + k by omega]; exact b

theorem optNe_spec {a b : Option Nat} (h : optNe a b = true) {t : Nat} (ha : a = some t) (hb : b = some t) : False := by
  subst ha; subst hb; simp [optNe] at h

theorem dist_spec : ∀ {ds : List (Option Nat × Nat)}, dist ds = true → ∀ {j k t m m' : Nat}, ds[j]? = some (some t, m) → ds[k]? = some (some t, m') → j = k
  | [], _, j, k, t, m, m', h, _ => by simp at h
  | p :: l, hd, j, k, t, m, m', hj, hk => by
    simp only [dist, Bool.and_eq_true, List.all_eq_true] at hd
    cases j with
    | zero =>
      cases k with
      | zero => rfl
      | succ k =>
        simp only [List.getElem?_cons_zero, Option.some.injEq] at hj
        have := hd.1 _ (List.mem_of_getElem? (by simpa using hk))
        exact (optNe_spec this (by rw [hj]) rfl).elim
    | succ j =>
      cases k with
      | zero =>
        simp only [List.getElem?_cons_zero, Option.some.injEq] at hk
        have := hd.1 _ (List.mem_of_getElem? (by simpa using hj))
        exact (optNe_spec this (by rw [hk]) rfl).elim
      | succ k => exact congrArg (· + 1) (dist_spec hd.2 (t := t) (m := m) (m' := m') (by simpa using hj) (by simpa using hk))

/-- What is seen of a slot that a seen operation writes. -/
theorem viewS_at {anc i t : Nat} : ∀ {ds : List (Option Nat × Nat)} (_ : dist ds = true) {j : Nat} {done sl : List S} {k m : Nat} {s : S}, ds[k]? = some (some t, m) → done[k]? = some s → anc.testBit (j + k) = true →
    t < sl.length → sget (viewS anc i j ds done sl) t = s
  | (none, m0) :: ds, hd, j, done, sl, k, m, s, h1, h2, h3, ht => by
    simp only [dist, Bool.and_eq_true] at hd
    cases k with
    | zero => simp at h1
    | succ k =>
      simp only [viewS]
      refine viewS_at hd.2 (k := k) (by simpa using h1) ?_ (by rw [show j + 1 + k = j + (k + 1) by omega]; exact h3) ht
      cases done <;> first | (simp at h2; done) | simpa using h2
  | (some d, m0) :: ds, hd, j, [], sl, k, m, s, h1, h2, h3, ht => by simp at h2
  | (some d, m0) :: ds, hd, j, x :: done, sl, k, m, s, h1, h2, h3, ht => by
    have hd' := hd
    simp only [dist, Bool.and_eq_true] at hd
    cases k with
    | succ k =>
      simp only [viewS]
      exact viewS_at hd.2 (k := k) (by simpa using h1) (by simpa using h2) (by rw [show j + 1 + k = j + (k + 1) by omega]; exact h3) (by rw [sset_length]; exact ht)
    | zero =>
      simp only [List.getElem?_cons_zero, Option.some.injEq, Prod.mk.injEq] at h1 h2
      obtain ⟨rfl, rfl⟩ := h1
      subst h2
      simp only [viewS]
      simp only [Nat.add_zero] at h3
      have hno : ∀ (k m' : Nat), ds[k]? = some (some d, m') → False := fun k m' hk => by
        have := dist_spec hd' (j := 0) (k := k + 1) (t := d) (m := m0) (m' := m') (by simp) (by simpa using hk)
        omega
      have key : ∀ (ds : List (Option Nat × Nat)) (j : Nat) (done sl : List S), (∀ (k m' : Nat), ds[k]? = some (some d, m') → False) → sget (viewS anc i j ds done sl) d = sget sl d := by
        intro ds
        induction ds with
        | nil => intro j done sl _; simp [viewS]
        | cons p ds ih =>
          intro j done sl hn
          have hn' : ∀ (k m' : Nat), ds[k]? = some (some d, m') → False := fun k m' hk => hn (k + 1) m' (by simpa using hk)
          obtain ⟨a, b⟩ := p
          cases a with
          | none => simp only [viewS]; exact ih _ _ _ hn'
          | some e =>
            have hne : d ≠ e := fun he => hn 0 b (by simp [he])
            have hss : ∀ (sl : List S) (y : S), sget (sset sl e y) d = sget sl d := fun sl y => by rw [sget_sset, if_neg fun h => hne h.1]
            cases done with
            | nil =>
              simp only [viewS]
              split
              · exact ih _ _ _ hn'
              · rw [ih _ _ _ hn', hss]
            | cons y done => simp only [viewS]; rw [ih _ _ _ hn', hss]
      rw [key _ _ _ _ hno, sget_sset, if_pos ⟨rfl, ht⟩, if_pos h3]
  | [], _, j, done, sl, k, m, s, h1, h2, h3, ht => by simp at h1

theorem viewS_out {anc i t : Nat} {ds : List (Option Nat × Nat)} {j : Nat} {done sl : List S} (ht : ¬ t < sl.length) : sget (viewS anc i j ds done sl) t = .und := by
  rw [sget_eq, List.getD_eq_getElem?_getD, List.getElem?_eq_none (by rw [viewS_length]; omega)]; rfl

/- The places. -/

def locate : List Dr → Nat → Option (Nat × Nat)
  | [], _ => none
  | d :: l, x => if x < d.new.length then some (0, x) else (locate l (x - d.new.length)).map fun p => (p.1 + 1, p.2)

theorem yets_length : ∀ l, (yets l).length = l.length
  | [] => rfl
  | _ :: l => by simp [yets, yets_length l]

theorem rget_yets : ∀ (l : List Res) (x : Nat), rget (yets l) x = .yet
  | [], x => by simp [yets, rget]
  | _ :: l, 0 => by simp [yets, rget]
  | _ :: l, x + 1 => by simp [yets, rget, rget_yets l x]

theorem viewR_cons (p : Nat → Bool) (j : Nat) (d : Dr) (l : List Dr) : viewR p j (d :: l) = (if p j then d.new else yets d.new) ++ viewR p (j + 1) l := by
  simp only [viewR]
  cases h : d.new with
  | nil => simp [yets]
  | cons r n => simp [yets]

theorem viewR_get (p : Nat → Bool) : ∀ (l : List Dr) (j x : Nat), rget (viewR p j l) x = match locate l x with
    | some (k, y) => if p (j + k) then (match l[k]? with | some d => rget d.new y | none => .yet) else .yet
    | none => .yet
  | [], j, x => by simp [viewR, locate, rget]
  | d :: l, j, x => by
    rw [viewR_cons, rget_append]
    have hlen : (if p j = true then d.new else yets d.new).length = d.new.length := by split <;> simp [yets_length]
    rw [hlen]
    simp only [locate]
    split
    · simp only [Nat.add_zero, List.getElem?_cons_zero]
      split <;> simp [rget_yets]
    · rw [viewR_get p l (j + 1) (x - d.new.length)]
      cases hl : locate l (x - d.new.length) with
      | none => simp
      | some q =>
        obtain ⟨k, y⟩ := q
        simp only [Option.map_some, List.getElem?_cons_succ]
        rw [show j + 1 + k = j + (k + 1) by omega]

theorem viewR_length (p : Nat → Bool) : ∀ (l : List Dr) (j : Nat), (viewR p j l).length = lens l
  | [], j => by simp [viewR, lens]
  | d :: l, j => by
    rw [viewR_cons, List.length_append, viewR_length p l, lens]
    split <;> simp [yets_length]

theorem locate_spec : ∀ (l : List Dr) (x k y : Nat), locate l x = some (k, y) ↔ (∃ d, l[k]? = some d ∧ y < d.new.length) ∧ x = lens (l.take k) + y
  | [], x, k, y => by simp [locate]
  | d :: l, x, k, y => by
    simp only [locate]
    cases k with
    | zero =>
      simp only [List.getElem?_cons_zero, Option.some.injEq, exists_eq_left', List.take_zero, lens, Nat.zero_add]
      split
      · simp only [Option.some.injEq, Prod.mk.injEq, true_and]
        exact ⟨fun h => ⟨by omega, h⟩, fun h => h.2⟩
      · rename_i hx
        constructor
        · intro h
          cases hl : locate l (x - d.new.length) <;> simp [hl] at h
        · intro h; omega
    | succ k =>
      simp only [List.getElem?_cons_succ, List.take_succ_cons, lens]
      split
      · rename_i hx
        simp only [Option.some.injEq, Prod.mk.injEq]
        constructor
        · intro h; omega
        · rintro ⟨_, h⟩; omega
      · rename_i hx
        have ih := locate_spec l (x - d.new.length) k y
        constructor
        · intro h
          cases hl : locate l (x - d.new.length) with
          | none => simp [hl] at h
          | some q =>
            obtain ⟨a, b⟩ := q
            simp only [hl, Option.map_some, Option.some.injEq, Prod.mk.injEq] at h
            have : locate l (x - d.new.length) = some (k, y) := by rw [hl]; simp; omega
            obtain ⟨g1, g2⟩ := ih.1 this
            exact ⟨g1, by omega⟩
        · rintro ⟨g1, g2⟩
          rw [ih.2 ⟨g1, by omega⟩]; rfl
end Go.Sx
/- The executor: what a drawn order may do. No condition. -/
set_option linter.unusedVariables false
set_option linter.unusedSimpArgs false
namespace Go.Sx
open Go.RowKit (Below)

theorem okGo_spec {ds : List (Option Nat × Nat)} : ∀ {ops : List Oper} {i0 : Nat} {dd : List (Option Nat × Nat)}, okGo ds i0 ops dd = true → ops.length = dd.length ∧ ∀ (i : Nat) (o : Oper), ops[i]? = some o →
    ∃ m, dd[i]? = some (o.dst, m) ∧ maskOf ds o.after.toList = m ∧ m < 2 ^ (i0 + i) ∧ ∀ j, m.testBit j = true → (ancAt ds j ||| m) = m
  | [], i0, [], _ => ⟨rfl, by simp⟩
  | [], _, _ :: _, h => by simp [okGo] at h
  | _ :: _, _, [], h => by simp [okGo] at h
  | o :: l, i0, d :: dd, h => by
    simp only [okGo, Bool.and_eq_true, beq_iff_eq, List.all_eq_true, List.mem_range, Bool.or_eq_true, Bool.not_eq_true', Nat.ble_eq] at h
    obtain ⟨⟨⟨⟨h1, h2⟩, h3⟩, h4⟩, h5⟩ := h
    obtain ⟨i1, i2⟩ := okGo_spec h5
    refine ⟨by simp [i1], fun i p hp => ?_⟩
    cases i with
    | zero =>
      simp only [List.getElem?_cons_zero, Option.some.injEq] at hp
      subst hp
      refine ⟨d.2, ?_, h2, by rw [Nat.add_zero]; exact h3, fun j hj => ?_⟩
      · obtain ⟨d1, d2⟩ := d
        simp only [List.getElem?_cons_zero, Option.some.injEq, Prod.mk.injEq, and_true]
        simp only at h1
        split at h1 <;> simp_all
      · have hlt : j < i0 := by
          rcases Nat.lt_or_ge j i0 with h | h
          · exact h
          · have := Nat.testBit_lt_two_pow (x := d.2) (i := j) (Nat.lt_of_lt_of_le (by omega) (Nat.pow_le_pow_right (by omega) h))
            rw [this] at hj; simp at hj
        rcases h4 j hlt with h | h
        · rw [h] at hj; simp at hj
        · exact h
    | succ i =>
      obtain ⟨m, a, b, c, e⟩ := i2 i p (by simpa using hp)
      exact ⟨m, by simpa using a, b, by rw [show i0 + (i + 1) = i0 + 1 + i by omega]; exact c, e⟩

structure Planned (C : Ctx) (ops : List Oper) (ds : List (Option Nat × Nat)) (sl : List S) (res : List Res) (drs : List Dr) : Prop where
  okk : okGo ds 0 ops ds = true
  dst : dist ds = true
  cl : ∀ t, (∃ x, sget sl t = .v x) ∨ sget sl t = .und
  plan : ∀ i d, drs[i]? = some d → ∃ o, ops[i]? = some o ∧ planOne C ops ds sl res (drs.take i) i o = some d

theorem drS_get : ∀ (l : List Dr) (i : Nat), (drS l)[i]? = (l[i]?).map Dr.s
  | [], i => by simp [drS]
  | d :: l, 0 => by simp [drS]
  | d :: l, i + 1 => by simp [drS, drS_get l i]

theorem drS_length (l : List Dr) : (drS l).length = l.length := by
  induction l with
  | nil => rfl
  | cons d l ih => simp [drS, ih]

theorem gOf_congr {sl sl' : List S} : ∀ {ch : List (Nat × Bool)}, (∀ p ∈ ch, sget sl p.1 = sget sl' p.1) → gOf sl ch = gOf sl' ch
  | [], _ => rfl
  | (s, w) :: c, h => by
    rw [gOf_cons, gOf_cons, h (s, w) (by simp), gOf_congr fun p hp => h p (by simp [hp])]

section
variable {C : Ctx} {opsA : Array Oper} {ds : List (Option Nat × Nat)} {sl : List S} {res : List Res} {drs : List Dr}

theorem Planned.at (P : Planned C opsA.toList ds sl res drs) {i : Nat} {o : Oper} (h : opsA[i]? = some o) :
    ds[i]? = some (o.dst, ancAt ds i) ∧ (∀ k, (ancAt ds i).testBit k = true → k < i) ∧
    (∀ k, (ancAt ds i).testBit k = true ↔ ∃ e ∈ o.after, Region.binds .any e = true ∧ (e.on = k ∨ (ancAt ds e.on).testBit k = true)) ∧
    ∀ k r, (ancAt ds i).testBit k = true → (ancAt ds k).testBit r = true → (ancAt ds i).testBit r = true := by
  obtain ⟨m, h1, h2, h3, h4⟩ := (okGo_spec P.okk).2 i o (by simpa using h)
  have hm : ancAt ds i = m := by simp [ancAt, h1]
  rw [hm]
  refine ⟨h1, fun k hk => ?_, fun k => ?_, fun k r hk hr => ?_⟩
  · rcases Nat.lt_or_ge k i with h | h
    · exact h
    · have := Nat.testBit_lt_two_pow (x := m) (i := k) (Nat.lt_of_lt_of_le h3 (Nat.pow_le_pow_right (by omega) (by omega)))
      rw [this] at hk; simp at hk
  · rw [← h2, testBit_mask]
    simp only [Array.mem_toList_iff]
  · rw [← h4 k hk, Nat.testBit_or, hr]; rfl

theorem Planned.len (P : Planned C opsA.toList ds sl res drs) : ds.length = opsA.size := by
  have := (okGo_spec P.okk).1
  simpa using this.symm

def Dat (ds : List (Option Nat × Nat)) (sl : List S) (drs : List Dr) (i : Nat) : List S := viewS (ancAt ds i) i 0 ds (drS (drs.take i)) sl

def chIn (ds : List (Option Nat × Nat)) (m : Nat) (ch : List (Nat × Bool)) : Prop := ∀ p ∈ ch, ∃ k m', m.testBit k = true ∧ ds[k]? = some (some p.1, m')

theorem Planned.chain (P : Planned C opsA.toList ds sl res drs) : ∀ (i : Nat) (d : Dr), drs[i]? = some d → ∀ ch x, d.s = .gv ch x → d.g = gOf (Dat ds sl drs i) ch ∧ chIn ds (ancAt ds i) ch := by
  intro i
  induction i using Nat.strongRecOn with
  | _ i ih =>
    intro d hd ch x hs
    obtain ⟨o, ho, hp⟩ := P.plan i d hd
    obtain ⟨p1, p2, p3, p4⟩ := P.at (i := i) (o := o) (by simpa using ho)
    unfold planOne at hp
    split at hp
    · rename_i hc
      simp only [Bool.and_eq_true] at hc
      unfold planOp at hp
      split at hp
      · simp at hp
      · simp only [Option.some.injEq] at hp; subst hp; simp at hs
      · rename_i ch' hch
        split at hp
        · rename_i q y new hop
          cases ch' with
          | nil => simp only [Option.some.injEq] at hp; subst hp; simp at hs
          | cons c0 c1 =>
            simp only at hp
            split at hp
            · simp only [Option.some.injEq] at hp
              subst hp
              simp only [S.gv.injEq] at hs
              obtain ⟨rfl, rfl⟩ := hs
              refine ⟨rfl, ?_⟩
              -- the guard
              unfold chainOf at hch
              split at hch
              · simp at hch
              · rename_i j w hg
                split at hch
                · simp at hch
                · rename_i s hsd
                  have hjb : (ancAt ds i).testBit j = true := by have := hc.1; rw [hg] at this; exact this
                  have hj : ∃ m', ds[j]? = some (some s, m') := by
                    cases hoj : opsA.toList[j]? with
                    | none => simp [hoj] at hsd
                    | some oj =>
                      simp only [hoj, Option.bind_some] at hsd
                      have := (P.at (i := j) (o := oj) (by simpa using hoj)).1
                      rw [hsd] at this
                      exact ⟨_, this⟩
                  have hsub : ∀ c y, sget (viewS (ancAt ds i) i 0 ds (drS (drs.take i)) sl) s = .gv c y → chIn ds (ancAt ds i) c := by
                    intro c y hy
                    rcases viewS_cases (ancAt ds i) i s ds 0 (drS (drs.take i)) sl with h | ⟨k, m', s', h1, h2, h3, h4⟩ | ⟨h1, h2⟩
                    · rw [h] at hy; simp at hy
                    · rw [h4] at hy
                      simp only [Nat.zero_add] at h3
                      have hki := p2 k h3
                      rw [drS_get, List.getElem?_take, if_pos hki] at h2
                      cases hdk : drs[k]? with
                      | none => simp [hdk] at h2
                      | some dk =>
                        simp only [hdk, Option.map_some, Option.some.injEq] at h2
                        obtain ⟨_, g2⟩ := ih k hki dk hdk c y (by rw [h2]; exact hy)
                        exact fun p hp => let ⟨r, m'', e1, e2⟩ := g2 p hp; ⟨r, m'', p4 k r h3 e1, e2⟩
                    · rw [h1] at hy
                      rcases P.cl s with ⟨z, hz⟩ | hz <;> rw [hz] at hy <;> simp at hy
                  have hhead : ∃ (k m' : Nat), (ancAt ds i).testBit k = true ∧ ds[k]? = some (some s, m') := let ⟨m', h⟩ := hj; ⟨j, m', hjb, h⟩
                  clear hop
                  split at hch <;> (try split at hch) <;> simp only [Option.some.injEq, reduceCtorEq, List.cons.injEq] at hch
                  · obtain ⟨rfl, rfl⟩ := hch
                    intro p hp
                    simp only [List.mem_singleton] at hp
                    subst hp
                    exact hhead
                  · rename_i c b hv
                    obtain ⟨rfl, rfl⟩ := hch
                    intro p hp
                    rcases List.mem_cons.1 hp with rfl | hp
                    · exact hhead
                    · exact hsub _ _ hv p hp
                  · rename_i c b hv _
                    subst hch
                    exact hsub _ _ hv
            · simp at hp
        · simp at hp
    · simp at hp

/-- Two views agree on the guards of an operation that both see. -/
theorem Planned.guard_eq (P : Planned C opsA.toList ds sl res drs) {k : Nat} {d : Dr} (hd : drs[k]? = some d) {ch : List (Nat × Bool)} {x : V} (hs : d.s = .gv ch x) {anc i : Nat} (hi : k < i)
    (hsub : ∀ r, (ancAt ds k).testBit r = true → anc.testBit r = true) : gOf (viewS anc i 0 ds (drS (drs.take i)) sl) ch = d.g := by
  obtain ⟨h1, h2⟩ := P.chain k d hd ch x hs
  rw [h1]
  obtain ⟨o, ho, _⟩ := P.plan k d hd
  obtain ⟨p1, p2, p3, p4⟩ := P.at (i := k) (o := o) (by simpa using ho)
  have hklt : k < drs.length := (List.getElem?_eq_some_iff.1 hd).1
  refine gOf_congr fun p hp => ?_
  obtain ⟨r, m', e1, e2⟩ := h2 p hp
  have hr := p2 r e1
  by_cases ht : p.1 < sl.length
  · have hdr : drs[r]? = some (drs[r]'(by omega)) := List.getElem?_eq_getElem (by omega)
    rw [viewS_at P.dst (k := r) e2 (s := (drs[r]'(by omega)).s) (by rw [drS_get, List.getElem?_take, if_pos (by omega), hdr]; rfl) (by simpa using hsub r e1) ht]
    unfold Dat
    rw [viewS_at P.dst (k := r) e2 (s := (drs[r]'(by omega)).s) (by rw [drS_get, List.getElem?_take, if_pos hr, hdr]; rfl) (by simpa using e1) ht]
  · rw [viewS_out ht]
    unfold Dat
    rw [viewS_out ht]

def SlotG (ρ : Env) (K : Nat → Prop) (x : Value) (d : Dr) : Prop :=
  match d.s with
  | .und => True
  | .ud => x = undef
  | .v y => x = den ρ y ∧ ok K y
  | .gv _ y => (d.g = true → x = den ρ y ∧ ok K y) ∧ (d.g = false → x = undef)

theorem SlotG.env {ρ ρ' : Env} {K K' : Nat → Prop} {x : Value} {d : Dr} (h : SlotG ρ K x d) (hK : ∀ i, K i → K' i) (ha : Env.agree K ρ ρ') : SlotG ρ' K' x d := by
  unfold SlotG at h ⊢
  split
  · trivial
  · rename_i hs; rw [hs] at h; exact h
  · rename_i y hs; rw [hs] at h; exact ⟨by rw [den_agree ha y h.2]; exact h.1, ok_mono hK y h.2⟩
  · rename_i c y hs; rw [hs] at h; exact ⟨fun hg => ⟨by rw [den_agree ha y (h.1 hg).2]; exact (h.1 hg).1, ok_mono hK y (h.1 hg).2⟩, h.2⟩

/-- The places that are known when some were done. -/
def KL (res : List Res) (drs : List Dr) (L : Nat → Bool) (id : Nat) : Prop := known res id ∨ (res.length ≤ id ∧ ∃ j y, locate drs (id - res.length) = some (j, y) ∧ L j = true)

structure Inv (ds : List (Option Nat × Nat)) (sl : List S) (res : List Res) (drs : List Dr) (defs : List (Nat × List V × List V)) (ρ0 : Env) (w0 : World) (F0 : Nat → Prop) (L : Nat → Bool) (ρ : Env) (fps : Nat → Nat → Prop) (a : Act) (w : World) : Prop where
  size : a.tmps.size = sl.length
  done : ∀ t j m d, ds[j]? = some (some t, m) → drs[j]? = some d → L j = true → SlotG ρ (KL res drs L) (a.tmps.getD t undef) d
  todo : ∀ t, (∀ j m, ds[j]? = some (some t, m) → L j = false) → SlotOK ρ (KL res drs L) [] (a.tmps.getD t undef) (sget sl t)
  heap : HRep ρ fps (res ++ viewR L 0 drs) (KL res drs L) w0 F0 w
  down : ∀ i k, L i = true → (ancAt ds i).testBit k = true → L k = true
  defs : a.defers = defs.map (dDen ρ) ∧ ∀ d ∈ defs, okL (known res) d.2.1 ∧ okL (known res) d.2.2
  agree : Env.agree (known res) ρ0 ρ
  newk : ∀ j d, drs[j]? = some d → L j = true → ∀ y, y < d.new.length → rget d.new y ≠ .yet

theorem SlotOK.plain {ρ : Env} {K : Nat → Prop} {sl sl' : List S} {x : Value} {s : S} (hs : (∃ y, s = .v y) ∨ s = .und) (h : SlotOK ρ K sl x s) : SlotOK ρ K sl' x s := by
  rcases hs with ⟨y, rfl⟩ | rfl
  · exact h
  · trivial

/-- What an operation sees is so. -/
theorem Planned.view {defs : List (Nat × List V × List V)} {ρ0 ρ : Env} {w0 w : World} {F0 : Nat → Prop} {L : Nat → Bool} {fps : Nat → Nat → Prop} {a : Act} (P : Planned C opsA.toList ds sl res drs) (I : Inv ds sl res drs defs ρ0 w0 F0 L ρ fps a w)
    {anc i : Nat} (h0 : i ≤ drs.length) (h1 : ∀ k, anc.testBit k = true → L k = true ∧ k < i) (h2 : ∀ k r, anc.testBit k = true → (ancAt ds k).testBit r = true → anc.testBit r = true)
    (h3 : ∀ k m t, ds[k]? = some (some t, m) → i ≤ k → (k = i ∨ m.testBit i = true) → L k = false) : FRep ρ (KL res drs L) (viewS anc i 0 ds (drS (drs.take i)) sl) a := by
  refine ⟨by rw [viewS_length]; exact I.size, fun t => ?_⟩
  rcases viewS_cases anc i t ds 0 (drS (drs.take i)) sl with h | ⟨k, m', s', e1, e2, e3, e4⟩ | ⟨e1, e2⟩
  · rw [h]; trivial
  · simp only [Nat.zero_add] at e3
    obtain ⟨l1, l2⟩ := h1 k e3
    rw [drS_get, List.getElem?_take, if_pos l2] at e2
    cases hdk : drs[k]? with
    | none => simp [hdk] at e2
    | some dk =>
      simp only [hdk, Option.map_some, Option.some.injEq] at e2
      have hG := I.done t k m' dk e1 hdk l1
      rw [e4, ← e2]
      unfold SlotG at hG
      cases hds : dk.s with
      | und => trivial
      | ud => rw [hds] at hG; exact hG
      | v y => rw [hds] at hG; exact hG
      | gv c y =>
        rw [hds] at hG
        have := P.guard_eq hdk hds (anc := anc) (i := i) l2 (fun r hr => h2 k r e3 hr)
        exact ⟨fun hg => hG.1 (by rw [← this]; exact hg), fun hg => hG.2 (by rw [← this]; exact hg)⟩
  · rw [e1]
    refine SlotOK.plain (P.cl t) (I.todo t fun j m hj => ?_)
    obtain ⟨f1, f2⟩ := e2 j m hj
    rw [drS_length, List.length_take, Nat.min_eq_left h0] at f1
    exact h3 j m t hj f1 (by simpa using f2)
end
end Go.Sx
/- The executor: a drawn order, step by step. No condition. -/
set_option linter.unusedVariables false
set_option linter.unusedSimpArgs false
namespace Go.Sx
open Go.RowKit (Below)

theorem lens_take_le : ∀ (l : List Dr) (i k y : Nat), (∃ d, l[k]? = some d ∧ y < d.new.length) → k < i → lens (l.take k) + y < lens (l.take i)
  | [], i, k, y, h, _ => by obtain ⟨d, h, _⟩ := h; simp at h
  | d :: l, 0, k, y, _, h => by omega
  | d :: l, i + 1, 0, y, h, _ => by
    obtain ⟨d', h1, h2⟩ := h
    simp only [List.getElem?_cons_zero, Option.some.injEq] at h1
    subst h1
    simp only [List.take_zero, lens, List.take_succ_cons]
    omega
  | d :: l, i + 1, k + 1, y, h, hk => by
    have := lens_take_le l i k y (by simpa using h) (by omega)
    simp only [List.take_succ_cons, lens]
    omega

theorem locate_take {l : List Dr} {i x k y : Nat} (h : locate (l.take i) x = some (k, y)) : k < i ∧ locate l x = some (k, y) := by
  rw [locate_spec] at h ⊢
  obtain ⟨⟨d, h1, h2⟩, h3⟩ := h
  rw [List.getElem?_take] at h1
  by_cases hk : k < i
  · rw [if_pos hk] at h1
    rw [List.take_take, Nat.min_eq_left (by omega)] at h3
    exact ⟨hk, ⟨d, h1, h2⟩, h3⟩
  · rw [if_neg hk] at h1; simp at h1

theorem rget_out {l : List Res} {x : Nat} (h : l.length ≤ x) : rget l x = .yet := by
  rw [rget_eq, List.getD_eq_getElem?_getD, List.getElem?_eq_none h]; rfl

theorem rget_view (res : List Res) (drs : List Dr) (p : Nat → Bool) (id : Nat) : rget (res ++ viewR p 0 drs) id = if id < res.length then rget res id else
    match locate drs (id - res.length) with
    | some (k, y) => if p k then (match drs[k]? with | some d => rget d.new y | none => .yet) else .yet
    | none => .yet := by
  rw [rget_append]
  split
  · rfl
  · rw [viewR_get]; simp only [Nat.zero_add]; all_goals (cases locate drs (id - res.length) <;> rfl)

theorem known_view {res : List Res} {drs : List Dr} {p : Nat → Bool} {id : Nat} (h : known (res ++ viewR p 0 drs) id) : KL res drs p id := by
  unfold known at h
  rw [rget_view] at h
  by_cases hlt : id < res.length
  · rw [if_pos hlt] at h; exact .inl h
  · rw [if_neg hlt] at h
    refine .inr ⟨by omega, ?_⟩
    cases hl : locate drs (id - res.length) with
    | none => simp [hl] at h
    | some q =>
      obtain ⟨k, y⟩ := q
      simp only [hl] at h
      by_cases hp : p k = true
      · exact ⟨k, y, rfl, hp⟩
      · rw [if_neg hp] at h; exact absurd rfl h

/-- What an operation sees of the places is so. -/
theorem view_forget {res : List Res} {drs : List Dr} {p L : Nat → Bool} {i : Nat} (hp : ∀ k, p k = true → L k = true) (id : Nat) (h : known (res ++ viewR p 0 (drs.take i)) id) :
    rget (res ++ viewR p 0 (drs.take i)) id = rget (res ++ viewR L 0 drs) id := by
  unfold known at h
  rw [rget_view] at h ⊢
  rw [rget_view]
  by_cases hlt : id < res.length
  · rw [if_pos hlt, if_pos hlt]
  · rw [if_neg hlt] at h ⊢
    rw [if_neg hlt]
    cases hl : locate (drs.take i) (id - res.length) with
    | none => simp [hl] at h
    | some q =>
      obtain ⟨k, y⟩ := q
      obtain ⟨hk, hl'⟩ := locate_take hl
      simp only [hl] at h ⊢
      rw [hl']
      by_cases hpk : p k = true
      · simp only [if_pos hpk, if_pos (hp k hpk), List.getElem?_take, if_pos hk]
      · rw [if_neg hpk] at h; exact absurd rfl h

def ins (L : Nat → Bool) (i : Nat) (k : Nat) : Bool := k == i || L k

/-- One more is done: its places are added. -/
theorem view_adds {res : List Res} {drs : List Dr} {L : Nat → Bool} {i : Nat} {d : Dr} (hd : drs[i]? = some d) (hi : L i = false) (hnew : ∀ k, k < d.new.length → rget d.new k ≠ .yet) :
    Adds (res ++ viewR L 0 drs) (res ++ viewR (ins L i) 0 drs) (res.length + lens (drs.take i)) d.new ∧
    (∀ id, KL res drs L id → ¬ fresh (res.length + lens (drs.take i)) d.new.length id) ∧
    (∀ id, KL res drs L id ∨ fresh (res.length + lens (drs.take i)) d.new.length id → KL res drs (ins L i) id) := by
  have hfr : ∀ id, fresh (res.length + lens (drs.take i)) d.new.length id ↔ res.length ≤ id ∧ ∃ y, locate drs (id - res.length) = some (i, y) := by
    intro id
    constructor
    · rintro ⟨h1, h2⟩
      refine ⟨by omega, id - res.length - lens (drs.take i), ?_⟩
      rw [locate_spec]
      exact ⟨⟨d, hd, by omega⟩, by omega⟩
    · rintro ⟨h1, y, h2⟩
      rw [locate_spec] at h2
      obtain ⟨⟨d', h3, h4⟩, h5⟩ := h2
      rw [hd] at h3
      simp only [Option.some.injEq] at h3
      subst h3
      exact ⟨by omega, by omega⟩
  have hKf : ∀ id, KL res drs L id → ¬ fresh (res.length + lens (drs.take i)) d.new.length id := by
    rintro id (hk | ⟨h1, j, y, h2, h3⟩) hf
    · have := rget_lt hk
      have := ((hfr id).1 hf).1
      omega
    · obtain ⟨_, y', h4⟩ := (hfr id).1 hf
      rw [h4] at h2
      simp only [Option.some.injEq, Prod.mk.injEq] at h2
      rw [← h2.1, hi] at h3
      simp at h3
  refine ⟨⟨fun id hk => ⟨?_, hKf id (known_view hk)⟩, fun id hk => ?_, fun k hk => ?_⟩, hKf, ?_⟩
  · have h0 := known_view hk
    rw [rget_view, rget_view]
    by_cases hlt : id < res.length
    · rw [if_pos hlt, if_pos hlt]
    · rw [if_neg hlt, if_neg hlt]
      rcases h0 with h0 | ⟨h1, j, y, h2, h3⟩
      · exact absurd (rget_lt h0) hlt
      · simp only [h2, ins, h3, Bool.or_true, if_true]
  · rcases known_view hk with h0 | ⟨h1, j, y, h2, h3⟩
    · left
      unfold known
      rw [rget_view, if_pos (rget_lt h0)]
      exact h0
    · by_cases e : j = i
      · subst e
        exact .inr ((hfr id).2 ⟨h1, y, h2⟩)
      · left
        have h3' : L j = true := by simpa [ins, e] using h3
        unfold known at hk ⊢
        rw [rget_view, if_neg (by omega), h2] at hk ⊢
        simp only [h3, h3', if_true] at hk ⊢
        exact hk
  · rw [rget_view, if_neg (by omega)]
    have : locate drs (res.length + lens (drs.take i) + k - res.length) = some (i, k) := by
      rw [locate_spec]
      exact ⟨⟨d, hd, hk⟩, by omega⟩
    rw [this]
    simp only [ins, beq_self_eq_true, Bool.true_or, if_true, hd]
  · rintro id (h | h)
    · rcases h with h | ⟨h1, j, y, h2, h3⟩
      · exact .inl h
      · exact .inr ⟨h1, j, y, h2, by simp [ins, h3]⟩
    · obtain ⟨h1, y, h2⟩ := (hfr id).1 h
      exact .inr ⟨h1, i, y, h2, by simp [ins]⟩

section
variable {C : Ctx} {opsA : Array Oper} {ds : List (Option Nat × Nat)} {sl : List S} {res : List Res} {drs : List Dr} {defs : List (Nat × List V × List V)} {ρ0 ρ : Env} {w0 w : World} {F0 : Nat → Prop} {L : Nat → Bool} {fps : Nat → Nat → Prop} {a : Act}

/-- A slot is written by the one operation that writes it. -/
theorem Inv.put (P : Planned C opsA.toList ds sl res drs) (I : Inv ds sl res drs defs ρ0 w0 F0 L ρ fps a w) {i : Nat} {o : Oper} {d : Dr} (ho : opsA[i]? = some o) (hd : drs[i]? = some d) (hdst : dstIn sl.length o.dst = true)
    {ρ' : Env} {fps' : Nat → Nat → Prop} {w' : World} {x : Value} (hL : ∀ k, (ancAt ds i).testBit k = true → L k = true) (hK : ∀ id, KL res drs L id → KL res drs (ins L i) id) (hag : Env.agree (KL res drs L) ρ ρ')
    (hH : HRep ρ' fps' (res ++ viewR (ins L i) 0 drs) (KL res drs (ins L i)) w0 F0 w') (hx : SlotG ρ' (KL res drs (ins L i)) x d) (hnew : ∀ y, y < d.new.length → rget d.new y ≠ .yet) :
    Inv ds sl res drs defs ρ0 w0 F0 (ins L i) ρ' fps' (a.put o.dst x) w' := by
  have hpi := (P.at ho).1
  have hsz : (a.put o.dst x).tmps.size = a.tmps.size := by cases o.dst <;> simp [Act.put]
  have hold : ∀ t, o.dst ≠ some t → (a.put o.dst x).tmps.getD t undef = a.tmps.getD t undef := by
    intro t ht
    cases hdd : o.dst with
    | none => simp [Act.put]
    | some e =>
      have : e ≠ t := fun h => ht (by rw [hdd, h])
      simp [Act.put, Array.getD_eq_getD_getElem?, Array.getElem?_setIfInBounds_ne this]
  refine ⟨by rw [hsz]; exact I.size, ?_, ?_, hH, ?_, ?_, ?_, ?_⟩
  · intro t j m dj h1 h2 h3
    by_cases e : o.dst = some t
    · rw [e] at hpi
      have := dist_spec P.dst h1 hpi
      subst this
      rw [hd] at h2
      simp only [Option.some.injEq] at h2
      subst h2
      rw [e] at hdst
      have hlt : t < sl.length := by simpa [dstIn] using hdst
      have : (a.put o.dst x).tmps.getD t undef = x := by
        rw [e]
        simp [Act.put, I.size, hlt]
      rw [this]
      exact hx
    · rw [hold t e]
      have hji : j ≠ i := fun hji => by
        subst hji
        rw [h1] at hpi
        simp only [Option.some.injEq, Prod.mk.injEq] at hpi
        exact e hpi.1.symm
      exact (I.done t j m dj h1 h2 (by simpa [ins, hji] using h3)).env hK hag
  · intro t hall
    have e : o.dst ≠ some t := fun e => by
      rw [e] at hpi
      have := hall i _ hpi
      simp [ins] at this
    rw [hold t e]
    exact (I.todo t fun j m hj => by
      have := hall j m hj
      simp only [ins, Bool.or_eq_false_iff] at this
      exact this.2).env hK hag
  · intro j k hj hk
    simp only [ins, Bool.or_eq_true, beq_iff_eq] at hj ⊢
    rcases hj with rfl | hj
    · exact .inr (hL k hk)
    · exact .inr (I.down j k hj hk)
  · have hag' : Env.agree (known res) ρ ρ' := hag.mono fun id h => .inl h
    obtain ⟨e1, e2⟩ := defs_env (ρ' := ρ') (K' := known res) I.defs.2 hag' fun _ h => h
    exact ⟨by rw [show (a.put o.dst x).defers = a.defers from put_defers _ _ _, I.defs.1]; exact e1.symm, e2⟩
  · exact I.agree.trans (hag.mono fun id h => .inl h) fun _ h => h
  · intro j dj h1 h2
    by_cases e : j = i
    · subst e
      rw [hd] at h1
      simp only [Option.some.injEq] at h1
      subst h1
      exact hnew
    · exact I.newk j dj h1 (by simpa [ins, e] using h2)

/-- An operation that is ready is done. -/
theorem Inv.step {ops : Array Oper} {K : Act → World → Prop} {Q : Exit → Act → World → Prop} (hops : ops = opsA) (hC : C.Sound) (P : Planned C opsA.toList ds sl res drs) (hq : ∀ (i : Nat) (d : Dr), drs[i]? = some d → (d.g = true → holdsO d.q))
    (I : Inv ds sl res drs defs ρ0 w0 F0 L ρ fps a w) {i : Nat} {d : Dr} (hd : drs[i]? = some d)
    (hi : L i = false) (hL : ∀ k, (ancAt ds i).testBit k = true → L k = true)
    (hn : ∀ ρ' fps' a' w', Inv ds sl res drs defs ρ0 w0 F0 (ins L i) ρ' fps' a' w' → K a' w') : wpOp C.P ops Q i K a w := by
  subst hops
  obtain ⟨o, ho, hp⟩ := P.plan i d hd
  have ho' : ops[i]? = some o := by simpa using ho
  obtain ⟨p1, p2, p3, p4⟩ := P.at ho'
  have hilt : i < drs.length := (List.getElem?_eq_some_iff.1 hd).1
  have hview : FRep ρ (KL res drs L) (viewS (ancAt ds i) i 0 ds (drS (drs.take i)) sl) a := by
    refine P.view I (by omega) (fun k hk => ⟨hL k hk, p2 k hk⟩) p4 fun k m t h1 h2 h3 => ?_
    rcases h3 with rfl | h3
    · exact hi
    · cases hLk : L k with
      | false => rfl
      | true =>
        have hm : ancAt ds k = m := by simp [ancAt, h1]
        have := I.down k i hLk (by rw [hm]; exact h3)
        rw [hi] at this
        exact absurd this (by simp)
  have hres : HRep ρ fps (addR res (viewR (Nat.testBit (ancAt ds i)) 0 (drs.take i))) (KL res drs L) w0 F0 w := by
    rw [addR_eq]
    exact I.heap.forget fun id hk => view_forget hL id hk
  unfold wpOp
  simp only [ho']
  unfold planOne at hp
  split at hp
  · rename_i hc
    simp only [Bool.and_eq_true] at hc
    unfold planOp at hp
    have hsame : d.new = [] → ∀ x, (∀ ρ', ρ' = ρ → SlotG ρ' (KL res drs (ins L i)) x d) → Inv ds sl res drs defs ρ0 w0 F0 (ins L i) ρ fps (a.put o.dst x) w := by
      intro hnew x hx
      obtain ⟨a1, a2, a3⟩ := view_adds (res := res) hd hi (by rw [hnew]; simp)
      obtain ⟨fps', g1, g2⟩ := I.heap.grow (ρ' := ρ) a1 a2 a3 (by rw [hnew]; exact Grew.refl _ _ _ _ _ _)
      have hH : HRep ρ fps (res ++ viewR (ins L i) 0 drs) (KL res drs (ins L i)) w0 F0 w := by
        refine (I.heap.monoK fun id h => a3 id (.inl h)).forget fun id hk => ?_
        rcases a1.2.1 id hk with h | h
        · exact (a1.1 id h).1
        · unfold fresh at h; rw [hnew] at h; simp at h; omega
      exact I.put P ho' hd hc.2 hL (fun id h => a3 id (.inl h)) (Env.agree.refl _ _) hH (hx ρ rfl) (by rw [hnew]; simp)
    split at hp
    · simp at hp
    · rename_i hch
      simp only [Option.some.injEq] at hp
      rw [chainOf_spec hview hch]
      simp only [does, Bool.false_eq_true, if_false]
      exact hn _ _ _ _ (hsame (by rw [← hp]) undef fun ρ' _ => by subst hp; simp [SlotG])
    · rename_i ch hch
      rw [chainOf_spec hview hch]
      rw [show does (viewS (ancAt ds i) i 0 ds (drS (drs.take i)) sl) (some ch) = gOf (viewS (ancAt ds i) i 0 ds (drS (drs.take i)) sl) ch from rfl]
      split at hp
      · rename_i q x new hop
        cases ch with
        | nil =>
          simp only [Option.some.injEq] at hp
          subst hp
          simp only [gOf, if_true]
          left
          have hq' : holdsO q := hq i _ hd rfl
          have hnK : ∀ k, k < new.length → ¬ KL res drs L (res.length + lens (drs.take i) + k) := fun k hk h => by
            have hfr : fresh (res.length + lens (drs.take i)) new.length (res.length + lens (drs.take i) + k) := ⟨by omega, by omega⟩
            rcases h with h | ⟨h1, j, y, h2, h3⟩
            · have := rget_lt h; omega
            · have h4 : locate drs (res.length + lens (drs.take i) + k - res.length) = some (i, k) := by
                rw [locate_spec]; exact ⟨⟨_, hd, hk⟩, by omega⟩
              rw [h4] at h2
              simp only [Option.some.injEq, Prod.mk.injEq] at h2
              rw [← h2.1, hi] at h3
              simp at h3
          obtain ⟨hy, hnew⟩ := opRO_spec hC hop hview hres rfl hq' hnK
          refine hy.wp fun v w' ⟨ρ', hg, hv, hx⟩ => ?_
          obtain ⟨a1, a2, a3⟩ := view_adds (res := res) hd hi hnew
          obtain ⟨fps', g1, g2⟩ := I.heap.grow a1 a2 a3 hg
          exact hn _ _ _ _ (I.put P ho' hd hc.2 hL (fun id h => a3 id (.inl h)) g2 g1 ⟨hv, ok_mono a3 _ hx⟩ hnew)
        | cons c0 c1 =>
          simp only at hp
          split at hp
          · rename_i hne
            have hne : new = [] := by simpa using hne
            subst hne
            simp only [Option.some.injEq] at hp
            subst hp
            by_cases hg : gOf (viewS (ancAt ds i) i 0 ds (drS (drs.take i)) sl) (c0 :: c1) = true
            · rw [if_pos hg]
              left
              have hq' : holdsO q := hq i _ hd hg
              obtain ⟨hy, _⟩ := opRO_spec hC hop hview hres hg hq' (fun k hk => by simp at hk)
              refine hy.wp fun v w' ⟨ρ', hgr, hv, hx⟩ => ?_
              obtain ⟨a1, a2, a3⟩ := view_adds (res := res) hd hi (by simp)
              obtain ⟨fps', g1, g2⟩ := I.heap.grow a1 a2 a3 hgr
              refine hn _ _ _ _ (I.put P ho' hd hc.2 hL (fun id h => a3 id (.inl h)) g2 g1 ⟨fun _ => ⟨hv, ok_mono a3 _ hx⟩, fun h => ?_⟩ (by simp))
              simp only at h
              rw [hg] at h; simp at h
            · rw [if_neg hg]
              exact hn _ _ _ _ (hsame rfl undef fun ρ' _ => ⟨fun h => absurd h hg, fun _ => rfl⟩)
          · simp at hp
      · simp at hp
  · simp at hp

end
end Go.Sx
/- The executor: a drawn region, whole. No condition. -/
set_option linter.unusedVariables false
set_option linter.unusedSimpArgs false
namespace Go.Sx
open Go.RowKit (Below)

theorem planGo_spec {C : Ctx} {ops : List Oper} {ds : List (Option Nat × Nat)} {sl : List S} {res : List Res} : ∀ (l : List Oper) (i : Nat) (done drs : List Dr) (rest : List Oper), planGo C ops ds sl res i l done = (drs, rest) → done.length = i → ops.drop i = l →
    (∀ k d, done[k]? = some d → ∃ o, ops[k]? = some o ∧ planOne C ops ds sl res (done.take k) k o = some d) →
    rest = ops.drop drs.length ∧ drs.length ≤ ops.length ∧ ∀ k d, drs[k]? = some d → ∃ o, ops[k]? = some o ∧ planOne C ops ds sl res (drs.take k) k o = some d
  | [], i, done, drs, rest, h, hi, hl, hp => by
    simp only [planGo, Prod.mk.injEq] at h
    obtain ⟨rfl, rfl⟩ := h
    refine ⟨by rw [hi]; exact hl.symm, ?_, hp⟩
    rcases Nat.lt_or_ge done.length (ops.length + 1) with h | h
    · omega
    · have hne : 0 < done.length := by omega
      have := hp (done.length - 1) (done[done.length - 1]'(by omega)) (List.getElem?_eq_getElem (by omega))
      obtain ⟨o, ho, _⟩ := this
      have := (List.getElem?_eq_some_iff.1 ho).1
      omega
  | o :: l, i, done, drs, rest, h, hi, hl, hp => by
    simp only [planGo] at h
    have hoi : ops[i]? = some o := by
      have : (ops.drop i)[0]? = some o := by rw [hl]; rfl
      simpa using this
    split at h
    · rename_i d hd
      refine planGo_spec l (i + 1) (done ++ [d]) drs rest h (by simp [hi]) ?_ fun k e hk => ?_
      · have : (ops.drop i).drop 1 = l := by rw [hl]; rfl
        rw [← this, List.drop_drop]
      · by_cases hlt : k < done.length
        · rw [List.getElem?_append_left hlt] at hk
          obtain ⟨o', h1, h2⟩ := hp k e hk
          refine ⟨o', h1, ?_⟩
          rw [List.take_append_of_le_length (by omega)]
          exact h2
        · rw [List.getElem?_append_right (by omega)] at hk
          have hk0 : k - done.length = 0 := by
            rcases Nat.lt_or_ge (k - done.length) 1 with h | h
            · omega
            · rw [List.getElem?_eq_none (by simpa using h)] at hk; simp at hk
          rw [hk0] at hk
          simp only [List.getElem?_cons_zero, Option.some.injEq] at hk
          subst hk
          have hki : k = i := by omega
          subst hki
          refine ⟨o, hoi, ?_⟩
          rw [show List.take k (done ++ [d]) = done by rw [← hi, List.take_left']; rfl]
          exact hd
    · simp only [Prod.mk.injEq] at h
      obtain ⟨rfl, rfl⟩ := h
      refine ⟨by rw [hi]; exact hl.symm, ?_, hp⟩
      have := (List.getElem?_eq_some_iff.1 hoi).1
      omega

theorem reqAll_spec : ∀ {drs : List Dr} {k : Prop}, reqAll drs k → (∀ (i : Nat) (d : Dr), drs[i]? = some d → (d.g = true → holdsO d.q)) ∧ k
  | [], k, h => ⟨by simp, h⟩
  | d :: l, k, h => by
    have key : (d.g = true → holdsO d.q) ∧ reqAll l k := by
      simp only [reqAll] at h
      split at h
      · exact reqG_iff h
      · exact ⟨fun _ => (reqO_iff h).1, (reqO_iff h).2⟩
    obtain ⟨h1, h2⟩ := reqAll_spec key.2
    refine ⟨fun i e hi => ?_, h2⟩
    cases i with
    | zero => simp only [List.getElem?_cons_zero, Option.some.injEq] at hi; subst hi; exact key.1
    | succ i => exact h1 i e (by simpa using hi)

def cnt (listed : Array Bool) (n : Nat) : Nat := ((List.range n).filter fun k => !listed.getD k false).length

theorem filter_lt {α : Type} {p q : α → Bool} : ∀ {l : List α}, (∀ x ∈ l, q x = true → p x = true) → (∃ x ∈ l, p x = true ∧ q x = false) → (l.filter q).length < (l.filter p).length
  | [], _, ⟨x, hx, _⟩ => by simp at hx
  | y :: l, h, ⟨x, hx, h1, h2⟩ => by
    have hle : ∀ (l : List α), (∀ x ∈ l, q x = true → p x = true) → (l.filter q).length ≤ (l.filter p).length := by
      intro l
      induction l with
      | nil => simp
      | cons z l ih =>
        intro hh
        have := ih fun x hx => hh x (by simp [hx])
        have hz := hh z (by simp)
        simp only [List.filter_cons]
        cases hq : q z <;> cases hp : p z <;> simp_all <;> omega
    have h' : ∀ x ∈ l, q x = true → p x = true := fun x hx => h x (by simp [hx])
    simp only [List.filter_cons]
    rcases List.mem_cons.1 hx with rfl | hx
    · rw [if_pos h1, if_neg (by simp [h2])]
      have := hle l h'
      simp only [List.length_cons]
      omega
    · have ih := filter_lt h' ⟨x, hx, h1, h2⟩
      have hy := h y (by simp)
      cases hq : q y <;> cases hp : p y <;> simp_all <;> omega

theorem cnt_set {listed : Array Bool} {n i : Nat} (hs : listed.size = n) (hi : i < n) (hl : listed.getD i false = false) : cnt (listed.setIfInBounds i true) n < cnt listed n := by
  refine filter_lt (fun x hx h => ?_) ⟨i, List.mem_range.2 hi, ?_, ?_⟩
  · by_cases e : i = x
    · subst e; simpa using hl
    · rw [getD_set_ne false e] at h; exact h
  · simp only [hl, Bool.not_false]
  · simp [hs, hi]

theorem L_set {listed : Array Bool} {i : Nat} (hi : i < listed.size) : (fun k => (listed.setIfInBounds i true).getD k false) = ins (fun k => listed.getD k false) i := by
  funext k
  unfold ins
  by_cases e : k = i
  · subst e; simp [hi]
  · rw [getD_set_ne false (Ne.symm e)]; simp [e]

theorem viewR_all {p : Nat → Bool} : ∀ (l : List Dr) (j : Nat), (∀ k, k < l.length → p (j + k) = true) → viewR p j l = viewR (fun _ => true) j l
  | [], j, _ => by simp [viewR]
  | d :: l, j, h => by
    rw [viewR_cons, viewR_cons, viewR_all l (j + 1) fun k hk => by rw [show j + 1 + k = j + (k + 1) by omega]; exact h (k + 1) (by simpa using hk)]
    have := h 0 (by simp)
    simp only [Nat.add_zero] at this
    rw [if_pos this, if_pos rfl]

section
variable {C : Ctx} {opsA : Array Oper} {ds : List (Option Nat × Nat)} {sl : List S} {res : List Res} {drs : List Dr} {defs : List (Nat × List V × List V)} {ρ0 ρ : Env} {w0 w : World} {F0 : Nat → Prop} {fps : Nat → Nat → Prop} {a : Act}
  {Q : Exit → Act → World → Prop}

/-- An operation, in a round or not. -/
theorem op_in {P : Program} {ops : Array Oper} {ro : Option Nat} {i : Nat} {K : Act → World → Prop} (hQ : ¬ LetsOut Q) (hnd : ro ≠ none → ∀ o ∈ ops.toList, notDefer o) (h : wpOp P ops Q i K a w) : wpOpIn (FF ro) 0 P ops Q i K a w := by
  unfold wpOp at h
  unfold wpOpIn
  split
  · rename_i ho; rw [ho] at h; exact h
  · rename_i o ho
    rw [ho] at h
    simp only at h
    have hmem : o ∈ ops.toList := by rw [← Array.getElem?_toList] at ho; exact List.mem_of_getElem? ho
    split
    · rename_i hw
      rw [if_pos hw] at h
      exact oper_in (fun hr => hnd hr o hmem) (h.resolve_right fun hh => hQ hh.2)
    · rename_i hw
      rw [if_neg hw] at h
      exact ⟨fun _ _ => trivial, h⟩

theorem any_front {ro : Option Nat} (hQ : ¬ LetsOut Q) (hnd : ro ≠ none → ∀ o ∈ opsA.toList, notDefer o) (hC : C.Sound) (P : Planned C opsA.toList ds sl res drs) (hq : ∀ (i : Nat) (d : Dr), drs[i]? = some d → (d.g = true → holdsO d.q)) (hle : drs.length ≤ opsA.size)
    (htail : ∀ i, i < opsA.size → drs.length < i → ∀ k, k < drs.length → (ancAt ds i).testBit k = true)
    (hlate : ∀ (fuel : Nat) (listed : Array Bool) ρ fps a w, listed.size = opsA.size → cnt listed opsA.size ≤ fuel + 1 → drs.length < opsA.size → (∀ k, drs.length ≤ k → listed.getD k false = false) → (∃ k, k < drs.length ∧ listed.getD k false = false) →
      (∀ k, (ancAt ds drs.length).testBit k = true → listed.getD k false = true) → Inv ds sl res drs defs ρ0 w0 F0 (fun k => listed.getD k false) ρ fps a w →
      wpOpIn (FF ro) 0 C.P opsA Q drs.length (wpAnyIn (FF ro) 0 C.P .any opsA Q fuel (listed.setIfInBounds drs.length true)) a w)
    (hfin : ∀ (fuel : Nat) (listed : Array Bool) ρ fps a w, listed.size = opsA.size → cnt listed opsA.size ≤ fuel → (∀ k, k < drs.length → listed.getD k false = true) → (∀ k, drs.length ≤ k → listed.getD k false = false) →
      Inv ds sl res drs defs ρ0 w0 F0 (fun k => listed.getD k false) ρ fps a w → wpAnyIn (FF ro) 0 C.P .any opsA Q fuel listed a w) :
    ∀ (fuel : Nat) (listed : Array Bool) ρ fps a w, listed.size = opsA.size → cnt listed opsA.size ≤ fuel → (∀ k, drs.length ≤ k → listed.getD k false = false) →
      Inv ds sl res drs defs ρ0 w0 F0 (fun k => listed.getD k false) ρ fps a w → wpAnyIn (FF ro) 0 C.P .any opsA Q fuel listed a w := by
  intro fuel
  induction fuel with
  | zero =>
    intro listed ρ fps a w hs hc hno I
    refine hfin 0 listed ρ fps a w hs hc (fun k hk => ?_) hno I
    cases h : listed.getD k false with
    | true => rfl
    | false =>
      have := cnt_set (n := opsA.size) hs (by omega) h
      omega
  | succ fuel ih =>
    intro listed ρ fps a w hs hc hno I
    by_cases hall : ∀ k, k < drs.length → listed.getD k false = true
    · exact hfin _ listed ρ fps a w hs hc hall hno I
    · have hready : ∀ i ∈ Region.ready .any opsA listed, (i < drs.length ∨ (i = drs.length ∧ i < opsA.size)) ∧ listed.getD i false = false ∧ ∀ k, (ancAt ds i).testBit k = true → listed.getD k false = true := by
        intro i hi
        obtain ⟨h1, o, h2, h3⟩ := mem_ready.1 hi
        have hisz : i < opsA.size := (Array.getElem?_eq_some_iff.1 h2).1
        obtain ⟨p1, p2, p3, p4⟩ := P.at h2
        have hL : ∀ k, (ancAt ds i).testBit k = true → listed.getD k false = true := fun k hk => by
          obtain ⟨e, e1, e2, e3⟩ := (p3 k).1 hk
          have := h3 e e1 e2
          rcases e3 with rfl | e3
          · exact this
          · exact I.down e.on k this e3
        refine ⟨?_, ?_, hL⟩
        · rcases Nat.lt_trichotomy i drs.length with h | h | h
          · exact .inl h
          · exact .inr ⟨h, hisz⟩
          · exact absurd (fun k hk => hL k (htail i hisz h k hk)) hall
        · have : i < listed.size := by omega
          simpa [Array.getD_eq_getD_getElem?, this] using h1
      have hnil : Region.ready .any opsA listed ≠ [] := by
        intro hnil
        have hmin : ∀ i, i < drs.length → listed.getD i false = true := by
          intro i
          induction i using Nat.strongRecOn with
          | _ i ihi =>
            intro hi
            cases h : listed.getD i false with
            | true => rfl
            | false =>
              have hio : opsA[i]? = some (opsA[i]'(by omega)) := Array.getElem?_eq_getElem (by omega)
              obtain ⟨p1, p2, p3, p4⟩ := P.at hio
              have : i ∈ Region.ready .any opsA listed := by
                rw [mem_ready]
                refine ⟨?_, _, hio, fun e e1 e2 => ?_⟩
                · have : i < listed.size := by omega
                  simpa [Array.getD_eq_getD_getElem?, this] using h
                · have := p2 e.on ((p3 e.on).2 ⟨e, e1, e2, .inl rfl⟩)
                  exact ihi e.on this (by omega)
              rw [hnil] at this
              simp at this
        exact hall hmin
      refine ⟨fun h => absurd h hnil, fun i hi => ?_⟩
      obtain ⟨h1, h2, h3⟩ := hready i hi
      rcases h1 with h1 | ⟨h1, h1'⟩
      case inr =>
        subst h1
        have hex : ∃ k, k < drs.length ∧ listed.getD k false = false := by
          refine Classical.byContradiction fun hno => hall fun k hk => ?_
          cases h : listed.getD k false with
          | true => rfl
          | false => exact absurd ⟨k, hk, h⟩ hno
        exact hlate fuel listed ρ fps a w hs hc h1' hno hex h3 I
      have hisz : i < listed.size := by omega
      refine op_in hQ hnd (Inv.step rfl hC P hq I (d := drs[i]'h1) (List.getElem?_eq_getElem h1) h2 h3 fun ρ' fps' a' w' I' => ?_)
      refine ih (listed.setIfInBounds i true) ρ' fps' a' w' (by simpa using hs) ?_ ?_ ?_
      · have := cnt_set (n := opsA.size) hs (by omega) h2
        omega
      · intro k hk
        rw [getD_set_ne false (by omega)]
        exact hno k hk
      · rw [L_set hisz]; exact I'

/-- What is known when the planned ones are done. -/
theorem Inv.rep {listed : Array Bool} (P : Planned C opsA.toList ds sl res drs) (hall : ∀ k, k < drs.length → listed.getD k false = true) (hno : ∀ k, drs.length ≤ k → listed.getD k false = false)
    (I : Inv ds sl res drs defs ρ0 w0 F0 (fun k => listed.getD k false) ρ fps a w) :
    Rep ρ fps { slots := viewS (allM' drs.length) drs.length 0 ds (drS drs) sl, res := addR res (viewR (fun _ => true) 0 drs), defs := defs } w0 F0 a w ∧ Good ρ0 res ρ (addR res (viewR (fun _ => true) 0 drs)) := by
  have hbit : ∀ k, (allM' drs.length).testBit k = true ↔ k < drs.length := fun k => by simp [allM', Nat.testBit_two_pow_sub_one]
  have hv := P.view I (anc := allM' drs.length) (i := drs.length) (Nat.le_refl _) (fun k hk => ⟨hall k ((hbit k).1 hk), (hbit k).1 hk⟩) (fun k r hk hr => by
      have hk' := (hbit k).1 hk
      obtain ⟨o, ho, _⟩ := P.plan k _ (List.getElem?_eq_getElem hk')
      have := (P.at (i := k) (o := o) (by simpa using ho)).2.1 r hr
      exact (hbit r).2 (by omega)) (fun k m t _ h2 _ => hno k h2)
  rw [List.take_length] at hv
  have hviews : viewR (fun k => listed.getD k false) 0 drs = viewR (fun _ => true) 0 drs := viewR_all drs 0 fun k hk => by simpa using hall k hk
  have hheap := I.heap
  rw [hviews] at hheap
  have hknown : ∀ id, KL res drs (fun k => listed.getD k false) id → known (res ++ viewR (fun _ => true) 0 drs) id := by
    intro id h
    unfold known
    rw [rget_view]
    rcases h with h | ⟨h1, j, y, h2, h3⟩
    · rw [if_pos (rget_lt h)]; exact h
    · rw [if_neg (by omega), h2]
      simp only [if_true]
      obtain ⟨⟨d, hd, hy⟩, _⟩ := (locate_spec drs _ j y).1 h2
      rw [hd]
      exact I.newk j d hd h3 y hy
  rw [addR_eq]
  refine ⟨⟨hv.env hknown (Env.agree.refl _ _), hheap.monoK hknown, I.defs.1, fun d hd => ?_⟩, I.agree, fun i hi => hknown i (.inl hi)⟩
  have := I.defs.2 d hd
  exact ⟨okL_mono (fun i hi => hknown i (.inl hi)) _ this.1, okL_mono (fun i hi => hknown i (.inl hi)) _ this.2⟩

theorem clean_plain (l : List S) (t : Nat) : (∃ x, sget (clean l) t = .v x) ∨ sget (clean l) t = .und := by
  rw [sget_clean]
  split
  · exact .inl ⟨_, rfl⟩
  · exact .inr rfl

/-- Nothing more to do. -/
theorem anyIn_done {P : Program} {ro : Option Nat} {md : Region.Mode} {ops : Array Oper} {listed : Array Bool} (h : Region.ready md ops listed = []) (hq : Q .normal a w) : ∀ fuel, wpAnyIn (FF ro) 0 P md ops Q fuel listed a w
  | 0 => ⟨h, hq⟩
  | fuel + 1 => ⟨fun _ => hq, fun i hi => by rw [h] at hi; simp at hi⟩

theorem tailOK_spec {ds : List (Option Nat × Nat)} : ∀ {l : List Oper} {i : Nat}, tailOK ds i l = true → ∀ j, j < l.length → ancAt ds (i + j) = allM' (i + j)
  | [], i, _, j, hj => by simp at hj
  | o :: l, i, h, j, hj => by
    simp only [tailOK, Bool.and_eq_true, beq_iff_eq] at h
    cases j with
    | zero => exact h.1
    | succ j =>
      have := tailOK_spec h.2 j (by simpa using hj)
      rwa [show i + 1 + j = i + (j + 1) by omega] at this

/-- The rest of a region. -/
theorem tail_spec {H : Handler} {Y : YHandler} {K : Out → St → Prop} {ro : Option Nat} {res0 : List Res} (hC : C.Sound) (hH : H.OK C.P) (hY : YOK C.P Y ρ0 res0) (hnd : ro ≠ none → ∀ o ∈ opsA.toList, notDefer o)
    (P : Planned C opsA.toList ds sl res drs) (n : Nat) (hbit : ∀ i, i < opsA.size → n < i → ∀ k, (ancAt ds i).testBit k = true ↔ k < i) :
    ∀ (l : List Oper) (m : Nat) (listed : Array Bool) (fuel : Nat) (σ : St) ρ fps a w, opsA.toList.drop m = l → n ≤ m → listed.size = opsA.size → cnt listed opsA.size ≤ fuel → (∀ k, k < m → listed.getD k false = true) → (∀ k, m ≤ k → listed.getD k false = false) →
      tailS C H Y opsA.toList l σ K → Rep ρ fps σ w0 F0 a w → Good ρ0 res0 ρ σ.res → wpAnyIn (FF ro) 0 C.P .any opsA (Post ρ0 res0 w0 F0 K) fuel listed a w
  | [], m, listed, fuel, σ, ρ, fps, a, w, hl, hnm, hs, hc, hall, hno, h, hr, hg => by
    have hm : opsA.size ≤ m := by
      have := congrArg List.length hl
      simp at this
      omega
    simp only [tailS, cleanK_eq] at h
    refine anyIn_done ?_ ⟨.norm, _, ρ, fps, trivial, h, ⟨hr.1.clean, hr.2.1, hr.2.2.1, hr.2.2.2⟩, hg⟩ fuel
    cases hrd : Region.ready .any opsA listed with
    | nil => rfl
    | cons i l =>
      obtain ⟨h1, o, h2, _⟩ := mem_ready.1 (show i ∈ Region.ready .any opsA listed by rw [hrd]; simp)
      have hisz : i < opsA.size := (Array.getElem?_eq_some_iff.1 h2).1
      have := hall i (by omega)
      have hlt : i < listed.size := by omega
      simp only [Array.getD_eq_getD_getElem?, Array.getElem?_eq_getElem hlt, Option.getD_some] at this h1
      rw [this] at h1; simp at h1
  | o :: l, m, listed, fuel, σ, ρ, fps, a, w, hl, hnm, hs, hc, hall, hno, h, hr, hg => by
    have hom : opsA[m]? = some o := by
      have : (opsA.toList.drop m)[0]? = some o := by rw [hl]; rfl
      simpa using this
    have hmsz : m < opsA.size := (Array.getElem?_eq_some_iff.1 hom).1
    have hl' : opsA.toList.drop (m + 1) = l := by
      have : (opsA.toList.drop m).drop 1 = l := by rw [hl]; rfl
      rw [← this, List.drop_drop]
    have hml : listed.getD m false = false := hno _ (Nat.le_refl _)
    have hmlt : m < listed.size := by omega
    cases fuel with
    | zero =>
      have := cnt_set (n := opsA.size) hs hmsz hml
      omega
    | succ fuel =>
      obtain ⟨p1, p2, p3, p4⟩ := P.at hom
      have hmr : m ∈ Region.ready .any opsA listed := by
        rw [mem_ready]
        refine ⟨?_, o, hom, fun e e1 e2 => hall _ (p2 e.on ((p3 e.on).2 ⟨e, e1, e2, .inl rfl⟩))⟩
        simpa [Array.getD_eq_getD_getElem?, hmlt] using hml
      refine ⟨fun hnil => (by rw [hnil] at hmr; simp at hmr), fun i hi => ?_⟩
      obtain ⟨h1, o', h2, h3⟩ := mem_ready.1 hi
      have hisz : i < opsA.size := (Array.getElem?_eq_some_iff.1 h2).1
      have him : i = m := by
        rcases Nat.lt_trichotomy i m with h | h | h
        · have := hall i h
          have hlt : i < listed.size := by omega
          simp only [Array.getD_eq_getD_getElem?, Array.getElem?_eq_getElem hlt, Option.getD_some] at this h1
          rw [this] at h1; simp at h1
        · exact h
        · exfalso
          obtain ⟨q1, q2, q3, q4⟩ := P.at h2
          obtain ⟨e, e1, e2, e3⟩ := (q3 m).1 ((hbit i hisz (by omega) m).2 h)
          have he := h3 e e1 e2
          rcases e3 with rfl | e3
          · rw [hml] at he; simp at he
          · have hlt : m < e.on := by
              have hi' := q2 e.on ((q3 e.on).2 ⟨e, e1, e2, .inl rfl⟩)
              obtain ⟨_, r2, _, _⟩ := P.at (i := e.on) (o := opsA[e.on]'(by omega)) (Array.getElem?_eq_getElem (by omega))
              exact r2 m e3
            rw [hno _ (by omega)] at he; simp at he
      subst him
      have hoo : o' = o := by rw [hom] at h2; exact (Option.some.inj h2).symm
      subst hoo
      have key := stepS_spec (ro := ro) (next := wpAnyIn (FF ro) 0 C.P .any opsA (Post ρ0 res0 w0 F0 K) fuel (listed.setIfInBounds i true)) (Q := Post ρ0 res0 w0 F0 K) hC hH (hY.later hg)
        (fun hr => hnd hr o' (by rw [← Array.getElem?_toList] at hom; exact List.mem_of_getElem? hom)) h hr
        (fun σ' ρ'' fps'' a'' w'' hK' hr' hg' => tail_spec hC hH hY hnd P n hbit l (i + 1) (listed.setIfInBounds i true) fuel σ' ρ'' fps'' a'' w'' hl' (by omega) (by simpa using hs)
          (by have := cnt_set (n := opsA.size) hs hmsz hml; omega)
          (fun k hk => by
            by_cases e : i = k
            · subst e; simp [hmlt]
            · rw [getD_set_ne false e]; exact hall k (by omega))
          (fun k hk => by rw [getD_set_ne false (by omega)]; exact hno k (by omega)) hK' hr' (hg.trans hg'))
        (fun v σ' ρ'' fps'' w'' hK' hv hr' hg' => ⟨.pan v, σ', ρ'', fps'', ⟨rfl, hv⟩, hK', hr', hg.trans hg'⟩)
      unfold wpOpIn
      simp only [hom]
      split
      · rename_i hw; rw [if_pos hw] at key; exact key
      · rename_i hw; rw [if_neg hw] at key; exact ⟨fun _ _ => trivial, key⟩

theorem getq {A : Array Bool} {i : Nat} (hi : i < A.size) : A[i]?.getD true = A.getD i false := by simp [Array.getD_eq_getD_getElem?, hi]
theorem opNe_eval {o : Operand} {d : Nat} {a : Act} {v : Value} (h : opNe o d = true) : (a.put (some d) v).eval o = a.eval o := by
  cases o <;> try rfl
  rename_i s
  simp only [opNe, Bool.not_eq_true', beq_eq_false_iff_ne] at h
  simp only [Act.eval, Act.put]
  simp [Ne.symm h]

theorem tailLate_spec {ops : List Oper} {ds : List (Option Nat × Nat)} {n : Nat} {o : Oper} {l : List Oper} (h : tailLate ops ds n o l = true) : ∃ (e : Nat) (oe : Oper) (y : Operand) (ix d t : Nat) (p x : Operand),
    ops[e]? = some oe ∧ (oe.op = .extract y ix ∧ oe.dst = some d ∧ oe.guard = none) ∧ (o.op = .store t p x ∧ o.dst = none ∧ o.guard = none) ∧ opNe p d = true ∧ opNe x d = true ∧ opNe y d = true ∧ e < n ∧ (ancAt ds n).testBit e = false ∧ (∀ k, (ancAt ds n).testBit k = true ↔ k < n ∧ k ≠ e) ∧ tailOK ds (n + 1) l = true := by
  unfold tailLate at h
  split at h
  case h_2 => simp at h
  rename_i t p x hop
  split at h
  case h_2 => simp at h
  rename_i hdst
  split at h
  case h_2 => simp at h
  rename_i hgu
  split at h
  case h_2 => simp at h
  rename_i e he
  split at h
  case h_2 => simp at h
  rename_i oe hoe
  split at h
  case h_2 => simp at h
  rename_i y ix hoy
  split at h
  case h_2 => simp at h
  rename_i d hd
  split at h
  case h_2 => simp at h
  rename_i hge
  simp only [Bool.and_eq_true] at h
  have hmem := List.mem_of_find?_eq_some he
  have hpr := List.find?_some he
  simp only [Bool.and_eq_true, Bool.not_eq_true', beq_iff_eq] at hpr
  obtain ⟨p1, p2⟩ := hpr
  have hlt := List.mem_range.1 hmem
  refine ⟨e, oe, y, ix, d, t, p, x, hoe, ⟨hoy, hd, hge⟩, ⟨hop, hdst, hgu⟩, h.1.1.1, h.1.1.2, h.1.2, hlt, p1, fun k => ?_, h.2⟩
  have hk := congrArg (fun m => Nat.testBit m k) p2
  simp only [Nat.testBit_or, allM', Nat.testBit_two_pow_sub_one, Nat.testBit_two_pow] at hk
  constructor
  · intro hb
    rw [hb] at hk
    have hkn : k < n := by simpa using hk
    exact ⟨hkn, fun e' => by subst e'; rw [hb] at p1; simp at p1⟩
  · rintro ⟨h1, h2⟩
    have : decide (e = k) = false := by simp [Ne.symm h2]
    rw [this] at hk
    simpa [h1] using hk

/-- A part that is taken out, whatever the memory is. -/
theorem run_extract {P : Program} {tu v : Value} {ix : Nat} {w w' : World} (h : (Instr.extract tu ix).run P w = .ok v w') : w' = w ∧ ∀ w2, (Instr.extract tu ix).run P w2 = .ok v w2 := by
  cases tu <;> simp [Instr.extract] at h ⊢
  rename_i vs
  cases hv : vs[ix]? with
  | none => simp [hv] at h
  | some z =>
    simp [hv] at h ⊢
    exact ⟨h.2.symm, h.1⟩

/-- A store, while a part of a tuple is yet to be taken out. -/
theorem late_spec {H : Handler} {Y : YHandler} {K : Out → St → Prop} {ro : Option Nat} (hC : C.Sound) (hH : H.OK C.P) (hY : YOK C.P Y ρ0 res) (hnd : ro ≠ none → ∀ o ∈ opsA.toList, notDefer o)
    (P : Planned C opsA.toList ds sl res drs) (hq : ∀ (i : Nat) (d : Dr), drs[i]? = some d → (d.g = true → holdsO d.q)) {e : Nat} {oe on : Oper} {y : Operand} {ix d t : Nat} {p x : Operand} {l : List Oper} (hoe : opsA[e]? = some oe) (he : oe.op = .extract y ix ∧ oe.dst = some d ∧ oe.guard = none)
    (hon : on.op = .store t p x ∧ on.dst = none ∧ on.guard = none) (hdrop : opsA.toList.drop drs.length = on :: l) (hp : opNe p d = true) (hx : opNe x d = true) (hyd : opNe y d = true) (hel : e < drs.length) (_hef : (ancAt ds drs.length).testBit e = false)
    (hanc : ∀ k, (ancAt ds drs.length).testBit k = true ↔ k < drs.length ∧ k ≠ e) (hbit : ∀ i, i < opsA.size → drs.length < i → ∀ k, (ancAt ds i).testBit k = true ↔ k < i)
    (htl : tailS C H Y opsA.toList (on :: l) { slots := viewS (allM' drs.length) drs.length 0 ds (drS drs) sl, res := addR res (viewR (fun _ => true) 0 drs), defs := defs } K) :
    ∀ (fuel : Nat) (listed : Array Bool) ρ fps a w, listed.size = opsA.size → cnt listed opsA.size ≤ fuel + 1 → drs.length < opsA.size → (∀ k, drs.length ≤ k → listed.getD k false = false) → (∃ k, k < drs.length ∧ listed.getD k false = false) →
      (∀ k, (ancAt ds drs.length).testBit k = true → listed.getD k false = true) → Inv ds sl res drs defs ρ0 w0 F0 (fun k => listed.getD k false) ρ fps a w →
      wpOpIn (FF ro) 0 C.P opsA (Post ρ0 res w0 F0 K) drs.length (wpAnyIn (FF ro) 0 C.P .any opsA (Post ρ0 res w0 F0 K) fuel (listed.setIfInBounds drs.length true)) a w := by
  intro fuel listed ρ fps a w hs hc hsl hno hex hL I
  have hle : ∀ k, k < drs.length → k ≠ e → listed.getD k false = true := fun k h1 h2 => hL k ((hanc k).2 ⟨h1, h2⟩)
  have hlf : listed.getD e false = false := by
    obtain ⟨k, hk, hkf⟩ := hex
    by_cases h : k = e
    · subst h; exact hkf
    · rw [hle k hk h] at hkf; simp at hkf
  have hesz : e < opsA.size := by omega
  have heall : ∀ k, (ancAt ds e).testBit k = true → listed.getD k false = true := fun k hk => by
    have := (P.at hoe).2.1 k hk
    exact hle k (by omega) (by omega)
  -- the part, taken out
  have hst := Inv.step (K := fun a' w' => ∃ ρ' fps', Inv ds sl res drs defs ρ0 w0 F0 (ins (fun k => listed.getD k false) e) ρ' fps' a' w') (Q := fun _ _ _ => False) rfl hC P hq I (d := drs[e]'hel) (List.getElem?_eq_getElem hel) hlf heall fun ρ' fps' a' w' I' => ⟨ρ', fps', I'⟩
  unfold wpOp at hst
  rw [hoe] at hst
  simp only at hst
  rw [if_pos (by simp [Region.wanted, he.2.2])] at hst
  have hst := hst.resolve_right fun hh => by
    obtain ⟨_, hh⟩ := hh
    exact absurd hh (by simp [LetsOut])
  have hexec : execOp a.eval oe = (Instr.extract (a.eval y) ix >>= fun v => pure (Next.value v)) := by simp only [execOp, he.1]
  have hrunE : ∃ v, (∀ w2, (execOp a.eval oe).run C.P w2 = .ok (.value v) w2) ∧ ∃ ρ' fps', Inv ds sl res drs defs ρ0 w0 F0 (ins (fun k => listed.getD k false) e) ρ' fps' (a.put (some d) v) w := by
    unfold Oper.wp at hst
    rw [hexec] at hst ⊢
    cases hr : (Instr.extract (a.eval y) ix).run C.P w with
    | ok v w' =>
      obtain ⟨rfl, hall⟩ := run_extract hr
      rw [Sem.run_bind, hr] at hst
      simp only [Result.andThen_ok, Sem.run_pure, Oper.upon, he.2.1] at hst
      exact ⟨v, fun w2 => by rw [Sem.run_bind, hall w2]; rfl, hst⟩
    | halt r w' =>
      exfalso
      rw [Sem.run_bind, hr] at hst
      cases r <;> simp [Result.andThen, Oper.upon] at hst
  obtain ⟨v, hrun, ρ1, fps1, I1⟩ := hrunE
  have hL1 : ins (fun k => listed.getD k false) e = fun k => (listed.setIfInBounds e true).getD k false := (L_set (by omega)).symm
  rw [hL1] at I1
  obtain ⟨hrep, hgood⟩ := I1.rep P (fun k hk => by
    by_cases h : e = k
    · subst h; simp [show e < listed.size by omega]
    · rw [getD_set_ne false h]; exact hle k hk (Ne.symm h)) (fun k hk => by rw [getD_set_ne false (by omega)]; exact hno k hk)
  -- the store
  have hno' : opsA[drs.length]? = some on := by
    have : (opsA.toList.drop drs.length)[0]? = some on := by rw [hdrop]; rfl
    simpa using this
  have hl' : opsA.toList.drop (drs.length + 1) = l := by
    have : (opsA.toList.drop drs.length).drop 1 = l := by rw [hdrop]; rfl
    rw [← this, List.drop_drop]
  simp only [tailS] at htl
  have htl : stepS C H Y opsA.toList on { slots := viewS (allM' drs.length) drs.length 0 ds (drS drs) sl, res := addR res (viewR (fun _ => true) 0 drs), defs := defs } (fun σ' => tailS C H Y opsA.toList l σ' K) (fun _ _ => False) := by
    obtain ⟨o1, o2, o3, o4, o5, o6⟩ := on
    obtain ⟨h1, h2, h3⟩ := hon
    simp only at h1 h2 h3
    subst h1
    subst h2
    subst h3
    exact htl
  have hstep := stepS_spec (ro := ro) (w0 := w0) (F0 := F0) (next := fun a' w' => a' = a.put (some d) v → wpAnyIn (FF ro) 0 C.P .any opsA (Post ρ0 res w0 F0 K) fuel (listed.setIfInBounds drs.length true) a w') (Q := fun _ _ _ => False) hC hH (hY.later hgood)
    (fun hr => hnd hr on (by rw [← Array.getElem?_toList] at hno'; exact List.mem_of_getElem? hno')) htl hrep
    (fun σ' ρ' fps' a' w' hK' hr' hg' ha' => ?_) (fun v' σ' ρ' fps' w' hK' hv hr' hg' => ?_)
  · unfold wpOpIn
    rw [hno']
    simp only
    have hw1 : Region.wanted on (yielded opsA a.tmps) = true := by simp [Region.wanted, hon.2.2]
    have hw2 : Region.wanted on (yielded opsA (a.put (some d) v).tmps) = true := by simp [Region.wanted, hon.2.2]
    rw [if_pos hw1]
    rw [if_pos hw2] at hstep
    have hsem : on.semAt (FF ro).round a.eval = on.semAt (FF ro).round (a.put (some d) v).eval := by
      have e1 : execOp a.eval on = execOp (a.put (some d) v).eval on := by simp only [execOp, hon.1, opNe_eval hp, opNe_eval hx]
      show on.semAt ro _ = on.semAt ro _
      cases ro with
      | none => rw [Oper.semAt_none, Oper.semAt_none, e1]
      | some r => rw [Oper.semAt_some r _ on (by simp [hon.1]), Oper.semAt_some r _ on (by simp [hon.1]), e1]
    unfold Oper.wpIn at hstep ⊢
    refine ⟨fun _ _ => trivial, ?_⟩
    rw [hsem]
    have hstep := hstep.2
    generalize hres : (on.semAt (FF ro).round (a.put (some d) v).eval).run C.P w = r at *
    have hsk : ∀ nx w2, r = .ok nx w2 → nx = .skip := by
      intro nx w2 hr
      subst hr
      have e1 : on.semAt (FF ro).round (a.put (some d) v).eval = execOp (a.put (some d) v).eval on := by
        show on.semAt ro _ = _
        cases ro with
        | none => rw [Oper.semAt_none]
        | some r => rw [Oper.semAt_some r _ on (by simp [hon.1])]
      rw [e1] at hres
      simp only [execOp, hon.1, Sem.run_bind] at hres
      cases hs2 : (Instr.storeAt t ((a.put (some d) v).eval p) ((a.put (some d) v).eval x)).run C.P w with
      | ok u w3 => rw [hs2] at hres; simp only [Result.andThen_ok, Sem.run_pure, Result.ok.injEq] at hres; exact hres.1.symm
      | halt u w3 => rw [hs2] at hres; simp [Result.andThen] at hres
    cases r with
    | ok nx w2 =>
      have := hsk nx w2 rfl
      subst this
      simp only [Oper.uponIn, hon.2.1, Act.put] at hstep ⊢
      first | exact hstep trivial | exact hstep rfl
    | halt u w2 => cases u <;> simp only [Oper.uponIn] at hstep ⊢ <;> exact hstep.elim
  · -- the part is taken out behind the store
    subst ha'
    have hfz : drs.length < listed.size := by omega
    have hcn := cnt_set (n := opsA.size) hs hsl (hno _ (Nat.le_refl _))
    cases fuel with
    | zero =>
      have : cnt (listed.setIfInBounds drs.length true) opsA.size = 0 := by omega
      have h2 := cnt_set (listed := listed.setIfInBounds drs.length true) (n := opsA.size) (by simpa using hs) hesz (by rw [getD_set_ne false (by omega)]; exact hlf)
      omega
    | succ fuel =>
      have hlee : (listed.setIfInBounds drs.length true).getD e false = false := by rw [getD_set_ne false (by omega)]; exact hlf
      have hcn2 := cnt_set (listed := listed.setIfInBounds drs.length true) (n := opsA.size) (by simpa using hs) hesz hlee
      have hready : e ∈ Region.ready .any opsA (listed.setIfInBounds drs.length true) := by
        rw [mem_ready]
        refine ⟨?_, oe, hoe, fun ed e1 e2 => ?_⟩
        · have hsz : e < (listed.setIfInBounds drs.length true).size := by simp; omega
          have hq := (getq hsz).trans hlee
          first | exact hq | simpa using hq
        · have h1 := (P.at hoe).2.1 ed.on (((P.at hoe).2.2.1 ed.on).2 ⟨ed, e1, e2, .inl rfl⟩)
          rw [getD_set_ne false (by omega)]
          exact hle _ (by omega) (by omega)
      refine ⟨fun hnil => (by rw [hnil] at hready; simp at hready), fun i hi => ?_⟩
      obtain ⟨h1, o', h2, h3⟩ := mem_ready.1 hi
      have hisz : i < opsA.size := (Array.getElem?_eq_some_iff.1 h2).1
      have hie : i = e := by
        have hif : (listed.setIfInBounds drs.length true).getD i false = false := by
          have hsz : i < (listed.setIfInBounds drs.length true).size := by simp; omega
          rw [← getq hsz]
          first | exact h1 | simpa using h1
        rcases Nat.lt_trichotomy i drs.length with h | h | h
        · refine Classical.byContradiction fun hne => ?_
          rw [getD_set_ne false (by omega), hle i h hne] at hif
          simp at hif
        · subst h
          simp [hfz] at hif
        · exfalso
          obtain ⟨q1, q2, q3, q4⟩ := P.at h2
          obtain ⟨ed, e1, e2, e3⟩ := (q3 e).1 ((hbit i hisz h e).2 (by omega))
          have hed := h3 ed e1 e2
          have hdi := q2 ed.on ((q3 ed.on).2 ⟨ed, e1, e2, .inl rfl⟩)
          rcases e3 with rfl | e3
          · rw [hlee] at hed; simp at hed
          · obtain ⟨_, r2, _, _⟩ := P.at (i := ed.on) (o := opsA[ed.on]'(by omega)) (Array.getElem?_eq_getElem (by omega))
            have hlt := r2 e e3
            rcases Nat.lt_trichotomy ed.on drs.length with g | g | g
            · exact absurd ((hanc ed.on).2 ⟨g, by omega⟩) (fun hh => by
                have := (P.at hno').2.2.2 ed.on e hh e3
                rw [_hef] at this; simp at this)
            · rw [g] at e3
              rw [_hef] at e3; simp at e3
            · rw [getD_set_ne false (by omega), hno _ (by omega)] at hed; simp at hed
      subst hie
      have hoo : o' = oe := by rw [hoe] at h2; exact (Option.some.inj h2).symm
      subst hoo
      unfold wpOpIn
      rw [hoe]
      simp only
      rw [if_pos (by simp [Region.wanted, he.2.2])]
      refine oper_in (fun _ c => by rw [he.1]; simp) ?_
      unfold Oper.wp
      rw [hrun w']
      simp only [Oper.upon, he.2.1]
      refine tail_spec hC hH hY hnd P drs.length hbit l (drs.length + 1) _ fuel σ' ρ' fps' _ w' hl' (by omega) (by simpa using hs) (by omega) (fun k hk => ?_) (fun k hk => ?_) hK' hr' (hgood.trans hg')
      · by_cases g : i = k
        · subst g; simp [show i < listed.size by omega]
        · rw [getD_set_ne false g]
          by_cases g2 : drs.length = k
          · subst g2; simp [hfz]
          · rw [getD_set_ne false g2]; exact hle k (by omega) (Ne.symm g)
      · rw [getD_set_ne false (by omega), getD_set_ne false (by omega)]
        exact hno k (by omega)
  · exact hK'.elim

/-- What an operation gives that takes a value, or a part of a tuple. -/
def pureVal (o : Oper) (a : Act) : Option Value :=
  match o.op with
  | .move x => some (a.eval x)
  | .assign x => some (a.eval x)
  | .extract x ix => match a.eval x with
    | .tuple vs => vs[ix]?
    | _ => none
  | _ => none
def foldP : List (Nat × Oper) → Act → Option Act
  | [], a => some a
  | p :: l, a => match pureVal p.2 a with
    | some v => foldP l (a.put p.2.dst v)
    | none => none

theorem isPure_dst {o : Oper} (h : isPure o = true) : o.guard = none ∧ (∃ d, o.dst = some d) ∧ ∃ x, srcOf o = some x := by
  unfold isPure at h
  split at h
  · rename_i h1
    split at h
    · rename_i d h2
      exact ⟨h1, ⟨d, h2⟩, Option.isSome_iff_exists.1 h⟩
    · simp at h
  · simp at h

theorem pure_run {o : Oper} (h : isPure o = true) {P : Program} (a : Act) (w : World) : (∃ v, pureVal o a = some v ∧ (execOp a.eval o).run P w = .ok (.value v) w) ∨ (pureVal o a = none ∧ ∃ s, (execOp a.eval o).run P w = .halt (.stuck s) w) := by
  obtain ⟨_, _, x, hx⟩ := isPure_dst h
  unfold srcOf at hx
  unfold pureVal
  split at hx
  · rename_i y hop
    exact .inl ⟨a.eval y, by first | rw [hop] | rfl, by simp only [execOp, hop]; rfl⟩
  · rename_i y hop
    exact .inl ⟨a.eval y, by first | rw [hop] | rfl, by simp only [execOp, hop]; rfl⟩
  · rename_i y ix hop
    simp only [execOp, hop]
    cases hv : a.eval y <;> try exact .inr ⟨rfl, _, rfl⟩
    rename_i vs
    simp only [Instr.extract]
    cases hix : vs[ix]? with
    | some v => exact .inl ⟨v, rfl, rfl⟩
    | none => exact .inr ⟨rfl, _, rfl⟩
  · simp at hx

theorem pureVal_put {o : Oper} {d : Nat} {v : Value} {a : Act} {x : Operand} (hx : srcOf o = some x) (h : opNe x d = true) : pureVal o (a.put (some d) v) = pureVal o a := by
  unfold srcOf at hx
  unfold pureVal
  split at hx <;> simp only [Option.some.injEq, reduceCtorEq] at hx <;> rename_i hop <;> subst hx <;> simp only [hop, opNe_eval h]

theorem put_comm (a : Act) {d e : Nat} (h : d ≠ e) (u v : Value) : (a.put (some d) u).put (some e) v = (a.put (some e) v).put (some d) u := by
  have : (a.tmps.setIfInBounds d u).setIfInBounds e v = (a.tmps.setIfInBounds e v).setIfInBounds d u := by
    apply Array.ext_getElem?
    intro i
    by_cases e1 : e = i
    · subst e1
      rw [Array.getElem?_setIfInBounds_ne h]
      by_cases hi : e < a.tmps.size
      · rw [Array.getElem?_setIfInBounds_self_of_lt (by simpa using hi), Array.getElem?_setIfInBounds_self_of_lt hi]
      · rw [Array.getElem?_eq_none (by simp; omega), Array.getElem?_eq_none (by simp; omega)]
    · rw [Array.getElem?_setIfInBounds_ne e1]
      by_cases e2 : d = i
      · subst e2
        by_cases hi : d < a.tmps.size
        · rw [Array.getElem?_setIfInBounds_self_of_lt hi, Array.getElem?_setIfInBounds_self_of_lt (by simpa using hi)]
        · rw [Array.getElem?_eq_none (by simp; omega), Array.getElem?_eq_none (by simp; omega)]
      · rw [Array.getElem?_setIfInBounds_ne e2, Array.getElem?_setIfInBounds_ne e2, Array.getElem?_setIfInBounds_ne e1]
  simp only [Act.put, this]

theorem fold_swap {x y : Nat × Oper} {l : List (Nat × Oper)} {a : Act} (h : apart x.2 y.2 = true) : foldP (x :: y :: l) a = foldP (y :: x :: l) a := by
  unfold apart at h
  split at h
  · rename_i sx dx sy dy h1 h2 h3 h4
    simp only [Bool.and_eq_true, Bool.not_eq_true', beq_eq_false_iff_ne] at h
    obtain ⟨⟨g1, g2⟩, g3⟩ := h
    simp only [foldP, h2, h4]
    have e1 : ∀ v, pureVal y.2 (a.put (some dx) v) = pureVal y.2 a := fun v => pureVal_put h3 g1
    have e2 : ∀ v, pureVal x.2 (a.put (some dy) v) = pureVal x.2 a := fun v => pureVal_put h1 g2
    cases hx : pureVal x.2 a with
    | none =>
      cases hy : pureVal y.2 a with
      | none => rfl
      | some v => simp only [e2, hx]
    | some u =>
      simp only [e1]
      cases hy : pureVal y.2 a with
      | none => rfl
      | some v => simp only [e2, hx, put_comm a g3]
  · simp at h

theorem fold_front {y : Nat × Oper} {r2 : List (Nat × Oper)} : ∀ (r1 : List (Nat × Oper)) (a : Act), (∀ p ∈ r1, apart p.2 y.2 = true) → foldP (r1 ++ y :: r2) a = foldP (y :: (r1 ++ r2)) a
  | [], a, _ => rfl
  | p :: r1, a, h => by
    have : foldP (p :: (r1 ++ y :: r2)) a = foldP (p :: y :: (r1 ++ r2)) a := by
      simp only [foldP]
      cases pureVal p.2 a with
      | none => rfl
      | some v => exact fold_front r1 _ fun q hq => h q (by simp [hq])
    rw [List.cons_append, this, fold_swap (h p (by simp))]
    rfl

def PairR (ds : List (Option Nat × Nat)) (p q : Nat × Oper) : Prop := p.1 < q.1 ∧ ((ancAt ds q.1).testBit p.1 = true ∨ apart p.2 q.2 = true)

/-- What only takes values, in any order. -/
theorem pure_any {ro : Option Nat} (P : Planned C opsA.toList ds sl res drs) {Q : Exit → Act → World → Prop} {w : World} {a' : Act} (hQ : Q .normal a' w) : ∀ (fuel : Nat) (r : List (Nat × Oper)) (listed : Array Bool) (a : Act),
    listed.size = opsA.size → cnt listed opsA.size ≤ fuel → (∀ i, i < opsA.size → (listed.getD i false = false ↔ ∃ o, (i, o) ∈ r)) → (∀ p ∈ r, opsA[p.1]? = some p.2 ∧ isPure p.2 = true) → r.Pairwise (PairR ds) →
    (∀ i k, i < opsA.size → listed.getD i false = true → (ancAt ds i).testBit k = true → listed.getD k false = true) → foldP r a = some a' → wpAnyIn (FF ro) 0 C.P .any opsA Q fuel listed a w := by
  intro fuel
  induction fuel with
  | zero =>
    intro r listed a hs hc hr hp hpw hdn hf
    have hr0 : r = [] := by
      cases r with
      | nil => rfl
      | cons p r =>
        have h1 := (hp p (by simp)).1
        have hlt := (Array.getElem?_eq_some_iff.1 h1).1
        have := cnt_set (n := opsA.size) hs hlt ((hr p.1 hlt).2 ⟨p.2, by simp⟩)
        omega
    subst hr0
    simp only [foldP, Option.some.injEq] at hf
    subst hf
    refine anyIn_done ?_ hQ 0
    cases hrd : Region.ready .any opsA listed with
    | nil => rfl
    | cons i l =>
      obtain ⟨h1, o, h2, _⟩ := mem_ready.1 (show i ∈ Region.ready .any opsA listed by rw [hrd]; simp)
      have hisz : i < opsA.size := (Array.getElem?_eq_some_iff.1 h2).1
      have hlt : i < listed.size := by omega
      have hf : listed.getD i false = false := (getq hlt).symm.trans (by simpa [Array.getD_eq_getD_getElem?] using h1)
      obtain ⟨o, ho⟩ := (hr i hisz).1 hf
      simp at ho
  | succ fuel ih =>
    intro r listed a hs hc hr hp hpw hdn hf
    refine ⟨fun hnil => ?_, fun i hi => ?_⟩
    · cases r with
      | nil => simp only [foldP, Option.some.injEq] at hf; subst hf; exact hQ
      | cons p r =>
        exfalso
        have h1 := (hp p (by simp)).1
        have hlt := (Array.getElem?_eq_some_iff.1 h1).1
        have hfl := (hr p.1 hlt).2 ⟨p.2, by simp⟩
        have : p.1 ∈ Region.ready .any opsA listed := by
          rw [mem_ready]
          refine ⟨?_, p.2, h1, fun e e1 e2 => ?_⟩
          · have hsz : p.1 < listed.size := by omega
            have := (getq hsz).trans hfl
            simpa [Array.getD_eq_getD_getElem?] using this
          · have hk := (P.at h1).2.1 e.on (((P.at h1).2.2.1 e.on).2 ⟨e, e1, e2, .inl rfl⟩)
            cases hl : listed.getD e.on false with
            | true => rfl
            | false =>
              obtain ⟨o, ho⟩ := (hr e.on (by omega)).1 hl
              rcases List.mem_cons.1 ho with rfl | ho
              · simp only at hk; omega
              · have := ((List.pairwise_cons.1 hpw).1 _ ho).1
                simp only at this; omega
        rw [hnil] at this
        simp at this
    · obtain ⟨h1, o, h2, h3⟩ := mem_ready.1 hi
      have hisz : i < opsA.size := (Array.getElem?_eq_some_iff.1 h2).1
      have hlt : i < listed.size := by omega
      have hfl : listed.getD i false = false := (getq hlt).symm.trans (by simpa [Array.getD_eq_getD_getElem?] using h1)
      obtain ⟨o', ho'⟩ := (hr i hisz).1 hfl
      have hoo : o' = o := by
        have := (hp _ ho').1
        simp only at this
        rw [h2] at this
        exact (Option.some.inj this).symm
      subst hoo
      have hpo := (hp _ ho').2
      simp only at hpo
      have hancL : ∀ k, (ancAt ds i).testBit k = true → listed.getD k false = true := fun k hk => by
        obtain ⟨e, e1, e2, e3⟩ := ((P.at h2).2.2.1 k).1 hk
        have he := h3 e e1 e2
        rcases e3 with rfl | e3
        · exact he
        · have hon := (P.at h2).2.1 e.on (((P.at h2).2.2.1 e.on).2 ⟨e, e1, e2, .inl rfl⟩)
          exact hdn e.on k (by omega) he e3
      obtain ⟨r1, r2, rfl⟩ := List.append_of_mem ho'
      have hpw' := List.pairwise_append.1 hpw
      have hap : ∀ p ∈ r1, apart p.2 o' = true := fun p hpm => by
        have hpr := hpw'.2.2 p hpm (i, o') (by simp)
        rcases hpr.2 with h | h
        · have hpl := hancL p.1 h
          have hp1 := (hp p (by simp [hpm])).1
          have hplt := (Array.getElem?_eq_some_iff.1 hp1).1
          have := (hr p.1 hplt).2 ⟨p.2, by simp [hpm]⟩
          rw [hpl] at this; simp at this
        · exact h
      rw [fold_front r1 a hap] at hf
      simp only [foldP] at hf
      obtain ⟨hg, ⟨d, hd⟩, _⟩ := isPure_dst hpo
      unfold wpOpIn
      rw [h2]
      simp only
      rw [if_pos (by simp [Region.wanted, hg])]
      rcases pure_run (P := C.P) hpo a w with ⟨v, hv, hrun⟩ | ⟨hv, _⟩
      case inr => rw [hv] at hf; simp at hf
      rw [hv] at hf
      simp only at hf
      refine oper_in (fun _ c hc => by rw [show srcOf o' = none by unfold srcOf; rw [hc]] at *; obtain ⟨_, _, x, hx⟩ := isPure_dst hpo; simp [srcOf, hc] at hx) ?_
      unfold Oper.wp
      rw [hrun]
      simp only [Oper.upon]
      have hcn := cnt_set (n := opsA.size) hs hisz hfl
      have hdisj : ∀ p ∈ r1 ++ r2, p.1 ≠ i := fun p hpm => by
        rcases List.mem_append.1 hpm with h | h
        · have := (hpw'.2.2 p h (i, o') (by simp)).1
          simp only at this; omega
        · have := ((List.pairwise_cons.1 hpw'.2.1).1 p h).1
          simp only at this; omega
      refine ih (r1 ++ r2) (listed.setIfInBounds i true) _ (by simpa using hs) (by omega) (fun k hk => ?_) (fun p hpm => hp p (by
        rcases List.mem_append.1 hpm with h | h
        · simp [h]
        · simp [h])) ?_ (fun k j hk hkl hj => ?_) hf
      · by_cases e : i = k
        · subst e
          constructor
          · intro h; simp [hlt] at h
          · rintro ⟨o2, ho2⟩
            exact absurd rfl (hdisj _ ho2)
        · rw [getD_set_ne false e, hr k hk]
          constructor
          · rintro ⟨o2, ho2⟩
            refine ⟨o2, ?_⟩
            rcases List.mem_append.1 ho2 with h | h
            · simp [h]
            · rcases List.mem_cons.1 h with h | h
              · simp only [Prod.mk.injEq] at h; exact absurd h.1.symm e
              · simp [h]
          · rintro ⟨o2, ho2⟩
            refine ⟨o2, ?_⟩
            rcases List.mem_append.1 ho2 with h | h
            · simp [h]
            · simp [h]
      · rw [List.pairwise_append]
        exact ⟨hpw'.1, (List.pairwise_cons.1 hpw'.2.1).2, fun x hx y hy => hpw'.2.2 x hx y (by simp [hy])⟩
      · by_cases e : i = j
        · subst e; simp [hlt]
        · rw [getD_set_ne false e]
          by_cases e2 : i = k
          · subst e2; exact hancL j hj
          · rw [getD_set_ne false e2] at hkl
            exact hdn k j hk hkl hj

def idxL : Nat → List Oper → List (Nat × Oper)
  | _, [] => []
  | i, o :: l => (i, o) :: idxL (i + 1) l
theorem idxL_mem : ∀ {l : List Oper} {i : Nat} {p : Nat × Oper}, p ∈ idxL i l ↔ i ≤ p.1 ∧ l[p.1 - i]? = some p.2
  | [], i, p => by simp [idxL]
  | o :: l, i, p => by
    simp only [idxL, List.mem_cons, idxL_mem (l := l) (i := i + 1)]
    constructor
    · rintro (rfl | ⟨h1, h2⟩)
      · simp
      · refine ⟨by omega, ?_⟩
        rw [show p.1 - i = (p.1 - (i + 1)) + 1 by omega]
        simpa using h2
    · rintro ⟨h1, h2⟩
      by_cases e : p.1 = i
      · rw [e, Nat.sub_self] at h2
        simp only [List.getElem?_cons_zero, Option.some.injEq] at h2
        exact .inl (by rw [← e, h2])
      · refine .inr ⟨by omega, ?_⟩
        rw [show p.1 - i = (p.1 - (i + 1)) + 1 by omega] at h2
        simpa using h2

theorem pairsOK_spec {ds : List (Option Nat × Nat)} {j : Nat} {x : Oper} : ∀ {l : List Oper} {i : Nat}, j < i → pairsOK ds j x i l = true → ∀ q ∈ idxL i l, PairR ds (j, x) q
  | [], _, _, _, q, hq => by simp [idxL] at hq
  | y :: l, i, hj, h, q, hq => by
    simp only [pairsOK, Bool.and_eq_true, Bool.or_eq_true] at h
    rcases List.mem_cons.1 hq with rfl | hq
    · exact ⟨hj, h.1⟩
    · exact pairsOK_spec (by omega) h.2 q hq

theorem pureOK_spec {ds : List (Option Nat × Nat)} {n : Nat} : ∀ {l : List Oper} {i : Nat}, n < i → pureOK ds n i l = true → (idxL i l).Pairwise (PairR ds) ∧ (∀ p ∈ idxL i l, isPure p.2 = true ∧ ∀ k, k ≤ n → (ancAt ds p.1).testBit k = true)
  | [], _, _, _ => ⟨List.Pairwise.nil, by simp [idxL]⟩
  | x :: l, i, hi, h => by
    simp only [pureOK, Bool.and_eq_true, beq_iff_eq] at h
    obtain ⟨⟨⟨h1, h2⟩, h3⟩, h4⟩ := h
    obtain ⟨i1, i2⟩ := pureOK_spec (by omega) h4
    refine ⟨List.pairwise_cons.2 ⟨fun q hq => pairsOK_spec (by omega) h3 q hq, i1⟩, fun p hp => ?_⟩
    rcases List.mem_cons.1 hp with rfl | hp
    · refine ⟨h1, fun k hk => ?_⟩
      have := congrArg (fun m => Nat.testBit m k) h2
      simp only [Nat.testBit_or, allM', Nat.testBit_two_pow_sub_one] at this
      rw [show decide (k < n + 1) = true by simp; omega, Bool.or_true] at this
      exact this.symm
    · exact i2 p hp

/-- The same in the order of the text. -/
theorem foldP_spec {H : Handler} {Y : YHandler} {K : Out → St → Prop} {res0 : List Res} (hC : C.Sound) (hH : H.OK C.P) (hY : YOK C.P Y ρ0 res0) : ∀ (l : List Oper) (i : Nat) (σ : St) (ρ : Env) (fps : Nat → Nat → Prop) (a : Act), (∀ p ∈ idxL i l, isPure p.2 = true) →
    tailS C H Y opsA.toList l σ K → Rep ρ fps σ w0 F0 a w → Good ρ0 res0 ρ σ.res → ∃ a', foldP (idxL i l) a = some a' ∧ Post ρ0 res0 w0 F0 K .normal a' w
  | [], i, σ, ρ, fps, a, _, h, hr, hg => by
    simp only [tailS, cleanK_eq] at h
    exact ⟨a, rfl, .norm, _, ρ, fps, trivial, h, ⟨hr.1.clean, hr.2.1, hr.2.2.1, hr.2.2.2⟩, hg⟩
  | o :: l, i, σ, ρ, fps, a, hp, h, hr, hg => by
    have hpo : isPure o = true := hp (i, o) (by simp [idxL])
    obtain ⟨hgu, ⟨d, hd⟩, x, hx⟩ := isPure_dst hpo
    have key := stepS_spec (ro := none) (w0 := w0) (F0 := F0) (next := fun a1 w1 => w1 = w → ∃ a', foldP (idxL (i + 1) l) a1 = some a' ∧ Post ρ0 res0 w0 F0 K .normal a' w) (Q := fun _ _ _ => True) hC hH (hY.later hg)
      (fun hr => absurd rfl hr) h hr (fun σ' ρ' fps' a1 w1 hK' hr' hg' hw => by
        rw [hw] at hr'
        exact foldP_spec hC hH hY l (i + 1) σ' ρ' fps' a1 (fun p hpm => hp p (by simp [idxL, hpm])) hK' hr' (hg.trans hg')) (fun _ _ _ _ _ _ _ _ _ => trivial)
    rw [if_pos (by simp [Region.wanted, hgu])] at key
    have key := key.2
    have hsem : o.semAt (FF none).round a.eval = execOp a.eval o := Oper.semAt_none _ _
    rw [hsem] at key
    rcases pure_run (P := C.P) hpo a w with ⟨v, hv, hrun⟩ | ⟨_, s, hrun⟩
    · rw [hrun] at key
      simp only [Oper.uponIn] at key
      obtain ⟨a', h1, h2⟩ := key trivial
      exact ⟨a', by simp only [idxL, foldP, hv]; exact h1, h2⟩
    · rw [hrun] at key
      exact key.elim

/-- An operation, then what only takes values. -/
theorem pure_spec {H : Handler} {Y : YHandler} {K : Out → St → Prop} {ro : Option Nat} {res0 : List Res} (hC : C.Sound) (hH : H.OK C.P) (hY : YOK C.P Y ρ0 res0) (hnd : ro ≠ none → ∀ o ∈ opsA.toList, notDefer o)
    (P : Planned C opsA.toList ds sl res drs) {n : Nat} {o : Oper} {l : List Oper} (hdrop : opsA.toList.drop n = o :: l) (hpure : pureOK ds n (n + 1) l = true)
    {listed : Array Bool} {fuel : Nat} {σ : St} (hs : listed.size = opsA.size) (hc : cnt listed opsA.size ≤ fuel) (hall : ∀ k, k < n → listed.getD k false = true) (hno : ∀ k, n ≤ k → listed.getD k false = false)
    (h : tailS C H Y opsA.toList (o :: l) σ K) (hr : Rep ρ fps σ w0 F0 a w) (hg : Good ρ0 res0 ρ σ.res) : wpAnyIn (FF ro) 0 C.P .any opsA (Post ρ0 res0 w0 F0 K) fuel listed a w := by
  have hon : opsA[n]? = some o := by
    have : (opsA.toList.drop n)[0]? = some o := by rw [hdrop]; rfl
    simpa using this
  have hnsz : n < opsA.size := (Array.getElem?_eq_some_iff.1 hon).1
  have hl' : opsA.toList.drop (n + 1) = l := by
    have : (opsA.toList.drop n).drop 1 = l := by rw [hdrop]; rfl
    rw [← this, List.drop_drop]
  have hmem : ∀ p : Nat × Oper, p ∈ idxL (n + 1) l ↔ n < p.1 ∧ opsA[p.1]? = some p.2 := fun p => by
    rw [idxL_mem, ← hl']
    simp only [List.getElem?_drop]
    constructor
    · rintro ⟨h1, h2⟩
      rw [show n + 1 + (p.1 - (n + 1)) = p.1 by omega] at h2
      exact ⟨by omega, by simpa using h2⟩
    · rintro ⟨h1, h2⟩
      rw [show n + 1 + (p.1 - (n + 1)) = p.1 by omega]
      exact ⟨by omega, by simpa using h2⟩
  obtain ⟨hpw, hpp⟩ := pureOK_spec (by omega) hpure
  have hnl : listed.getD n false = false := hno _ (Nat.le_refl _)
  have hnlt : n < listed.size := by omega
  cases fuel with
  | zero =>
    have := cnt_set (n := opsA.size) hs hnsz hnl
    omega
  | succ fuel =>
    obtain ⟨p1, p2, p3, p4⟩ := P.at hon
    have hnr : n ∈ Region.ready .any opsA listed := by
      rw [mem_ready]
      refine ⟨?_, o, hon, fun e e1 e2 => hall _ (p2 e.on ((p3 e.on).2 ⟨e, e1, e2, .inl rfl⟩))⟩
      simpa [Array.getD_eq_getD_getElem?, hnlt] using hnl
    refine ⟨fun hnil => (by rw [hnil] at hnr; simp at hnr), fun i hi => ?_⟩
    obtain ⟨h1, o', h2, h3⟩ := mem_ready.1 hi
    have hisz : i < opsA.size := (Array.getElem?_eq_some_iff.1 h2).1
    have hilt : i < listed.size := by omega
    have hfl : listed.getD i false = false := (getq hilt).symm.trans (by simpa [Array.getD_eq_getD_getElem?] using h1)
    have hin : i = n := by
      rcases Nat.lt_trichotomy i n with h | h | h
      · rw [hall i h] at hfl; simp at hfl
      · exact h
      · exfalso
        have := (hpp (i, o') ((hmem _).2 ⟨h, h2⟩)).2 n (Nat.le_refl _)
        simp only at this
        obtain ⟨q1, q2, q3, q4⟩ := P.at h2
        obtain ⟨e, e1, e2, e3⟩ := (q3 n).1 this
        have he := h3 e e1 e2
        rcases e3 with rfl | e3
        · rw [hnl] at he; simp at he
        · have hi' := q2 e.on ((q3 e.on).2 ⟨e, e1, e2, .inl rfl⟩)
          obtain ⟨_, r2, _, _⟩ := P.at (i := e.on) (o := opsA[e.on]'(by omega)) (Array.getElem?_eq_getElem (by omega))
          have := r2 n e3
          rw [hno _ (by omega)] at he; simp at he
    subst hin
    have hoo : o' = o := by rw [hon] at h2; exact (Option.some.inj h2).symm
    subst hoo
    have hcn := cnt_set (n := opsA.size) hs hnsz hnl
    simp only [tailS] at h
    have key := stepS_spec (ro := ro) (next := wpAnyIn (FF ro) 0 C.P .any opsA (Post ρ0 res0 w0 F0 K) fuel (listed.setIfInBounds i true)) (Q := Post ρ0 res0 w0 F0 K) hC hH (hY.later hg)
      (fun hr => hnd hr o' (by rw [← Array.getElem?_toList] at hon; exact List.mem_of_getElem? hon)) h hr
      (fun σ' ρ'' fps'' a'' w'' hK' hr' hg' => by
        obtain ⟨af, f1, f2⟩ := foldP_spec (opsA := opsA) hC hH hY l (i + 1) σ' ρ'' fps'' a'' (fun p hpm => (hpp p hpm).1) hK' hr' (hg.trans hg')
        refine pure_any P f2 fuel (idxL (i + 1) l) (listed.setIfInBounds i true) a'' (by simpa using hs) (by omega) (fun k hk => ?_) (fun p hpm => ⟨((hmem p).1 hpm).2, (hpp p hpm).1⟩) hpw (fun k j hk hkl hj => ?_) f1
        · by_cases e : i = k
          · subst e
            constructor
            · intro h; simp [hnlt] at h
            · rintro ⟨o2, ho2⟩
              have := ((hmem _).1 ho2).1
              simp only at this; omega
          · rw [getD_set_ne false e]
            constructor
            · intro hf
              have hik : i < k := by
                rcases Nat.lt_trichotomy i k with h | h | h
                · exact h
                · exact absurd h e
                · rw [hall k h] at hf; simp at hf
              exact ⟨opsA[k]'hk, (hmem _).2 ⟨hik, Array.getElem?_eq_getElem hk⟩⟩
            · rintro ⟨o2, ho2⟩
              have := ((hmem _).1 ho2).1
              exact hno k (by simp only at this; omega)
        · have hki : k ≤ i := by
            rcases Nat.lt_or_ge i k with h | h
            · rw [getD_set_ne false (by omega), hno k (by omega)] at hkl; simp at hkl
            · exact h
          have hjk := (P.at (i := k) (o := opsA[k]'hk) (Array.getElem?_eq_getElem hk)).2.1 j hj
          rw [getD_set_ne false (by omega)]
          exact hall j (by omega))
      (fun v σ' ρ'' fps'' w'' hK' hv hr' hg' => ⟨.pan v, σ', ρ'', fps'', ⟨rfl, hv⟩, hK', hr', hg.trans hg'⟩)
    unfold wpOpIn
    simp only [hon]
    split
    · rename_i hw; rw [if_pos hw] at key; exact key
    · rename_i hw; rw [if_neg hw] at key; exact ⟨fun _ _ => trivial, key⟩

theorem drawS_spec {H : Handler} {Y : YHandler} {σ : St} {K : Out → St → Prop} {id : Nat} {ro : Option Nat} (hC : C.Sound) (hH : H.OK C.P) (hY : YOK C.P Y ρ σ.res) (hnd : ro ≠ none → ∀ o ∈ opsA.toList, notDefer o) (h : drawS C H Y opsA.toList σ K) (hr : Rep ρ fps σ w0 F0 a w) :
    (Code.region id opsA true).wpIn (FF ro) 0 C.P (Post ρ σ.res w0 F0 K) a w := by
  refine wpIn_region_any hC.mixed ?_
  unfold drawS drawGo at h
  generalize dsGo opsA.toList [] = ds at h
  split at h
  · rename_i hok
    simp only [Bool.and_eq_true] at hok
    rw [cleanK_eq, planK_eq] at h
    generalize hpg : planGo C opsA.toList ds (clean σ.slots) σ.res 0 opsA.toList [] = pr at h
    obtain ⟨drs, rest⟩ := pr
    simp only at h
    obtain ⟨g1, g2, g3⟩ := planGo_spec _ 0 [] drs rest hpg rfl rfl (by simp)
    have P : Planned C opsA.toList ds (clean σ.slots) σ.res drs := ⟨hok.1, hok.2, clean_plain σ.slots, g3⟩
    unfold drawEnd at h
    obtain ⟨hq, hK⟩ := reqAll_spec h
    obtain ⟨r1, r2, r3, r4⟩ := hr
    have hsz : drs.length ≤ opsA.size := by simpa using g2
    have hget : ∀ k, (Array.replicate opsA.size false).getD k false = false := fun k => by
      simp only [Array.getD_eq_getD_getElem?, Array.getElem?_replicate]; split <;> rfl
    have hL0 : ∀ id, KL σ.res drs (fun k => (Array.replicate opsA.size false).getD k false) id → known σ.res id := by
      rintro id (h | ⟨_, j, y, _, h⟩)
      · exact h
      · simp only [hget] at h; simp at h
    have I0 : Inv ds (clean σ.slots) σ.res drs σ.defs ρ w0 F0 (fun k => (Array.replicate opsA.size false).getD k false) ρ fps a { w with drawn := w.drawn + 1 } := by
      have hd : HRep ρ fps σ.res (known σ.res) w0 F0 { w with drawn := w.drawn + 1 } := ⟨r2.sub, r2.old, r2.os, r2.tape, r2.output, fun i hi => Res.holds_keep _ (r2.holds i hi) fun _ _ => rfl, r2.lt, r2.disj, r2.inF, r2.same⟩
      refine ⟨r1.clean.1, fun t j m d _ _ hl => by simp only [hget] at hl; simp at hl, fun t _ => ?_, ?_, fun i k hi => by simp only [hget] at hi; simp at hi, ⟨r3, r4⟩, Env.agree.refl _ _, fun j d _ hl => by simp only [hget] at hl; simp at hl⟩
      · exact (SlotOK.plain (clean_plain σ.slots t) (r1.clean.2 t)).env (fun i hi => .inl hi) (Env.agree.refl _ _)
      · refine (hd.monoK fun i hi => .inl hi).forget fun id hk => ?_
        have := hL0 id (known_view hk)
        rw [rget_view, if_pos (rget_lt this)]
    have hcnt : cnt (Array.replicate opsA.size false) opsA.size ≤ opsA.size := by
      have := List.length_filter_le (fun k => !(Array.replicate opsA.size false).getD k false) (List.range opsA.size)
      simpa [cnt] using this
    cases rest with
    | nil =>
      simp only [frcK_eq, cleanK_eq] at hK
      have hlen : drs.length = opsA.size := by
        have := congrArg List.length g1
        simp at this
        omega
      refine any_front Post.noOut hnd hC P hq hsz (fun i h1 h2 => by omega) (fun _ _ _ _ _ _ _ _ h => by omega) ?_ opsA.size _ ρ fps a _ (by simp) hcnt (fun k _ => hget k) I0
      intro fuel listed ρ' fps' a' w' hs hc hall hno I
      obtain ⟨hrep, hgood⟩ := I.rep P hall hno
      refine anyIn_done ?_ ⟨.norm, _, ρ', fps', trivial, hK, ⟨hrep.1.clean, hrep.2.1, hrep.2.2.1, hrep.2.2.2⟩, hgood⟩ fuel
      cases hrd : Region.ready .any opsA listed with
      | nil => rfl
      | cons i l =>
        obtain ⟨h1, o, h2, _⟩ := mem_ready.1 (show i ∈ Region.ready .any opsA listed by rw [hrd]; simp)
        have hisz : i < opsA.size := (Array.getElem?_eq_some_iff.1 h2).1
        have := hall i (by omega)
        have hlt : i < listed.size := by omega
        simp only [Array.getD_eq_getD_getElem?, Array.getElem?_eq_getElem hlt, Option.getD_some] at this h1
        rw [this] at h1; simp at h1
    | cons o rest =>
      simp only [frcK_eq] at hK
      split at hK
      · rename_i htl0
        have hlen : opsA.size = drs.length + (rest.length + 1) := by
          have := congrArg List.length g1
          simp at this
          omega
        rw [Bool.or_eq_true, Bool.or_eq_true] at htl0
        rcases htl0 with (htl | htl) | htl
        · have htl := tailOK_spec htl
          have hbit : ∀ i, i < opsA.size → drs.length ≤ i → ∀ k, (ancAt ds i).testBit k = true ↔ k < i := fun i h1 h2 k => by
            have := htl (i - drs.length) (by simp; omega)
            rw [show drs.length + (i - drs.length) = i by omega] at this
            rw [this]; simp [allM', Nat.testBit_two_pow_sub_one]
          refine any_front Post.noOut hnd hC P hq hsz (fun i h1 h2 k hk => (hbit i h1 (by omega) k).2 (by omega)) (fun _ listed _ _ _ _ _ _ hsl _ hex hanc _ => ?_) ?_ opsA.size _ ρ fps a _ (by simp) hcnt (fun k _ => hget k) I0
          · obtain ⟨k, hk, hkf⟩ := hex
            have := hanc k ((hbit _ hsl (Nat.le_refl _) k).2 hk)
            rw [hkf] at this; simp at this
          intro fuel listed ρ' fps' a' w' hs hc hall hno I
          obtain ⟨hrep, hgood⟩ := I.rep P hall hno
          exact tail_spec hC hH hY hnd P drs.length (fun i h1 h2 => hbit i h1 (by omega)) (o :: rest) drs.length listed fuel _ ρ' fps' a' w' g1.symm (Nat.le_refl _) hs hc hall hno hK hrep hgood
        · obtain ⟨e, oe, y, ix, d, t, p, x, l1, l2, l3, l4, l5, l6, l7, l8, l9, l10⟩ := tailLate_spec htl
          have htl := tailOK_spec l10
          have hbit : ∀ i, i < opsA.size → drs.length < i → ∀ k, (ancAt ds i).testBit k = true ↔ k < i := fun i h1 h2 k => by
            have := htl (i - (drs.length + 1)) (by omega)
            rw [show drs.length + 1 + (i - (drs.length + 1)) = i by omega] at this
            rw [this]; simp [allM', Nat.testBit_two_pow_sub_one]
          refine any_front Post.noOut hnd hC P hq hsz (fun i h1 h2 k hk => (hbit i h1 h2 k).2 (by omega)) (fun fuel listed ρ' fps' a' w' hs hc hsl hno hex hanc I => ?_) ?_ opsA.size _ ρ fps a _ (by simp) hcnt (fun k _ => hget k) I0
          · exact late_spec hC hH hY hnd P hq (by simpa using l1) l2 l3 g1.symm l4 l5 l6 l7 l8 l9 hbit hK fuel listed ρ' fps' a' w' hs hc hsl hno hex hanc I
          intro fuel listed ρ' fps' a' w' hs hc hall hno I
          obtain ⟨hrep, hgood⟩ := I.rep P hall hno
          exact tail_spec hC hH hY hnd P drs.length hbit (o :: rest) drs.length listed fuel _ ρ' fps' a' w' g1.symm (Nat.le_refl _) hs hc hall hno hK hrep hgood
        · simp only [tailPure, Bool.and_eq_true, beq_iff_eq] at htl
          obtain ⟨t1, t2⟩ := htl
          have t3 := (pureOK_spec (by omega) t2).2
          have hmem : ∀ i, i < opsA.size → drs.length < i → ∀ k, k ≤ drs.length → (ancAt ds i).testBit k = true := fun i h1 h2 k hk => by
            have hl' : opsA.toList.drop (drs.length + 1) = rest := by
              have : (opsA.toList.drop drs.length).drop 1 = rest := by rw [← g1]; rfl
              rw [← this, List.drop_drop]
            refine (t3 (i, opsA[i]'h1) ?_).2 k hk
            rw [idxL_mem, ← hl']
            simp only [List.getElem?_drop]
            refine ⟨by omega, ?_⟩
            rw [show drs.length + 1 + (i - (drs.length + 1)) = i by omega]
            simp [h1]
          refine any_front Post.noOut hnd hC P hq hsz (fun i h1 h2 k hk => hmem i h1 h2 k (by omega)) (fun _ listed _ _ _ _ _ _ hsl _ hex hanc _ => ?_) ?_ opsA.size _ ρ fps a _ (by simp) hcnt (fun k _ => hget k) I0
          · obtain ⟨k, hk, hkf⟩ := hex
            have := hanc k (by rw [t1]; simp [allM', Nat.testBit_two_pow_sub_one, hk])
            rw [hkf] at this; simp at this
          intro fuel listed ρ' fps' a' w' hs hc hall hno I
          obtain ⟨hrep, hgood⟩ := I.rep P hall hno
          exact pure_spec hC hH hY hnd P g1.symm t2 hs hc hall hno hK hrep hgood
      · exact hK.elim
  · exact h.elim

end
end Go.Sx
/- Stores opened and shut. No condition. -/
set_option linter.unusedVariables false
set_option linter.unusedSimpArgs false
namespace Go.Sx
open Go.RowKit (Below)

/-- An environment in which a store is open. -/
def Env.setSt (ρ : Env) (n : Nat) (sa : Option Addr) (sn cap : Nat) (ob : Nat → Nat) : Env :=
  { num := ρ.num, cap := fun j => if j = n then cap else ρ.cap j, adr := fun j => if j = n then sa.getD ⟨0, 0, none⟩ else ρ.adr j, sa := fun j => if j = n then sa else ρ.sa j, sn := fun j => if j = n then sn else ρ.sn j,
    ob := fun j => if j = n + 1 then ob else ρ.ob j }

theorem setSt_agree {N : Nat → Prop} {ρ : Env} {i : Nat} {a : Option Addr} {n cap : Nat} {ob : Nat → Nat} (h : ¬ N i) (h' : ¬ N (i + 1)) : Env.agree N ρ (ρ.setSt i a n cap ob) := fun j hj => by
  have e1 : j ≠ i := fun e => h (e ▸ hj)
  have e2 : j ≠ i + 1 := fun e => h' (e ▸ hj)
  simp [Env.setSt, e1, e2]

theorem ownsRow_slice {w : World} {e size n : Nat} {v : Value} {xs : List Value} (h : w.ownsRow 0 e size v n xs) : ∃ a cap, v = .slice a n cap := by
  rcases h.2 with ⟨rfl, rfl⟩ | ⟨g, cap, cur, rfl, _⟩
  · exact ⟨_, _, rfl⟩
  · exact ⟨_, _, rfl⟩

/-- What a store is, open. -/
theorem store_open {K : Nat → Prop} {ρ : Env} {k t e : Nat} {L : List Obj} {fp : Nat → Prop} {w0 w : World} {F0 : Nat → Prop} (h : (Res.store t e L).holds K ρ k fp w0 F0 w) :
    ∃ (sa : Option Addr) (cap : Nat) (ob : Nat → Nat), ∀ (n : Nat) (K' : Nat → Prop) (w1 : World) (F1 : Nat → Prop), K' n → K' (n + 1) →
      (Res.blk t (.ag [.sa n])).holds K' (ρ.setSt n sa L.length cap ob) k (fun b => b = ρ.num k) w1 F1 w ∧ (Res.obs e (n + 1) L).holds K' (ρ.setSt n sa L.length cap ob) n (fun b => fp b ∧ b ≠ ρ.num k) w1 F1 w := by
  obtain ⟨h0, h1, h2, sl, ob, h3, h5, h6, h7⟩ := h
  obtain ⟨a, cap, rfl⟩ := ownsRow_slice h5
  refine ⟨a, cap, ob, fun n K' w1 F1 hn hn' => ⟨⟨⟨⟨hn, trivial⟩, trivial, trivial⟩, rfl, by simp [Env.setSt], ?_⟩, ?_⟩⟩
  · simp only [Env.setSt, cells_ag, cellsL, den, Value.cells, if_true]
    exact h3
  · refine ⟨hn', h1, by simp [Env.setSt], h2, fun x hx => ?_, fun hl => ?_, ?_, fun j hj => ?_⟩
    · simp only [Env.setSt, if_true] at hx ⊢
      subst hx
      exact ⟨rfl, h6 _ rfl⟩
    · simp only [Env.setSt, if_true]
      rcases h5.2 with ⟨hh, h0⟩ | ⟨g, cap', cur, hh, _⟩
      · omega
      · simp only [Value.slice.injEq] at hh
        rw [hh.1]; rfl
    · have : (ρ.setSt n a L.length cap ob).sl n = .slice a L.length cap := by simp [Env.sl, Env.setSt]
      rw [this]
      simpa [Env.setSt] using h5
    · obtain ⟨g1, g2, g3⟩ := h7 j hj
      simp only [Env.setSt, if_true]
      exact ⟨⟨g1, g2⟩, g3⟩

/-- The places with a store open. -/
def openS (res : List Res) (k t e : Nat) (L : List Obj) : List Res := rset res k (.blk t (.ag [.sa res.length])) ++ [.obs e (res.length + 1) L, .gen res.length]
def openRS (res : List Res) (k t e : Nat) (L : List Obj) : List Res := rset res k (.ro (.blk t (.ag [.sa res.length]))) ++ [.ro (.obs e (res.length + 1) L), .gen res.length]

theorem open3 {A B C : Res} {res : List Res} {k : Nat} (hk : k < res.length) (i : Nat) : rget (rset res k A ++ [B, C]) i = if i < res.length then (if i = k then A else rget res i) else if i = res.length then B else if i = res.length + 1 then C else .yet := by
  rw [rget_append, rset_length]
  by_cases hi : i < res.length
  · rw [if_pos hi, if_pos hi, rget_rset _ _ _ _ hk]
  · rw [if_neg hi, if_neg hi]
    by_cases e : i = res.length
    · subst e; simp [rget]
    · rw [if_neg e]
      by_cases e1 : i = res.length + 1
      · subst e1
        rw [if_pos rfl, show res.length + 1 - res.length = 1 by omega]; simp [rget]
      · rw [if_neg e1]
        obtain ⟨m, hm⟩ : ∃ m, i - res.length = m + 2 := ⟨i - res.length - 2, by omega⟩
        rw [hm]; simp [rget]

theorem openS_rep {ρ : Env} {fps : Nat → Nat → Prop} {w0 w : World} {F0 : Nat → Prop} {res : List Res} {k t e : Nat} {L : List Obj} (hr : rget res k = .store t e L) (hH : HRep ρ fps res (known res) w0 F0 w) :
    ∃ ρ' fps', HRep ρ' fps' (Sx.openS res k t e L) (known (Sx.openS res k t e L)) w0 F0 w ∧ Good ρ res ρ' (Sx.openS res k t e L) := by
  have hk : known res k := by unfold known; rw [hr]; simp
  have hlt := rget_lt hk
  have hh := hH.holds k hk
  rw [hr] at hh
  obtain ⟨sa, cap, ob, hop⟩ := store_open hh
  have hnk : ¬ known res res.length := fun hk => by have := rget_lt hk; omega
  have hnk' : ¬ known res (res.length + 1) := fun hk => by have := rget_lt hk; omega
  have hget := open3 (A := .blk t (.ag [.sa res.length])) (B := .obs e (res.length + 1) L) (C := .gen res.length) hlt
  have k1 : known (Sx.openS res k t e L) res.length := by unfold known Sx.openS; rw [hget, if_neg (by omega), if_pos rfl]; simp
  have k2 : known (Sx.openS res k t e L) (res.length + 1) := by unfold known Sx.openS; rw [hget, if_neg (by omega), if_neg (by omega), if_pos rfl]; simp
  have hmono : ∀ i, known res i → known (Sx.openS res k t e L) i := fun i hi => by
    unfold known Sx.openS
    rw [hget, if_pos (rget_lt hi)]
    split
    · simp
    · exact hi
  obtain ⟨o1, o2⟩ := hop res.length (known (Sx.openS res k t e L)) w0 F0 k1 k2
  have hag := setSt_agree (ρ := ρ) (a := sa) (n := L.length) (cap := cap) (ob := ob) hnk hnk'
  obtain ⟨fps', g⟩ := hH.turn (res' := Sx.openS res k t e L) (K' := known (Sx.openS res k t e L)) (fun i => i = k) (fun i => i = k ∨ res.length ≤ i) (fun i b => (i = k ∧ b = ρ.num k) ∨ (i = res.length ∧ fps k b ∧ b ≠ ρ.num k))
    (fun i hi => hi) hmono hag
    (fun i hi hb => by
      have h1 : i ≠ k := fun e => hb (.inl e)
      have h2 : i < res.length := by
        rcases Nat.lt_or_ge i res.length with h | h
        · exact h
        · exact absurd (.inr h) hb
      have e : rget (Sx.openS res k t e L) i = rget res i := by unfold Sx.openS; rw [hget, if_pos h2, if_neg h1]
      exact ⟨by unfold known at hi ⊢; rw [e] at hi; exact hi, h1, e⟩)
    (fun i hi hb => by
      by_cases e1 : i = k
      · subst e1
        have : (fun b => (i = i ∧ b = ρ.num i) ∨ (i = res.length ∧ fps i b ∧ b ≠ ρ.num i)) = fun b => b = ρ.num i := by
          funext b; apply propext
          exact ⟨fun h => h.elim (fun h => h.2) fun h => by omega, fun h => .inl ⟨rfl, h⟩⟩
        refine ⟨?_, fun b hf => .inl ⟨i, rfl, hk, ?_⟩⟩
        · rw [this]; unfold Sx.openS; rw [hget, if_pos hlt, if_pos rfl]; exact o1
        · rcases hf with ⟨_, rfl⟩ | ⟨e, _⟩
          · exact hh.1
          · omega
      · by_cases e2 : i = res.length
        · subst e2
          have : (fun b => (res.length = k ∧ b = ρ.num k) ∨ (res.length = res.length ∧ fps k b ∧ b ≠ ρ.num k)) = fun b => fps k b ∧ b ≠ ρ.num k := by
            funext b; apply propext
            exact ⟨fun h => h.elim (fun h => absurd h.1 e1) fun h => h.2, fun h => .inr ⟨rfl, h⟩⟩
          refine ⟨?_, fun b hf => .inl ⟨k, rfl, hk, ?_⟩⟩
          · rw [this]; unfold Sx.openS; rw [hget, if_neg (by omega), if_pos rfl]; exact o2
          · rcases hf with ⟨e, _⟩ | ⟨_, hf, _⟩
            · exact absurd e e1
            · exact hf
        · refine ⟨?_, fun b hf => by rcases hf with ⟨e, _⟩ | ⟨e, _⟩ <;> contradiction⟩
          unfold Sx.openS
          rw [hget, if_neg (by have := hb.resolve_left e1; omega), if_neg e2]
          split <;> trivial)
    (fun i j b _ _ hne hf hf' => by
      rcases hf with ⟨rfl, rfl⟩ | ⟨rfl, h1, h2⟩ <;> rcases hf' with ⟨rfl, h3⟩ | ⟨rfl, h3, h4⟩
      · exact hne rfl
      · exact h4 rfl
      · exact h2 h3
      · exact hne rfl)
    rfl rfl rfl (Nat.le_refl _) (fun _ _ _ => rfl)
  exact ⟨_, fps', g, hag, hmono⟩

theorem openRS_rep {ρ : Env} {fps : Nat → Nat → Prop} {w0 w : World} {F0 : Nat → Prop} {res : List Res} {k t e : Nat} {L : List Obj} (hr : rget res k = .ro (.store t e L)) (hH : HRep ρ fps res (known res) w0 F0 w) :
    ∃ ρ' fps', HRep ρ' fps' (Sx.openRS res k t e L) (known (Sx.openRS res k t e L)) w0 F0 w ∧ Good ρ res ρ' (Sx.openRS res k t e L) := by
  have hk : known res k := by unfold known; rw [hr]; simp
  have hlt := rget_lt hk
  have hh := hH.holds k hk
  rw [hr] at hh
  obtain ⟨fp, hh, hfp⟩ := hh
  obtain ⟨sa, cap, ob, hop⟩ := store_open hh
  have hnk : ¬ known res res.length := fun hk => by have := rget_lt hk; omega
  have hnk' : ¬ known res (res.length + 1) := fun hk => by have := rget_lt hk; omega
  have hget := open3 (A := .ro (.blk t (.ag [.sa res.length]))) (B := .ro (.obs e (res.length + 1) L)) (C := .gen res.length) hlt
  have k1 : known (Sx.openRS res k t e L) res.length := by unfold known Sx.openRS; rw [hget, if_neg (by omega), if_pos rfl]; simp
  have k2 : known (Sx.openRS res k t e L) (res.length + 1) := by unfold known Sx.openRS; rw [hget, if_neg (by omega), if_neg (by omega), if_pos rfl]; simp
  have hmono : ∀ i, known res i → known (Sx.openRS res k t e L) i := fun i hi => by
    unfold known Sx.openRS
    rw [hget, if_pos (rget_lt hi)]
    split
    · simp
    · exact hi
  obtain ⟨o1, o2⟩ := hop res.length (known (Sx.openRS res k t e L)) w0 F0 k1 k2
  have hag := setSt_agree (ρ := ρ) (a := sa) (n := L.length) (cap := cap) (ob := ob) hnk hnk'
  obtain ⟨fps', g⟩ := hH.turn (res' := Sx.openRS res k t e L) (K' := known (Sx.openRS res k t e L)) (fun i => i = k) (fun i => i = k ∨ res.length ≤ i) (fun i b => False)
    (fun i hi => hi) hmono hag
    (fun i hi hb => by
      have h1 : i ≠ k := fun e => hb (.inl e)
      have h2 : i < res.length := by
        rcases Nat.lt_or_ge i res.length with h | h
        · exact h
        · exact absurd (.inr h) hb
      have e : rget (Sx.openRS res k t e L) i = rget res i := by unfold Sx.openRS; rw [hget, if_pos h2, if_neg h1]
      exact ⟨by unfold known at hi ⊢; rw [e] at hi; exact hi, h1, e⟩)
    (fun i hi hb => by
      refine ⟨?_, fun b hf => hf.elim⟩
      by_cases e1 : i = k
      · subst e1
        unfold Sx.openRS
        rw [hget, if_pos hlt, if_pos rfl]
        exact ⟨fun b => b = ρ.num i, by obtain ⟨p, _⟩ := hop res.length (known (Sx.openRS res i t e L)) w0 F0 k1 k2; exact p, fun b hb => by subst hb; exact hfp _ hh.1⟩
      · unfold Sx.openRS
        by_cases e2 : i = res.length
        · subst e2
          rw [hget, if_neg (by omega), if_pos rfl]
          exact ⟨_, o2, fun b hb => hfp b hb.1⟩
        · rw [hget, if_neg (by have := hb.resolve_left e1; omega), if_neg e2]
          split <;> trivial)
    (fun i j b _ _ _ hf _ => hf.elim)
    rfl rfl rfl (Nat.le_refl _) (fun _ _ _ => rfl)
  exact ⟨_, fps', g, hag, hmono⟩

/-- What a store's objects are, where it lies open. -/
def stOf (r : List Res) (k : Nat) : Option (Nat × Nat × Nat × List Obj) :=
  match rget r k with
  | .blk t c => match c with
    | .ag l => match l with
      | [x] => match x with
        | .sa j => match rget r j with
          | .obs e _ L => some (t, e, j, L)
          | _ => none
        | _ => none
      | _ => none
    | _ => none
  | _ => none

/-- The places with a store shut. -/
def shutS (r : List Res) (k : Nat) : Option (List Res) :=
  match stOf r k with
  | some (t, e, j, L) => some (rset (rset r j .gone) k (.store t e L))
  | none => none

theorem shutS_rep {ρ : Env} {fps : Nat → Nat → Prop} {r r' : List Res} {w0 w : World} {F0 : Nat → Prop} {k : Nat} (hs : shutS r k = some r') (h : HRep ρ fps r (known r) w0 F0 w) :
    ∃ fps', HRep ρ fps' r' (known r') w0 F0 w ∧ ∀ i, known r i → known r' i := by
  unfold shutS at hs
  split at hs
  · rename_i t e j L hst
    simp only [Option.some.injEq] at hs
    unfold stOf at hst
    split at hst
    · rename_i t' c hrk
      split at hst
      · split at hst
        · split at hst
          · rename_i j'
            split at hst
            · rename_i e' q L' hrj
              simp only [Option.some.injEq, Prod.mk.injEq] at hst
              obtain ⟨rfl, rfl, rfl, rfl⟩ := hst
              have hkk : known r k := by unfold known; rw [hrk]; simp
              have hkj : known r j' := by unfold known; rw [hrj]; simp
              have hne : j' ≠ k := fun e => by rw [e, hrk] at hrj; simp at hrj
              have hlk := rget_lt hkk
              have hlj := rget_lt hkj
              have hget : ∀ i, rget r' i = if i = k then .store t' e' L' else if i = j' then .gone else rget r i := fun i => by
                subst hs
                rw [rget_rset _ _ _ _ (by rw [rset_length]; exact hlk)]
                by_cases e : i = k
                · rw [if_pos e, if_pos e]
                · rw [if_neg e, if_neg e, rget_rset _ _ _ _ hlj]
              have hmono : ∀ i, known r i → known r' i := fun i hi => by
                unfold known
                rw [hget]
                split
                · simp
                · split
                  · simp
                  · exact hi
              have hk1 := h.holds k hkk
              rw [hrk] at hk1
              obtain ⟨_, _, b3, b4⟩ := hk1
              have hj1 := h.holds j' hkj
              rw [hrj] at hj1
              obtain ⟨_, c1, c2, c3, c4, c5, c6, c7⟩ := hj1
              obtain ⟨fps', g⟩ := h.turn (res' := r') (K' := known r') (fun i => i = k ∨ i = j') (fun i => i = k ∨ i = j') (fun i b => i = k ∧ (fps k b ∨ fps j' b)) (fun i hi => hi) hmono (Env.agree.refl _ _)
                (fun i hi hb => by
                  have h1 : i ≠ k := fun e => hb (.inl e)
                  have h2 : i ≠ j' := fun e => hb (.inr e)
                  have e : rget r' i = rget r i := by rw [hget, if_neg h1, if_neg h2]
                  exact ⟨by unfold known at hi ⊢; rw [e] at hi; exact hi, hb, e⟩)
                (fun i hi hb => by
                  rcases hb with rfl | rfl
                  · refine ⟨?_, fun b hf => hf.2.elim (fun hf => .inl ⟨i, .inl rfl, hkk, hf⟩) fun hf => .inl ⟨j', .inr rfl, hkj, hf⟩⟩
                    rw [hget, if_pos rfl]
                    refine ⟨⟨rfl, .inl b3⟩, c1, c3, ρ.sl j', ρ.ob q, ?_, c6, fun b hb => ?_, fun x hx => ?_⟩
                    · rw [b4]
                      have : den ρ (.sa j') = ρ.sl j' := rfl
                      simp [cells_ag, cellsL, this, Env.sl, Value.cells]
                    · cases ha : ρ.sa j' with
                      | none => simp [Env.sl, ha, Value.ownBlock] at hb
                      | some a =>
                        simp only [Env.sl, ha, Value.ownBlock, Option.some.injEq] at hb
                        subst hb
                        have := (c4 a ha).2
                        exact ⟨⟨rfl, .inr this⟩, fun e => h.disj j' i a.block hkj hkk hne this (e ▸ b3)⟩
                    · obtain ⟨d1, d2⟩ := c7 x hx
                      exact ⟨⟨rfl, .inr d1⟩, fun e => h.disj j' i _ hkj hkk hne d1 (e ▸ b3), d2⟩
                  · refine ⟨?_, fun b hf => absurd hf.1 hne⟩
                    rw [hget, if_neg hne, if_pos rfl]
                    trivial)
                (fun i j b _ _ hne' hf hf' => hne' (hf.1.trans hf'.1.symm))
                rfl rfl rfl (Nat.le_refl _) (fun _ _ _ => rfl)
              exact ⟨fps', g, hmono⟩
            · simp at hst
          · simp at hst
        · simp at hst
      · simp at hst
    · simp at hst
  · simp at hs


/-- All stores are opened, from a place on. -/
def openL : Nat → List Res → List Res
  | 0, res => res
  | k + 1, res => match rget res k with
    | .store t e L => openL k (openS res k t e L)
    | .ro r => match r with
      | .store t e L => openL k (openRS res k t e L)
      | _ => openL k res
    | _ => openL k res

theorem openL_rep {w0 w : World} {F0 : Nat → Prop} : ∀ (k : Nat) (res : List Res) (ρ : Env) (fps : Nat → Nat → Prop), HRep ρ fps res (known res) w0 F0 w → ∃ ρ' fps', HRep ρ' fps' (openL k res) (known (openL k res)) w0 F0 w ∧ Good ρ res ρ' (openL k res)
  | 0, res, ρ, fps, h => ⟨ρ, fps, h, Good.refl _ _⟩
  | k + 1, res, ρ, fps, h => by
    simp only [openL]
    split
    · rename_i hr
      obtain ⟨ρ1, fps1, g1, g2⟩ := openS_rep hr h
      obtain ⟨ρ2, fps2, g3, g4⟩ := openL_rep k _ ρ1 fps1 g1
      exact ⟨ρ2, fps2, g3, g2.trans g4⟩
    · rename_i hr
      split
      · obtain ⟨ρ1, fps1, g1, g2⟩ := openRS_rep hr h
        obtain ⟨ρ2, fps2, g3, g4⟩ := openL_rep k _ ρ1 fps1 g1
        exact ⟨ρ2, fps2, g3, g2.trans g4⟩
      · exact openL_rep k res ρ fps h
    · exact openL_rep k res ρ fps h

/-- What was shut is shut again. -/
def shutL (old : List Res) : Nat → List Res → List Res
  | 0, res => res
  | k + 1, res => match rget old k with
    | .store _ _ _ => match shutS res k with
      | some r => shutL old k r
      | none => shutL old k res
    | _ => shutL old k res

theorem shutL_rep {ρ : Env} {w0 w : World} {F0 : Nat → Prop} {old : List Res} : ∀ (k : Nat) (res : List Res) (fps : Nat → Nat → Prop), HRep ρ fps res (known res) w0 F0 w → ∃ fps', HRep ρ fps' (shutL old k res) (known (shutL old k res)) w0 F0 w ∧ ∀ i, known res i → known (shutL old k res) i
  | 0, res, fps, h => ⟨fps, h, fun i hi => hi⟩
  | k + 1, res, fps, h => by
    simp only [shutL]
    split
    · split
      · rename_i hs
        obtain ⟨fps1, g1, g2⟩ := shutS_rep hs h
        obtain ⟨fps2, g3, g4⟩ := shutL_rep k _ fps1 g1
        exact ⟨fps2, g3, fun i hi => g4 i (g2 i hi)⟩
      · exact shutL_rep k res fps h
    · exact shutL_rep k res fps h
end Go.Sx
/- The executor: code, loops, functions. No condition. -/
set_option linter.unusedVariables false
set_option linter.unusedSimpArgs false
namespace Go.Sx
open Go.RowKit (Below)

/-- What is said of a loop: its states by a parameter, what holds of it, what goes down. -/
structure LoopAnn where
  γ : Type
  head : St → γ → St
  inv : γ → Prop
  μ : γ → Nat
  pre : List Gh := []
  ext : St → Option (List Nat) := fun _ => none

/-- At a loop's entry; behind a round. -/
def SubE (l : List Gh) (σ τ : St) : Prop :=
  match ghosts l σ with
  | some σ' => Sub σ' τ
  | none => False
def SubX (n : Nat) (e : Option (List Nat)) (σ τ : St) : Prop :=
  match e with
  | none => Sub σ τ
  | some l => match reSt n l σ with
    | some σ' => Sub σ' τ
    | none => False

structure Cfg extends Ctx where
  H0 : Handler
  inl : Nat → Bool
  ann : Nat → Nat → Option LoopAnn

def firstReg : Code → Option Nat
  | .region i _ _ => some i
  | .seq a b => match firstReg a with
    | some i => some i
    | none => firstReg b
  | .cond _ a b => match firstReg a with
    | some i => some i
    | none => firstReg b
  | .block _ b => firstReg b
  | .loop b => firstReg b
  | .scope b => firstReg b
  | _ => none

def execOps (C : Ctx) (H : Handler) (Y : YHandler) (ops : List Oper) : List Oper → St → (Out → St → Prop) → Prop
  | [], σ, K => cleanK σ.slots fun sl => K .norm { σ with slots := sl }
  | o :: l, σ, K => stepS C H Y ops o σ (fun σ' => execOps C H Y ops l σ' K) (fun v σ' => K (.pan v) σ')

def keepB : List Res → List Res → Bool
  | [], _ => true
  | x :: l, m => (match x with | .yet => true | _ => match m with | [] => false | y :: _ => match y with | .yet => false | _ => true) && keepB l m.tail

/-- The results of a function. -/
def resultsV (C : Ctx) (σ : St) : List ResultVar → Option (List (Option Prop × V))
  | [] => some []
  | .tmp t :: l => match sget σ.slots t, resultsV C σ l with
    | .v x, some xs => some ((none, x) :: xs)
    | _, _ => none
  | .cell a t :: l => match sget σ.slots a, resultsV C σ l with
    | .v p, some xs => match p with
      | .lp _ _ => match loadV C σ.res t p with
        | some r => some (r :: xs)
        | none => none
      | _ => none
    | _, _ => none

def oneOf : List (Option Prop × V) → V
  | [x] => x.2
  | l => .tp (l.map (·.2))

/-- The deferred calls of a function: marks of loops over functions are taken; functions that catch do so. -/
def leaveS (C : Ctx) : List (Nat × List V × List V) → Option V → List Res → (Option V → List Res → Prop) → Prop
  | [], m, res, K => K m res
  | d :: l, m, res, K => match mrk d.2.1 with
    | some k => match rget res k with
      | .dfr => leaveS C l m (rset res k .gone) K
      | _ => False
    | none => match C.D d.1 with
      | some (ts, te) => if callable C.P d.1 then match d.2.2 with
          | [] => match d.2.1 with
            | [p] => match m with
              | none => leaveS C l none res K
              | some v => match v with
                | .ic t y => if t == ts then match y with
                    | .ag yl => match yl with
                      | [x] => match toInt x with
                        | some (k, n) => match storeV C.P res te p (.it k n) with
                          | some res' => leaveS C l none res' K
                          | none => False
                        | none => False
                      | _ => False
                    | _ => False
                  else False
                | _ => False
            | _ => False
          | _ => False
        else False
      | none => False

/-- What a function's end gives. -/
def finE (C : Ctx) (fn : Func) (K KP : V → List Res → Prop) (σ : St) (m : Option V) (res : List Res) : Prop :=
  match m with
  | none => match resultsV C { σ with res := res } fn.results.toList with
    | some l => K (oneOf l) res
    | none => False
  | some v => KP v res
def finish (C : Ctx) (fn : Func) (K KP : V → List Res → Prop) : Out → St → Prop
  | .norm, σ => leaveS C σ.defs none σ.res (finE C fn K KP σ)
  | .ret, σ => leaveS C σ.defs none σ.res (finE C fn K KP σ)
  | .pan v, σ => leaveS C σ.defs (some v) σ.res (finE C fn K KP σ)
  | _, _ => False

def argSlots (n : Nat) (args : List V) : List S := args.map .v ++ List.replicate (n - args.length) .und

/-- The code of a function from its arguments. -/
def enter (C : Ctx) (ex : Code → St → (Out → St → Prop) → Prop) (f : Nat) (args : List V) (res : List Res) (K KP : V → List Res → Prop) : Prop :=
  match C.P.funcs[f]? with
  | none => False
  | some fn => match fn.body with
    | none => False
    | some c => ex c { slots := argSlots fn.ntmps args, res := res, defs := [] } (finish C fn K KP)

/-- A loop over a function, as its rounds know it. -/
structure YFrame where
  k : Nat
  r0 : Loop
  slots : List S
  ps : List Nat
  assign : Code
  body : Code
  fid : Nat

/-- Where code is run: in a round? within which loop's function? -/
structure YC where
  rd : Bool
  y : Option YFrame

def setPs : List Nat → List V → List S → Option (List S)
  | [], [], sl => some sl
  | p :: ps, x :: xs, sl => setPs ps xs (sset sl p (.v x))
  | _, _, _ => none

def defOp (o : Oper) : Bool :=
  match o.op with
  | .defer _ => true
  | _ => false

/-- A round of a loop over a function. -/
def yieldS (ex : Nat → Code → St → (Out → St → Prop) → Prop) (y : YFrame) (k : Nat) (args : List V) (res : List Res) (K : V → List Res → Prop) : Prop :=
  if k == y.k then match rget res k with
    | .lop r s j => if lsEq s .ready && j.isNone then r = y.r0 ∧ match setPs y.ps args y.slots with
      | some sl => ex y.fid y.assign { slots := sl, res := res, defs := [] } fun out σ1 => match out with
        | .norm => match rget σ1.res k with
          | .lop r1 s1 j1 => if lsEq s1 .ready && j1.isNone then r1 = y.r0 ∧ ex y.fid y.body { σ1 with res := rset σ1.res k (.lop y.r0 .busy none) } fun out σ2 => match rget σ2.res k with
            | .lop r2 s2 j2 => if lsEq s2 .busy && j2.isNone then r2 = y.r0 ∧ match out with
              | .norm => K (.cb true) (rset σ2.res k (.lop y.r0 .ready none))
              | .ret => K (.cb false) (rset σ2.res k (.lop y.r0 .done (some .ret)))
              | .exit i => K (.cb false) (rset σ2.res k (.lop y.r0 .done (some (.exit i))))
              | .goto l => K (.cb false) (rset σ2.res k (.lop y.r0 .done (some (.goto l))))
              | .pan _ => False
              else False
            | _ => False
            else False
          | _ => False
        | _ => False
      | none => False
      else False
    | _ => False
  else False

/-- Behind a loop over a function. -/
def afterY (σ : St) (kd kl : Nat) (K : Out → St → Prop) (res : List Res) : Prop :=
  match rget res kl with
  | .lop _ s j => if lsEq s .busy then False else match j with
    | none => K .norm { slots := clean σ.slots, res := shutL σ.res σ.res.length (rset res kl .gone), defs := (0, [.yl kd], []) :: σ.defs }
    | some c => match c with
      | .ret => K .ret { slots := clean σ.slots, res := shutL σ.res σ.res.length (rset res kl .gone), defs := (0, [.yl kd], []) :: σ.defs }
      | .exit i => K (.exit i) { slots := clean σ.slots, res := shutL σ.res σ.res.length (rset res kl .gone), defs := (0, [.yl kd], []) :: σ.defs }
      | .goto l => K (.goto l) { slots := clean σ.slots, res := shutL σ.res σ.res.length (rset res kl .gone), defs := (0, [.yl kd], []) :: σ.defs }
      | _ => False
  | _ => False

/-- Under which number the loops of a loop's function are annotated: by the first region of the body. -/
def yfid (g : Nat) (assign body : Code) : Nat :=
  match firstReg (.seq assign body) with
  | some r => 1000 * (r + 1) + g
  | none => g

def exec (C : Cfg) : Nat → YC → Nat → Code → St → (Out → St → Prop) → Prop
  | 0, _, _, _, _, _ => False
  | n + 1, yc, fid, c, σ, K => match c with
    | .skip => K .norm σ
    | .label _ => K .norm σ
    | .region _ ops draw => if yc.rd && ops.toList.any defOp then False
        else if draw then drawS C.toCtx (fun f args res K KP => if C.inl f then enter C.toCtx (exec C n ⟨false, none⟩ f) f args res K KP else C.H0 f args res K KP)
          (fun k args res K _ => match yc.y with | some y => yieldS (exec C n ⟨true, none⟩) y k args res K | none => False) ops.toList σ K
        else execOps C.toCtx (fun f args res K KP => if C.inl f then enter C.toCtx (exec C n ⟨false, none⟩ f) f args res K KP else C.H0 f args res K KP)
          (fun k args res K _ => match yc.y with | some y => yieldS (exec C n ⟨true, none⟩) y k args res K | none => False) ops.toList ops.toList σ K
    | .seq a b => exec C n yc fid a σ fun out σ' => match out with
      | .norm => exec C n yc fid b σ' K
      | o => K o σ'
    | .cond x a b => match oval σ.slots [] x with
      | some (.cb true) => exec C n yc fid a σ K
      | some (.cb false) => exec C n yc fid b σ K
      | some (.bo t) => (t = true → exec C n yc fid a σ K) ∧ (t = false → exec C n yc fid b σ K)
      | _ => False
    | .block id b => exec C n yc fid b σ fun out σ' => match out with
      | .exit i => if i == id then K .norm σ' else K (.exit i) σ'
      | o => K o σ'
    | .loop b => match firstReg b with
      | none => False
      | some r => match C.ann fid r with
        | none => False
        | some A => (∃ g, A.inv g ∧ SubE A.pre σ (A.head σ g)) ∧ ∀ g, A.inv g → if keepB σ.res (A.head σ g).res then
            exec C n yc fid b (A.head σ g) fun out σ' => match out with
              | .norm => ∃ g', A.inv g' ∧ pLt (A.μ g') (A.μ g) ∧ SubX σ.res.length (A.ext σ') σ' (A.head σ g')
              | o => K o σ'
          else False
    | .rangeFunc f ps assign body => if yc.rd then False else match oval σ.slots [] f with
      | some (.fn g caps) => callable C.P g = true ∧ ∀ r0 : Loop,
          enter C.toCtx (exec C n ⟨false, some ⟨(openL σ.res.length σ.res).length + 1, r0, clean σ.slots, ps.toList, assign, body, fid⟩⟩ (yfid g assign body)) g (.yl ((openL σ.res.length σ.res).length + 1) :: caps) (openL σ.res.length σ.res ++ [.dfr, .lop r0 .ready none])
            (fun _ res => afterY σ (openL σ.res.length σ.res).length ((openL σ.res.length σ.res).length + 1) K res) (fun _ _ => False)
      | _ => False
    | .scope b => exec C n yc fid b σ fun out σ1 => match out with
      | .goto l => match findLabel b l with
        | some rest => exec C n yc fid rest σ1 fun out2 σ2 => match out2 with
          | .goto l2 => match findLabel b l2 with
            | some _ => False
            | none => K (.goto l2) σ2
          | o => K o σ2
        | none => K (.goto l) σ1
      | o => K o σ1
    | .exit i => K (.exit i) σ
    | .goto l => K (.goto l) σ
    | .ret => K .ret σ
    | _ => False

section
variable {ρ ρ0 : Env} {res0 : List Res} {fps : Nat → Nat → Prop} {w0 w : World} {F0 : Nat → Prop} {a : Act}

theorem execOps_spec {C : Ctx} {H : Handler} {Y : YHandler} {ops : Array Oper} {K : Out → St → Prop} {ro : Option Nat} (hC : C.Sound) (hH : H.OK C.P) (hY : YOK C.P Y ρ0 res0) (hnd : ro ≠ none → ∀ o ∈ ops.toList, notDefer o) : ∀ (l : List Oper), (∀ o ∈ l, o ∈ ops.toList) → ∀ (σ : St) (ρ : Env) (fps : Nat → Nat → Prop) (a : Act) (w : World),
    execOps C H Y ops.toList l σ K → Rep ρ fps σ w0 F0 a w → Good ρ0 res0 ρ σ.res → wpListIn (FF ro) 0 C.P ops (Post ρ0 res0 w0 F0 K) l a w
  | [], _, σ, ρ, fps, a, w, h, hr, hg => ⟨.norm, { σ with slots := clean σ.slots }, ρ, fps, trivial, by simpa only [execOps, cleanK_eq] using h, ⟨hr.1.clean, hr.2.1, hr.2.2.1, hr.2.2.2⟩, hg⟩
  | o :: l, hl, σ, ρ, fps, a, w, h, hr, hg => by
    have key := stepS_spec (ro := ro) (next := wpListIn (FF ro) 0 C.P ops (Post ρ0 res0 w0 F0 K) l) (Q := Post ρ0 res0 w0 F0 K) hC hH (hY.later hg) (fun hr => hnd hr o (hl o (by simp))) h hr
      (fun σ' ρ' fps' a' w' hK hr' hg' => execOps_spec hC hH hY hnd l (fun o ho => hl o (by simp [ho])) σ' ρ' fps' a' w' hK hr' (hg.trans hg'))
      (fun v σ' ρ' fps' w' hK hv hr' hg' => ⟨.pan v, σ', ρ', fps', ⟨rfl, hv⟩, hK, hr', hg.trans hg'⟩)
    unfold wpListIn
    split
    · rename_i hw; rw [if_pos hw] at key; exact key
    · rename_i hw; rw [if_neg hw] at key; exact ⟨fun _ _ => trivial, key⟩

theorem SubE.rep {l : List Gh} {σ τ : St} (h : SubE l σ τ) (hr : Rep ρ fps σ w0 F0 a w) : ∃ ρ' fps', Rep ρ' fps' τ w0 F0 a w ∧ Env.agree (known σ.res) ρ ρ' := by
  unfold SubE at h
  split at h
  · rename_i σ' hg
    obtain ⟨ρ', fps', g1, g2⟩ := ghosts_rep hg hr
    exact ⟨ρ', fps', (h.rep g1).1, g2.1⟩
  · exact h.elim

theorem SubX.rep {n : Nat} {e : Option (List Nat)} {σ τ : St} (h : SubX n e σ τ) (hr : Rep ρ fps σ w0 F0 a w) : ∃ ρ' fps', Rep ρ' fps' τ w0 F0 a w ∧ Env.agree (fun i => i < n) ρ ρ' := by
  unfold SubX at h
  split at h
  · exact ⟨ρ, fps, (h.rep hr).1, Env.agree.refl _ _⟩
  · split at h
    · rename_i l σ' hg
      obtain ⟨ρ', fps', g1, g2⟩ := reSt_rep hg hr
      exact ⟨ρ', fps', (h.rep g1).1, g2⟩
    · exact h.elim

theorem keepB_spec : ∀ (l m : List Res), keepB l m = true → ∀ i, known l i → known m i
  | [], m, _, i, hi => by simp [known, rget] at hi
  | x :: l, m, h, i, hi => by
    simp only [keepB, Bool.and_eq_true] at h
    cases i with
    | zero =>
      obtain ⟨h1, _⟩ := h
      cases m with
      | nil => cases x <;> simp_all [known, rget]
      | cons y m => cases x <;> cases y <;> simp_all [known, rget]
    | succ i =>
      have := keepB_spec l m.tail h.2 i hi
      cases m with
      | nil => simp [known, rget] at this
      | cons y m => exact this

theorem resultsV_spec {C : Ctx} {σ : St} (hr : Rep ρ fps σ w0 F0 a w) : ∀ (rs : List ResultVar) (l : List (Option Prop × V)), resultsV C σ rs = some l →
    (rs.mapM fun (r : ResultVar) => (match r with | .tmp t => pure (a.tmps.getD t undef) | .cell b t => do loadVar t (← asAddr (a.tmps.getD b undef)) : Sem Value)).run C.P w = .ok (l.map fun x => den ρ x.2) w ∧ okL (known σ.res) (l.map (·.2))
  | [], l, h => by simp only [resultsV, Option.some.injEq] at h; subst h; exact ⟨by simp, trivial⟩
  | .tmp t :: rs, l, h => by
    simp only [resultsV] at h
    split at h
    · rename_i x xs hx hxs
      simp only [Option.some.injEq] at h
      subst h
      obtain ⟨e1, e2⟩ := resultsV_spec hr rs xs hxs
      have := hr.1.2 t
      rw [hx] at this
      refine ⟨?_, this.2, e2⟩
      rw [List.mapM_cons]
      simp only [Sem.run_bind, Sem.run_pure, Result.andThen_ok, e1, this.1, List.map_cons]
    · simp at h
  | .cell b t :: rs, l, h => by
    simp only [resultsV] at h
    split at h
    · rename_i p xs hp hxs
      split at h
      · rename_i id off
        split at h
        · rename_i r hl
          simp only [Option.some.injEq] at h
          subst h
          obtain ⟨e1, e2⟩ := resultsV_spec hr rs xs hxs
          have hb := hr.1.2 b
          rw [hp] at hb
          have hq : holdsO r.1 := by
            unfold loadV at hl
            split at hl
            · simp only at hl
              split at hl
              · rename_i hu _ c _
                generalize getAt 8 _ _ _ _ = z at hl
                cases z with
                | none => simp at hl
                | some z => simp only [Option.map_some, Option.some.injEq] at hl; subst hl; trivial
              · simp at hl
            · simp at hl
          obtain ⟨f1, f2, _⟩ := loadV_spec hr.2.1 (q := r.1) (r := r.2) hl hq hb.2
          refine ⟨?_, f2, e2⟩
          have hh : (do loadVar t (← asAddr (a.tmps.getD b undef)) : Sem Value).run C.P w = .ok (den ρ r.2) w := by
            rw [hb.1]
            simpa [den, asAddr, Instr.loadAt, Instr.sureAddr] using f1
          rw [List.mapM_cons, Sem.run_bind]
          refine Eq.trans (congrArg (fun r => Result.andThen r _) hh) ?_
          simp only [Result.andThen_ok, Sem.run_bind, e1, Sem.run_pure, List.map_cons]
        · simp at h
      · simp at h
    · simp at h

theorem run_results {C : Ctx} {σ : St} {fn : Func} {l : List (Option Prop × V)} (hr : Rep ρ fps σ w0 F0 a w) (h : resultsV C σ fn.results.toList = some l) :
    (results fn a.tmps).run C.P w = .ok (den ρ (oneOf l)) w ∧ ok (known σ.res) (oneOf l) := by
  obtain ⟨e1, e2⟩ := resultsV_spec hr _ _ h
  have hm : (fn.results.mapM fun (r : ResultVar) => (match r with | .tmp t => pure (a.tmps.getD t undef) | .cell b t => do loadVar t (← asAddr (a.tmps.getD b undef)) : Sem Value)).run C.P w = .ok (l.map fun x => den ρ x.2).toArray w := by
    rw [Array.mapM_eq_mapM_toList]
    simp only [Sem.run_map, e1, Result.andThen_ok]
  unfold results
  rw [Sem.run_bind]
  refine ⟨?_, ?_⟩
  · refine Eq.trans (congrArg (fun r => Result.andThen r _) hm) ?_
    simp only [Result.andThen_ok, Sem.run_pure]
    match l with
    | [] => simp [oneOf, den, denL]
    | [x] => simp [oneOf]
    | x :: y :: l => simp [oneOf, den, denL_eq]
  · match l, e2 with
    | [], e2 => exact e2
    | [x], e2 => exact e2.1
    | x :: y :: l, e2 => exact e2

/-- A place's object is another. -/
theorem HRep.reloop {res : List Res} {k : Nat} {r : Res} (h : HRep ρ fps res (known res) w0 F0 w) (hk : known res k) (o : Go.Obj) (hf : fps k (ρ.num k)) (hlt : ρ.num k < w.heap.size) (hr : r ≠ .yet)
    (hh : r.holds (known (rset res k r)) ρ k (fps k) w0 F0 (w.putObj (ρ.num k) o)) :
    ∃ fps', HRep ρ fps' (rset res k r) (known (rset res k r)) w0 F0 (w.putObj (ρ.num k) o) ∧ ∀ i, known res i → known (rset res k r) i := by
  have hl := rget_lt hk
  have hget : ∀ i, rget (rset res k r) i = if i = k then r else rget res i := fun i => rget_rset _ _ _ _ hl
  have hmono : ∀ i, known res i → known (rset res k r) i := fun i hi => by
    unfold known
    rw [hget]
    split
    · exact hr
    · exact hi
  obtain ⟨fps', g⟩ := h.turn (w' := w.putObj (ρ.num k) o) (res' := rset res k r) (K' := known (rset res k r)) (fun i => i = k) (fun i => i = k) (fun i b => i = k ∧ fps k b) (fun i hi => hi) hmono (Env.agree.refl _ _)
    (fun i hi hb => by
      have e := hget i
      rw [if_neg hb] at e
      exact ⟨by unfold known at hi ⊢; rw [e] at hi; exact hi, hb, e⟩)
    (fun i hi hb => by
      subst hb
      refine ⟨?_, fun b hb => .inl ⟨i, rfl, hk, hb.2⟩⟩
      rw [hget, if_pos rfl]
      have : (fun b => i = i ∧ fps i b) = fps i := by funext b; simp
      rw [this]; exact hh)
    (fun i j b hi hj hne _ _ => hne (hi.trans hj.symm)) rfl rfl rfl (by simp) (fun b hb hno => World.putObj_heap_other fun e => hno k rfl hk (by rw [e]; exact hf))
  exact ⟨fps', g, hmono⟩

def modeOf (ρ : Env) : Option V → FrameMode
  | none => .returning
  | some v => .panicking [{ v := den ρ v, recovered := false }]

theorem leave_spec {C : Ctx} (hC : C.Sound) {fn : Func} {tmps : Array Value} {R : Ending → World → Prop} {Kf : Option V → List Res → Prop} : ∀ (l : List (Nat × List V × List V)) (m : Option V) (res : List Res) (fps : Nat → Nat → Prop) (w : World), leaveS C l m res Kf → HRep ρ fps res (known res) w0 F0 w →
    (∀ d ∈ l, okL (known res) d.2.1 ∧ okL (known res) d.2.2) → (∀ v, m = some v → ok (known res) v) →
    (∀ m' res' fps' w', Kf m' res' → HRep ρ fps' res' (known res') w0 F0 w' → (∀ i, known res i → known res' i) → (∀ v, m' = some v → ok (known res') v) → LeavesInM (FF none) 0 C.P fn tmps R [] (modeOf ρ m') w') → LeavesInM (FF none) 0 C.P fn tmps R (l.map (dDen ρ)) (modeOf ρ m) w
  | [], m, res, fps, w, h, hH, hd, hm, hk => hk m res fps w h hH (fun i hi => hi) hm
  | d :: l, m, res, fps, w, h, hH, hd, hm, hk => by
    have hu : modeOf ρ m ≠ .run := by cases m <;> simp [modeOf]
    simp only [leaveS] at h
    split at h
    · rename_i k hmk
      split at h
      · rename_i hr
        have hkk : known res k := by unfold known; rw [hr]; simp
        have hh := hH.holds k hkk
        rw [hr] at hh
        obtain ⟨h1, h2⟩ := hh
        have hlt : ρ.num k < w.heap.size := (Array.getElem?_eq_some_iff.1 h2).1
        obtain ⟨fps1, g1, g2⟩ := hH.reloop (r := .gone) hkk (.deferred none) h1 hlt (by simp) trivial
        refine ⟨hu, .inl ⟨ρ.num k, _, ?_, run_takeDeferred h2, ?_⟩⟩
        · unfold dDen; rw [hmk]
        · exact leave_spec hC l m _ fps1 _ h g1 (fun d hd' => ⟨okL_mono g2 _ (hd d (by simp [hd'])).1, okL_mono g2 _ (hd d (by simp [hd'])).2⟩) (fun v hv => ok_mono g2 _ (hm v hv)) fun m' res' fps' w' hK' hH' hk' hm' => hk m' res' fps' w' hK' hH' (fun i hi => hk' i (g2 i hi)) hm'
      · exact h.elim
    · rename_i hmk
      split at h
      · rename_i ts te hD
        obtain ⟨c1, c2⟩ := hC.dk _ ts te hD
        split at h
        · rename_i hcall
          split at h
          · rename_i hcaps
            split at h
            · rename_i p hargs
              have hp : ok (known res) p := by
                have := (hd d (by simp)).1
                rw [hargs] at this
                exact this.1
              have hfn : ∃ fn', C.P.funcs[d.1]? = some fn' ∧ (fn'.name == "runtime.NumGoroutine") = false ∧ fn'.body.isNone = false := by
                unfold callable at hcall
                split at hcall
                · rename_i fn' hfn'
                  simp only [Bool.and_eq_true, bne_iff_ne, ne_eq] at hcall
                  refine ⟨fn', hfn', by simpa using hcall.1, ?_⟩
                  cases hb : fn'.body with
                  | none => simp [hb] at hcall
                  | some _ => rfl
                · simp at hcall
              obtain ⟨fn', f1, f2, f3⟩ := hfn
              have htar : (dDen ρ d).target = .fn (.func d.1) #[] := by unfold dDen; rw [hmk]; simp [hcaps, denL]
              have hda : (dDen ρ d).args = #[den ρ p] := by unfold dDen; rw [hmk]; simp [hargs, denL]
              have hinv : (invoke (dDen ρ d).target (dDen ρ d).args).run C.P w = .ok (.enter d.1 #[den ρ p]) w := by
                rw [htar, hda]
                simp only [invoke, Sem.run_bind, run_program, callFunc, f1, f2, f3, Bool.false_eq_true, if_false, Result.andThen_ok]
                simp
              have hdl : ∀ e ∈ l, okL (known res) e.2.1 ∧ okL (known res) e.2.2 := fun e he => hd e (by simp [he])
              have hlead : ∀ g, (dDen ρ d).target.leads C.P w (dDen ρ d).args = some g → (FF none).fn g := fun _ _ => trivial
              split at h
              · refine ⟨hu, .inr ⟨fun hh => by simp [FF] at hh, .func d.1, #[], d.1, #[den ρ p], htar, hinv, hlead, ?_⟩⟩
                refine CallsDIn.mono (c1 (den ρ p) w) ?_
                rintro e u' w' ⟨⟨v, rfl⟩, rfl, rfl⟩
                exact leave_spec hC l none _ fps _ h hH hdl (fun v hv => by simp at hv) hk
              · rename_i v
                split at h
                · rename_i t y
                  split at h
                  · rename_i htt
                    have htt := beq_iff_eq.1 htt
                    subst htt
                    split at h
                    · rename_i yl
                      split at h
                      · rename_i x
                        split at h
                        · rename_i k n hx
                          split at h
                          · rename_i res' hs
                            have hxk : inR k n := by
                              have := (hm _ rfl)
                              have hxo : ok (known res) x := this.1.1
                              cases x <;> simp only [toInt, Option.some.injEq, Prod.mk.injEq, reduceCtorEq] at hx <;> obtain ⟨rfl, rfl⟩ := hx
                              · exact hxo
                              · exact hxo
                              · rename_i b
                                have := b.toNat_lt
                                simp only [inR, b2i]; omega
                            obtain ⟨b, off, bty, cs, cs', e0, e4, e1, e2, e3⟩ := storeV_row hH hs hp (show ok (known res) (.it k n) from hxk)
                            have hden : den ρ (.ic t (.ag [x])) = .iface t (.agg #[.int k n]) := by
                              simp only [den, cellsL]
                              simp [toInt_den hx, Value.cells]
                            refine ⟨hu, .inr ⟨fun hh => by simp [FF] at hh, .func d.1, #[], d.1, #[den ρ p], htar, hinv, hlead, ?_⟩⟩
                            show CallsDIn (FF none) 0 C.P d.1 #[den ρ p] (.panicking [{ v := den ρ (.ic t (.ag [x])), recovered := false }]) w _
                            rw [hden]
                            rw [e0] at e1 ⊢
                            refine CallsDIn.mono (c2 b off bty cs cs' k n w e4 e1) ?_
                            rintro e u' w'' ⟨⟨v, rfl⟩, rfl, hbw⟩
                            have hsz : (w.setRow b cs').heap.size = w.heap.size := by simp [World.setRow]
                            obtain ⟨fps2, e2, _⟩ := e2.grow (res' := res') (ρ' := ρ) (nid := 0) (new := []) (K' := known res) ⟨fun i hi => ⟨rfl, fun hf => by unfold fresh at hf; simp only [List.length_nil] at hf; omega⟩, fun i hi => .inl hi, fun k hk => by simp at hk⟩ (fun i hi hf => by unfold fresh at hf; simp only [List.length_nil] at hf; omega) (fun i hi => hi.resolve_right fun hf => by unfold fresh at hf; simp only [List.length_nil] at hf; omega)
                              (w' := w'') ⟨by rw [hsz]; exact hbw, Env.agree.refl _ _, fun _ _ => False, fun k hk => by simp at hk, fun k l b hk => by simp at hk⟩
                            have hkn : ∀ i, known res i → known res' i := fun i hi => (e3 i).2 hi
                            exact leave_spec hC l none _ fps2 _ h (e2.monoK hkn) (fun e he => ⟨okL_mono hkn _ (hdl e he).1, okL_mono hkn _ (hdl e he).2⟩) (fun v hv => by simp at hv)
                              fun m' res'' fps' w' hK' hH' hk' hm' => hk m' res'' fps' w' hK' hH' (fun i hi => hk' i (hkn i hi)) hm'
                          · exact h.elim
                        · exact h.elim
                      · exact h.elim
                    · exact h.elim
                  · exact h.elim
                · exact h.elim
            · exact h.elim
          · exact h.elim
        · exact h.elim
      · exact h.elim

abbrev CallPost (ρ0 : Env) (res0 : List Res) (w0 : World) (F0 : Nat → Prop) (K KP : V → List Res → Prop) (e : Ending) (w' : World) : Prop :=
  ∃ x ρ' fps' res', HRep ρ' fps' res' (known res') w0 F0 w' ∧ Good ρ0 res0 ρ' res' ∧ ok (known res') x ∧
      ((e = .returned (den ρ' x) ∧ K x res') ∨ (e = .panicked [{ v := den ρ' x, recovered := false }] ∧ KP x res'))

theorem resultsV_defs {C : Ctx} (σ : St) (d : List (Nat × List V × List V)) : ∀ rs, resultsV C { σ with defs := d } rs = resultsV C σ rs
  | [] => rfl
  | .tmp t :: l => by simp only [resultsV, resultsV_defs σ d l]
  | .cell a t :: l => by simp only [resultsV, resultsV_defs σ d l]

theorem finish_spec {C : Ctx} (hC : C.Sound) {fn : Func} {K KP : V → List Res → Prop} {e : Exit} (h : Post ρ0 res0 w0 F0 (finish C fn K KP) e a w) : bodyPostM (FF none) 0 C.P fn (CallPost ρ0 res0 w0 F0 K KP) e a w := by
  obtain ⟨out, σ, ρ, fps, h1, h2, h3, h4⟩ := h
  obtain ⟨r1, r2, r3, r4⟩ := h3
  have key : ∀ m, leaveS C σ.defs m σ.res (finE C fn K KP σ) → (∀ v, m = some v → ok (known σ.res) v) → LeavesInM (FF none) 0 C.P fn a.tmps (CallPost ρ0 res0 w0 F0 K KP) a.defers (modeOf ρ m) w := by
    intro m hh hm
    rw [r3]
    refine leave_spec hC _ m _ fps w hh r2 r4 hm fun m' res fps' w' hK hH' hk' hm' => ?_
    unfold finE at hK
    split at hK
    · split at hK
      · rename_i l hl
        have hrep : Rep ρ fps' { slots := σ.slots, res := res, defs := [] } w0 F0 { a with defers := [] } w' := ⟨⟨r1.1, fun t => (r1.2 t).env hk' (Env.agree.refl _ _)⟩, hH', rfl, by simp⟩
        obtain ⟨e1, e2⟩ := run_results hrep (l := l) (by rw [← hl]; exact resultsV_defs { σ with res := res } [] _)
        exact ⟨_, e1, _, ρ, fps', res, hH', ⟨h4.1, fun i hi => hk' i (h4.2 i hi)⟩, e2, .inl ⟨rfl, hK⟩⟩
      · exact hK.elim
    · rename_i v
      exact ⟨v, ρ, fps', res, hH', ⟨h4.1, fun i hi => hk' i (h4.2 i hi)⟩, hm' _ rfl, .inr ⟨rfl, hK⟩⟩
  cases out <;> cases e <;> simp only [OutIs, finish] at h1 h2
  · exact key none h2 (by simp)
  · exact key none h2 (by simp)
  · rename_i v chain
    obtain ⟨rfl, hv⟩ := h1
    exact key (some v) h2 fun v' hv' => by simp only [Option.some.injEq] at hv'; subst hv'; exact hv

theorem enter_spec {C : Ctx} (hC : C.Sound) {ex : Code → St → (Out → St → Prop) → Prop} {f : Nat} {args : List V} {res : List Res} {K KP : V → List Res → Prop}
    (hex : ∀ c σ K a, σ.res = res → ex c σ K → Rep ρ fps σ w0 F0 a w → c.wpIn (FF none) 0 C.P (Post ρ σ.res w0 F0 K) a w) (h : enter C ex f args res K KP)
    (hH : HRep ρ fps res (known res) w0 F0 w) (hargs : okL (known res) args) : Calls C.P f (denL ρ args).toArray w (CallPost ρ res w0 F0 K KP) := by
  unfold enter at h
  split at h
  · exact h.elim
  · rename_i fn hf
    split at h
    · exact h.elim
    · rename_i c hc
      refine ff_calls' (ro := none) (n := 0) (callsIn_of_wp_marks hf hc trivial ?_)
      refine wpIn_mono (hex _ _ _ _ rfl h ?_) fun e a w hp => finish_spec hC hp
      refine ⟨⟨by simp [argSlots, denL_eq], fun t => ?_⟩, hH, rfl, by simp⟩
      simp only [argSlots]
      rw [sget_eq, List.getD_eq_getElem?_getD]
      by_cases ht : t < args.length
      · rw [List.getElem?_append_left (by simpa using ht)]
        simp only [List.getElem?_map, List.getElem?_eq_getElem ht, Option.map_some, Option.getD_some, SlotOK]
        refine ⟨?_, (okL_iff _).1 hargs _ (List.getElem_mem ht)⟩
        rw [Array.getD_eq_getD_getElem?, Array.getElem?_append_left (by simpa [denL_eq] using ht)]
        simp [denL_eq, List.getElem?_eq_getElem ht]
      · rw [List.getElem?_append_right (by simpa using ht)]
        simp only [List.length_map, List.getElem?_replicate]
        split <;> trivial

/-- What a round finds. -/
def YGood (y : YFrame) (ρ : Env) (res : List Res) : Prop :=
  y.r0.params.toList = y.ps ∧ y.r0.assign = y.assign ∧ y.r0.body = y.body ∧ FRep ρ (known res) y.slots { tmps := y.r0.tmps, defers := [] } ∧ ∀ t, (∃ x, sget y.slots t = .v x) ∨ sget y.slots t = .und

theorem setPs_spec {K : Nat → Prop} : ∀ (ps : List Nat) (args : List V) (sl sl' : List S) (tmps : Array Value), setPs ps args sl = some sl' → FRep ρ K sl { tmps := tmps, defers := [] } → (∀ t, (∃ x, sget sl t = .v x) ∨ sget sl t = .und) → okL K args →
    ps.length = args.length ∧ FRep ρ K sl' { tmps := (ps.zip (denL ρ args)).foldl (fun t (p : Nat × Value) => t.setIfInBounds p.1 p.2) tmps, defers := [] }
  | [], [], sl, sl', tmps, h, hF, _, _ => by simp only [setPs, Option.some.injEq] at h; subst h; exact ⟨rfl, hF⟩
  | [], _ :: _, _, _, _, h, _, _, _ => by simp [setPs] at h
  | _ :: _, [], _, _, _, h, _, _, _ => by simp [setPs] at h
  | p :: ps, x :: xs, sl, sl', tmps, h, hF, hp, hk => by
    simp only [setPs] at h
    have hfree : free' p sl = true := by
      unfold free'
      rw [List.all_eq_true]
      intro s hs
      obtain ⟨i, hi, rfl⟩ := List.getElem_of_mem hs
      have := hp i
      rw [sget_eq, List.getD_eq_getElem?_getD, List.getElem?_eq_getElem hi] at this
      simp only [Option.getD_some] at this
      rcases this with ⟨y, h⟩ | h <;> rw [h]
    have h1 := hF.put (d := p) (s := .v x) (x := den ρ x) hfree ⟨rfl, hk.1⟩
    obtain ⟨e1, e2⟩ := setPs_spec ps xs _ _ (tmps.setIfInBounds p (den ρ x)) h h1 (fun t => by
      rw [sget_sset]
      split
      · exact .inl ⟨x, rfl⟩
      · exact hp t) hk.2
    exact ⟨by simp [e1], by simpa [denL] using e2⟩

theorem lsEq_eq {s t : LoopState} (h : lsEq s t = true) : s = t := lsEq_spec h

/-- A round, as the loop's function meets it. -/
theorem yield_ok {C : Ctx} {ex : Nat → Code → St → (Out → St → Prop) → Prop} {y : YFrame} (hex : ∀ ro fid c σ K ρ fps w0 F0 a w, ex fid c σ K → Rep ρ fps σ w0 F0 a w → c.wpIn (FF ro) 0 C.P (Post ρ σ.res w0 F0 K) a w) (hy : YGood y ρ0 res0) :
    YOK C.P (fun k args res K _ => yieldS ex y k args res K) ρ0 res0 := by
  intro k args res K KP h ρ fps w0 F0 w hg hH hk hargs
  unfold yieldS at h
  split at h
  · rename_i hky
    have hky := beq_iff_eq.1 hky
    subst hky
    split at h
    · rename_i r s j hr
      split at h
      · rename_i hs
        simp only [Bool.and_eq_true, Option.isNone_iff_eq_none] at hs
        obtain ⟨hs, rfl⟩ := hs
        have hs := lsEq_eq hs
        subst hs
        obtain ⟨rfl, h⟩ := h
        split at h
        · rename_i sl hsl
          obtain ⟨y1, y2, y3, y4, y5⟩ := hy
          have hh := hH.holds y.k hk
          rw [hr] at hh
          obtain ⟨l1, l2⟩ := hh
          obtain ⟨e1, e2⟩ := setPs_spec (ρ := ρ) (K := known res) _ _ _ _ y.r0.tmps hsl (y4.env hg.2 hg.1) y5 hargs
          refine ⟨ρ.num y.k, _, _, _, _, run_yield l2 (by
            have hps : y.r0.params.size = y.ps.length := by rw [← y1]; simp
            show _ = y.r0.params.size
            rw [hps, e1]; simp [denL_eq]), fun ro => ?_⟩
          refine roundIn_of_wpIn (F := FF ro) trivial ?_
          have hrep : Rep ρ fps { slots := sl, res := res, defs := [] } w0 F0 { tmps := (y.r0.params.zip (denL ρ args).toArray).foldl (fun tmps (t, a) => tmps.setIfInBounds t a) y.r0.tmps, defers := [] } w := by
            refine ⟨?_, hH, rfl, by simp⟩
            have : (y.r0.params.zip (denL ρ args).toArray).foldl (fun tmps (t, a) => tmps.setIfInBounds t a) y.r0.tmps = (y.ps.zip (denL ρ args)).foldl (fun t (p : Nat × Value) => t.setIfInBounds p.1 p.2) y.r0.tmps := by
              rw [← Array.foldl_toList, Array.toList_zip, y1]
            rw [this]; exact e2
          show Code.wpIn (FF (some (ρ.num y.k))) 0 C.P y.r0.assign _ _ w
          rw [y2]
          refine wpIn_mono (hex (some (ρ.num y.k)) y.fid y.assign _ _ ρ fps w0 F0 _ w h hrep) fun e a1 w1 hp => ?_
          obtain ⟨o, σ1, ρ1, fps1, p1, p2, p3, p4⟩ := hp
          cases o <;> simp only at p2 <;> (try exact p2.elim)
          cases e <;> (try exact (show False from p1).elim)
          have hk1 : known σ1.res y.k := p4.2 _ hk
          have hn1 : ρ1.num y.k = ρ.num y.k := (p4.1 _ hk).1
          split at p2
          · rename_i r1 s1 j1 hr1
            split at p2
            · rename_i hs1
              simp only [Bool.and_eq_true, Option.isNone_iff_eq_none] at hs1
              obtain ⟨hs1, rfl⟩ := hs1
              have hs1 := lsEq_eq hs1
              subst hs1
              obtain ⟨rfl, p2⟩ := p2
              have hh1 := p3.2.1.holds y.k hk1
              rw [hr1] at hh1
              obtain ⟨m1, m2⟩ := hh1
              have hlt1 : ρ1.num y.k < w1.heap.size := (Array.getElem?_eq_some_iff.1 m2).1
              obtain ⟨fps2, g1, g2⟩ := p3.2.1.reloop (r := .lop y.r0 .busy none) hk1 (.loop { y.r0 with state := .busy, pending := none }) m1 hlt1 (by simp) ⟨m1, World.putObj_heap_same hlt1⟩
              refine ⟨_, run_beginRound (by rw [← hn1]; exact m2) rfl, ?_⟩
              obtain ⟨d1, d2⟩ := defs_env p3.2.2.2 (Env.agree.refl _ ρ1) g2
              have hbody := hex (some (ρ1.num y.k)) y.fid y.body _ _ ρ1 fps2 w0 F0 a1 _ p2 ⟨⟨p3.1.1, fun t => (p3.1.2 t).env g2 (Env.agree.refl _ _)⟩, g1, p3.2.2.1, d2⟩
              rw [← y3] at hbody
              rw [← hn1]
              refine wpIn_mono hbody fun e a2 w2 hq => ?_
              obtain ⟨o, σ2, ρ2, fps3, q1, q2, q3, q4⟩ := hq
              have hk2 : known σ2.res y.k := q4.2 _ (g2 _ hk1)
              have hn2 : ρ2.num y.k = ρ1.num y.k := (q4.1 _ (g2 _ hk1)).1
              split at q2
              · rename_i r2 s2 j2 hr2
                split at q2
                · rename_i hs2
                  simp only [Bool.and_eq_true, Option.isNone_iff_eq_none] at hs2
                  obtain ⟨hs2, rfl⟩ := hs2
                  have hs2 := lsEq_eq hs2
                  subst hs2
                  obtain ⟨rfl, q2⟩ := q2
                  have hh2 := q3.2.1.holds y.k hk2
                  rw [hr2] at hh2
                  obtain ⟨n1, n2⟩ := hh2
                  have hlt2 : ρ2.num y.k < w2.heap.size := (Array.getElem?_eq_some_iff.1 n2).1
                  have fin : ∀ (jump : Option Code) (b : Bool), b = jump.isNone → K (.cb b) (rset σ2.res y.k (.lop y.r0 (if jump.isNone then .ready else .done) jump)) →
                      ∃ v w', (Instr.endRound (ρ1.num y.k) jump).run C.P w2 = .ok v w' ∧ CallPost ρ res w0 F0 K KP (.returned v) w' := fun jump b hb hK => by
                    obtain ⟨fps4, g3, g4⟩ := q3.2.1.reloop (r := .lop y.r0 (if jump.isNone then .ready else .done) jump) hk2 (.loop { y.r0 with state := if jump.isNone then .ready else .done, pending := jump }) n1 hlt2 (by simp) ⟨n1, World.putObj_heap_same hlt2⟩
                    have hn2' : w2.heap[ρ1.num y.k]? = some (.loop { y.r0 with state := .busy, pending := none }) := by rw [← hn2]; exact n2
                    refine ⟨_, _, run_endRound jump hn2', .cb b, ρ2, fps4, _, by rw [← hn2]; exact g3, ?_, trivial, .inl ⟨by rw [hb]; rfl, hK⟩⟩
                    exact ⟨p4.1.trans (q4.1.mono g2) p4.2, fun i hi => g4 i (q4.2 i (g2 i (p4.2 i hi)))⟩
                  rw [hn1]
                  rw [hn1] at fin
                  cases o <;> cases e <;> simp only [OutIs] at q1 <;> (try exact (show False from q1).elim) <;> simp only at q2
                  · exact fin none true rfl q2
                  · subst q1; exact fin (some (.exit _)) false rfl q2
                  · subst q1; exact fin (some (.goto _)) false rfl q2
                  · exact fin (some .ret) false rfl q2
                · exact q2.elim
              · exact q2.elim
            · exact p2.elim
          · exact p2.elim
        · exact h.elim
      · exact h.elim
    · exact h.elim
  · exact h.elim

/-- Two objects that a loop over a function lays. -/
theorem loop_grew {K : Nat → Prop} {nid : Nat} {r0 : Loop} (hn : ¬ K nid) (hn' : ¬ K (nid + 1)) (rec : Loop) (hr : rec = { r0 with state := .ready, pending := none }) :
    Grew K ρ ((ρ.setNum nid w.heap.size).setNum (nid + 1) (w.heap.size + 1)) nid [.dfr, .lop r0 .ready none] w0 F0 w ((w.alloc (.deferred (some []))).alloc (.loop rec)) := by
  have e1 : ((ρ.setNum nid w.heap.size).setNum (nid + 1) (w.heap.size + 1)).num nid = w.heap.size := by simp [Env.setNum]
  have e2 : ((ρ.setNum nid w.heap.size).setNum (nid + 1) (w.heap.size + 1)).num (nid + 1) = w.heap.size + 1 := by simp [Env.setNum]
  refine ⟨((Below.refl _ w).alloc (Nat.le_refl _) _).trans (((Below.refl _ _).alloc (Nat.le_refl _) _).mono (by simp)), fun i hi => ?_, fun k b => b = w.heap.size + k, fun k hk => ?_, fun k l b hk hl hne h1 h2 => hne (by omega)⟩
  · have h1 : i ≠ nid := fun e => hi ⟨by omega, by simp; omega⟩
    have h2 : i ≠ nid + 1 := fun e => hi ⟨by omega, by simp; omega⟩
    simp [Env.setNum, h1, h2]
  · have : k = 0 ∨ k = 1 := by simp at hk; omega
    rcases this with rfl | rfl
    · refine ⟨⟨e1, ?_⟩, fun b hb => by subst hb; simp only [World.size_alloc]; omega⟩
      show (_ : World).heap[((ρ.setNum nid w.heap.size).setNum (nid + 1) (w.heap.size + 1)).num nid]? = _
      rw [e1]
      exact (Below.heap_alloc _ _ _ (by simp)).trans (World.alloc_heap_new w _)
    · refine ⟨⟨e2, ?_⟩, fun b hb => by subst hb; simp only [World.size_alloc]; omega⟩
      rw [e2]
      have := World.alloc_heap_new (w.alloc (.deferred (some []))) (.loop rec)
      rw [World.size_alloc] at this
      rw [this, hr]

/-- As Q; behind a jump to a label of a scope: its rest. -/
def Exit.one (P : Program) (F : Fence) (c : Code) (Q2 Q : Exit → Act → World → Prop) : Exit → Act → World → Prop
  | .goto l, a, w => match findLabel c l with
    | some rest => rest.wpIn F 0 P Q2 a w
    | none => Q (.goto l) a w
  | e, a, w => Q e a w
def Exit.two (c : Code) (Q : Exit → Act → World → Prop) : Exit → Act → World → Prop
  | .goto l, a, w => findLabel c l = none ∧ Q (.goto l) a w
  | e, a, w => Q e a w

theorem gotoIn_scope {c : Code} {l : Nat} {k : List Item} (h : findLabel c l = none) : gotoIn l (.inScope c :: k) = gotoIn l k := by simp [gotoIn, h]

theorem stepR_scope' {P : Program} {b : Frame} {a : Act} {k : List Item} {cs : List Frame} {w : World} {c : Code} : step P (lone (b.atR a (.code (.scope c) :: k)) cs w) = .next (lone (b.atR a (.code c :: .inScope c :: k)) cs w) :=
  step_lone_go (by simp [stepG, stepG.exec, Frame.atR])
theorem stepR_inScope' {P : Program} {b : Frame} {a : Act} {k : List Item} {cs : List Frame} {w : World} {c : Code} : step P (lone (b.atR a (.inScope c :: k)) cs w) = .next (lone (b.atR a k) cs w) :=
  step_lone_go (by simp [stepG, stepG.exec, Frame.atR])

theorem wpIn_scope_once {P : Program} {F : Fence} {c : Code} {Q : Exit → Act → World → Prop} {a : Act} {w : World} (h : c.wpIn F 0 P (Exit.one P F c (Exit.two c Q) Q) a w) : (Code.scope c).wpIn F 0 P Q a w := by
  intro b k cs hro hb hr
  have h0 : ∀ a w, (lone (b.atR a (.code (.scope c) :: k)) cs w).fenced P F := fun a w => fenced_calm hb hr rfl
  have hin : ∀ a w, StepsIn (Machine.fenced P F) P (lone (b.atR a (.inScope c :: k)) cs w) (lone (b.atR a k) cs w) := fun a w => .one (fenced_calm hb hr rfl) stepR_inScope'
  have hex : ∀ id, exitTo id (.inScope c :: k) = exitTo id k := fun id => by simp [exitTo]
  -- behind the second pass
  have second : ∀ m e a₁ w₁, Exit.two c Q e a₁ w₁ → ArrivesIn (Machine.fenced P F) P m b (.inScope c :: k) cs e a₁ w₁ → ∃ e a' w', Q e a' w' ∧ ArrivesIn (Machine.fenced P F) P m b k cs e a' w' := by
    intro m e a₁ w₁ hq harr
    cases e with
    | normal => exact ⟨.normal, a₁, w₁, hq, StepsIn.trans harr (hin a₁ w₁)⟩
    | exit id => exact ⟨.exit id, a₁, w₁, hq, fun k' hk => harr.1 k' (by rw [hex]; exact hk), fun hr' hk => harr.2 hr' (by rw [hex]; exact hk)⟩
    | goto l => exact ⟨.goto l, a₁, w₁, hq.2, fun k' hk => harr.1 k' (by rw [gotoIn_scope hq.1]; exact hk), fun hr' hk => harr.2 hr' (by rw [gotoIn_scope hq.1]; exact hk)⟩
    | ret => exact ⟨_, a₁, w₁, hq, harr⟩
    | panic ch => exact ⟨_, a₁, w₁, hq, harr⟩
    | outgrown => exact ⟨_, a₁, w₁, hq, harr⟩
  obtain ⟨e, a₁, w₁, hq, harr⟩ := h b (.inScope c :: k) cs hro hb hr
  have back : ∀ {e a' w'}, ArrivesIn (Machine.fenced P F) P (lone (b.atR a (.code c :: .inScope c :: k)) cs w) b k cs e a' w' → ArrivesIn (Machine.fenced P F) P (lone (b.atR a (.code (.scope c) :: k)) cs w) b k cs e a' w' :=
    fun h => .of_steps (.one (h0 a w) stepR_scope') h
  by_cases hj : ∃ l rest, e = .goto l ∧ findLabel c l = some rest
  · obtain ⟨l, rest, rfl, hf⟩ := hj
    simp only [Exit.one, hf] at hq
    obtain ⟨e₂, a₂, w₂, hq₂, harr₂⟩ := hq b (.inScope c :: k) cs hro hb hr
    have hg : gotoIn l (.inScope c :: k) = some (.code rest :: .inScope c :: k) := by simp [gotoIn, hf]
    obtain ⟨e', a', w', q', r'⟩ := second _ e₂ a₂ w₂ hq₂ (.of_steps (harr.1 _ hg) harr₂)
    exact ⟨e', a', w', q', back r'⟩
  · have hq' : Exit.two c Q e a₁ w₁ := by
      cases e with
      | goto l =>
        have hn : findLabel c l = none := by
          cases hf : findLabel c l with
          | none => rfl
          | some rest => exact absurd ⟨l, rest, rfl, hf⟩ hj
        simp only [Exit.one, hn] at hq
        exact ⟨hn, hq⟩
      | _ => exact hq
    obtain ⟨e', a', w', q', r'⟩ := second _ e a₁ w₁ hq' harr
    exact ⟨e', a', w', q', back r'⟩

theorem exec_spec {C : Cfg} (hC : C.toCtx.Sound) (hH0 : C.H0.OK C.P) : ∀ (n : Nat) (yc : YC) (fid : Nat) (c : Code) (σ : St) (K : Out → St → Prop) (ρ : Env) (fps : Nat → Nat → Prop) (w0 : World) (F0 : Nat → Prop) (a : Act) (w : World) (ro : Option Nat),
    (yc.rd = false → ro = none) → (∀ y, yc.y = some y → YGood y ρ σ.res) → exec C n yc fid c σ K → Rep ρ fps σ w0 F0 a w → c.wpIn (FF ro) 0 C.P (Post ρ σ.res w0 F0 K) a w
  | 0, _, _, _, _, _, _, _, _, _, _, _, _, _, _, h, _ => h.elim
  | n + 1, yc, fid, c, σ, K, ρ, fps, w0, F0, a, w, ro, hro, hyc, h, hr => by
    have ih := exec_spec hC hH0 n
    have lift : ∀ {ρ1 : Env} {res1 : List Res} {K' : Out → St → Prop} {e : Exit} {a' : Act} {w' : World}, Good ρ σ.res ρ1 res1 → Post ρ1 res1 w0 F0 K' e a' w' → Post ρ σ.res w0 F0 K' e a' w' :=
      fun hg ⟨o, s, r, f, h1, h2, h3, h4⟩ => ⟨o, s, r, f, h1, h2, h3, hg.trans h4⟩
    have here : ∀ {o : Out} {e : Exit}, OutIs ρ σ.res e o → K o σ → Post ρ σ.res w0 F0 K e a w := fun ho hk => ⟨_, σ, ρ, fps, ho, hk, hr, Good.refl _ _⟩
    have ycl : ∀ {ρ1 : Env} {res1 : List Res}, Good ρ σ.res ρ1 res1 → ∀ y, yc.y = some y → YGood y ρ1 res1 := fun hg y hy => by
      obtain ⟨y1, y2, y3, y4, y5⟩ := hyc y hy
      exact ⟨y1, y2, y3, y4.env hg.2 hg.1, y5⟩
    cases c <;> simp only [exec] at h
    case skip => exact wpIn_skip (here (o := .norm) trivial h)
    case label => exact wpIn_label (here (o := .norm) trivial h)
    case region id ops draw =>
      have hH : Handler.OK C.P (fun f args res K KP => if C.inl f then enter C.toCtx (exec C n ⟨false, none⟩ f) f args res K KP else C.H0 f args res K KP) := by
        intro f args res K KP hh
        split at hh
        · intro ρ fps w0 F0 w hH hargs
          exact enter_spec hC (fun c σ K a hσ h hr => ih ⟨false, none⟩ f c σ K ρ fps w0 F0 a w none (fun _ => rfl) (fun y hy => by simp at hy) h hr) hh hH hargs
        · exact hH0 _ _ _ _ _ hh
      have hY : YOK C.P (fun k args res K _ => match yc.y with | some y => yieldS (exec C n ⟨true, none⟩) y k args res K | none => False) ρ σ.res := by
        cases hy : yc.y with
        | none => exact fun _ _ _ _ _ h => h.elim
        | some y => exact yield_ok (C := C.toCtx) (fun ro fid c σ K ρ fps w0 F0 a w h hr => ih ⟨true, none⟩ fid c σ K ρ fps w0 F0 a w ro (fun h => by simp at h) (fun y hy => by simp at hy) h hr) (hyc y hy)
      split at h
      · exact h.elim
      · rename_i hdef
        have hnd : ro ≠ none → ∀ o ∈ ops.toList, notDefer o := fun hne o ho c hc => by
          have hrd : yc.rd = true := by
            cases h : yc.rd with
            | true => rfl
            | false => exact absurd (hro h) hne
          apply hdef
          rw [hrd, Bool.true_and, List.any_eq_true]
          exact ⟨o, ho, by unfold defOp; rw [hc]⟩
        split at h
        · rename_i hd
          subst hd
          exact drawS_spec hC hH hY hnd h hr
        · rename_i hd
          have hd : draw = false := by simpa using hd
          subst hd
          exact wpIn_region_list (execOps_spec hC hH hY hnd _ (fun o ho => ho) σ ρ fps a w h hr (Good.refl _ _))
    case seq x y =>
      refine wpIn_seq (wpIn_mono (ih yc fid x σ _ ρ fps w0 F0 a w ro hro hyc h hr) fun e a' w' hp => ?_)
      obtain ⟨o, s, r, f, h1, h2, h3, h4⟩ := hp
      cases e <;> cases o <;> (first | exact (show False from h1).elim | skip) <;> (try simp only [Exit.then] at h2 ⊢)
      · exact wpIn_mono (ih yc fid y s K r f w0 F0 a' w' ro hro (ycl h4) h2 h3) fun e a w hp => lift h4 hp
      · exact ⟨_, s, r, f, h1, h2, h3, h4⟩
      · exact ⟨_, s, r, f, h1, h2, h3, h4⟩
      · exact ⟨_, s, r, f, h1, h2, h3, h4⟩
      · exact ⟨_, s, r, f, h1, h2, h3, h4⟩
    case cond x y z =>
      split at h
      · rename_i hx
        have := (oval_spec hr.1 rfl hx).1
        exact wpIn_cond_true this (ih yc fid y σ K ρ fps w0 F0 a w ro hro hyc h hr)
      · rename_i hx
        have := (oval_spec hr.1 rfl hx).1
        exact wpIn_cond_false this (ih yc fid z σ K ρ fps w0 F0 a w ro hro hyc h hr)
      · rename_i t hx
        have := (oval_spec hr.1 rfl hx).1
        exact wpIn_cond_split (t := t) this (fun ht => ih yc fid y σ K ρ fps w0 F0 a w ro hro hyc (h.1 ht) hr) (fun ht => ih yc fid z σ K ρ fps w0 F0 a w ro hro hyc (h.2 ht) hr)
      · exact h.elim
    case block id b =>
      refine wpIn_block (wpIn_mono (ih yc fid b σ _ ρ fps w0 F0 a w ro hro hyc h hr) fun e a' w' hp => ?_)
      obtain ⟨o, s, r, f, h1, h2, h3, h4⟩ := hp
      cases e <;> cases o <;> (first | exact (show False from h1).elim | skip) <;> (try simp only [Exit.inBlock] at h2 ⊢)
      · exact ⟨_, s, r, f, h1, h2, h3, h4⟩
      · have h1 : _ = _ := h1
        subst h1
        split at h2
        · rename_i he
          rw [if_pos (beq_iff_eq.1 he)]
          exact ⟨.norm, s, r, f, trivial, h2, h3, h4⟩
        · rename_i he
          rw [if_neg (by simpa using he)]
          exact ⟨.exit _, s, r, f, rfl, h2, h3, h4⟩
      · exact ⟨_, s, r, f, h1, h2, h3, h4⟩
      · exact ⟨_, s, r, f, h1, h2, h3, h4⟩
      · exact ⟨_, s, r, f, h1, h2, h3, h4⟩
    case loop b =>
      split at h
      · exact h.elim
      · split at h
        · exact h.elim
        · rename_i A hA
          obtain ⟨⟨g0, i0, s0⟩, hround⟩ := h
          -- the rounds, by the measure
          have key : ∀ (b' : Frame) (k : List Item) (cs : List Frame), b'.roundOf = (FF ro).round → ∀ m g ρ1 fps1 a1 w1, A.μ g = m → A.inv g → Rep ρ1 fps1 (A.head σ g) w0 F0 a1 w1 → Good ρ σ.res ρ1 (A.head σ g).res →
              ∃ e a' w', Post ρ σ.res w0 F0 K e a' w' ∧ ArrivesIn (Machine.fenced C.P (FF ro)) C.P (lone (b'.atR a1 (.code b :: .inLoop b :: k)) cs w1) b' k cs e a' w' := by
            intro b' k cs hb' m
            induction m using Nat.strongRecOn with
            | _ m ihm =>
              intro g ρ1 fps1 a1 w1 hm hi hr1 hg1
              have hb := hround g hi
              split at hb
              · obtain ⟨e, a2, w2, hp, harr⟩ := ih yc fid b (A.head σ g) _ ρ1 fps1 w0 F0 a1 w1 ro hro (ycl hg1) hb hr1 b' (.inLoop b :: k) cs hb' trivial (ff_room _ _)
                obtain ⟨o, s, r, f, h1, h2, h3, h4⟩ := hp
                cases e <;> cases o <;> (first | exact (show False from h1).elim | skip) <;> (try simp only at h2)
                · obtain ⟨g', i', hlt, hs⟩ := h2
                  have hlt : A.μ g' < A.μ g := hlt
                  obtain ⟨r2, f2, hr2, ha2⟩ := hs.rep h3
                  have hkeep := hround g' i'
                  split at hkeep
                  · rename_i hkb
                    have hg2 : Good ρ σ.res r2 (A.head σ g').res := ⟨(hg1.trans h4).1.trans ha2 (fun i hi => rget_lt hi), keepB_spec _ _ hkb⟩
                    obtain ⟨e', a', w', hp', harr'⟩ := ihm (A.μ g') (by omega) g' r2 f2 a2 w2 rfl i' hr2 hg2
                    exact ⟨e', a', w', hp', .of_steps (StepsIn.trans harr (.one (fenced_calm (n := 0) trivial (ff_room _ _) rfl) stepR_inLoop)) harr'⟩
                  · exact hkeep.elim
                · exact ⟨_, a2, w2, ⟨_, s, r, f, h1, h2, h3, hg1.trans h4⟩, .pass (x := .inLoop b) rfl (fun _ _ => .inl (by simp)) harr⟩
                · exact ⟨_, a2, w2, ⟨_, s, r, f, h1, h2, h3, hg1.trans h4⟩, .pass (x := .inLoop b) rfl (fun _ _ => .inl (by simp)) harr⟩
                · exact ⟨_, a2, w2, ⟨_, s, r, f, h1, h2, h3, hg1.trans h4⟩, .pass (x := .inLoop b) rfl (fun _ _ => .inl (by simp)) harr⟩
                · exact ⟨_, a2, w2, ⟨_, s, r, f, h1, h2, h3, hg1.trans h4⟩, .pass (x := .inLoop b) rfl (fun _ _ => .inl (by simp)) harr⟩
              · exact hb.elim
          obtain ⟨r0, f0, hr0, ha0⟩ := s0.rep hr
          have hkeep := hround g0 i0
          split at hkeep
          · rename_i hkb
            intro b' k cs hb' _ _
            obtain ⟨e, a', w', hp, harr⟩ := key b' k cs hb' _ g0 r0 f0 a w rfl i0 hr0 ⟨ha0, keepB_spec _ _ hkb⟩
            exact ⟨e, a', w', hp, .of_steps (.one (fenced_calm (n := 0) trivial (ff_room _ _) rfl) stepR_loop) harr⟩
          · exact hkeep.elim
    case rangeFunc f ps assign body =>
      split at h
      · exact h.elim
      · rename_i hrd
        have hrn := hro (by simpa using hrd)
        subst hrn
        split at h
        · rename_i g caps hf
          obtain ⟨hcall, h⟩ := h
          obtain ⟨v1, v2⟩ := oval_spec hr.1 rfl hf
          refine wpIn_rangeFunc fun fn _ => ?_
          obtain ⟨ρa, fpsa, ho, hga⟩ := openL_rep σ.res.length σ.res ρ fps hr.2.1
          generalize openL σ.res.length σ.res = res1 at h ho hga
          have hnk : ¬ known res1 res1.length := fun hk => by have := rget_lt hk; omega
          have hnk' : ¬ known res1 (res1.length + 1) := fun hk => by have := rget_lt hk; omega
          generalize hrec : ({ state := .ready, pending := none, fn := fn, tmps := a.tmps, params := ps, assign := assign, body := body, defers := w.heap.size } : Loop) = rec
          have hg0 := loop_grew (ρ := ρa) (w := w) (w0 := w0) (F0 := F0) (K := known res1) (nid := res1.length) (r0 := rec) hnk hnk' rec (by rw [← hrec])
          have hadd := adds_append res1 [.dfr, .lop rec .ready none]
          have hK' : ∀ i, known res1 i ∨ fresh res1.length 2 i → known (res1 ++ [.dfr, .lop rec .ready none]) i := fun i hi => by
            obtain ⟨b1, _, b3⟩ := hadd
            rcases hi with hi | ⟨f1, f2⟩
            · unfold known; rw [(b1 i hi).1]; exact hi
            · have : i - res1.length = 0 ∨ i - res1.length = 1 := by omega
              have h3 := b3 (i - res1.length) (by simp; omega)
              rw [show res1.length + (i - res1.length) = i by omega] at h3
              unfold known
              rw [h3]
              rcases this with h | h <;> rw [h] <;> simp [rget]
          obtain ⟨fps1, g1, g2⟩ := ho.grow hadd (fun i hi hf => by have := rget_lt hi; unfold fresh at hf; omega) hK' hg0
          generalize hρ1 : ((ρa.setNum res1.length w.heap.size).setNum (res1.length + 1) (w.heap.size + 1)) = ρ1 at g1 g2
          have en1 : ρ1.num res1.length = w.heap.size := by subst hρ1; simp [Env.setNum]
          have en2 : ρ1.num (res1.length + 1) = w.heap.size + 1 := by subst hρ1; simp [Env.setNum]
          have hgood : Good ρ σ.res ρ1 (res1 ++ [.dfr, .lop rec .ready none]) := hga.trans ⟨g2, fun i hi => hK' i (.inl hi)⟩
          have hkl : known (res1 ++ [.dfr, .lop rec .ready none]) (res1.length + 1) := hK' _ (.inr ⟨by omega, by omega⟩)
          have hkd : known (res1 ++ [.dfr, .lop rec .ready none]) res1.length := hK' _ (.inr ⟨by omega, by omega⟩)
          have hcaps : okL (known (res1 ++ [.dfr, .lop rec .ready none])) caps := okL_mono hgood.2 _ v2
          have hyg : YGood ⟨res1.length + 1, rec, clean σ.slots, ps.toList, assign, body, fid⟩ ρ1 (res1 ++ [.dfr, .lop rec .ready none]) := by
            subst hrec
            exact ⟨rfl, rfl, rfl, hr.1.clean.env hgood.2 hgood.1, clean_plain σ.slots⟩
          have hcs := enter_spec hC (ρ := ρ1) (fps := fps1) (w0 := w0) (F0 := F0) (fun c σ' K a hσ h hr => ih ⟨false, some ⟨res1.length + 1, rec, clean σ.slots, ps.toList, assign, body, fid⟩⟩ (yfid g assign body) c σ' K ρ1 fps1 w0 F0 a _ none (fun _ => rfl)
            (fun y hy => by simp only [Option.some.injEq] at hy; subst hy; rw [hσ]; exact hyg) h hr) (h rec) g1 ⟨hkl, hcaps⟩
          have hcd : denL ρ1 caps = denL ρ caps := denL_agree hgood.1 caps v2
          have hfn : ∃ fn', C.P.funcs[g]? = some fn' ∧ (fn'.name == "runtime.NumGoroutine") = false ∧ fn'.body.isNone = false := by
            unfold callable at hcall
            split at hcall
            · rename_i fn' hfn'
              simp only [Bool.and_eq_true, bne_iff_ne, ne_eq] at hcall
              refine ⟨fn', hfn', by simpa using hcall.1, ?_⟩
              cases hb : fn'.body with
              | none => simp [hb] at hcall
              | some _ => rfl
            · simp at hcall
          obtain ⟨fn', f1, f2, f3⟩ := hfn
          have henter := run_enterLoop_outer (P := C.P) (w := w) fn a.tmps ps assign body
          rw [hrec] at henter
          refine ⟨w.heap.size + 1, [{ target := .collected w.heap.size, args := #[] }], (w.alloc (.deferred (some []))).alloc (.loop rec), { target := .fn (.func g) (denL ρ caps).toArray, args := #[.func (.yield (w.heap.size + 1)) #[] #[]] }, (w.alloc (.deferred (some []))).alloc (.loop rec), g, (denL ρ1 (.yl (res1.length + 1) :: caps)).toArray, (w.alloc (.deferred (some []))).alloc (.loop rec),
            henter, ?_, fun _ _ => trivial, ?_, fun h => by simp [FF] at h, ff_calls (hcs.mono ?_)⟩
          · simp only [resolve, v1, den]
            simp [go_sem]
          · simp only [invoke, Sem.run_bind, run_program, callFunc, f1, f2, f3, Bool.false_eq_true, if_false, Result.andThen_ok, denL, den, en2, hcd]
            simp
          · rintro e w' ⟨x, ρ2, fps2, res2, p1, p2, p3, p4⟩
            rcases p4 with ⟨rfl, p4⟩ | ⟨_, p4⟩
            · unfold afterY at p4
              split at p4
              · rename_i r s j hr2
                split at p4
                · exact p4.elim
                · rename_i hs
                  have hk2 : known res2 (res1.length + 1) := p2.2 _ hkl
                  have hh := p1.holds _ hk2
                  rw [hr2] at hh
                  obtain ⟨l1, l2⟩ := hh
                  have hlt : ρ2.num (res1.length + 1) < w'.heap.size := (Array.getElem?_eq_some_iff.1 l2).1
                  have en3 : ρ2.num (res1.length + 1) = w.heap.size + 1 := (p2.1 _ hkl).1.trans en2
                  have en4 : ρ2.num res1.length = w.heap.size := (p2.1 _ hkd).1.trans en1
                  obtain ⟨fps3, q1, q2⟩ := p1.reloop (r := .gone) hk2 (.loop { r with state := .exhausted, pending := j }) l1 hlt (by simp) trivial
                  have hend := run_endLoop (P := C.P) l2 (by intro e; simp only at e; subst e; simp [lsEq] at hs)
                  rw [en3] at hend q1
                  obtain ⟨fps4, q3, q4⟩ := shutL_rep (old := σ.res) σ.res.length _ _ q1
                  generalize shutL σ.res σ.res.length (rset res2 (res1.length + 1) .gone) = res3 at q3 q4 p4
                  have hg3 : Good ρ σ.res ρ2 res3 := ⟨hgood.1.trans p2.1 hgood.2, fun i hi => q4 i (q2 i (p2.2 i (hgood.2 i hi)))⟩
                  obtain ⟨d1, d2⟩ := defs_env hr.2.2.2 hg3.1 hg3.2
                  have hrep : Rep ρ2 fps4 { slots := clean σ.slots, res := res3, defs := (0, [.yl res1.length], []) :: σ.defs } w0 F0 { a with defers := [{ target := .collected w.heap.size, args := #[] }] ++ a.defers } (w'.putObj (w.heap.size + 1) (.loop { r with state := .exhausted, pending := j })) := by
                    refine ⟨hr.1.clean.env hg3.2 hg3.1, q3, ?_, fun d hd => ?_⟩
                    · simp only [List.map_cons, List.singleton_append, List.cons.injEq]
                      refine ⟨by simp [dDen, mrk, en4], by rw [hr.2.2.1]; exact d1.symm⟩
                    · rcases List.mem_cons.1 hd with rfl | hd
                      · exact ⟨⟨q4 _ (q2 _ (p2.2 _ hkd)), trivial⟩, trivial⟩
                      · exact d2 d hd
                  refine ⟨j, _, hend, ?_⟩
                  split at p4
                  · exact ⟨.norm, _, ρ2, fps4, trivial, p4, hrep, hg3⟩
                  · split at p4
                    · exact wpIn_ret ⟨.ret, _, ρ2, fps4, trivial, p4, hrep, hg3⟩
                    · exact wpIn_exit ⟨.exit _, _, ρ2, fps4, rfl, p4, hrep, hg3⟩
                    · exact wpIn_goto ⟨.goto _, _, ρ2, fps4, rfl, p4, hrep, hg3⟩
                    · exact p4.elim
              · exact p4.elim
            · exact p4.elim
        · exact h.elim
    case scope b =>
      refine wpIn_scope_once (wpIn_mono (ih yc fid b σ _ ρ fps w0 F0 a w ro hro hyc h hr) fun e a' w' hp => ?_)
      obtain ⟨o, s, r, f, h1, h2, h3, h4⟩ := hp
      cases e <;> cases o <;> (first | exact (show False from h1).elim | skip) <;> (try simp only [Exit.one] at h2 ⊢)
      · exact ⟨_, s, r, f, h1, h2, h3, h4⟩
      · exact ⟨_, s, r, f, h1, h2, h3, h4⟩
      · rename_i l l'
        have h1 : l = l' := h1
        subst h1
        split at h2
        · rename_i rest hf
          refine wpIn_mono (ih yc fid rest s _ r f w0 F0 a' w' ro hro (ycl h4) h2 h3) fun e2 a2 w2 hp2 => ?_
          obtain ⟨o2, s2, r2, f2, g1, g2, g3, g4⟩ := hp2
          cases e2 <;> cases o2 <;> (first | exact (show False from g1).elim | skip) <;> (try simp only [Exit.two] at g2 ⊢)
          · exact ⟨_, s2, r2, f2, g1, g2, g3, h4.trans g4⟩
          · exact ⟨_, s2, r2, f2, g1, g2, g3, h4.trans g4⟩
          · rename_i l2 l2'
            have g1 : l2 = l2' := g1
            subst g1
            split at g2
            · exact g2.elim
            · rename_i hn
              exact ⟨hn, .goto l2, s2, r2, f2, rfl, g2, g3, h4.trans g4⟩
          · exact ⟨_, s2, r2, f2, g1, g2, g3, h4.trans g4⟩
          · exact ⟨_, s2, r2, f2, g1, g2, g3, h4.trans g4⟩
        · rename_i hn
          exact ⟨.goto l, s, r, f, rfl, h2, h3, h4⟩
      · exact ⟨_, s, r, f, h1, h2, h3, h4⟩
      · exact ⟨_, s, r, f, h1, h2, h3, h4⟩
    case exit i => exact wpIn_exit (here (o := .exit i) rfl h)
    case goto l => exact wpIn_goto (here (o := .goto l) rfl h)
    case ret => exact wpIn_ret (here (o := .ret) trivial h)

/-- A function, by its own code. -/
theorem fn_spec {C : Cfg} (hC : C.toCtx.Sound) (hH0 : C.H0.OK C.P) {n f : Nat} {args : List V} {res : List Res} {K KP : V → List Res → Prop} (h : enter C.toCtx (exec C n ⟨false, none⟩ f) f args res K KP) : CallTo C.P f args res K KP := by
  intro ρ fps w0 F0 w hH hargs
  exact enter_spec hC (fun c σ K a hσ h hr => exec_spec hC hH0 n ⟨false, none⟩ f c σ K ρ fps w0 F0 a w none (fun _ => rfl) (fun y hy => by simp at hy) h hr) h hH hargs

end
end Go.Sx
namespace Go.Sx
theorem void_wf : void.wf := by simp [Key.wf, void, inR]
theorem noSlots_at (i : Nat) : noSlots.at i = void := by
  unfold Slots.at noSlots
  simp [Array.getD_eq_getD_getElem?, Array.getElem?_replicate]
  split <;> rfl
theorem noSlots_wf : noSlots.wf := fun i _ => by rw [noSlots_at]; exact void_wf
theorem free_wf : free.wf := ⟨by simp [free, inR], by simp [free, inR], by simp [free, inR], noSlots_wf⟩
end Go.Sx
namespace Go.Sx
def wfB (k : Key) : Bool := decide (inR .i64 k.kind) && decide (inR .i64 k.oid) && decide (inR .i64 k.count) && decide (inR .i64 k.call) && decide (inR .i64 k.rights) && decide (inR .i64 k.value)
theorem wfB_spec {k : Key} (h : wfB k = true) : k.wf := by
  simp only [wfB, Bool.and_eq_true, decide_eq_true_eq] at h
  obtain ⟨⟨⟨⟨⟨a, b⟩, c⟩, d⟩, e⟩, f⟩ := h
  exact ⟨a, b, c, d, e, f⟩
mutual
/-- Is a value that is written out fine, whatever the places? -/
def okz : V → Bool
  | .cb _ => true
  | .ci k n => decide (inR k n)
  | .st _ => true
  | .nl v => v.oneCell'
  | .key k => wfB k
  | .sl s => (List.range 16).all fun i => wfB (s.at i)
  | .by _ => true
  | .ob o => decide (inR .i64 o.kind) && decide (inR .i64 o.count) && decide (inR .i64 o.calls) && (List.range 16).all fun i => wfB (o.slots.at i)
  | .ag l => okzL l
  | _ => false
def okzL : List V → Bool
  | [] => true
  | x :: l => okz x && okzL l
end
mutual
theorem okz_spec {K : Nat → Prop} : ∀ v, okz v = true → ok K v ∧ isTp v = false
  | .cb _, _ | .st _, _ | .by _, _ => ⟨trivial, rfl⟩
  | .ci k n, h => ⟨show inR k n by simpa [okz] using h, rfl⟩
  | .nl v, h => ⟨show v.oneCell' = true by simpa [okz] using h, rfl⟩
  | .key k, h => ⟨wfB_spec (by simpa [okz] using h), rfl⟩
  | .sl s, h => by
    simp only [okz, List.all_eq_true, List.mem_range] at h
    exact ⟨fun i hi => wfB_spec (h i hi), rfl⟩
  | .ob o, h => by
    simp only [okz, Bool.and_eq_true, decide_eq_true_eq, List.all_eq_true, List.mem_range] at h
    obtain ⟨⟨⟨a, b⟩, c⟩, d⟩ := h
    exact ⟨⟨a, b, c, fun i hi => wfB_spec (d i hi)⟩, rfl⟩
  | .ag l, h => by
    have := okzL_spec (K := K) l (by simpa [okz] using h)
    exact ⟨this, rfl⟩
theorem okzL_spec {K : Nat → Prop} : ∀ l, okzL l = true → okL K l ∧ okC l
  | [], _ => ⟨trivial, trivial⟩
  | x :: l, h => by
    simp only [okzL, Bool.and_eq_true] at h
    have h1 := okz_spec (K := K) x h.1
    have h2 := okzL_spec (K := K) l h.2
    refine ⟨⟨h1.1, h2.1⟩, (okC_iff _).2 fun z hz => ?_⟩
    rcases List.mem_cons.1 hz with rfl | hz
    · exact h1.2
    · exact (okC_iff _).1 h2.2 z hz
end
/-- A table of zero values is the program's. -/
def ZP (P : Program) (t : Nat) (v : V) : Prop := ∃ i, P.info? t = some i ∧ (∀ ρ, i.zero = some (den ρ v)) ∧ okz v = true ∧ i.size = vsz v
def zf : List (Nat × V) → Nat → Option V
  | [], _ => none
  | (u, v) :: l, t => if u == t then some v else zf l t
theorem zf_spec {Q : Nat → V → Prop} : ∀ (l : List (Nat × V)), (∀ p ∈ l, Q p.1 p.2) → ∀ t v, zf l t = some v → Q t v
  | [], _, t, v, h => by simp [zf] at h
  | (u, x) :: l, hl, t, v, h => by
    simp only [zf] at h
    split at h
    · rename_i e
      have e := beq_iff_eq.1 e
      simp only [Option.some.injEq] at h
      subst h; subst e
      exact hl (u, x) (by simp)
    · exact zf_spec l (fun p hp => hl p (by simp [hp])) t v h
theorem zok_of {C : Ctx} (h : ∀ t v, C.Z t = some v → ZP C.P t v) : C.ZOK := fun t v hv => by
  obtain ⟨i, h1, h2, h3, h4⟩ := h t v hv
  obtain ⟨h5, h6⟩ := okz_spec (K := fun _ => False) v h3
  exact ⟨i, h1, h2, h5, h6, h4⟩
end Go.Sx
