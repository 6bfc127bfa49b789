/- The executor: a region whose order is drawn. No condition. -/
import Derived.Test.YtjpcaplhblomcaaSx12r
set_option linter.unusedVariables false
set_option linter.unusedSimpArgs false
namespace Go.Sx
open Go.RowKit (Below)

/-- How a piece of code ends. -/
inductive Out where
  | norm
  | exit (i : Nat)
  | goto (l : Nat)
  | ret
  | pan (v : V)

/-- One way to end is another's. -/
def OutIs (ρ : Env) (res : List Res) : Exit → Out → Prop
  | .normal, .norm => True
  | .exit i, .exit j => i = j
  | .goto i, .goto j => i = j
  | .ret, .ret => True
  | .panic chain, .pan v => chain = [{ v := den ρ v, recovered := false }] ∧ ok (known res) v
  | _, _ => False

def Post (ρ0 : Env) (res0 : List Res) (w0 : World) (F0 : Nat → Prop) (K : Out → St → Prop) : Exit → Act → World → Prop := fun e a w =>
  ∃ out σ ρ fps, OutIs ρ σ.res e out ∧ K out σ ∧ Rep ρ fps σ w0 F0 a w ∧ Good ρ0 res0 ρ σ.res

theorem Post.noOut {ρ0 : Env} {res0 : List Res} {w0 : World} {F0 : Nat → Prop} {K : Out → St → Prop} : ¬ LetsOut (Post ρ0 res0 w0 F0 K) := by
  rintro ⟨a, w, out, σ, ρ, fps, h1, _⟩
  cases out <;> exact h1

theorem Post.mono {ρ0 : Env} {res0 : List Res} {w0 : World} {F0 : Nat → Prop} {K K' : Out → St → Prop} {e : Exit} {a : Act} {w : World} (h : Post ρ0 res0 w0 F0 K e a w) (hK : ∀ o σ, K o σ → K' o σ) :
    Post ρ0 res0 w0 F0 K' e a w :=
  let ⟨o, σ, ρ, fps, h1, h2, h3, h4⟩ := h
  ⟨o, σ, ρ, fps, h1, hK _ _ h2, h3, h4⟩

def ancAt (ds : List (Option Nat × Nat)) (i : Nat) : Nat :=
  match ds[i]? with
  | some p => p.2
  | none => 0

/-- Which operations are before one. -/
def maskOf (ds : List (Option Nat × Nat)) (es : List Edge) : Nat :=
  match es with
  | [] => 0
  | e :: l => if Region.binds .any e then (2 ^ e.on ||| ancAt ds e.on) ||| maskOf ds l else maskOf ds l

def dsGo : List Oper → List (Option Nat × Nat) → List (Option Nat × Nat)
  | [], acc => acc
  | o :: l, acc => dsGo l (acc ++ [(o.dst, maskOf acc o.after.toList)])

def optNe : Option Nat → Option Nat → Bool
  | some a, some b => !(a == b)
  | _, _ => true

def dist : List (Option Nat × Nat) → Bool
  | [] => true
  | p :: l => l.all (fun q => optNe p.1 q.1) && dist l

def okGo (ds : List (Option Nat × Nat)) : Nat → List Oper → List (Option Nat × Nat) → Bool
  | i, o :: l, d :: m => (match o.dst, d.1 with | none, none => true | some a, some b => a == b | _, _ => false) && maskOf ds o.after.toList == d.2 && Nat.ble (d.2 + 1) (2 ^ i)
      && (List.range i).all (fun j => !(Nat.testBit d.2 j) || ((ancAt ds j ||| d.2) == d.2)) && okGo ds (i + 1) l m
  | _, [], [] => true
  | _, _, _ => false

/-- What an operation sees of the slots. -/
def viewS (anc i : Nat) : Nat → List (Option Nat × Nat) → List S → List S → List S
  | j, (some d, _) :: ds, s :: done, sl => viewS anc i (j + 1) ds done (sset sl d (if Nat.testBit anc j then s else .und))
  | j, (some d, m) :: ds, [], sl => if j == i || Nat.testBit m i then viewS anc i (j + 1) ds [] sl else viewS anc i (j + 1) ds [] (sset sl d .und)
  | j, (none, _) :: ds, done, sl => viewS anc i (j + 1) ds done.tail sl
  | _, [], _, sl => sl

/-- What is known of an operation that was done. -/
structure Dr where
  s : S
  g : Bool
  q : Option Prop
  new : List Res

def yets : List Res → List Res
  | [] => []
  | _ :: l => .yet :: yets l

def viewR (p : Nat → Bool) : Nat → List Dr → List Res
  | _, [] => []
  | j, d :: l => match d.new with
    | [] => viewR p (j + 1) l
    | r :: n => (if p j then r :: n else .yet :: yets n) ++ viewR p (j + 1) l

def lens : List Dr → Nat
  | [] => 0
  | d :: l => d.new.length + lens l

def drS : List Dr → List S
  | [] => []
  | d :: l => d.s :: drS l

def guardIn (m : Nat) : Option (Nat × Bool) → Bool
  | none => true
  | some (j, _) => Nat.testBit m j

def planOp (C : Ctx) (ops : List Oper) (D : List S) (R : List Res) (nid : Nat) (o : Oper) : Option Dr :=
  match chainOf D ops o.guard with
  | none => none
  | some none => some { s := .ud, g := false, q := none, new := [] }
  | some (some ch) => match opRO C D R nid ch o.op with
    | some (q, x, new) => match ch with
      | [] => some { s := .v x, g := true, q := q, new := new }
      | c :: ch => if new.isEmpty then some { s := .gv (c :: ch) x, g := gOf D (c :: ch), q := q, new := [] } else none
    | none => none

def dstIn (n : Nat) : Option Nat → Bool
  | none => true
  | some d => Nat.blt d n

def planOne (C : Ctx) (ops : List Oper) (ds : List (Option Nat × Nat)) (sl : List S) (res : List Res) (done : List Dr) (i : Nat) (o : Oper) : Option Dr :=
  if guardIn (ancAt ds i) o.guard && dstIn sl.length o.dst then
    planOp C ops (viewS (ancAt ds i) i 0 ds (drS done) sl) (addR res (viewR (Nat.testBit (ancAt ds i)) 0 done)) (res.length + lens done) o
  else none

/-- All that can be done one by one; what is left. -/
def planGo (C : Ctx) (ops : List Oper) (ds : List (Option Nat × Nat)) (sl : List S) (res : List Res) : Nat → List Oper → List Dr → List Dr × List Oper
  | _, [], done => (done, [])
  | i, o :: l, done => match planOne C ops ds sl res done i o with
    | some d => planGo C ops ds sl res (i + 1) l (done ++ [d])
    | none => (done, o :: l)

def reqAll : List Dr → Prop → Prop
  | [], k => k
  | d :: l, k => match d.s with
    | .gv _ _ => reqG d.g d.q (reqAll l k)
    | _ => reqO d.q (reqAll l k)

def allM' (n : Nat) : Nat := 2 ^ n - 1

/-- The same in the order of evaluation. -/
def planK (C : Ctx) (ops : List Oper) (ds : List (Option Nat × Nat)) (sl : List S) (res : List Res) : Nat → List Oper → List Dr → (List Dr → List Oper → Prop) → Prop
  | _, [], done, k => k done []
  | i, o :: l, done, k => frcK (viewS (ancAt ds i) i 0 ds (drS done) sl) fun D =>
    match (if guardIn (ancAt ds i) o.guard && dstIn sl.length o.dst then planOp C ops D (addR res (viewR (Nat.testBit (ancAt ds i)) 0 done)) (res.length + lens done) o else none) with
    | some d => planK C ops ds sl res (i + 1) l (done ++ [d]) k
    | none => k done (o :: l)

theorem planK_eq (C : Ctx) (ops : List Oper) (ds : List (Option Nat × Nat)) (sl : List S) (res : List Res) : ∀ (l : List Oper) (i : Nat) (done : List Dr) (k : List Dr → List Oper → Prop),
    planK C ops ds sl res i l done k = k (planGo C ops ds sl res i l done).1 (planGo C ops ds sl res i l done).2
  | [], _, _, _ => rfl
  | o :: l, i, done, k => by
    simp only [planK, planGo, frcK_eq, planOne]
    split
    · rename_i d hd
      exact planK_eq C ops ds sl res l (i + 1) (done ++ [d]) k
    · rename_i hd
      rfl

/-- The rest of a region, each behind all before it. -/
def tailS (C : Ctx) (H : Handler) (Y : YHandler) (ops : List Oper) : List Oper → St → (Out → St → Prop) → Prop
  | [], σ, K => cleanK σ.slots fun sl => K .norm { σ with slots := sl }
  | o :: l, σ, K => stepS C H Y ops o σ (fun σ' => tailS C H Y ops l σ' K) (fun v σ' => K (.pan v) σ')
def tailOK (ds : List (Option Nat × Nat)) : Nat → List Oper → Bool
  | _, [] => true
  | i, _ :: l => ancAt ds i == allM' i && tailOK ds (i + 1) l

/-- The one operation that is not before another one. -/
def lateOf (m n : Nat) : Option Nat := (List.range n).find? fun e => !(Nat.testBit m e) && (m ||| 2 ^ e) == allM' n
def opNe (o : Operand) (d : Nat) : Bool :=
  match o with
  | .tmp s => !(s == d)
  | _ => true
/-- A store that need not wait for a part of a tuple that is taken out. -/
def tailLate (ops : List Oper) (ds : List (Option Nat × Nat)) (n : Nat) (o : Oper) (l : List Oper) : Bool :=
  match o.op with
  | .store _ p x => match o.dst with
    | none => match o.guard with
      | none => match lateOf (ancAt ds n) n with
        | some e => match ops[e]? with
          | some oe => match oe.op with
            | .extract y _ => match oe.dst with
              | some d => match oe.guard with
                | none => opNe p d && opNe x d && opNe y d && tailOK ds (n + 1) l
                | some _ => false
              | none => false
            | _ => false
          | none => false
        | none => false
      | some _ => false
    | some _ => false
  | _ => false

def drawEnd (C : Ctx) (H : Handler) (Y : YHandler) (ops : List Oper) (ds : List (Option Nat × Nat)) (σ : St) (K : Out → St → Prop) (drs : List Dr) (rest : List Oper) : Prop :=
  reqAll drs (match rest with
    | [] => frcK (viewS (allM' drs.length) drs.length 0 ds (drS drs) (clean σ.slots)) fun sl => cleanK sl fun sl => K .norm { σ with slots := sl, res := addR σ.res (viewR (fun _ => true) 0 drs) }
    | o :: l => if tailOK ds drs.length (o :: l) || tailLate ops ds drs.length o l then
        frcK (viewS (allM' drs.length) drs.length 0 ds (drS drs) (clean σ.slots)) fun sl => tailS C H Y ops (o :: l) { σ with slots := sl, res := addR σ.res (viewR (fun _ => true) 0 drs) } K
      else False)

def drawGo (C : Ctx) (H : Handler) (Y : YHandler) (ops : List Oper) (ds : List (Option Nat × Nat)) (σ : St) (K : Out → St → Prop) : Prop :=
  if okGo ds 0 ops ds && dist ds then
    cleanK σ.slots fun sl => planK C ops ds sl σ.res 0 ops [] fun drs rest => drawEnd C H Y ops ds σ K drs rest
  else False

/-- A region whose order is drawn. -/
def drawS (C : Ctx) (H : Handler) (Y : YHandler) (ops : List Oper) (σ : St) (K : Out → St → Prop) : Prop := drawGo C H Y ops (dsGo ops []) σ K

theorem testBit_mask {ds : List (Option Nat × Nat)} {k : Nat} : ∀ {es : List Edge}, (maskOf ds es).testBit k = true ↔ ∃ e ∈ es, Region.binds .any e = true ∧ (e.on = k ∨ (ancAt ds e.on).testBit k = true)
  | [] => by simp [maskOf]
  | e :: l => by
    have ih := testBit_mask (ds := ds) (k := k) (es := l)
    simp only [maskOf, List.mem_cons, exists_eq_or_imp]
    split
    · rename_i h
      simp only [Nat.testBit_or, Bool.or_eq_true, ih, h, true_and, Nat.testBit_two_pow, decide_eq_true_eq]
    · rename_i h
      simp [ih, h]

theorem viewS_length (anc i : Nat) : ∀ (ds : List (Option Nat × Nat)) (j : Nat) (done sl : List S), (viewS anc i j ds done sl).length = sl.length
  | [], j, done, sl => by simp [viewS]
  | (none, m) :: ds, j, done, sl => by simp only [viewS]; exact viewS_length anc i ds _ _ _
  | (some d, m) :: ds, j, s :: done, sl => by simp only [viewS]; rw [viewS_length anc i ds _ _ _, sset_length]
  | (some d, m) :: ds, j, [], sl => by
    simp only [viewS]
    split
    · exact viewS_length anc i ds _ _ _
    · rw [viewS_length anc i ds _ _ _, sset_length]

theorem viewS_cases (anc i t : Nat) : ∀ (ds : List (Option Nat × Nat)) (j : Nat) (done sl : List S),
    sget (viewS anc i j ds done sl) t = .und ∨
    (∃ k m s, ds[k]? = some (some t, m) ∧ done[k]? = some s ∧ anc.testBit (j + k) = true ∧ sget (viewS anc i j ds done sl) t = s) ∨
    (sget (viewS anc i j ds done sl) t = sget sl t ∧ ∀ k m, ds[k]? = some (some t, m) → done.length ≤ k ∧ (j + k = i ∨ m.testBit i = true))
  | [], j, done, sl => .inr (.inr ⟨by simp [viewS], by simp⟩)
  | (none, m) :: ds, j, done, sl => by
    simp only [viewS]
    rcases viewS_cases anc i t ds (j + 1) done.tail sl with h | ⟨k, m', s, h1, h2, h3, h4⟩ | ⟨h1, h2⟩
    · exact .inl h
    · refine .inr (.inl ⟨k + 1, m', s, by simpa using h1, ?_, by rw [show j + (k + 1) = j + 1 + k by omega]; exact h3, h4⟩)
      cases done <;> first | (simp at h2; done) | simpa using h2
    · refine .inr (.inr ⟨h1, fun k m' hk => ?_⟩)
      cases k with
      | zero => simp at hk
      | succ k =>
        obtain ⟨a, b⟩ := h2 k m' (by simpa using hk)
        refine ⟨?_, by rw [show j + (k + 1) = j + 1 + k by omega]; exact b⟩
        cases done with
        | nil => simp
        | cons x l => simpa using a
  | (some d, m) :: ds, j, s :: done, sl => by
    simp only [viewS]
    rcases viewS_cases anc i t ds (j + 1) done (sset sl d (if anc.testBit j = true then s else .und)) with h | ⟨k, m', s', h1, h2, h3, h4⟩ | ⟨h1, h2⟩
    · exact .inl h
    · exact .inr (.inl ⟨k + 1, m', s', by simpa using h1, by simpa using h2, by rw [show j + (k + 1) = j + 1 + k by omega]; exact h3, h4⟩)
    · rw [sget_sset] at h1
      by_cases e : t = d ∧ d < sl.length
      · rw [if_pos e] at h1
        obtain ⟨rfl, hd⟩ := e
        by_cases hb : anc.testBit j = true
        · rw [if_pos hb] at h1
          exact .inr (.inl ⟨0, m, s, by simp, by simp, by simpa using hb, by rw [if_pos hb]; exact h1⟩)
        · rw [if_neg hb] at h1
          exact .inl (by rw [if_neg hb]; exact h1)
      · rw [if_neg e] at h1
        by_cases e' : t = d
        · subst e'
          have hl : ¬ t < sl.length := fun hh => e ⟨rfl, hh⟩
          refine .inl ?_
          rw [h1, sget_eq, List.getD_eq_getElem?_getD, List.getElem?_eq_none (by omega)]; rfl
        · refine .inr (.inr ⟨h1, fun k m' hk => ?_⟩)
          cases k with
          | zero => simp only [List.getElem?_cons_zero, Option.some.injEq, Prod.mk.injEq] at hk; exact absurd hk.1.symm e'
          | succ k =>
            obtain ⟨a, b⟩ := h2 k m' (by simpa using hk)
            exact ⟨by simpa using a, by rw [show j + (k + 1) = j + 1 + k by omega]; exact b⟩
  | (some d, m) :: ds, j, [], sl => by
    simp only [viewS]
    split
    · rename_i hc
      rcases viewS_cases anc i t ds (j + 1) [] sl with h | ⟨k, m', s', h1, h2, h3, h4⟩ | ⟨h1, h2⟩
      · exact .inl h
      · simp at h2
      · refine .inr (.inr ⟨h1, fun k m' hk => ⟨by simp, ?_⟩⟩)
        cases k with
        | zero =>
          simp only [List.getElem?_cons_zero, Option.some.injEq, Prod.mk.injEq] at hk
          obtain ⟨_, rfl⟩ := hk
          simpa using hc
        | succ k =>
          obtain ⟨a, b⟩ := h2 k m' (by simpa using hk)
          rw [show j + (k + 1) = j + 1 + k by omega]; exact b
    · rename_i hc
      rcases viewS_cases anc i t ds (j + 1) [] (sset sl d .und) with h | ⟨k, m', s', h1, h2, h3, h4⟩ | ⟨h1, h2⟩
      · exact .inl h
      · simp at h2
      · rw [sget_sset] at h1
        by_cases e : t = d ∧ d < sl.length
        · rw [if_pos e] at h1; exact .inl h1
        · rw [if_neg e] at h1
          by_cases e' : t = d
          · subst e'
            have hl : ¬ t < sl.length := fun hh => e ⟨rfl, hh⟩
            refine .inl ?_
            rw [h1, sget_eq, List.getD_eq_getElem?_getD, List.getElem?_eq_none (by omega)]; rfl
          · refine .inr (.inr ⟨h1, fun k m' hk => ⟨by simp, ?_⟩⟩)
            cases k with
            | zero => simp only [List.getElem?_cons_zero, Option.some.injEq, Prod.mk.injEq] at hk; exact absurd hk.1.symm e'
            | succ k =>
              obtain ⟨a, b⟩ := h2 k m' (by simpa using hk)
              rw [show j + (k + 1) = j + 1 + k by omega]; exact b

theorem optNe_spec {a b : Option Nat} (h : optNe a b = true) {t : Nat} (ha : a = some t) (hb : b = some t) : False := by
  subst ha; subst hb; simp [optNe] at h

theorem dist_spec : ∀ {ds : List (Option Nat × Nat)}, dist ds = true → ∀ {j k t m m' : Nat}, ds[j]? = some (some t, m) → ds[k]? = some (some t, m') → j = k
  | [], _, j, k, t, m, m', h, _ => by simp at h
  | p :: l, hd, j, k, t, m, m', hj, hk => by
    simp only [dist, Bool.and_eq_true, List.all_eq_true] at hd
    cases j with
    | zero =>
      cases k with
      | zero => rfl
      | succ k =>
        simp only [List.getElem?_cons_zero, Option.some.injEq] at hj
        have := hd.1 _ (List.mem_of_getElem? (by simpa using hk))
        exact (optNe_spec this (by rw [hj]) rfl).elim
    | succ j =>
      cases k with
      | zero =>
        simp only [List.getElem?_cons_zero, Option.some.injEq] at hk
        have := hd.1 _ (List.mem_of_getElem? (by simpa using hj))
        exact (optNe_spec this (by rw [hk]) rfl).elim
      | succ k => exact congrArg (· + 1) (dist_spec hd.2 (t := t) (m := m) (m' := m') (by simpa using hj) (by simpa using hk))

/-- What is seen of a slot that a seen operation writes. -/
theorem viewS_at {anc i t : Nat} : ∀ {ds : List (Option Nat × Nat)} (_ : dist ds = true) {j : Nat} {done sl : List S} {k m : Nat} {s : S}, ds[k]? = some (some t, m) → done[k]? = some s → anc.testBit (j + k) = true →
    t < sl.length → sget (viewS anc i j ds done sl) t = s
  | (none, m0) :: ds, hd, j, done, sl, k, m, s, h1, h2, h3, ht => by
    simp only [dist, Bool.and_eq_true] at hd
    cases k with
    | zero => simp at h1
    | succ k =>
      simp only [viewS]
      refine viewS_at hd.2 (k := k) (by simpa using h1) ?_ (by rw [show j + 1 + k = j + (k + 1) by omega]; exact h3) ht
      cases done <;> first | (simp at h2; done) | simpa using h2
  | (some d, m0) :: ds, hd, j, [], sl, k, m, s, h1, h2, h3, ht => by simp at h2
  | (some d, m0) :: ds, hd, j, x :: done, sl, k, m, s, h1, h2, h3, ht => by
    have hd' := hd
    simp only [dist, Bool.and_eq_true] at hd
    cases k with
    | succ k =>
      simp only [viewS]
      exact viewS_at hd.2 (k := k) (by simpa using h1) (by simpa using h2) (by rw [show j + 1 + k = j + (k + 1) by omega]; exact h3) (by rw [sset_length]; exact ht)
    | zero =>
      simp only [List.getElem?_cons_zero, Option.some.injEq, Prod.mk.injEq] at h1 h2
      obtain ⟨rfl, rfl⟩ := h1
      subst h2
      simp only [viewS]
      simp only [Nat.add_zero] at h3
      have hno : ∀ (k m' : Nat), ds[k]? = some (some d, m') → False := fun k m' hk => by
        have := dist_spec hd' (j := 0) (k := k + 1) (t := d) (m := m0) (m' := m') (by simp) (by simpa using hk)
        omega
      have key : ∀ (ds : List (Option Nat × Nat)) (j : Nat) (done sl : List S), (∀ (k m' : Nat), ds[k]? = some (some d, m') → False) → sget (viewS anc i j ds done sl) d = sget sl d := by
        intro ds
        induction ds with
        | nil => intro j done sl _; simp [viewS]
        | cons p ds ih =>
          intro j done sl hn
          have hn' : ∀ (k m' : Nat), ds[k]? = some (some d, m') → False := fun k m' hk => hn (k + 1) m' (by simpa using hk)
          obtain ⟨a, b⟩ := p
          cases a with
          | none => simp only [viewS]; exact ih _ _ _ hn'
          | some e =>
            have hne : d ≠ e := fun he => hn 0 b (by simp [he])
            have hss : ∀ (sl : List S) (y : S), sget (sset sl e y) d = sget sl d := fun sl y => by rw [sget_sset, if_neg fun h => hne h.1]
            cases done with
            | nil =>
              simp only [viewS]
              split
              · exact ih _ _ _ hn'
              · rw [ih _ _ _ hn', hss]
            | cons y done => simp only [viewS]; rw [ih _ _ _ hn', hss]
      rw [key _ _ _ _ hno, sget_sset, if_pos ⟨rfl, ht⟩, if_pos h3]
  | [], _, j, done, sl, k, m, s, h1, h2, h3, ht => by simp at h1

theorem viewS_out {anc i t : Nat} {ds : List (Option Nat × Nat)} {j : Nat} {done sl : List S} (ht : ¬ t < sl.length) : sget (viewS anc i j ds done sl) t = .und := by
  rw [sget_eq, List.getD_eq_getElem?_getD, List.getElem?_eq_none (by rw [viewS_length]; omega)]; rfl

/- The places. -/

def locate : List Dr → Nat → Option (Nat × Nat)
  | [], _ => none
  | d :: l, x => if x < d.new.length then some (0, x) else (locate l (x - d.new.length)).map fun p => (p.1 + 1, p.2)

theorem yets_length : ∀ l, (yets l).length = l.length
  | [] => rfl
  | _ :: l => by simp [yets, yets_length l]

theorem rget_yets : ∀ (l : List Res) (x : Nat), rget (yets l) x = .yet
  | [], x => by simp [yets, rget]
  | _ :: l, 0 => by simp [yets, rget]
  | _ :: l, x + 1 => by simp [yets, rget, rget_yets l x]

theorem viewR_cons (p : Nat → Bool) (j : Nat) (d : Dr) (l : List Dr) : viewR p j (d :: l) = (if p j then d.new else yets d.new) ++ viewR p (j + 1) l := by
  simp only [viewR]
  cases h : d.new with
  | nil => simp [yets]
  | cons r n => simp [yets]

theorem viewR_get (p : Nat → Bool) : ∀ (l : List Dr) (j x : Nat), rget (viewR p j l) x = match locate l x with
    | some (k, y) => if p (j + k) then (match l[k]? with | some d => rget d.new y | none => .yet) else .yet
    | none => .yet
  | [], j, x => by simp [viewR, locate, rget]
  | d :: l, j, x => by
    rw [viewR_cons, rget_append]
    have hlen : (if p j = true then d.new else yets d.new).length = d.new.length := by split <;> simp [yets_length]
    rw [hlen]
    simp only [locate]
    split
    · simp only [Nat.add_zero, List.getElem?_cons_zero]
      split <;> simp [rget_yets]
    · rw [viewR_get p l (j + 1) (x - d.new.length)]
      cases hl : locate l (x - d.new.length) with
      | none => simp
      | some q =>
        obtain ⟨k, y⟩ := q
        simp only [Option.map_some, List.getElem?_cons_succ]
        rw [show j + 1 + k = j + (k + 1) by omega]

theorem viewR_length (p : Nat → Bool) : ∀ (l : List Dr) (j : Nat), (viewR p j l).length = lens l
  | [], j => by simp [viewR, lens]
  | d :: l, j => by
    rw [viewR_cons, List.length_append, viewR_length p l, lens]
    split <;> simp [yets_length]

theorem locate_spec : ∀ (l : List Dr) (x k y : Nat), locate l x = some (k, y) ↔ (∃ d, l[k]? = some d ∧ y < d.new.length) ∧ x = lens (l.take k) + y
  | [], x, k, y => by simp [locate]
  | d :: l, x, k, y => by
    simp only [locate]
    cases k with
    | zero =>
      simp only [List.getElem?_cons_zero, Option.some.injEq, exists_eq_left', List.take_zero, lens, Nat.zero_add]
      split
      · simp only [Option.some.injEq, Prod.mk.injEq, true_and]
        exact ⟨fun h => ⟨by omega, h⟩, fun h => h.2⟩
      · rename_i hx
        constructor
        · intro h
          cases hl : locate l (x - d.new.length) <;> simp [hl] at h
        · intro h; omega
    | succ k =>
      simp only [List.getElem?_cons_succ, List.take_succ_cons, lens]
      split
      · rename_i hx
        simp only [Option.some.injEq, Prod.mk.injEq]
        constructor
        · intro h; omega
        · rintro ⟨_, h⟩; omega
      · rename_i hx
        have ih := locate_spec l (x - d.new.length) k y
        constructor
        · intro h
          cases hl : locate l (x - d.new.length) with
          | none => simp [hl] at h
          | some q =>
            obtain ⟨a, b⟩ := q
            simp only [hl, Option.map_some, Option.some.injEq, Prod.mk.injEq] at h
            have : locate l (x - d.new.length) = some (k, y) := by rw [hl]; simp; omega
            obtain ⟨g1, g2⟩ := ih.1 this
            exact ⟨g1, by omega⟩
        · rintro ⟨g1, g2⟩
          rw [ih.2 ⟨g1, by omega⟩]; rfl
end Go.Sx
