/- The executor: a region whose order is drawn. No condition. -/
import Derived.Test.YtfalhknkaebfoaaSxD
set_option linter.unusedVariables false
set_option linter.unusedSimpArgs false
namespace Go.Sx
open Go.RowKit (Below)

/-- How a piece of code ends. -/
inductive Out where
  | norm
  | exit (i : Nat)
  | goto (l : Nat)
  | ret
  | pan (v : V)

/-- One way to end is another's. -/
def OutIs (ρ : Env) (res : List Res) : Exit → Out → Prop
  | .normal, .norm => True
  | .exit i, .exit j => i = j
  | .goto i, .goto j => i = j
  | .ret, .ret => True
  | .panic chain, .pan v => chain = [{ v := den ρ v, recovered := false }] ∧ ok (known res) v
  | _, _ => False

def Post (ρ0 : Env) (res0 : List Res) (w0 : World) (F0 : Nat → Prop) (K : Out → St → Prop) : Exit → Act → World → Prop := fun e a w =>
  ∃ out σ ρ fps, OutIs ρ σ.res e out ∧ K out σ ∧ Rep ρ fps σ w0 F0 a w ∧ Good ρ0 res0 ρ σ.res

theorem Post.noOut {ρ0 : Env} {res0 : List Res} {w0 : World} {F0 : Nat → Prop} {K : Out → St → Prop} : ¬ LetsOut (Post ρ0 res0 w0 F0 K) := by
  rintro ⟨a, w, out, σ, ρ, fps, h1, _⟩
  cases out <;> exact h1

theorem Post.mono {ρ0 : Env} {res0 : List Res} {w0 : World} {F0 : Nat → Prop} {K K' : Out → St → Prop} {e : Exit} {a : Act} {w : World} (h : Post ρ0 res0 w0 F0 K e a w) (hK : ∀ o σ, K o σ → K' o σ) :
    Post ρ0 res0 w0 F0 K' e a w :=
  let ⟨o, σ, ρ, fps, h1, h2, h3, h4⟩ := h
  ⟨o, σ, ρ, fps, h1, hK _ _ h2, h3, h4⟩

def ancAt (ds : List (Option Nat × Nat)) (i : Nat) : Nat :=
  match ds[i]? with
  | some p => p.2
  | none => 0

/-- Which operations are before one. -/
def maskOf (ds : List (Option Nat × Nat)) (es : List Edge) : Nat :=
  match es with
  | [] => 0
  | e :: l => if Region.binds .any e then (2 ^ e.on ||| ancAt ds e.on) ||| maskOf ds l else maskOf ds l

def dsGo : List Oper → List (Option Nat × Nat) → List (Option Nat × Nat)
  | [], acc => acc
  | o :: l, acc => dsGo l (acc ++ [(o.dst, maskOf acc o.after.toList)])

def optNe : Option Nat → Option Nat → Bool
  | some a, some b => !(a == b)
  | _, _ => true

def dist : List (Option Nat × Nat) → Bool
  | [] => true
  | p :: l => l.all (fun q => optNe p.1 q.1) && dist l

def okGo (ds : List (Option Nat × Nat)) : Nat → List Oper → List (Option Nat × Nat) → Bool
  | i, o :: l, d :: m => (match o.dst, d.1 with | none, none => true | some a, some b => a == b | _, _ => false) && maskOf ds o.after.toList == d.2 && Nat.ble (d.2 + 1) (2 ^ i)
      && (List.range i).all (fun j => !(Nat.testBit d.2 j) || ((ancAt ds j ||| d.2) == d.2)) && okGo ds (i + 1) l m
  | _, [], [] => true
  | _, _, _ => false

/-- What an operation sees of the slots. -/
def viewS (anc i : Nat) : Nat → List (Option Nat × Nat) → List S → List S → List S
  | j, (some d, _) :: ds, s :: done, sl => viewS anc i (j + 1) ds done (sset sl d (if Nat.testBit anc j then s else .und))
  | j, (some d, m) :: ds, [], sl => if j == i || Nat.testBit m i then viewS anc i (j + 1) ds [] sl else viewS anc i (j + 1) ds [] (sset sl d .und)
  | j, (none, _) :: ds, done, sl => viewS anc i (j + 1) ds done.tail sl
  | _, [], _, sl => sl

/-- What is known of an operation that was done. -/
structure Dr where
  s : S
  g : Bool
  q : Option Prop
  new : List Res
  up : Option (Nat × Res) := none

def yets : List Res → List Res
  | [] => []
  | _ :: l => .yet :: yets l

def viewR (p : Nat → Bool) : Nat → List Dr → List Res
  | _, [] => []
  | j, d :: l => match d.new with
    | [] => viewR p (j + 1) l
    | r :: n => (if p j then r :: n else .yet :: yets n) ++ viewR p (j + 1) l

def lens : List Dr → Nat
  | [] => 0
  | d :: l => d.new.length + lens l

def drS : List Dr → List S
  | [] => []
  | d :: l => d.s :: drS l

def guardIn (m : Nat) : Option (Nat × Bool) → Bool
  | none => true
  | some (j, _) => Nat.testBit m j

def planOp (C : Ctx) (ops : List Oper) (D : List S) (R : List Res) (nid : Nat) (o : Oper) : Option Dr :=
  if abB C.P D o then match chainOf D ops o.guard with
  | none => none
  | some none => some { s := .ud, g := false, q := none, new := [] }
  | some (some ch) => match opRO C D R nid ch o.op with
    | some (q, x, new) => match ch with
      | [] => some { s := .v x, g := true, q := q, new := new }
      | c :: ch => if new.isEmpty then some { s := .gv (c :: ch) x, g := gOf D (c :: ch), q := q, new := [] } else none
    | none => none
  else none

def dstIn (n : Nat) : Option Nat → Bool
  | none => true
  | some d => Nat.blt d n

/-- Places behind the stores that were done. -/
def upV (p : Nat → Bool) : Nat → List Dr → List Res → List Res
  | _, [], R => R
  | j, d :: l, R => match d.up with
    | none => upV p (j + 1) l R
    | some u => if p j then upV p (j + 1) l (rset R u.1 u.2) else upV p (j + 1) l R
/-- Places that a store changes, of which it is open whether it is ahead, are not seen. -/
def hideV (ds : List (Option Nat × Nat)) (i : Nat) : List (Nat × Nat) → List Res → List Res
  | [], R => R
  | u :: h, R => if u.1 == i || Nat.testBit (ancAt ds i) u.1 || Nat.testBit (ancAt ds u.1) i then hideV ds i h R else hideV ds i h (rset R u.2 .yet)
def vw (ds : List (Option Nat × Nat)) (hid : List (Nat × Nat)) (res : List Res) (done : List Dr) (i : Nat) : List Res :=
  hideV ds i hid (upV (Nat.testBit (ancAt ds i)) 0 done (addR res (viewR (Nat.testBit (ancAt ds i)) 0 done)))
def upsOf : Nat → List Dr → List (Nat × Nat)
  | _, [] => []
  | j, d :: l => match d.up with
    | none => upsOf (j + 1) l
    | some u => (j, u.1) :: upsOf (j + 1) l
def upsIn : List (Nat × Nat) → List (Nat × Nat) → Bool
  | [], [] => true
  | a :: l, b :: m => a.1 == b.1 && a.2 == b.2 && upsIn l m
  | _, _ => false

/-- A store into a block. -/
def planSt (C : Ctx) (D : List S) (R : List Res) (o : Oper) : Option Dr :=
  match o.op with
  | .store t p x => match o.dst with
    | none => match o.guard with
      | none => match oval D [] p with
        | some pv => match pv with
          | .lp id off => match oval D [] x with
            | some y => if tsz C.P t == some (vsz y) && !isTp y then match rget R id with
                | .blk ty c => match setAt 8 c off y with
                  | some c' => some { s := .und, g := true, q := none, new := [], up := some (id, .blk ty c') }
                  | none => none
                | _ => none
              else none
            | none => none
          | _ => none
        | none => none
      | some _ => none
    | some _ => none
  | _ => none

def planOp2 (C : Ctx) (ops : List Oper) (st : Bool) (D : List S) (R : List Res) (nid : Nat) (o : Oper) : Option Dr :=
  match planOp C ops D R nid o with
  | some d => some d
  | none => if st then planSt C D R o else none

def planOne (C : Ctx) (ops : List Oper) (ds : List (Option Nat × Nat)) (sl : List S) (res : List Res) (st : Bool) (hid : List (Nat × Nat)) (done : List Dr) (i : Nat) (o : Oper) : Option Dr :=
  if guardIn (ancAt ds i) o.guard && dstIn sl.length o.dst then
    planOp2 C ops st (viewS (ancAt ds i) i 0 ds (drS done) sl) (vw ds hid res done i) (res.length + lens done) o
  else none

/-- All that can be done one by one; what is left. -/
def planGo (C : Ctx) (ops : List Oper) (ds : List (Option Nat × Nat)) (sl : List S) (res : List Res) (st : Bool) (hid : List (Nat × Nat)) : Nat → List Oper → List Dr → List Dr × List Oper
  | _, [], done => (done, [])
  | i, o :: l, done => match planOne C ops ds sl res st hid done i o with
    | some d => planGo C ops ds sl res st hid (i + 1) l (done ++ [d])
    | none => (done, o :: l)

def reqAll : List Dr → Prop → Prop
  | [], k => k
  | d :: l, k => match d.s with
    | .gv _ _ => reqG d.g d.q (reqAll l k)
    | _ => reqO d.q (reqAll l k)

def allM' (n : Nat) : Nat := 2 ^ n - 1

/-- The same in the order of evaluation. -/
def planK (C : Ctx) (ops : List Oper) (ds : List (Option Nat × Nat)) (sl : List S) (res : List Res) (st : Bool) (hid : List (Nat × Nat)) : Nat → List Oper → List Dr → (List Dr → List Oper → Prop) → Prop
  | _, [], done, k => k done []
  | i, o :: l, done, k => frcK (viewS (ancAt ds i) i 0 ds (drS done) sl) fun D =>
    match (if guardIn (ancAt ds i) o.guard && dstIn sl.length o.dst then planOp2 C ops st D (vw ds hid res done i) (res.length + lens done) o else none) with
    | some d => planK C ops ds sl res st hid (i + 1) l (done ++ [d]) k
    | none => k done (o :: l)

theorem planK_eq (C : Ctx) (ops : List Oper) (ds : List (Option Nat × Nat)) (sl : List S) (res : List Res) (st : Bool) (hid : List (Nat × Nat)) : ∀ (l : List Oper) (i : Nat) (done : List Dr) (k : List Dr → List Oper → Prop),
    planK C ops ds sl res st hid i l done k = k (planGo C ops ds sl res st hid i l done).1 (planGo C ops ds sl res st hid i l done).2
  | [], _, _, _ => rfl
  | o :: l, i, done, k => by
    simp only [planK, planGo, frcK_eq, planOne]
    split
    · rename_i d hd
      exact planK_eq C ops ds sl res st hid l (i + 1) (done ++ [d]) k
    · rename_i hd
      rfl

/-- The rest of a region, each behind all before it. -/
def tailS (C : Ctx) (H : Handler) (Y : YHandler) (ops : List Oper) : List Oper → St → (Out → St → Prop) → Prop
  | [], σ, K => cleanK σ.slots fun sl => K .norm { σ with slots := sl }
  | o :: l, σ, K => stepS C H Y ops o σ (fun σ' => tailS C H Y ops l σ' K) (fun v σ' => K (.pan v) σ')
def tailOK (ds : List (Option Nat × Nat)) : Nat → List Oper → Bool
  | _, [] => true
  | i, _ :: l => ancAt ds i == allM' i && tailOK ds (i + 1) l

/-- The one operation that is not before another one. -/
def lateOf (m n : Nat) : Option Nat := (List.range n).find? fun e => !(Nat.testBit m e) && (m ||| 2 ^ e) == allM' n
def opNe (o : Operand) (d : Nat) : Bool :=
  match o with
  | .tmp s => !(s == d)
  | _ => true
/-- A store that need not wait for a part of a tuple that is taken out. -/
def tailLate (ops : List Oper) (ds : List (Option Nat × Nat)) (n : Nat) (o : Oper) (l : List Oper) : Bool :=
  match o.op with
  | .store _ p x => match o.dst with
    | none => match o.guard with
      | none => match lateOf (ancAt ds n) n with
        | some e => match ops[e]? with
          | some oe => match oe.op with
            | .extract y _ => match oe.dst with
              | some d => match oe.guard with
                | none => opNe p d && opNe x d && opNe y d && tailOK ds (n + 1) l
                | some _ => false
              | none => false
            | _ => false
          | none => false
        | none => false
      | some _ => false
    | some _ => false
  | _ => false

/-- An operation that takes a value, or a part of a tuple. -/
def srcOf (o : Oper) : Option Operand :=
  match o.op with
  | .move x => some x
  | .assign x => some x
  | .extract x _ => some x
  | _ => none
def isPure (o : Oper) : Bool :=
  match o.guard with
  | none => match o.dst with
    | some _ => (srcOf o).isSome
    | none => false
  | some _ => false
def apart (x y : Oper) : Bool :=
  match srcOf x, x.dst, srcOf y, y.dst with
  | some sx, some dx, some sy, some dy => opNe sy dx && opNe sx dy && !(dx == dy)
  | _, _, _, _ => false
def pairsOK (ds : List (Option Nat × Nat)) (j : Nat) (x : Oper) : Nat → List Oper → Bool
  | _, [] => true
  | i, y :: l => (Nat.testBit (ancAt ds i) j || apart x y) && pairsOK ds j x (i + 1) l
def pureOK (ds : List (Option Nat × Nat)) (n : Nat) : Nat → List Oper → Bool
  | _, [] => true
  | i, x :: l => isPure x && (ancAt ds i ||| allM' (n + 1)) == ancAt ds i && pairsOK ds i x (i + 1) l && pureOK ds n (i + 1) l
/-- Behind an operation that waits for all before it: what only takes values. -/
def tailPure (ds : List (Option Nat × Nat)) (n : Nat) (l : List Oper) : Bool := ancAt ds n == allM' n && pureOK ds n (n + 1) l

/-- The places behind all. -/
def avAll (res : List Res) (drs : List Dr) : List Res := upV (fun _ => true) 0 drs (addR res (viewR (fun _ => true) 0 drs))

def endOK (ops : List Oper) (ds : List (Option Nat × Nat)) (n : Nat) : List Oper → Bool
  | [] => true
  | o :: l => tailOK ds n (o :: l) || tailLate ops ds n o l || tailPure ds n l

def drawEnd (C : Ctx) (H : Handler) (Y : YHandler) (ops : List Oper) (ds : List (Option Nat × Nat)) (σ : St) (K : Out → St → Prop) (drs : List Dr) (rest : List Oper) : Prop :=
  reqAll drs (match rest with
    | [] => frcK (viewS (allM' drs.length) drs.length 0 ds (drS drs) (clean σ.slots)) fun sl => cleanK sl fun sl => K .norm { σ with slots := sl, res := avAll σ.res drs }
    | o :: l => if tailOK ds drs.length (o :: l) || tailLate ops ds drs.length o l || tailPure ds drs.length l then
        frcK (viewS (allM' drs.length) drs.length 0 ds (drS drs) (clean σ.slots)) fun sl => tailS C H Y ops (o :: l) { σ with slots := sl, res := avAll σ.res drs } K
      else False)

def drawGo (C : Ctx) (H : Handler) (Y : YHandler) (ops : List Oper) (ds : List (Option Nat × Nat)) (σ : St) (K : Out → St → Prop) (alt : Prop) : Prop :=
  if okGo ds 0 ops ds && dist ds then
    cleanK σ.slots fun sl => planK C ops ds sl σ.res false [] 0 ops [] fun drs rest =>
      if endOK ops ds drs.length rest then drawEnd C H Y ops ds σ K drs rest
      else planK C ops ds sl σ.res true [] 0 ops [] fun drs1 _ => planK C ops ds sl σ.res true (upsOf 0 drs1) 0 ops [] fun drs2 rest2 =>
        if upsIn (upsOf 0 drs2) (upsOf 0 drs1) && endOK ops ds drs2.length rest2 then drawEnd C H Y ops ds σ K drs2 rest2 else alt
  else False

/-- A region whose order is drawn. -/
def drawS (C : Ctx) (H : Handler) (Y : YHandler) (ops : List Oper) (σ : St) (K : Out → St → Prop) (alt : Prop) : Prop := drawGo C H Y ops (dsGo ops []) σ K alt

theorem testBit_mask {ds : List (Option Nat × Nat)} {k : Nat} : ∀ {es : List Edge}, (maskOf ds es).testBit k = true ↔ ∃ e ∈ es, Region.binds .any e = true ∧ (e.on = k ∨ (ancAt ds e.on).testBit k = true)
  | [] => by simp [maskOf]
  | e :: l => by
    have ih := testBit_mask (ds := ds) (k := k) (es := l)
    simp only [maskOf, List.mem_cons, exists_eq_or_imp]
    split
    · rename_i h
      simp only [Nat.testBit_or, Bool.or_eq_true, ih, h, true_and, Nat.testBit_two_pow, decide_eq_true_eq]
    · rename_i h
      simp [ih, h]

theorem viewS_length (anc i : Nat) : ∀ (ds : List (Option Nat × Nat)) (j : Nat) (done sl : List S), (viewS anc i j ds done sl).length = sl.length
  | [], j, done, sl => by simp [viewS]
  | (none, m) :: ds, j, done, sl => by simp only [viewS]; exact viewS_length anc i ds _ _ _
  | (some d, m) :: ds, j, s :: done, sl => by simp only [viewS]; rw [viewS_length anc i ds _ _ _, sset_length]
  | (some d, m) :: ds, j, [], sl => by
    simp only [viewS]
    split
    · exact viewS_length anc i ds _ _ _
    · rw [viewS_length anc i ds _ _ _, sset_length]

theorem viewS_cases (anc i t : Nat) : ∀ (ds : List (Option Nat × Nat)) (j : Nat) (done sl : List S),
    sget (viewS anc i j ds done sl) t = .und ∨
    (∃ k m s, ds[k]? = some (some t, m) ∧ done[k]? = some s ∧ anc.testBit (j + k) = true ∧ sget (viewS anc i j ds done sl) t = s) ∨
    (sget (viewS anc i j ds done sl) t = sget sl t ∧ ∀ k m, ds[k]? = some (some t, m) → done.length ≤ k ∧ (j + k = i ∨ m.testBit i = true))
  | [], j, done, sl => .inr (.inr ⟨by simp [viewS], by simp⟩)
  | (none, m) :: ds, j, done, sl => by
    simp only [viewS]
    rcases viewS_cases anc i t ds (j + 1) done.tail sl with h | ⟨k, m', s, h1, h2, h3, h4⟩ | ⟨h1, h2⟩
    · exact .inl h
    · refine .inr (.inl ⟨k + 1, m', s, by simpa using h1, ?_, by rw [show j + (k + 1) = j + 1 + k by omega]; exact h3, h4⟩)
      cases done <;> first | (simp at h2; done) | simpa using h2
    · refine .inr (.inr ⟨h1, fun k m' hk => ?_⟩)
      cases k with
      | zero => simp at hk
      | succ k =>
        obtain ⟨a, b⟩ := h2 k m' (by simpa using hk)
        refine ⟨?_, by rw [show j + (k + 1) = j + 1 + k by omega]; exact b⟩
        cases done with
        | nil => simp
        | cons x l => simpa using a
  | (some d, m) :: ds, j, s :: done, sl => by
    simp only [viewS]
    rcases viewS_cases anc i t ds (j + 1) done (sset sl d (if anc.testBit j = true then s else .und)) with h | ⟨k, m', s', h1, h2, h3, h4⟩ | ⟨h1, h2⟩
    · exact .inl h
    · exact .inr (.inl ⟨k + 1, m', s', by simpa using h1, by simpa using h2, by rw [show j + (k + 1) = j + 1 + k by omega]; exact h3, h4⟩)
    · rw [sget_sset] at h1
      by_cases e : t = d ∧ d < sl.length
      · rw [if_pos e] at h1
        obtain ⟨rfl, hd⟩ := e
        by_cases hb : anc.testBit j = true
        · rw [if_pos hb] at h1
          exact .inr (.inl ⟨0, m, s, by simp, by simp, by simpa using hb, by rw [if_pos hb]; exact h1⟩)
        · rw [if_neg hb] at h1
          exact .inl (by rw [if_neg hb]; exact h1)
      · rw [if_neg e] at h1
        by_cases e' : t = d
        · subst e'
          have hl : ¬ t < sl.length := fun hh => e ⟨rfl, hh⟩
          refine .inl ?_
          rw [h1, sget_eq, List.getD_eq_getElem?_getD, List.getElem?_eq_none (by omega)]; rfl
        · refine .inr (.inr ⟨h1, fun k m' hk => ?_⟩)
          cases k with
          | zero => simp only [List.getElem?_cons_zero, Option.some.injEq, Prod.mk.injEq] at hk; exact absurd hk.1.symm e'
          | succ k =>
            obtain ⟨a, b⟩ := h2 k m' (by simpa using hk)
            exact ⟨by simpa using a, by rw [show j + (k + 1) = j + 1 + k by omega]; exact b⟩
  | (some d, m) :: ds, j, [], sl => by
    simp only [viewS]
    split
    · rename_i hc
      rcases viewS_cases anc i t ds (j + 1) [] sl with h | ⟨k, m', s', h1, h2, h3, h4⟩ | ⟨h1, h2⟩
      · exact .inl h
      · simp at h2
      · refine .inr (.inr ⟨h1, fun k m' hk => ⟨by simp, ?_⟩⟩)
        cases k with
        | zero =>
          simp only [List.getElem?_cons_zero, Option.some.injEq, Prod.mk.injEq] at hk
          obtain ⟨_, rfl⟩ := hk
          simpa using hc
        | succ k =>
          obtain ⟨a, b⟩ := h2 k m' (by simpa using hk)
          rw [show j + (k + 1) = j + 1 + k by omega]; exact b
    · rename_i hc
      rcases viewS_cases anc i t ds (j + 1) [] (sset sl d .und) with h | ⟨k, m', s', h1, h2, h3, h4⟩ | ⟨h1, h2⟩
      · exact .inl h
      · simp at h2
      · rw [sget_sset] at h1
        by_cases e : t = d ∧ d < sl.length
        · rw [if_pos e] at h1; exact .inl h1
        · rw [if_neg e] at h1
          by_cases e' : t = d
          · subst e'
            have hl : ¬ t < sl.length := fun hh => e ⟨rfl, hh⟩
            refine .inl ?_
            rw [h1, sget_eq, List.getD_eq_getElem?_getD, List.getElem?_eq_none (by omega)]; rfl
          · refine .inr (.inr ⟨h1, fun k m' hk => ⟨by simp, ?_⟩⟩)
            cases k with
            | zero => simp only [List.getElem?_cons_zero, Option.some.injEq, Prod.mk.injEq] at hk; exact absurd hk.1.symm e'
            | succ k =>
              obtain ⟨a, b⟩ := h2 k m' (by simpa using hk)
              rw [show j + (k + 1) = j + 1 + k by omega]; exact b

theorem optNe_spec {a b : Option Nat} (h : optNe a b = true) {t : Nat} (ha : a = some t) (hb : b = some t) : False := by
  subst ha; subst hb; simp [optNe] at h

theorem dist_spec : ∀ {ds : List (Option Nat × Nat)}, dist ds = true → ∀ {j k t m m' : Nat}, ds[j]? = some (some t, m) → ds[k]? = some (some t, m') → j = k
  | [], _, j, k, t, m, m', h, _ => by simp at h
  | p :: l, hd, j, k, t, m, m', hj, hk => by
    simp only [dist, Bool.and_eq_true, List.all_eq_true] at hd
    cases j with
    | zero =>
      cases k with
      | zero => rfl
      | succ k =>
        simp only [List.getElem?_cons_zero, Option.some.injEq] at hj
        have := hd.1 _ (List.mem_of_getElem? (by simpa using hk))
        exact (optNe_spec this (by rw [hj]) rfl).elim
    | succ j =>
      cases k with
      | zero =>
        simp only [List.getElem?_cons_zero, Option.some.injEq] at hk
        have := hd.1 _ (List.mem_of_getElem? (by simpa using hj))
        exact (optNe_spec this (by rw [hk]) rfl).elim
      | succ k => exact congrArg (· + 1) (dist_spec hd.2 (t := t) (m := m) (m' := m') (by simpa using hj) (by simpa using hk))

/-- What is seen of a slot that a seen operation writes. -/
theorem viewS_at {anc i t : Nat} : ∀ {ds : List (Option Nat × Nat)} (_ : dist ds = true) {j : Nat} {done sl : List S} {k m : Nat} {s : S}, ds[k]? = some (some t, m) → done[k]? = some s → anc.testBit (j + k) = true →
    t < sl.length → sget (viewS anc i j ds done sl) t = s
  | (none, m0) :: ds, hd, j, done, sl, k, m, s, h1, h2, h3, ht => by
    simp only [dist, Bool.and_eq_true] at hd
    cases k with
    | zero => simp at h1
    | succ k =>
      simp only [viewS]
      refine viewS_at hd.2 (k := k) (by simpa using h1) ?_ (by rw [show j + 1 + k = j + (k + 1) by omega]; exact h3) ht
      cases done <;> first | (simp at h2; done) | simpa using h2
  | (some d, m0) :: ds, hd, j, [], sl, k, m, s, h1, h2, h3, ht => by simp at h2
  | (some d, m0) :: ds, hd, j, x :: done, sl, k, m, s, h1, h2, h3, ht => by
    have hd' := hd
    simp only [dist, Bool.and_eq_true] at hd
    cases k with
    | succ k =>
      simp only [viewS]
      exact viewS_at hd.2 (k := k) (by simpa using h1) (by simpa using h2) (by rw [show j + 1 + k = j + (k + 1) by omega]; exact h3) (by rw [sset_length]; exact ht)
    | zero =>
      simp only [List.getElem?_cons_zero, Option.some.injEq, Prod.mk.injEq] at h1 h2
      obtain ⟨rfl, rfl⟩ := h1
      subst h2
      simp only [viewS]
      simp only [Nat.add_zero] at h3
      have hno : ∀ (k m' : Nat), ds[k]? = some (some d, m') → False := fun k m' hk => by
        have := dist_spec hd' (j := 0) (k := k + 1) (t := d) (m := m0) (m' := m') (by simp) (by simpa using hk)
        omega
      have key : ∀ (ds : List (Option Nat × Nat)) (j : Nat) (done sl : List S), (∀ (k m' : Nat), ds[k]? = some (some d, m') → False) → sget (viewS anc i j ds done sl) d = sget sl d := by
        intro ds
        induction ds with
        | nil => intro j done sl _; simp [viewS]
        | cons p ds ih =>
          intro j done sl hn
          have hn' : ∀ (k m' : Nat), ds[k]? = some (some d, m') → False := fun k m' hk => hn (k + 1) m' (by simpa using hk)
          obtain ⟨a, b⟩ := p
          cases a with
          | none => simp only [viewS]; exact ih _ _ _ hn'
          | some e =>
            have hne : d ≠ e := fun he => hn 0 b (by simp [he])
            have hss : ∀ (sl : List S) (y : S), sget (sset sl e y) d = sget sl d := fun sl y => by rw [sget_sset, if_neg fun h => hne h.1]
            cases done with
            | nil =>
              simp only [viewS]
              split
              · exact ih _ _ _ hn'
              · rw [ih _ _ _ hn', hss]
            | cons y done => simp only [viewS]; rw [ih _ _ _ hn', hss]
      rw [key _ _ _ _ hno, sget_sset, if_pos ⟨rfl, ht⟩, if_pos h3]
  | [], _, j, done, sl, k, m, s, h1, h2, h3, ht => by simp at h1

theorem viewS_out {anc i t : Nat} {ds : List (Option Nat × Nat)} {j : Nat} {done sl : List S} (ht : ¬ t < sl.length) : sget (viewS anc i j ds done sl) t = .und := by
  rw [sget_eq, List.getD_eq_getElem?_getD, List.getElem?_eq_none (by rw [viewS_length]; omega)]; rfl

/- The places. -/

def locate : List Dr → Nat → Option (Nat × Nat)
  | [], _ => none
  | d :: l, x => if x < d.new.length then some (0, x) else (locate l (x - d.new.length)).map fun p => (p.1 + 1, p.2)

theorem yets_length : ∀ l, (yets l).length = l.length
  | [] => rfl
  | _ :: l => by simp [yets, yets_length l]

theorem rget_yets : ∀ (l : List Res) (x : Nat), rget (yets l) x = .yet
  | [], x => by simp [yets, rget]
  | _ :: l, 0 => by simp [yets, rget]
  | _ :: l, x + 1 => by simp [yets, rget, rget_yets l x]

theorem viewR_cons (p : Nat → Bool) (j : Nat) (d : Dr) (l : List Dr) : viewR p j (d :: l) = (if p j then d.new else yets d.new) ++ viewR p (j + 1) l := by
  simp only [viewR]
  cases h : d.new with
  | nil => simp [yets]
  | cons r n => simp [yets]

theorem viewR_get (p : Nat → Bool) : ∀ (l : List Dr) (j x : Nat), rget (viewR p j l) x = match locate l x with
    | some (k, y) => if p (j + k) then (match l[k]? with | some d => rget d.new y | none => .yet) else .yet
    | none => .yet
  | [], j, x => by simp [viewR, locate, rget]
  | d :: l, j, x => by
    rw [viewR_cons, rget_append]
    have hlen : (if p j = true then d.new else yets d.new).length = d.new.length := by split <;> simp [yets_length]
    rw [hlen]
    simp only [locate]
    split
    · simp only [Nat.add_zero, List.getElem?_cons_zero]
      split <;> simp [rget_yets]
    · rw [viewR_get p l (j + 1) (x - d.new.length)]
      cases hl : locate l (x - d.new.length) with
      | none => simp
      | some q =>
        obtain ⟨k, y⟩ := q
        simp only [Option.map_some, List.getElem?_cons_succ]
        rw [show j + 1 + k = j + (k + 1) by omega]

theorem viewR_length (p : Nat → Bool) : ∀ (l : List Dr) (j : Nat), (viewR p j l).length = lens l
  | [], j => by simp [viewR, lens]
  | d :: l, j => by
    rw [viewR_cons, List.length_append, viewR_length p l, lens]
    split <;> simp [yets_length]

theorem locate_spec : ∀ (l : List Dr) (x k y : Nat), locate l x = some (k, y) ↔ (∃ d, l[k]? = some d ∧ y < d.new.length) ∧ x = lens (l.take k) + y
  | [], x, k, y => by simp [locate]
  | d :: l, x, k, y => by
    simp only [locate]
    cases k with
    | zero =>
      simp only [List.getElem?_cons_zero, Option.some.injEq, exists_eq_left', List.take_zero, lens, Nat.zero_add]
      split
      · simp only [Option.some.injEq, Prod.mk.injEq, true_and]
        exact ⟨fun h => ⟨by omega, h⟩, fun h => h.2⟩
      · rename_i hx
        constructor
        · intro h
          cases hl : locate l (x - d.new.length) <;> simp [hl] at h
        · intro h; omega
    | succ k =>
      simp only [List.getElem?_cons_succ, List.take_succ_cons, lens]
      split
      · rename_i hx
        simp only [Option.some.injEq, Prod.mk.injEq]
        constructor
        · intro h; omega
        · rintro ⟨_, h⟩; omega
      · rename_i hx
        have ih := locate_spec l (x - d.new.length) k y
        constructor
        · intro h
          cases hl : locate l (x - d.new.length) with
          | none => simp [hl] at h
          | some q =>
            obtain ⟨a, b⟩ := q
            simp only [hl, Option.map_some, Option.some.injEq, Prod.mk.injEq] at h
            have : locate l (x - d.new.length) = some (k, y) := by rw [hl]; simp; omega
            obtain ⟨g1, g2⟩ := ih.1 this
            exact ⟨g1, by omega⟩
        · rintro ⟨g1, g2⟩
          rw [ih.2 ⟨g1, by omega⟩]; rfl
end Go.Sx
/- The executor: what a drawn order may do. No condition. -/
set_option linter.unusedVariables false
set_option linter.unusedSimpArgs false
namespace Go.Sx
open Go.RowKit (Below)

theorem okGo_spec {ds : List (Option Nat × Nat)} : ∀ {ops : List Oper} {i0 : Nat} {dd : List (Option Nat × Nat)}, okGo ds i0 ops dd = true → ops.length = dd.length ∧ ∀ (i : Nat) (o : Oper), ops[i]? = some o →
    ∃ m, dd[i]? = some (o.dst, m) ∧ maskOf ds o.after.toList = m ∧ m < 2 ^ (i0 + i) ∧ ∀ j, m.testBit j = true → (ancAt ds j ||| m) = m
  | [], i0, [], _ => ⟨rfl, by simp⟩
  | [], _, _ :: _, h => by simp [okGo] at h
  | _ :: _, _, [], h => by simp [okGo] at h
  | o :: l, i0, d :: dd, h => by
    simp only [okGo, Bool.and_eq_true, beq_iff_eq, List.all_eq_true, List.mem_range, Bool.or_eq_true, Bool.not_eq_true', Nat.ble_eq] at h
    obtain ⟨⟨⟨⟨h1, h2⟩, h3⟩, h4⟩, h5⟩ := h
    obtain ⟨i1, i2⟩ := okGo_spec h5
    refine ⟨by simp [i1], fun i p hp => ?_⟩
    cases i with
    | zero =>
      simp only [List.getElem?_cons_zero, Option.some.injEq] at hp
      subst hp
      refine ⟨d.2, ?_, h2, by rw [Nat.add_zero]; exact h3, fun j hj => ?_⟩
      · obtain ⟨d1, d2⟩ := d
        simp only [List.getElem?_cons_zero, Option.some.injEq, Prod.mk.injEq, and_true]
        simp only at h1
        split at h1 <;> simp_all
      · have hlt : j < i0 := by
          rcases Nat.lt_or_ge j i0 with h | h
          · exact h
          · have := Nat.testBit_lt_two_pow (x := d.2) (i := j) (Nat.lt_of_lt_of_le (by omega) (Nat.pow_le_pow_right (by omega) h))
            rw [this] at hj; simp at hj
        rcases h4 j hlt with h | h
        · rw [h] at hj; simp at hj
        · exact h
    | succ i =>
      obtain ⟨m, a, b, c, e⟩ := i2 i p (by simpa using hp)
      exact ⟨m, by simpa using a, b, by rw [show i0 + (i + 1) = i0 + 1 + i by omega]; exact c, e⟩

structure Planned (C : Ctx) (ops : List Oper) (ds : List (Option Nat × Nat)) (sl : List S) (res : List Res) (drs : List Dr) : Prop where
  okk : okGo ds 0 ops ds = true
  dst : dist ds = true
  cl : ∀ t, (∃ x, sget sl t = .v x) ∨ sget sl t = .und
  plan : ∃ st hid, (∀ i d, drs[i]? = some d → ∃ o, ops[i]? = some o ∧ planOne C ops ds sl res st hid (drs.take i) i o = some d) ∧ ∀ s d u, drs[s]? = some d → d.up = some u → (s, u.1) ∈ hid

theorem planSt_spec {C : Ctx} {D : List S} {R : List Res} {o : Oper} {d : Dr} (h : planSt C D R o = some d) : ∃ t p x id off y ty c c', o.op = .store t p x ∧ o.dst = none ∧ o.guard = none ∧ oval D [] p = some (.lp id off) ∧ oval D [] x = some y ∧
    tsz C.P t = some (vsz y) ∧ isTp y = false ∧ rget R id = .blk ty c ∧ setAt 8 c off y = some c' ∧ d = { s := .und, g := true, q := none, new := [], up := some (id, .blk ty c') } := by
  unfold planSt at h
  split at h
  case h_2 => simp at h
  rename_i t p x hop
  split at h
  case h_2 => simp at h
  rename_i hd
  split at h
  case h_2 => simp at h
  rename_i hg
  split at h
  case h_2 => simp at h
  rename_i pv hp
  split at h
  case h_2 => simp at h
  rename_i id off
  split at h
  case h_2 => simp at h
  rename_i y hy
  split at h
  case isFalse => simp at h
  rename_i hc
  simp only [Bool.and_eq_true, beq_iff_eq, Bool.not_eq_true'] at hc
  split at h
  case h_2 => simp at h
  rename_i ty c hr
  split at h
  case h_2 => simp at h
  rename_i c' hs
  simp only [Option.some.injEq] at h
  exact ⟨t, p, x, id, off, y, ty, c, c', hop, hd, hg, hp, hy, hc.1, hc.2, hr, hs, h.symm⟩
theorem planOp2_cases {C : Ctx} {ops : List Oper} {st : Bool} {D : List S} {R : List Res} {nid : Nat} {o : Oper} {d : Dr} (h : planOp2 C ops st D R nid o = some d) : planOp C ops D R nid o = some d ∨ planSt C D R o = some d := by
  unfold planOp2 at h
  split at h
  · rename_i d' hd
    rw [hd]; exact .inl h
  · split at h
    · exact .inr h
    · simp at h
theorem planOp_up {C : Ctx} {ops : List Oper} {D : List S} {R : List Res} {nid : Nat} {o : Oper} {d : Dr} (h : planOp C ops D R nid o = some d) : d.up = none := by
  unfold planOp at h
  split at h
  case isFalse => simp at h
  split at h
  · simp at h
  · simp only [Option.some.injEq] at h; subst h; rfl
  · split at h
    · split at h
      · simp only [Option.some.injEq] at h; subst h; rfl
      · split at h
        · simp only [Option.some.injEq] at h; subst h; rfl
        · simp at h
    · simp at h

theorem drS_get : ∀ (l : List Dr) (i : Nat), (drS l)[i]? = (l[i]?).map Dr.s
  | [], i => by simp [drS]
  | d :: l, 0 => by simp [drS]
  | d :: l, i + 1 => by simp [drS, drS_get l i]

theorem drS_length (l : List Dr) : (drS l).length = l.length := by
  induction l with
  | nil => rfl
  | cons d l ih => simp [drS, ih]

theorem gOf_congr {sl sl' : List S} : ∀ {ch : List (Nat × Bool)}, (∀ p ∈ ch, sget sl p.1 = sget sl' p.1) → gOf sl ch = gOf sl' ch
  | [], _ => rfl
  | (s, w) :: c, h => by
    rw [gOf_cons, gOf_cons, h (s, w) (by simp), gOf_congr fun p hp => h p (by simp [hp])]

section
variable {C : Ctx} {opsA : Array Oper} {ds : List (Option Nat × Nat)} {sl : List S} {res : List Res} {drs : List Dr}

theorem Planned.at (P : Planned C opsA.toList ds sl res drs) {i : Nat} {o : Oper} (h : opsA[i]? = some o) :
    ds[i]? = some (o.dst, ancAt ds i) ∧ (∀ k, (ancAt ds i).testBit k = true → k < i) ∧
    (∀ k, (ancAt ds i).testBit k = true ↔ ∃ e ∈ o.after, Region.binds .any e = true ∧ (e.on = k ∨ (ancAt ds e.on).testBit k = true)) ∧
    ∀ k r, (ancAt ds i).testBit k = true → (ancAt ds k).testBit r = true → (ancAt ds i).testBit r = true := by
  obtain ⟨m, h1, h2, h3, h4⟩ := (okGo_spec P.okk).2 i o (by simpa using h)
  have hm : ancAt ds i = m := by simp [ancAt, h1]
  rw [hm]
  refine ⟨h1, fun k hk => ?_, fun k => ?_, fun k r hk hr => ?_⟩
  · rcases Nat.lt_or_ge k i with h | h
    · exact h
    · have := Nat.testBit_lt_two_pow (x := m) (i := k) (Nat.lt_of_lt_of_le h3 (Nat.pow_le_pow_right (by omega) (by omega)))
      rw [this] at hk; simp at hk
  · rw [← h2, testBit_mask]
    simp only [Array.mem_toList_iff]
  · rw [← h4 k hk, Nat.testBit_or, hr]; rfl

theorem Planned.len (P : Planned C opsA.toList ds sl res drs) : ds.length = opsA.size := by
  have := (okGo_spec P.okk).1
  simpa using this.symm

def Dat (ds : List (Option Nat × Nat)) (sl : List S) (drs : List Dr) (i : Nat) : List S := viewS (ancAt ds i) i 0 ds (drS (drs.take i)) sl

def chIn (ds : List (Option Nat × Nat)) (m : Nat) (ch : List (Nat × Bool)) : Prop := ∀ p ∈ ch, ∃ k m', m.testBit k = true ∧ ds[k]? = some (some p.1, m')

theorem Planned.chain (P : Planned C opsA.toList ds sl res drs) : ∀ (i : Nat) (d : Dr), drs[i]? = some d → ∀ ch x, d.s = .gv ch x → d.g = gOf (Dat ds sl drs i) ch ∧ chIn ds (ancAt ds i) ch := by
  intro i
  induction i using Nat.strongRecOn with
  | _ i ih =>
    intro d hd ch x hs
    obtain ⟨st, hid, hpl, _⟩ := P.plan
    obtain ⟨o, ho, hp⟩ := hpl i d hd
    obtain ⟨p1, p2, p3, p4⟩ := P.at (i := i) (o := o) (by simpa using ho)
    unfold planOne at hp
    split at hp
    · rename_i hc
      simp only [Bool.and_eq_true] at hc
      rcases planOp2_cases hp with hp | hp
      case inr =>
        obtain ⟨_, _, _, _, _, _, _, _, _, _, _, _, _, _, _, _, _, _, rfl⟩ := planSt_spec hp
        simp at hs
      unfold planOp at hp
      split at hp
      case isFalse => simp at hp
      split at hp
      · simp at hp
      · simp only [Option.some.injEq] at hp; subst hp; simp at hs
      · rename_i ch' hch
        split at hp
        · rename_i q y new hop
          cases ch' with
          | nil => simp only [Option.some.injEq] at hp; subst hp; simp at hs
          | cons c0 c1 =>
            simp only at hp
            split at hp
            · simp only [Option.some.injEq] at hp
              subst hp
              simp only [S.gv.injEq] at hs
              obtain ⟨rfl, rfl⟩ := hs
              refine ⟨rfl, ?_⟩
              -- the guard
              unfold chainOf at hch
              split at hch
              · simp at hch
              · rename_i j w hg
                split at hch
                · simp at hch
                · rename_i s hsd
                  have hjb : (ancAt ds i).testBit j = true := by have := hc.1; rw [hg] at this; exact this
                  have hj : ∃ m', ds[j]? = some (some s, m') := by
                    cases hoj : opsA.toList[j]? with
                    | none => simp [hoj] at hsd
                    | some oj =>
                      simp only [hoj, Option.bind_some] at hsd
                      have := (P.at (i := j) (o := oj) (by simpa using hoj)).1
                      rw [hsd] at this
                      exact ⟨_, this⟩
                  have hsub : ∀ c y, sget (viewS (ancAt ds i) i 0 ds (drS (drs.take i)) sl) s = .gv c y → chIn ds (ancAt ds i) c := by
                    intro c y hy
                    rcases viewS_cases (ancAt ds i) i s ds 0 (drS (drs.take i)) sl with h | ⟨k, m', s', h1, h2, h3, h4⟩ | ⟨h1, h2⟩
                    · rw [h] at hy; simp at hy
                    · rw [h4] at hy
                      simp only [Nat.zero_add] at h3
                      have hki := p2 k h3
                      rw [drS_get, List.getElem?_take, if_pos hki] at h2
                      cases hdk : drs[k]? with
                      | none => simp [hdk] at h2
                      | some dk =>
                        simp only [hdk, Option.map_some, Option.some.injEq] at h2
                        obtain ⟨_, g2⟩ := ih k hki dk hdk c y (by rw [h2]; exact hy)
                        exact fun p hp => let ⟨r, m'', e1, e2⟩ := g2 p hp; ⟨r, m'', p4 k r h3 e1, e2⟩
                    · rw [h1] at hy
                      rcases P.cl s with ⟨z, hz⟩ | hz <;> rw [hz] at hy <;> simp at hy
                  have hhead : ∃ (k m' : Nat), (ancAt ds i).testBit k = true ∧ ds[k]? = some (some s, m') := let ⟨m', h⟩ := hj; ⟨j, m', hjb, h⟩
                  clear hop
                  split at hch <;> (try split at hch) <;> simp only [Option.some.injEq, reduceCtorEq, List.cons.injEq] at hch
                  · obtain ⟨rfl, rfl⟩ := hch
                    intro p hp
                    simp only [List.mem_singleton] at hp
                    subst hp
                    exact hhead
                  · rename_i c b hv
                    obtain ⟨rfl, rfl⟩ := hch
                    intro p hp
                    rcases List.mem_cons.1 hp with rfl | hp
                    · exact hhead
                    · exact hsub _ _ hv p hp
                  · rename_i c b hv _
                    subst hch
                    exact hsub _ _ hv
            · simp at hp
        · simp at hp
    · simp at hp

/-- Two views agree on the guards of an operation that both see. -/
theorem Planned.guard_eq (P : Planned C opsA.toList ds sl res drs) {k : Nat} {d : Dr} (hd : drs[k]? = some d) {ch : List (Nat × Bool)} {x : V} (hs : d.s = .gv ch x) {anc i : Nat} (hi : k < i)
    (hsub : ∀ r, (ancAt ds k).testBit r = true → anc.testBit r = true) : gOf (viewS anc i 0 ds (drS (drs.take i)) sl) ch = d.g := by
  obtain ⟨h1, h2⟩ := P.chain k d hd ch x hs
  rw [h1]
  obtain ⟨st, hid, hpl, _⟩ := P.plan
  obtain ⟨o, ho, _⟩ := hpl k d hd
  obtain ⟨p1, p2, p3, p4⟩ := P.at (i := k) (o := o) (by simpa using ho)
  have hklt : k < drs.length := (List.getElem?_eq_some_iff.1 hd).1
  refine gOf_congr fun p hp => ?_
  obtain ⟨r, m', e1, e2⟩ := h2 p hp
  have hr := p2 r e1
  by_cases ht : p.1 < sl.length
  · have hdr : drs[r]? = some (drs[r]'(by omega)) := List.getElem?_eq_getElem (by omega)
    rw [viewS_at P.dst (k := r) e2 (s := (drs[r]'(by omega)).s) (by rw [drS_get, List.getElem?_take, if_pos (by omega), hdr]; rfl) (by simpa using hsub r e1) ht]
    unfold Dat
    rw [viewS_at P.dst (k := r) e2 (s := (drs[r]'(by omega)).s) (by rw [drS_get, List.getElem?_take, if_pos hr, hdr]; rfl) (by simpa using e1) ht]
  · rw [viewS_out ht]
    unfold Dat
    rw [viewS_out ht]

def SlotG (ρ : Env) (K : Nat → Prop) (x : Value) (d : Dr) : Prop :=
  match d.s with
  | .und => True
  | .ud => x = undef
  | .v y => x = den ρ y ∧ ok K y
  | .gv _ y => (d.g = true → x = den ρ y ∧ ok K y) ∧ (d.g = false → x = undef)

theorem SlotG.env {ρ ρ' : Env} {K K' : Nat → Prop} {x : Value} {d : Dr} (h : SlotG ρ K x d) (hK : ∀ i, K i → K' i) (ha : Env.agree K ρ ρ') : SlotG ρ' K' x d := by
  unfold SlotG at h ⊢
  split
  · trivial
  · rename_i hs; rw [hs] at h; exact h
  · rename_i y hs; rw [hs] at h; exact ⟨by rw [den_agree ha y h.2]; exact h.1, ok_mono hK y h.2⟩
  · rename_i c y hs; rw [hs] at h; exact ⟨fun hg => ⟨by rw [den_agree ha y (h.1 hg).2]; exact (h.1 hg).1, ok_mono hK y (h.1 hg).2⟩, h.2⟩

/-- The places when some were done. -/
def AV (res : List Res) (drs : List Dr) (L : Nat → Bool) : List Res := upV L 0 drs (res ++ viewR L 0 drs)

/-- The places that are known when some were done. -/
def KL (res : List Res) (drs : List Dr) (L : Nat → Bool) (id : Nat) : Prop := known res id ∨ (res.length ≤ id ∧ ∃ j y, locate drs (id - res.length) = some (j, y) ∧ L j = true)

structure Inv (ds : List (Option Nat × Nat)) (sl : List S) (res : List Res) (drs : List Dr) (defs : List (Nat × List V × List V)) (ρ0 : Env) (w0 : World) (F0 : Nat → Prop) (L : Nat → Bool) (ρ : Env) (fps : Nat → Nat → Prop) (a : Act) (w : World) : Prop where
  size : a.tmps.size = sl.length
  done : ∀ t j m d, ds[j]? = some (some t, m) → drs[j]? = some d → L j = true → SlotG ρ (KL res drs L) (a.tmps.getD t undef) d
  todo : ∀ t, (∀ j m, ds[j]? = some (some t, m) → L j = false) → SlotOK ρ (KL res drs L) [] (a.tmps.getD t undef) (sget sl t)
  heap : HRep ρ fps (AV res drs L) (KL res drs L) w0 F0 w
  down : ∀ i k, L i = true → (ancAt ds i).testBit k = true → L k = true
  defs : a.defers = defs.flatMap (dDen ρ) ∧ ∀ d ∈ defs, okL (known res) d.2.1 ∧ okL (known res) d.2.2
  agree : Env.agree (known res) ρ0 ρ
  newk : ∀ j d, drs[j]? = some d → L j = true → ∀ y, y < d.new.length → rget d.new y ≠ .yet

theorem SlotOK.plain {ρ : Env} {K : Nat → Prop} {sl sl' : List S} {x : Value} {s : S} (hs : (∃ y, s = .v y) ∨ s = .und) (h : SlotOK ρ K sl x s) : SlotOK ρ K sl' x s := by
  rcases hs with ⟨y, rfl⟩ | rfl
  · exact h
  · trivial

/-- What an operation sees is so. -/
theorem Planned.view {defs : List (Nat × List V × List V)} {ρ0 ρ : Env} {w0 w : World} {F0 : Nat → Prop} {L : Nat → Bool} {fps : Nat → Nat → Prop} {a : Act} (P : Planned C opsA.toList ds sl res drs) (I : Inv ds sl res drs defs ρ0 w0 F0 L ρ fps a w)
    {anc i : Nat} (h0 : i ≤ drs.length) (h1 : ∀ k, anc.testBit k = true → L k = true ∧ k < i) (h2 : ∀ k r, anc.testBit k = true → (ancAt ds k).testBit r = true → anc.testBit r = true)
    (h3 : ∀ k m t, ds[k]? = some (some t, m) → i ≤ k → (k = i ∨ m.testBit i = true) → L k = false) : FRep ρ (KL res drs L) (viewS anc i 0 ds (drS (drs.take i)) sl) a := by
  refine ⟨by rw [viewS_length]; exact I.size, fun t => ?_⟩
  rcases viewS_cases anc i t ds 0 (drS (drs.take i)) sl with h | ⟨k, m', s', e1, e2, e3, e4⟩ | ⟨e1, e2⟩
  · rw [h]; trivial
  · simp only [Nat.zero_add] at e3
    obtain ⟨l1, l2⟩ := h1 k e3
    rw [drS_get, List.getElem?_take, if_pos l2] at e2
    cases hdk : drs[k]? with
    | none => simp [hdk] at e2
    | some dk =>
      simp only [hdk, Option.map_some, Option.some.injEq] at e2
      have hG := I.done t k m' dk e1 hdk l1
      rw [e4, ← e2]
      unfold SlotG at hG
      cases hds : dk.s with
      | und => trivial
      | ud => rw [hds] at hG; exact hG
      | v y => rw [hds] at hG; exact hG
      | gv c y =>
        rw [hds] at hG
        have := P.guard_eq hdk hds (anc := anc) (i := i) l2 (fun r hr => h2 k r e3 hr)
        exact ⟨fun hg => hG.1 (by rw [← this]; exact hg), fun hg => hG.2 (by rw [← this]; exact hg)⟩
  · rw [e1]
    refine SlotOK.plain (P.cl t) (I.todo t fun j m hj => ?_)
    obtain ⟨f1, f2⟩ := e2 j m hj
    rw [drS_length, List.length_take, Nat.min_eq_left h0] at f1
    exact h3 j m t hj f1 (by simpa using f2)
end
end Go.Sx
/- The executor: a drawn order, step by step. No condition. -/
set_option linter.unusedVariables false
set_option linter.unusedSimpArgs false
namespace Go.Sx
open Go.RowKit (Below)

theorem lens_take_le : ∀ (l : List Dr) (i k y : Nat), (∃ d, l[k]? = some d ∧ y < d.new.length) → k < i → lens (l.take k) + y < lens (l.take i)
  | [], i, k, y, h, _ => by obtain ⟨d, h, _⟩ := h; simp at h
  | d :: l, 0, k, y, _, h => by omega
  | d :: l, i + 1, 0, y, h, _ => by
    obtain ⟨d', h1, h2⟩ := h
    simp only [List.getElem?_cons_zero, Option.some.injEq] at h1
    subst h1
    simp only [List.take_zero, lens, List.take_succ_cons]
    omega
  | d :: l, i + 1, k + 1, y, h, hk => by
    have := lens_take_le l i k y (by simpa using h) (by omega)
    simp only [List.take_succ_cons, lens]
    omega

theorem locate_take {l : List Dr} {i x k y : Nat} (h : locate (l.take i) x = some (k, y)) : k < i ∧ locate l x = some (k, y) := by
  rw [locate_spec] at h ⊢
  obtain ⟨⟨d, h1, h2⟩, h3⟩ := h
  rw [List.getElem?_take] at h1
  by_cases hk : k < i
  · rw [if_pos hk] at h1
    rw [List.take_take, Nat.min_eq_left (by omega)] at h3
    exact ⟨hk, ⟨d, h1, h2⟩, h3⟩
  · rw [if_neg hk] at h1; simp at h1

theorem rget_out {l : List Res} {x : Nat} (h : l.length ≤ x) : rget l x = .yet := by
  rw [rget_eq, List.getD_eq_getElem?_getD, List.getElem?_eq_none h]; rfl

theorem rget_view (res : List Res) (drs : List Dr) (p : Nat → Bool) (id : Nat) : rget (res ++ viewR p 0 drs) id = if id < res.length then rget res id else
    match locate drs (id - res.length) with
    | some (k, y) => if p k then (match drs[k]? with | some d => rget d.new y | none => .yet) else .yet
    | none => .yet := by
  rw [rget_append]
  split
  · rfl
  · rw [viewR_get]; simp only [Nat.zero_add]; all_goals (cases locate drs (id - res.length) <;> rfl)

theorem known_view {res : List Res} {drs : List Dr} {p : Nat → Bool} {id : Nat} (h : known (res ++ viewR p 0 drs) id) : KL res drs p id := by
  unfold known at h
  rw [rget_view] at h
  by_cases hlt : id < res.length
  · rw [if_pos hlt] at h; exact .inl h
  · rw [if_neg hlt] at h
    refine .inr ⟨by omega, ?_⟩
    cases hl : locate drs (id - res.length) with
    | none => simp [hl] at h
    | some q =>
      obtain ⟨k, y⟩ := q
      simp only [hl] at h
      by_cases hp : p k = true
      · exact ⟨k, y, rfl, hp⟩
      · rw [if_neg hp] at h; exact absurd rfl h

/-- What an operation sees of the places is so. -/
theorem view_forget {res : List Res} {drs : List Dr} {p L : Nat → Bool} {i : Nat} (hp : ∀ k, p k = true → L k = true) (id : Nat) (h : known (res ++ viewR p 0 (drs.take i)) id) :
    rget (res ++ viewR p 0 (drs.take i)) id = rget (res ++ viewR L 0 drs) id := by
  unfold known at h
  rw [rget_view] at h ⊢
  rw [rget_view]
  by_cases hlt : id < res.length
  · rw [if_pos hlt, if_pos hlt]
  · rw [if_neg hlt] at h ⊢
    rw [if_neg hlt]
    cases hl : locate (drs.take i) (id - res.length) with
    | none => simp [hl] at h
    | some q =>
      obtain ⟨k, y⟩ := q
      obtain ⟨hk, hl'⟩ := locate_take hl
      simp only [hl] at h ⊢
      rw [hl']
      by_cases hpk : p k = true
      · simp only [if_pos hpk, if_pos (hp k hpk), List.getElem?_take, if_pos hk]
      · rw [if_neg hpk] at h; exact absurd rfl h

/-- What the last store to a place left there. -/
def lastUp (p : Nat → Bool) (id : Nat) : Nat → List Dr → Option Res
  | _, [] => none
  | j, d :: l => match lastUp p id (j + 1) l with
    | some r => some r
    | none => match d.up with
      | some u => if p j && u.1 == id then some u.2 else none
      | none => none
theorem upV_length (p : Nat → Bool) : ∀ (l : List Dr) (j : Nat) (R : List Res), (upV p j l R).length = R.length
  | [], j, R => rfl
  | d :: l, j, R => by
    simp only [upV]
    split
    · exact upV_length p l _ R
    · split
      · rw [upV_length p l, rset_length]
      · exact upV_length p l _ R
theorem upV_get (p : Nat → Bool) (id : Nat) : ∀ (l : List Dr) (j : Nat) (R : List Res), id < R.length → rget (upV p j l R) id = (lastUp p id j l).getD (rget R id)
  | [], j, R, h => rfl
  | d :: l, j, R, h => by
    simp only [upV, lastUp]
    cases hu : d.up with
    | none =>
      simp only
      rw [upV_get p id l _ R h]
      cases lastUp p id (j + 1) l <;> rfl
    | some u =>
      simp only
      by_cases hp : p j = true
      · rw [if_pos hp, upV_get p id l _ _ (by rw [rset_length]; exact h)]
        cases lastUp p id (j + 1) l with
        | some r => rfl
        | none =>
          simp only [Option.getD_none, hp, Bool.true_and]
          by_cases e : u.1 = id
          · subst e
            rw [rget_rset _ _ _ _ h]
            simp
          · by_cases hl : u.1 < R.length
            · rw [rget_rset _ _ _ _ hl, if_neg (Ne.symm e)]
              simp [e]
            · rw [rset_eq, List.set_eq_of_length_le (by omega)]
              simp [e]
      · rw [if_neg hp, upV_get p id l _ R h]
        cases lastUp p id (j + 1) l with
        | some r => rfl
        | none => simp [hp]
theorem lastUp_congr {p L : Nat → Bool} {id : Nat} : ∀ (l : List Dr) (j m : Nat), (∀ k d u, l[k]? = some d → d.up = some u → u.1 = id → (L (j + k) = true ↔ k < m ∧ p (j + k) = true)) → lastUp p id j (l.take m) = lastUp L id j l
  | [], j, m, h => by simp [lastUp]
  | d :: l, j, 0, h => by
    have h' := lastUp_congr (p := p) (L := L) (id := id) l (j + 1) 0 fun k d' u h1 h2 h3 => by
      have := h (k + 1) d' u (by simpa using h1) h2 h3
      rw [show j + 1 + k = j + (k + 1) by omega]
      constructor
      · intro hh; exact absurd (this.1 hh).1 (by omega)
      · intro hh; exact absurd hh.1 (by omega)
    simp only [List.take_zero, lastUp] at h' ⊢
    rw [← h']
    simp only
    cases hu : d.up with
    | none => rfl
    | some u =>
      simp only
      rw [if_neg]
      intro hh
      simp only [Bool.and_eq_true, beq_iff_eq] at hh
      exact absurd ((h 0 d u (by simp) hu hh.2).1 (by simpa using hh.1)).1 (by omega)
  | d :: l, j, m + 1, h => by
    have h' := lastUp_congr (p := p) (L := L) (id := id) l (j + 1) m fun k d' u h1 h2 h3 => by
      have := h (k + 1) d' u (by simpa using h1) h2 h3
      rw [show j + 1 + k = j + (k + 1) by omega]
      constructor
      · intro hh; exact ⟨by have := (this.1 hh).1; omega, (this.1 hh).2⟩
      · intro hh; exact this.2 ⟨by omega, hh.2⟩
    simp only [List.take_succ_cons, lastUp, h']
    cases lastUp L id (j + 1) l with
    | some r => rfl
    | none =>
      simp only
      cases hu : d.up with
      | none => rfl
      | some u =>
        simp only
        by_cases e : u.1 = id
        · have := h 0 d u (by simp) hu e
          simp only [Nat.add_zero] at this
          have hb : p j = L j := by
            rw [Bool.eq_iff_iff]
            exact ⟨fun hh => this.2 ⟨by omega, hh⟩, fun hh => (this.1 hh).2⟩
          rw [hb]
        · simp [e]
theorem lastUp_some {p : Nat → Bool} {id : Nat} {r : Res} : ∀ (l : List Dr) (j : Nat), lastUp p id j l = some r → ∃ k d, l[k]? = some d ∧ d.up = some (id, r) ∧ p (j + k) = true
  | [], j, h => by simp [lastUp] at h
  | d :: l, j, h => by
    simp only [lastUp] at h
    split at h
    · rename_i r' hr
      simp only [Option.some.injEq] at h
      subst h
      obtain ⟨k, d', h1, h2, h3⟩ := lastUp_some l (j + 1) hr
      exact ⟨k + 1, d', by simpa using h1, h2, by rw [show j + (k + 1) = j + 1 + k by omega]; exact h3⟩
    · split at h
      · rename_i u hu
        split at h
        · rename_i hc
          simp only [Bool.and_eq_true, beq_iff_eq] at hc
          simp only [Option.some.injEq] at h
          subst h
          exact ⟨0, d, by simp, by rw [hu, ← hc.2], by simpa using hc.1⟩
        · simp at h
      · simp at h
/-- The last store of all. -/
theorem lastUp_last {p : Nat → Bool} {id : Nat} {r : Res} : ∀ (l : List Dr) (j s : Nat) (d : Dr), l[s]? = some d → d.up = some (id, r) → p (j + s) = true → (∀ k d' u, s < k → l[k]? = some d' → d'.up = some u → u.1 = id → p (j + k) = false) → lastUp p id j l = some r
  | [], j, s, d, h, _, _, _ => by simp at h
  | x :: l, j, 0, d, h, hu, hp, hn => by
    simp only [List.getElem?_cons_zero, Option.some.injEq] at h
    subst h
    simp only [lastUp]
    have : lastUp p id (j + 1) l = none := by
      cases hl : lastUp p id (j + 1) l with
      | none => rfl
      | some r' =>
        obtain ⟨k, d', h1, h2, h3⟩ := lastUp_some l (j + 1) hl
        have := hn (k + 1) d' _ (by omega) (by simpa using h1) h2 rfl
        rw [show j + (k + 1) = j + 1 + k by omega, h3] at this
        simp at this
    rw [this, hu]
    simp only [Nat.add_zero] at hp
    simp [hp]
  | x :: l, j, s + 1, d, h, hu, hp, hn => by
    simp only [lastUp]
    rw [lastUp_last l (j + 1) s d (by simpa using h) hu (by rw [show j + 1 + s = j + (s + 1) by omega]; exact hp) fun k d' u h1 h2 h3 h4 => by
      rw [show j + 1 + k = j + (k + 1) by omega]
      exact hn (k + 1) d' u (by omega) (by simpa using h2) h3 h4]
theorem hideV_get (ds : List (Option Nat × Nat)) (i : Nat) : ∀ (h : List (Nat × Nat)) (R : List Res) (id : Nat), known (hideV ds i h R) id → rget (hideV ds i h R) id = rget R id ∧ known R id ∧ ∀ s, (s, id) ∈ h → s = i ∨ (ancAt ds i).testBit s = true ∨ (ancAt ds s).testBit i = true
  | [], R, id, hk => ⟨rfl, hk, by simp⟩
  | u :: h, R, id, hk => by
    unfold hideV at hk ⊢
    split at hk
    · rename_i hc
      rw [if_pos hc]
      obtain ⟨a, b, c⟩ := hideV_get ds i h R id hk
      refine ⟨a, b, fun s hs => ?_⟩
      rcases List.mem_cons.1 hs with rfl | hs
      · simp only [Bool.or_eq_true, beq_iff_eq] at hc
        rcases hc with (hc | hc) | hc
        · exact .inl hc
        · exact .inr (.inl hc)
        · exact .inr (.inr hc)
      · exact c s hs
    · rename_i hc
      rw [if_neg hc]
      obtain ⟨a, b, c⟩ := hideV_get ds i h _ id hk
      have hne : u.2 ≠ id ∨ ¬ u.2 < R.length := by
        by_cases e : u.2 = id
        · right
          intro hl
          unfold known at b
          rw [rget_rset _ _ _ _ hl, if_pos e.symm] at b
          exact b rfl
        · exact .inl e
      have hr : rget (rset R u.2 .yet) id = rget R id := by
        rcases hne with e | hl
        · by_cases hl : u.2 < R.length
          · rw [rget_rset _ _ _ _ hl, if_neg (Ne.symm e)]
          · rw [rset_eq, List.set_eq_of_length_le (by omega)]
        · rw [rset_eq, List.set_eq_of_length_le (by omega)]
      have hkR : known R id := by unfold known at b ⊢; rw [← hr]; exact b
      refine ⟨by rw [a, hr], hkR, fun s hs => ?_⟩
      rcases List.mem_cons.1 hs with rfl | hs
      · exfalso
        rcases hne with e | hl
        · exact e rfl
        · exact hl (rget_lt hkR)
      · exact c s hs

def ins (L : Nat → Bool) (i : Nat) (k : Nat) : Bool := k == i || L k

/-- One more is done: its places are added. -/
theorem view_adds {res : List Res} {drs : List Dr} {L : Nat → Bool} {i : Nat} {d : Dr} (hd : drs[i]? = some d) (hi : L i = false) (hnew : ∀ k, k < d.new.length → rget d.new k ≠ .yet) :
    Adds (res ++ viewR L 0 drs) (res ++ viewR (ins L i) 0 drs) (res.length + lens (drs.take i)) d.new ∧
    (∀ id, KL res drs L id → ¬ fresh (res.length + lens (drs.take i)) d.new.length id) ∧
    (∀ id, KL res drs L id ∨ fresh (res.length + lens (drs.take i)) d.new.length id → KL res drs (ins L i) id) := by
  have hfr : ∀ id, fresh (res.length + lens (drs.take i)) d.new.length id ↔ res.length ≤ id ∧ ∃ y, locate drs (id - res.length) = some (i, y) := by
    intro id
    constructor
    · rintro ⟨h1, h2⟩
      refine ⟨by omega, id - res.length - lens (drs.take i), ?_⟩
      rw [locate_spec]
      exact ⟨⟨d, hd, by omega⟩, by omega⟩
    · rintro ⟨h1, y, h2⟩
      rw [locate_spec] at h2
      obtain ⟨⟨d', h3, h4⟩, h5⟩ := h2
      rw [hd] at h3
      simp only [Option.some.injEq] at h3
      subst h3
      exact ⟨by omega, by omega⟩
  have hKf : ∀ id, KL res drs L id → ¬ fresh (res.length + lens (drs.take i)) d.new.length id := by
    rintro id (hk | ⟨h1, j, y, h2, h3⟩) hf
    · have := rget_lt hk
      have := ((hfr id).1 hf).1
      omega
    · obtain ⟨_, y', h4⟩ := (hfr id).1 hf
      rw [h4] at h2
      simp only [Option.some.injEq, Prod.mk.injEq] at h2
      rw [← h2.1, hi] at h3
      simp at h3
  refine ⟨⟨fun id hk => ⟨?_, hKf id (known_view hk)⟩, fun id hk => ?_, fun k hk => ?_⟩, hKf, ?_⟩
  · have h0 := known_view hk
    rw [rget_view, rget_view]
    by_cases hlt : id < res.length
    · rw [if_pos hlt, if_pos hlt]
    · rw [if_neg hlt, if_neg hlt]
      rcases h0 with h0 | ⟨h1, j, y, h2, h3⟩
      · exact absurd (rget_lt h0) hlt
      · simp only [h2, ins, h3, Bool.or_true, if_true]
  · rcases known_view hk with h0 | ⟨h1, j, y, h2, h3⟩
    · left
      unfold known
      rw [rget_view, if_pos (rget_lt h0)]
      exact h0
    · by_cases e : j = i
      · subst e
        exact .inr ((hfr id).2 ⟨h1, y, h2⟩)
      · left
        have h3' : L j = true := by simpa [ins, e] using h3
        unfold known at hk ⊢
        rw [rget_view, if_neg (by omega), h2] at hk ⊢
        simp only [h3, h3', if_true] at hk ⊢
        exact hk
  · rw [rget_view, if_neg (by omega)]
    have : locate drs (res.length + lens (drs.take i) + k - res.length) = some (i, k) := by
      rw [locate_spec]
      exact ⟨⟨d, hd, hk⟩, by omega⟩
    rw [this]
    simp only [ins, beq_self_eq_true, Bool.true_or, if_true, hd]
  · rintro id (h | h)
    · rcases h with h | ⟨h1, j, y, h2, h3⟩
      · exact .inl h
      · exact .inr ⟨h1, j, y, h2, by simp [ins, h3]⟩
    · obtain ⟨h1, y, h2⟩ := (hfr id).1 h
      exact .inr ⟨h1, i, y, h2, by simp [ins]⟩

section
variable {C : Ctx} {opsA : Array Oper} {ds : List (Option Nat × Nat)} {sl : List S} {res : List Res} {drs : List Dr} {defs : List (Nat × List V × List V)} {ρ0 ρ : Env} {w0 w : World} {F0 : Nat → Prop} {L : Nat → Bool} {fps : Nat → Nat → Prop} {a : Act}

/-- A slot is written by the one operation that writes it. -/
theorem Inv.put (P : Planned C opsA.toList ds sl res drs) (I : Inv ds sl res drs defs ρ0 w0 F0 L ρ fps a w) {i : Nat} {o : Oper} {d : Dr} (ho : opsA[i]? = some o) (hd : drs[i]? = some d) (hdst : dstIn sl.length o.dst = true)
    {ρ' : Env} {fps' : Nat → Nat → Prop} {w' : World} {x : Value} (hL : ∀ k, (ancAt ds i).testBit k = true → L k = true) (hK : ∀ id, KL res drs L id → KL res drs (ins L i) id) (hag : Env.agree (KL res drs L) ρ ρ')
    (hH : HRep ρ' fps' (AV res drs (ins L i)) (KL res drs (ins L i)) w0 F0 w') (hx : SlotG ρ' (KL res drs (ins L i)) x d) (hnew : ∀ y, y < d.new.length → rget d.new y ≠ .yet) :
    Inv ds sl res drs defs ρ0 w0 F0 (ins L i) ρ' fps' (a.put o.dst x) w' := by
  have hpi := (P.at ho).1
  have hsz : (a.put o.dst x).tmps.size = a.tmps.size := by cases o.dst <;> simp [Act.put]
  have hold : ∀ t, o.dst ≠ some t → (a.put o.dst x).tmps.getD t undef = a.tmps.getD t undef := by
    intro t ht
    cases hdd : o.dst with
    | none => simp [Act.put]
    | some e =>
      have : e ≠ t := fun h => ht (by rw [hdd, h])
      simp [Act.put, Array.getD_eq_getD_getElem?, Array.getElem?_setIfInBounds_ne this]
  refine ⟨by rw [hsz]; exact I.size, ?_, ?_, hH, ?_, ?_, ?_, ?_⟩
  · intro t j m dj h1 h2 h3
    by_cases e : o.dst = some t
    · rw [e] at hpi
      have := dist_spec P.dst h1 hpi
      subst this
      rw [hd] at h2
      simp only [Option.some.injEq] at h2
      subst h2
      rw [e] at hdst
      have hlt : t < sl.length := by simpa [dstIn] using hdst
      have : (a.put o.dst x).tmps.getD t undef = x := by
        rw [e]
        simp [Act.put, I.size, hlt]
      rw [this]
      exact hx
    · rw [hold t e]
      have hji : j ≠ i := fun hji => by
        subst hji
        rw [h1] at hpi
        simp only [Option.some.injEq, Prod.mk.injEq] at hpi
        exact e hpi.1.symm
      exact (I.done t j m dj h1 h2 (by simpa [ins, hji] using h3)).env hK hag
  · intro t hall
    have e : o.dst ≠ some t := fun e => by
      rw [e] at hpi
      have := hall i _ hpi
      simp [ins] at this
    rw [hold t e]
    exact (I.todo t fun j m hj => by
      have := hall j m hj
      simp only [ins, Bool.or_eq_false_iff] at this
      exact this.2).env hK hag
  · intro j k hj hk
    simp only [ins, Bool.or_eq_true, beq_iff_eq] at hj ⊢
    rcases hj with rfl | hj
    · exact .inr (hL k hk)
    · exact .inr (I.down j k hj hk)
  · have hag' : Env.agree (known res) ρ ρ' := hag.mono fun id h => .inl h
    obtain ⟨e1, e2⟩ := defs_env (ρ' := ρ') (K' := known res) I.defs.2 hag' fun _ h => h
    exact ⟨by rw [show (a.put o.dst x).defers = a.defers from put_defers _ _ _, I.defs.1]; exact e1.symm, e2⟩
  · exact I.agree.trans (hag.mono fun id h => .inl h) fun _ h => h
  · intro j dj h1 h2
    by_cases e : j = i
    · subst e
      rw [hd] at h1
      simp only [Option.some.injEq] at h1
      subst h1
      exact hnew
    · exact I.newk j dj h1 (by simpa [ins, e] using h2)

theorem KL_mono {p q : Nat → Bool} (h : ∀ k, p k = true → q k = true) {id : Nat} (hk : KL res drs p id) : KL res drs q id := by
  rcases hk with h1 | ⟨h1, j, y, h2, h3⟩
  · exact .inl h1
  · exact .inr ⟨h1, j, y, h2, h j h3⟩
theorem KL_take {p : Nat → Bool} {i id : Nat} (hk : KL res (drs.take i) p id) : KL res drs p id := by
  rcases hk with h1 | ⟨h1, j, y, h2, h3⟩
  · exact .inl h1
  · exact .inr ⟨h1, j, y, (locate_take h2).2, h3⟩
theorem AV_length : (AV res drs L).length = res.length + lens drs := by unfold AV; rw [upV_length, List.length_append, viewR_length]
theorem AV_get {id : Nat} (h : id < res.length + lens drs) : rget (AV res drs L) id = (lastUp L id 0 drs).getD (rget (res ++ viewR L 0 drs) id) := by
  unfold AV
  rw [upV_get _ _ _ _ _ (by rw [List.length_append, viewR_length]; exact h)]

/-- A store of the plan. -/
theorem plan_store {st : Bool} {hid : List (Nat × Nat)} (hpl : ∀ i d, drs[i]? = some d → ∃ o, opsA.toList[i]? = some o ∧ planOne C opsA.toList ds sl res st hid (drs.take i) i o = some d) {s : Nat} {d : Dr} {u : Nat × Res} (hd : drs[s]? = some d) (hu : d.up = some u) :
    ∃ o, opsA.toList[s]? = some o ∧ dstIn sl.length o.dst = true ∧ planSt C (viewS (ancAt ds s) s 0 ds (drS (drs.take s)) sl) (vw ds hid res (drs.take s) s) o = some d := by
  obtain ⟨o, ho, hp⟩ := hpl s d hd
  unfold planOne at hp
  split at hp
  case isFalse => simp at hp
  rename_i hc
  simp only [Bool.and_eq_true] at hc
  rcases planOp2_cases hp with h | h
  · rw [planOp_up h] at hu; simp at hu
  · exact ⟨o, ho, hc.2, h⟩
theorem store_known (P : Planned C opsA.toList ds sl res drs) : ∀ (s : Nat) (d : Dr) (u : Nat × Res), drs[s]? = some d → d.up = some u → KL res drs (fun k => (ancAt ds s).testBit k) u.1 ∧ ∃ ty c, u.2 = .blk ty c := by
  obtain ⟨st, hid, hpl, hhid⟩ := P.plan
  intro s
  induction s using Nat.strongRecOn with
  | _ s ih =>
    intro d u hd hu
    obtain ⟨o, ho, _, hp⟩ := plan_store hpl hd hu
    obtain ⟨p1, p2, p3, p4⟩ := P.at (i := s) (o := o) (by simpa using ho)
    obtain ⟨t, p, x, id, off, y, ty, c, c', _, _, _, _, _, _, _, hr, _, rfl⟩ := planSt_spec hp
    simp only [Option.some.injEq] at hu
    subst hu
    refine ⟨?_, ty, c', rfl⟩
    have hk : known (vw ds hid res (drs.take s) s) id := by unfold known; rw [hr]; simp
    obtain ⟨_, hk2, _⟩ := hideV_get _ _ _ _ _ hk
    have hlen := rget_lt hk2
    rw [upV_length] at hlen
    unfold known at hk2
    rw [upV_get _ _ _ _ _ hlen] at hk2
    cases hl : lastUp (Nat.testBit (ancAt ds s)) id 0 (drs.take s) with
    | some r =>
      obtain ⟨k, d', h1, h2, h3⟩ := lastUp_some _ _ hl
      rw [List.getElem?_take] at h1
      simp only [Nat.zero_add] at h3
      have hks := p2 k h3
      rw [if_pos hks] at h1
      exact KL_mono (fun q hq => p4 k q h3 hq) (ih k hks d' _ h1 h2).1
    | none =>
      rw [hl] at hk2
      rw [addR_eq] at hk2
      exact KL_take (known_view hk2)
theorem AV_known (P : Planned C opsA.toList ds sl res drs) (hdown : ∀ i k, L i = true → (ancAt ds i).testBit k = true → L k = true) {id : Nat} (hk : known (AV res drs L) id) : KL res drs L id := by
  have hlt := rget_lt hk
  rw [AV_length] at hlt
  unfold known at hk
  rw [AV_get hlt] at hk
  cases hl : lastUp L id 0 drs with
  | some r =>
    obtain ⟨k, d', h1, h2, h3⟩ := lastUp_some _ _ hl
    simp only [Nat.zero_add] at h3
    exact KL_mono (fun q hq => hdown k q h3 hq) (store_known P k d' _ h1 h2).1
  | none =>
    rw [hl] at hk
    exact known_view hk
/-- What an operation sees is so. -/
theorem vw_forget {hid : List (Nat × Nat)} (P : Planned C opsA.toList ds sl res drs) (hhid : ∀ s d u, drs[s]? = some d → d.up = some u → (s, u.1) ∈ hid) {i : Nat} (hil : i ≤ drs.length) (hi : L i = false) (hL : ∀ k, (ancAt ds i).testBit k = true → L k = true)
    (hlt : ∀ k, (ancAt ds i).testBit k = true → k < i) (hdown : ∀ i k, L i = true → (ancAt ds i).testBit k = true → L k = true) {id : Nat} (hk : known (vw ds hid res (drs.take i) i) id) : rget (vw ds hid res (drs.take i) i) id = rget (AV res drs L) id := by
  obtain ⟨h1, h2, h3⟩ := hideV_get _ _ _ _ _ hk
  have hlen := rget_lt h2
  rw [upV_length] at hlen
  unfold vw
  rw [h1, upV_get _ _ _ _ _ hlen]
  have hlen2 : id < res.length + lens drs := by
    rw [addR_eq, List.length_append, viewR_length] at hlen
    have : lens (drs.take i) ≤ lens drs := by
      have : ∀ (l : List Dr) (n : Nat), lens (l.take n) ≤ lens l := by
        intro l
        induction l with
        | nil => intro n; simp [lens]
        | cons d l ih =>
          intro n
          cases n with
          | zero => simp [lens]
          | succ n => simp only [List.take_succ_cons, lens]; have := ih n; omega
      exact this drs i
    omega
  rw [AV_get hlen2]
  have hup : lastUp (Nat.testBit (ancAt ds i)) id 0 (drs.take i) = lastUp L id 0 drs := by
    refine lastUp_congr drs 0 i fun k d u e1 e2 e3 => ?_
    simp only [Nat.zero_add]
    constructor
    · intro hLk
      have hm := hhid k d u e1 e2
      rw [e3] at hm
      rcases h3 k hm with rfl | h | h
      · rw [hi] at hLk; simp at hLk
      · exact ⟨hlt k h, h⟩
      · rw [hdown k i hLk h] at hi; simp at hi
    · rintro ⟨_, h⟩
      exact hL k h
  rw [hup]
  cases hl : lastUp L id 0 drs with
  | some r => rfl
  | none =>
    simp only [Option.getD_none]
    unfold known at h2
    rw [upV_get _ _ _ _ _ hlen, hup, hl] at h2
    rw [addR_eq] at h2 ⊢
    exact view_forget (fun k hk => hL k hk) id h2
/-- One more is done that is no store. -/
theorem AV_adds (P : Planned C opsA.toList ds sl res drs) (hdown : ∀ i k, L i = true → (ancAt ds i).testBit k = true → L k = true) {i : Nat} {d : Dr} (hd : drs[i]? = some d) (hi : L i = false) (hu : d.up = none) (hnew : ∀ k, k < d.new.length → rget d.new k ≠ .yet) :
    Adds (AV res drs L) (AV res drs (ins L i)) (res.length + lens (drs.take i)) d.new ∧
    (∀ id, KL res drs L id → ¬ fresh (res.length + lens (drs.take i)) d.new.length id) ∧
    (∀ id, KL res drs L id ∨ fresh (res.length + lens (drs.take i)) d.new.length id → KL res drs (ins L i) id) := by
  obtain ⟨⟨a1, a2, a3⟩, b, c⟩ := view_adds (res := res) hd hi hnew
  have hup : ∀ id, lastUp (ins L i) id 0 drs = lastUp L id 0 drs := fun id => by
    have := lastUp_congr (p := ins L i) (L := L) (id := id) drs 0 drs.length fun k d' u e1 e2 e3 => by
      simp only [Nat.zero_add]
      have hk : k ≠ i := fun e => by
        subst e
        rw [hd] at e1
        simp only [Option.some.injEq] at e1
        subst e1
        rw [hu] at e2; simp at e2
      have hkl := (List.getElem?_eq_some_iff.1 e1).1
      constructor
      · intro h; exact ⟨hkl, by simp [ins, h]⟩
      · rintro ⟨_, h⟩; simpa [ins, hk] using h
    rwa [List.take_length] at this
  have hnot : ∀ id, KL res drs L id → ∀ r, lastUp L id 0 drs = some r → r ≠ .yet := fun id _ r hr => by
    obtain ⟨k, d', h1, h2, _⟩ := lastUp_some _ _ hr
    obtain ⟨_, ty, c, e⟩ := store_known P k d' _ h1 h2
    simp only at e
    rw [e]; simp
  refine ⟨⟨fun id hk => ?_, fun id hk => ?_, fun k hk => ?_⟩, b, c⟩
  · have hKL := AV_known P hdown hk
    have hlt := rget_lt hk
    rw [AV_length] at hlt
    refine ⟨?_, b id hKL⟩
    rw [AV_get hlt, AV_get hlt, hup]
    cases hl : lastUp L id 0 drs with
    | some r => rfl
    | none =>
      simp only [Option.getD_none]
      unfold known at hk
      rw [AV_get hlt, hl] at hk
      exact (a1 id hk).1
  · have hlt := rget_lt hk
    rw [AV_length] at hlt
    unfold known at hk ⊢
    rw [AV_get hlt, hup] at hk
    rw [AV_get hlt]
    cases hl : lastUp L id 0 drs with
    | some r =>
      left
      rw [hl] at hk
      exact hk
    | none =>
      rw [hl] at hk
      exact a2 id hk
  · have h3 := a3 k hk
    have hlt : res.length + lens (drs.take i) + k < res.length + lens drs := by
      have := lens_take_le drs drs.length i k ⟨d, hd, hk⟩ (List.getElem?_eq_some_iff.1 hd).1
      rw [List.take_length] at this
      omega
    rw [AV_get hlt, hup]
    have hfr : fresh (res.length + lens (drs.take i)) d.new.length (res.length + lens (drs.take i) + k) := ⟨by omega, by omega⟩
    cases hl : lastUp L (res.length + lens (drs.take i) + k) 0 drs with
    | none => exact h3
    | some r =>
      exfalso
      obtain ⟨s, d', h1, h2, h4⟩ := lastUp_some _ _ hl
      simp only [Nat.zero_add] at h4
      exact b _ (KL_mono (fun q hq => hdown s q h4 hq) (store_known P s d' _ h1 h2).1) hfr
/-- One more store is done. -/
theorem AV_store (P : Planned C opsA.toList ds sl res drs) {hid : List (Nat × Nat)} (hhid : ∀ s d u, drs[s]? = some d → d.up = some u → (s, u.1) ∈ hid) (hdown : ∀ i k, L i = true → (ancAt ds i).testBit k = true → L k = true) {i : Nat} {d : Dr} {id : Nat} {r : Res} (hd : drs[i]? = some d)
    (hi : L i = false) (hu : d.up = some (id, r)) (hn : d.new = []) (hk : known (vw ds hid res (drs.take i) i) id) (hlt : ∀ k, (ancAt ds i).testBit k = true → k < i) (hkn : known (AV res drs L) id) :
    (∀ x, known (AV res drs (ins L i)) x → rget (AV res drs (ins L i)) x = rget (rset (AV res drs L) id r) x) ∧ ∀ x, KL res drs L x ↔ KL res drs (ins L i) x := by
  have hKL : ∀ x, KL res drs L x ↔ KL res drs (ins L i) x := fun x => by
    constructor
    · exact KL_mono fun k hk => by simp [ins, hk]
    · rintro (h | ⟨h1, j, y, h2, h3⟩)
      · exact .inl h
      · refine .inr ⟨h1, j, y, h2, ?_⟩
        have hj : j ≠ i := fun e => by
          subst e
          rw [locate_spec] at h2
          obtain ⟨⟨d', e1, e2⟩, _⟩ := h2
          rw [hd] at e1
          simp only [Option.some.injEq] at e1
          subst e1
          rw [hn] at e2; simp at e2
        simpa [ins, hj] using h3
  refine ⟨fun x hx => ?_, hKL⟩
  have hxl := rget_lt hx
  rw [AV_length] at hxl
  have hidl := rget_lt hkn
  have hbase : rget (res ++ viewR (ins L i) 0 drs) x = rget (res ++ viewR L 0 drs) x := by
    rw [rget_view, rget_view]
    split
    · rfl
    · cases hl : locate drs (x - res.length) with
      | none => rfl
      | some q =>
        obtain ⟨k, y⟩ := q
        simp only
        have hj : k ≠ i := fun e => by
          subst e
          rw [locate_spec] at hl
          obtain ⟨⟨d', e1, e2⟩, _⟩ := hl
          rw [hd] at e1
          simp only [Option.some.injEq] at e1
          subst e1
          rw [hn] at e2; simp at e2
        simp [ins, hj]
  rw [rget_rset _ _ _ _ hidl, AV_get hxl]
  by_cases e : x = id
  · subst e
    rw [if_pos rfl, lastUp_last drs 0 i d hd hu (by simp [ins]) fun k d' u h1 h2 h3 h4 => ?_]
    · rfl
    · simp only [Nat.zero_add, ins, Bool.or_eq_false_iff, beq_eq_false_iff_ne]
      refine ⟨by omega, ?_⟩
      cases hLk : L k with
      | false => rfl
      | true =>
        exfalso
        obtain ⟨_, _, h5⟩ := hideV_get _ _ _ _ _ hk
        have hm := hhid k d' u h2 h3
        rw [h4] at hm
        rcases h5 k hm with rfl | h | h
        · omega
        · have := hlt k h; omega
        · rw [hdown k i hLk h] at hi; simp at hi
  · rw [if_neg e, AV_get hxl, hbase]
    have hup : lastUp (ins L i) x 0 drs = lastUp L x 0 drs := by
      have := lastUp_congr (p := ins L i) (L := L) (id := x) drs 0 drs.length fun k d' u e1 e2 e3 => by
        simp only [Nat.zero_add]
        have hk : k ≠ i := fun e' => by
          subst e'
          rw [hd] at e1
          simp only [Option.some.injEq] at e1
          subst e1
          rw [hu] at e2
          simp only [Option.some.injEq] at e2
          subst e2
          exact e e3.symm
        have hkl := (List.getElem?_eq_some_iff.1 e1).1
        constructor
        · intro h; exact ⟨hkl, by simp [ins, h]⟩
        · rintro ⟨_, h⟩; simpa [ins, hk] using h
      rwa [List.take_length] at this
    rw [hup]

/-- An operation that is ready is done. -/
theorem Inv.step {ops : Array Oper} {K : Act → World → Prop} {Q : Exit → Act → World → Prop} {ro : Option Nat} (hops : ops = opsA) (hnd : ro ≠ none → ∀ o ∈ opsA.toList, notDefer o) (hC : C.Sound) (P : Planned C opsA.toList ds sl res drs) (hq : ∀ (i : Nat) (d : Dr), drs[i]? = some d → (d.g = true → holdsO d.q))
    (I : Inv ds sl res drs defs ρ0 w0 F0 L ρ fps a w) {i : Nat} {d : Dr} (hd : drs[i]? = some d)
    (hi : L i = false) (hL : ∀ k, (ancAt ds i).testBit k = true → L k = true)
    (hn : ∀ ρ' fps' a' w', Inv ds sl res drs defs ρ0 w0 F0 (ins L i) ρ' fps' a' w' → K a' w') : wpOpIn (FF C.P ro) 0 C.P ops Q i K a w := by
  subst hops
  obtain ⟨st, hid, hpl, hhid⟩ := P.plan
  obtain ⟨o, ho, hp⟩ := hpl i d hd
  have ho' : ops[i]? = some o := by simpa using ho
  obtain ⟨p1, p2, p3, p4⟩ := P.at ho'
  have hilt : i < drs.length := (List.getElem?_eq_some_iff.1 hd).1
  have hview : FRep ρ (KL res drs L) (viewS (ancAt ds i) i 0 ds (drS (drs.take i)) sl) a := by
    refine P.view I (by omega) (fun k hk => ⟨hL k hk, p2 k hk⟩) p4 fun k m t h1 h2 h3 => ?_
    rcases h3 with rfl | h3
    · exact hi
    · cases hLk : L k with
      | false => rfl
      | true =>
        have hm : ancAt ds k = m := by simp [ancAt, h1]
        have := I.down k i hLk (by rw [hm]; exact h3)
        rw [hi] at this
        exact absurd this (by simp)
  have hres : HRep ρ fps (vw ds hid res (drs.take i) i) (KL res drs L) w0 F0 w := I.heap.forget fun id hk => vw_forget P hhid (by omega) hi hL p2 I.down hk
  unfold wpOpIn
  simp only [ho']
  have hdo : ro ≠ none → notDefer o := fun hr => hnd hr o (by rw [← Array.getElem?_toList] at ho'; exact List.mem_of_getElem? ho')
  unfold planOne at hp
  split at hp
  · rename_i hc
    simp only [Bool.and_eq_true] at hc
    rcases planOp2_cases hp with hp | hp
    case inr =>
      obtain ⟨t, px, x, id, off, y, ty, c, c', q1, q2, q3, q4, q5, q6, q7, q8, q9, rfl⟩ := planSt_spec hp
      rw [if_pos (by simp [Region.wanted, q3])]
      have hkv : known (vw ds hid res (drs.take i) i) id := by unfold known; rw [q8]; simp
      have hav : rget (AV res drs L) id = .blk ty c := by rw [← vw_forget P hhid (by omega) hi hL p2 I.down hkv]; exact q8
      have hkn : known (AV res drs L) id := by unfold known; rw [hav]; simp
      obtain ⟨e1, e2⟩ := oval_spec hview rfl q4
      obtain ⟨e3, e4⟩ := oval_spec hview rfl q5
      have hst : storeV C.P (AV res drs L) t (.lp id off) y = some (rset (AV res drs L) id (.blk ty c')) := by
        unfold storeV
        rw [if_pos (by rw [q6, q7]; simp)]
        simp only [hav, q9, Option.map_some]
      obtain ⟨w', s1, s2, s3⟩ := storeV_spec I.heap hst e2 e4
      have hrun : (execOp a.eval o).run C.P w = .ok .skip w' := by simp [execOp, q1, e1, e3, s1]
      refine oper_in hdo (fun f hf => by unfold Oper.about at hf; rw [q1] at hf; simp at hf) ?_
      rw [hrun]
      obtain ⟨t1, t2⟩ := AV_store P hhid I.down hd hi rfl rfl hkv p2 hkn
      have hH : HRep ρ fps (AV res drs (ins L i)) (KL res drs (ins L i)) w0 F0 w' := (s2.monoK fun id h => (t2 id).1 h).forget t1
      exact hn _ _ _ _ (I.put P ho' hd hc.2 hL (fun id h => (t2 id).1 h) (Env.agree.refl _ _) hH (by simp [SlotG]) (by simp))
    have hun := planOp_up hp
    unfold planOp at hp
    have hsame : d.new = [] → ∀ x, (∀ ρ', ρ' = ρ → SlotG ρ' (KL res drs (ins L i)) x d) → Inv ds sl res drs defs ρ0 w0 F0 (ins L i) ρ fps (a.put o.dst x) w := by
      intro hnew x hx
      obtain ⟨a1, a2, a3⟩ := AV_adds P I.down hd hi hun (by rw [hnew]; simp)
      obtain ⟨fps', g1, g2⟩ := I.heap.grow (ρ' := ρ) a1 a2 a3 (by rw [hnew]; exact Grew.refl _ _ _ _ _ _)
      have hH : HRep ρ fps (AV res drs (ins L i)) (KL res drs (ins L i)) w0 F0 w := by
        refine (I.heap.monoK fun id h => a3 id (.inl h)).forget fun id hk => ?_
        rcases a1.2.1 id hk with h | h
        · exact (a1.1 id h).1
        · unfold fresh at h; rw [hnew] at h; simp at h; omega
      exact I.put P ho' hd hc.2 hL (fun id h => a3 id (.inl h)) (Env.agree.refl _ _) hH (hx ρ rfl) (by rw [hnew]; simp)
    split at hp
    case isFalse => simp at hp
    rename_i hab
    have hab := abB_spec hview hab w
    split at hp
    · simp at hp
    · rename_i hch
      simp only [Option.some.injEq] at hp
      rw [chainOf_spec hview hch]
      simp only [does, Bool.false_eq_true, if_false]
      refine ⟨hab, ?_⟩
      exact hn _ _ _ _ (hsame (by rw [← hp]) undef fun ρ' _ => by subst hp; simp [SlotG])
    · rename_i ch hch
      rw [chainOf_spec hview hch]
      rw [show does (viewS (ancAt ds i) i 0 ds (drS (drs.take i)) sl) (some ch) = gOf (viewS (ancAt ds i) i 0 ds (drS (drs.take i)) sl) ch from rfl]
      split at hp
      · rename_i q x new hop
        cases ch with
        | nil =>
          simp only [Option.some.injEq] at hp
          subst hp
          simp only [gOf, if_true]
          refine oper_in hdo hab ?_
          have hq' : holdsO q := hq i _ hd rfl
          have hnK : ∀ k, k < new.length → ¬ KL res drs L (res.length + lens (drs.take i) + k) := fun k hk h => by
            have hfr : fresh (res.length + lens (drs.take i)) new.length (res.length + lens (drs.take i) + k) := ⟨by omega, by omega⟩
            rcases h with h | ⟨h1, j, y, h2, h3⟩
            · have := rget_lt h; omega
            · have h4 : locate drs (res.length + lens (drs.take i) + k - res.length) = some (i, k) := by
                rw [locate_spec]; exact ⟨⟨_, hd, hk⟩, by omega⟩
              rw [h4] at h2
              simp only [Option.some.injEq, Prod.mk.injEq] at h2
              rw [← h2.1, hi] at h3
              simp at h3
          obtain ⟨hy, hnew⟩ := opRO_spec hC hop hview hres rfl hq' hnK
          refine hy.wp fun v w' ⟨ρ', hg, hv, hx⟩ => ?_
          obtain ⟨a1, a2, a3⟩ := AV_adds P I.down hd hi hun hnew
          obtain ⟨fps', g1, g2⟩ := I.heap.grow a1 a2 a3 hg
          exact hn _ _ _ _ (I.put P ho' hd hc.2 hL (fun id h => a3 id (.inl h)) g2 g1 ⟨hv, ok_mono a3 _ hx⟩ hnew)
        | cons c0 c1 =>
          simp only at hp
          split at hp
          · rename_i hne
            have hne : new = [] := by simpa using hne
            subst hne
            simp only [Option.some.injEq] at hp
            subst hp
            by_cases hg : gOf (viewS (ancAt ds i) i 0 ds (drS (drs.take i)) sl) (c0 :: c1) = true
            · rw [if_pos hg]
              refine oper_in hdo hab ?_
              have hq' : holdsO q := hq i _ hd hg
              obtain ⟨hy, _⟩ := opRO_spec hC hop hview hres hg hq' (fun k hk => by simp at hk)
              refine hy.wp fun v w' ⟨ρ', hgr, hv, hx⟩ => ?_
              obtain ⟨a1, a2, a3⟩ := AV_adds P I.down hd hi hun (by simp)
              obtain ⟨fps', g1, g2⟩ := I.heap.grow a1 a2 a3 hgr
              refine hn _ _ _ _ (I.put P ho' hd hc.2 hL (fun id h => a3 id (.inl h)) g2 g1 ⟨fun _ => ⟨hv, ok_mono a3 _ hx⟩, fun h => ?_⟩ (by simp))
              simp only at h
              rw [hg] at h; simp at h
            · rw [if_neg hg]
              refine ⟨hab, ?_⟩
              exact hn _ _ _ _ (hsame rfl undef fun ρ' _ => ⟨fun h => absurd h hg, fun _ => rfl⟩)
          · simp at hp
      · simp at hp
  · simp at hp

end
end Go.Sx
