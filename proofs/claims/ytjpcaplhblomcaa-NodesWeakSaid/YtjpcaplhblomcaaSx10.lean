/- The executor: one operation that does not write, whatever it is, calls by contract among them. No condition. -/
import Derived.Test.YtjpcaplhblomcaaSx9q
import Derived.DefersIn
set_option linter.unusedVariables false
set_option linter.unusedSimpArgs false
namespace Go.Sx
open Go.RowKit (Below)

abbrev RR := Option (Option Prop × V × List Res)

def callable (P : Program) (f : Nat) : Bool :=
  match P.funcs[f]? with
  | some fn => fn.name != "runtime.NumGoroutine" && fn.body.isSome
  | none => false

/-- A call by contract. -/
def callV (C : Ctx) (res : List Res) (nid : Nat) (fv : V) (args : List V) : RR :=
  match fv with
  | .fn f caps => match C.Γ f with
    | some g => if callable C.P f then g res nid (args ++ caps) else none
    | none => none
  | _ => none

def lenV (P : Program) (res : List Res) (t : Nat) (x : V) : Option (Option Prop × V) :=
  match P.underlying t with
  | some .string => match x with
    | .st s => some (some (inRo .i64 (szI s)), .it .i64 (szI s))
    | _ => none
  | some (.slice _) => match x with
    | .sa id => match rlook res id with
      | .arr _ _ l => some (none, .it .i64 (n2i l.len))
      | .obs _ _ L => some (none, .it .i64 (n2i (llen L)))
      | _ => none
    | .sc _ len _ => if inR .i64 (len : Int) then some (none, .ci .i64 (len : Int)) else none
    | .nl (.slice none 0 0) => some (none, .ci .i64 0)
    | _ => none
  | some (.array n _) => if inR .i64 (n : Int) then some (none, .ci .i64 (n : Int)) else none
  | _ => none

def minV (x y : V) : Option V :=
  match toInt x, toInt y with
  | some (k, a), some (k', b) => if k == k' then some (.it k (imin a b)) else none
  | _, _ => none
def maxV (x y : V) : Option V :=
  match toInt x, toInt y with
  | some (k, a), some (k', b) => if k == k' then some (.it k (imax a b)) else none
  | _, _ => none

def builtinV (C : Ctx) (res : List Res) (b : Builtin) (ts : List Nat) (xs : List V) : Option (Option Prop × V) :=
  match b, ts, xs with
  | .len, t :: _, [x] => lenV C.P res t x
  | .min, _, [x, y] => (minV x y).map fun r => (none, r)
  | .max, _, [x, y] => (maxV x y).map fun r => (none, r)
  | _, _, _ => none

/-- The choice behind a guard: a && b, a || b. -/
def pickV (c a b : V) : Option V :=
  match toBool c, toBool a, toBool b with
  | some x, some y, some z =>
    if isCb c then some (if x then a else b)
    else match a, b with
      | .cb true, _ => some (.bo (bor x z))
      | .cb false, _ => some (.bo (bnd (bnt x) z))
      | _, .cb false => some (.bo (bnd x y))
      | _, .cb true => some (.bo (bor (bnt x) y))
      | _, _ => some (.bo (bite x y z))
  | _, _, _ => none

theorem pickV_spec {c a b r : V} (h : pickV c a b = some r) : ∃ x y z, toBool c = some x ∧ toBool a = some y ∧ toBool b = some z ∧ toBool r = some (if x then y else z) := by
  unfold pickV at h
  split at h
  · rename_i x y z hc ha hb
    refine ⟨x, y, z, hc, ha, hb, ?_⟩
    split at h
    · simp only [Option.some.injEq] at h
      subst h
      cases x <;> simp_all
    · split at h <;> simp only [Option.some.injEq] at h <;> subst h <;> simp only [toBool, Option.some.injEq] at ha hb ⊢ <;> (try subst ha) <;> (try subst hb) <;> cases x <;> simp_all [bnd, bor, bnt, bite]
  · simp at h

def notV (v : V) (b : Bool) : V :=
  match v with
  | .cb true => .cb false
  | .cb false => .cb true
  | _ => .bo (bnt b)
theorem notV_spec {v : V} {b : Bool} (h : toBool v = some b) : toBool (notV v b) = some (!b) := by
  cases v <;> simp [toBool] at h <;> subst h
  · rename_i b; cases b <;> rfl
  · rfl

def opParts (sl : List S) (ch : List (Nat × Bool)) (ps : List (Nat × Operand)) : Option (List (Nat × V)) :=
  allM (fun p : Nat × Operand => (oval sl ch p.2).map fun v => (p.1, v)) ps

/-- An operation that does not write: what it asks, what it gives, what it makes. -/
def opRO (C : Ctx) (sl : List S) (res : List Res) (nid : Nat) (ch : List (Nat × Bool)) : Op → RR
  | .move x => (oval sl ch x).map fun v => (none, v, [])
  | .assign x => (oval sl ch x).map fun v => (none, v, [])
  | .pick c a b => match c with
    | .tmp s => match oval sl ch c with
      | some (.cb x) => if x then (oval sl ch a).map fun v => (none, v, []) else (oval sl ch b).map fun v => (none, v, [])
      | some cv => match oval sl ((s, true) :: ch) a, oval sl ((s, false) :: ch) b with
        | some av, some bv => (pickV cv av bv).map fun v => (none, v, [])
        | _, _ => none
      | none => none
    | _ => none
  | .box t x => match oval sl ch x with
    | some v => if isTp v then none else some (none, .lp nid 0, [.blk t v])
    | none => none
  | .alloc t => match C.Z t with
    | some z => some (none, .lp nid 0, [.blk t z])
    | none => none
  | .makeSlice t x y => match oval sl ch x, oval sl ch y with
    | some a, some b => makeV C nid t a b
    | _, _ => none
  | .makeInterface t x => match oval sl ch x, C.P.underlying t with
    | some v, some d => match d with
      | .interface _ => none
      | _ => some (none, .ic t v, [])
    | _, _ => none
  | .makeMap t r => match r with
    | none => match C.P.underlying t with
      | some (.map kt _) => match C.P.underlying kt with
        | some (.int kd) => some (none, .mp nid, [.mp kd [] []])
        | _ => none
      | _ => none
    | some _ => none
  | .lookup t m x two => match oval sl ch m, oval sl ch x with
    | some mv, some xv => match lookV C res t mv xv two with
      | some y => some (none, y, [])
      | none => none
    | _, _ => none
  | .load t x => match oval sl ch x with
    | some p => (loadV C res t p).map fun r => (r.1, r.2, [])
    | none => none
  | .fieldAddr t x f => match oval sl ch x with
    | some p => (faV C.P t p f).map fun r => (none, r, [])
    | none => none
  | .field t x f => match oval sl ch x with
    | some p => (fdV C.P t p f).map fun r => (none, r, [])
    | none => none
  | .indexAddr t x i => match oval sl ch x, oval sl ch i with
    | some p, some j => (iaV C.P res t p j).map fun r => (r.1, r.2, [])
    | _, _ => none
  | .index t x i => match oval sl ch x, oval sl ch i with
    | some p, some j => (ixV C.P t p j).map fun r => (r.1, r.2, [])
    | _, _ => none
  | .nilCheck x => match oval sl ch x with
    | some (.lp i o) => some (none, .lp i o, [])
    | some (.lx a b c d e f) => some (none, .lx a b c d e f, [])
    | some (.ap a b c d) => some (none, .ap a b c d, [])
    | some (.ax a b c d e f g h) => some (none, .ax a b c d e f g h, [])
    | some (.op a b) => some (none, .op a b, [])
    | some (.fn f l) => some (none, .fn f l, [])
    | _ => none
  | .binOp op t x y _ => match oval sl ch x, oval sl ch y with
    | some a, some b => (binV C.P op t a b).map fun r => (r.1, r.2, [])
    | _, _ => none
  | .unOp .not _ x => match oval sl ch x with
    | some v => match toBool v with
      | some b => some (none, notV v b, [])
      | none => none
    | none => none
  | .unOp .neg _ x => match oval sl ch x with
    | some v => match toInt v with
      | some (k, n) => if isCi v then (if inR k (0 - n) then some (none, .ci k (0 - n), []) else none) else some (some (inRo k (isub 0 n)), .it k (isub 0 n), [])
      | none => none
    | none => none
  | .convert s d x => match oval sl ch x with
    | some v => (cvV C.P s d v).map fun r => (r.1, r.2, [])
    | none => none
  | .extract x i => match oval sl ch x with
    | some (.tp l) => (l[i]?).map fun v => (none, v, [])
    | _ => none
  | .makeFunc (.func f) first caps => if first.isEmpty then (ovals sl ch caps.toList).map fun l => (none, .fn f l, []) else none
  | .build t ps => match opParts sl ch ps.toList with
    | some l => (buildV C t l).map fun r => (none, r, [])
    | none => none
  | .buildSlice t n ps => match opParts sl ch ps.toList with
    | some l => (bsV C t n l nid).map fun r => (none, r.1, r.2)
    | none => none
  | .call c => match c.callee with
    | .value f => match oval sl ch f, ovals sl ch c.args.toList with
      | some fv, some vs => callV C res nid fv vs
      | _, _ => none
    | .builtin b => match ovals sl ch c.args.toList with
      | some vs => match b with
        | .append => appW C res nid c.argTypes.toList vs
        | b => (builtinV C res b c.argTypes.toList vs).map fun r => (r.1, r.2, [])
      | none => none
    | .invoke _ _ => none
  | _ => none

/-- An operation gives a value, at once or by a call that returns. -/
def Yields (P : Program) (o : Oper) (a : Act) (w : World) (R : Value → World → Prop) : Prop :=
  (∃ v w', (execOp a.eval o).run P w = .ok (.value v) w' ∧ R v w') ∨
  ∃ f args, (execOp a.eval o).run P w = .ok (.enter f args) w ∧ Calls P f args w fun e w' => ∃ v, e = .returned v ∧ R v w'

theorem Yields.wp {P : Program} {o : Oper} {a : Act} {w : World} {R : Value → World → Prop} {next : Act → World → Prop} {Q : Exit → Act → World → Prop} (h : Yields P o a w R)
    (hn : ∀ v w', R v w' → next (a.put o.dst v) w') : o.wp P a w next Q := by
  unfold Oper.wp
  rcases h with ⟨v, w', h1, h2⟩ | ⟨f, args, h1, h2⟩
  · rw [h1]; exact hn v w' h2
  · rw [h1]
    refine h2.mono fun e w' ⟨v, he, hr⟩ => ?_
    subst he
    exact hn v w' hr

/-- What a contract gives. -/
def Gives (K : Nat → Prop) (ρ : Env) (nid : Nat) (x : V) (new : List Res) (w0 : World) (F0 : Nat → Prop) (w : World) (v : Value) (w' : World) : Prop :=
  ∃ ρ', Grew K ρ ρ' nid new w0 F0 w w' ∧ v = den ρ' x ∧ ok (fun i => K i ∨ fresh nid new.length i) x

/-- A function that is deferred, and catches values of one type: it puts what they hold where its argument points to. -/
def CatchOK (P : Program) (f ts te : Nat) : Prop :=
  (∀ p w, CallsDIn Fence.wide 0 P f #[p] .returning w fun e u' w' => (∃ v, e = .returned v) ∧ u' = .returning ∧ w' = w) ∧
  ∀ b off ty cs cs' k n w, w.heap[b]? = some (.cells cs ty (0, 0)) → (∀ w1 : World, w1.heap[b]? = some (.cells cs ty (0, 0)) → (Instr.storeAt te (.pointer (some ⟨b, off, none⟩)) (.int k n)).run P w1 = .ok () (w1.setRow b cs')) →
    CallsDIn Fence.wide 0 P f #[.pointer (some ⟨b, off, none⟩)] (.panicking [{ v := .iface ts (.agg #[.int k n]), recovered := false }]) w fun e u' w'' =>
      (∃ v, e = .returned v) ∧ u' = .panicking [{ v := .iface ts (.agg #[.int k n]), recovered := true }] ∧ Below w.heap.size (w.setRow b cs') w''

/-- The context says what is so. -/
structure Ctx.Sound (C : Ctx) : Prop where
  z : C.ZOK
  mixed : C.P.follows .mixedOrders = true
  ct : ∀ f g, C.Γ f = some g → ∀ ρ fps res K w0 F0 w nid args q x new, HRep ρ fps res K w0 F0 w → okL K args → g res nid args = some (q, x, new) → holdsO q →
    (∀ k, k < new.length → ¬ K (nid + k)) →
    (Calls C.P f (denL ρ args).toArray w fun e w' => ∃ v, e = .returned v ∧ Gives K ρ nid x new w0 F0 w v w') ∧ ∀ k, k < new.length → rget new k ≠ .yet
  dk : ∀ f ts te, C.D f = some (ts, te) → CatchOK C.P f ts te

section
variable {C : Ctx} {ρ : Env} {fps : Nat → Nat → Prop} {sl : List S} {res : List Res} {K : Nat → Prop} {w0 w : World} {F0 : Nat → Prop} {a : Act} {nid : Nat} {ch : List (Nat × Bool)}

theorem gives_same {x : V} (hx : ok K x) : Gives K ρ nid x [] w0 F0 w (den ρ x) w :=
  ⟨ρ, Grew.refl _ _ _ _ _ _, rfl, ok_mono (fun _ h => .inl h) x hx⟩

theorem opParts_spec {ps : List (Nat × Operand)} {l : List (Nat × V)} (hF : FRep ρ K sl a) (hg : gOf sl ch = true) (h : opParts sl ch ps = some l) :
    (ps.map fun p => (p.1, a.eval p.2)) = l.map (fun p => (p.1, den ρ p.2)) ∧ ∀ p ∈ l, ok K p.2 := by
  induction ps generalizing l with
  | nil => simp only [opParts, allM, Option.some.injEq] at h; subst h; exact ⟨rfl, by simp⟩
  | cons p ps ih =>
    simp only [opParts, allM] at h
    split at h
    · rename_i y ys hy hys
      simp only [Option.some.injEq] at h
      subst h
      cases hv : oval sl ch p.2 with
      | none => simp [hv] at hy
      | some v =>
        simp only [hv, Option.map_some, Option.some.injEq] at hy
        subst hy
        obtain ⟨e1, e2⟩ := oval_spec hF hg hv
        obtain ⟨i1, i2⟩ := ih hys
        exact ⟨by simp [e1, i1], fun q hq => by
          rcases List.mem_cons.1 hq with rfl | hq
          · exact e2
          · exact i2 q hq⟩
    · simp at h

theorem lenV_spec {t : Nat} {x r : V} {q : Option Prop} (h : HRep ρ fps res K w0 F0 w) (hl : lenV C.P res t x = some (q, r)) (hq : holdsO q) (ts : List Nat) (ty : Nat) :
    (Builtin.len_ (t :: ts).toArray ty #[den ρ x]).run C.P w = .ok (den ρ r) w ∧ ok K r := by
  unfold lenV at hl
  have hge : ∀ (l : List Nat), (t :: l).toArray[0]? = some t := fun l => by simp
  split at hl
  · rename_i hu
    split at hl <;> simp only [Option.some.injEq, Prod.mk.injEq, reduceCtorEq] at hl
    obtain ⟨rfl, rfl⟩ := hl
    exact ⟨by simp [Builtin.len_, den, run_und w hu, goInt, szI], hq⟩
  · rename_i e hu
    split at hl
    · rename_i id
      split at hl <;> simp only [Option.some.injEq, Prod.mk.injEq, reduceCtorEq] at hl
      · rename_i own esz l hc
        obtain ⟨_, rfl⟩ := hl
        obtain ⟨fp, hh, _⟩ := h.look hc (by simp)
        obtain ⟨_, h2, h3, _⟩ := hh
        exact ⟨by simp [Builtin.len_, den, run_und w hu, goInt, h2, n2i], by simp only [ok, inR, n2i]; omega⟩
      · rename_i ty q' L hc
        obtain ⟨_, rfl⟩ := hl
        obtain ⟨fp, hh, _⟩ := h.look hc (by simp)
        obtain ⟨_, _, h2, h3, _⟩ := hh
        exact ⟨by simp [Builtin.len_, den, run_und w hu, goInt, h2, n2i, llen], by simp only [ok, inR, n2i, llen]; omega⟩
    · split at hl <;> simp only [Option.some.injEq, Prod.mk.injEq, reduceCtorEq] at hl
      rename_i hin
      obtain ⟨_, rfl⟩ := hl
      exact ⟨by simp [Builtin.len_, den, run_und w hu, goInt], hin⟩
    · simp only [Option.some.injEq, Prod.mk.injEq] at hl
      obtain ⟨_, rfl⟩ := hl
      exact ⟨by simp [Builtin.len_, den, run_und w hu, goInt], by simp [ok, inR]⟩
    · simp at hl
  · rename_i n e hu
    split at hl <;> simp only [Option.some.injEq, Prod.mk.injEq, reduceCtorEq] at hl
    rename_i hin
    obtain ⟨_, rfl⟩ := hl
    exact ⟨by simp [Builtin.len_, run_und w hu, goInt, den], hin⟩
  · simp at hl

theorem opRO_spec {o : Oper} {q : Option Prop} {x : V} {new : List Res} (hC : C.Sound) (h : opRO C sl res nid ch o.op = some (q, x, new)) (hF : FRep ρ K sl a) (hH : HRep ρ fps res K w0 F0 w)
    (hg : gOf sl ch = true) (hq : holdsO q) (hfr : ∀ k, k < new.length → ¬ K (nid + k)) :
    Yields C.P o a w (Gives K ρ nid x new w0 F0 w) ∧ ∀ k, k < new.length → rget new k ≠ .yet := by
  have pureY : ∀ {y : V}, (execOp a.eval o).run C.P w = .ok (.value (den ρ y)) w → ok K y → x = y → new = [] →
      Yields C.P o a w (Gives K ρ nid x new w0 F0 w) ∧ ∀ k, k < new.length → rget new k ≠ .yet := by
    intro y h1 h2 h3 h4
    subst h3; subst h4
    exact ⟨.inl ⟨_, _, h1, gives_same h2⟩, fun k hk => by simp at hk⟩
  have ov : ∀ {o : Operand} {y : V}, oval sl ch o = some y → a.eval o = den ρ y ∧ ok K y := fun ho => oval_spec hF hg ho
  obtain ⟨dst, op, type, pos, after, guard⟩ := o
  simp only at h
  cases op <;> simp only [opRO, reduceCtorEq] at h
  case move y =>
    cases hy : oval sl ch y with
    | none => simp [hy] at h
    | some v =>
      simp only [hy, Option.map_some, Option.some.injEq, Prod.mk.injEq] at h
      obtain ⟨_, rfl, rfl⟩ := h
      exact pureY (by simp [execOp, (ov hy).1]) (ov hy).2 rfl rfl
  case assign y =>
    cases hy : oval sl ch y with
    | none => simp [hy] at h
    | some v =>
      simp only [hy, Option.map_some, Option.some.injEq, Prod.mk.injEq] at h
      obtain ⟨_, rfl, rfl⟩ := h
      exact pureY (by simp [execOp, (ov hy).1]) (ov hy).2 rfl rfl
  case pick c y z =>
    split at h
    · rename_i s
      split at h
      · rename_i x hc
        obtain ⟨c1, c2⟩ := ov hc
        cases x with
        | true =>
          simp only [if_true] at h
          cases ha : oval sl ch y with
          | none => simp [ha] at h
          | some v =>
            simp only [ha, Option.map_some, Option.some.injEq, Prod.mk.injEq] at h
            obtain ⟨_, rfl, rfl⟩ := h
            exact pureY (by simp [execOp, c1, den, asBool, (ov ha).1]) (ov ha).2 rfl rfl
        | false =>
          simp only [Bool.false_eq_true, if_false] at h
          cases ha : oval sl ch z with
          | none => simp [ha] at h
          | some v =>
            simp only [ha, Option.map_some, Option.some.injEq, Prod.mk.injEq] at h
            obtain ⟨_, rfl, rfl⟩ := h
            exact pureY (by simp [execOp, c1, den, asBool, (ov ha).1]) (ov ha).2 rfl rfl
      rename_i cv _ hc
      split at h
      · rename_i av bv ha hb
        cases hp : pickV cv av bv with
        | none => simp [hp] at h
        | some r =>
          simp only [hp, Option.map_some, Option.some.injEq, Prod.mk.injEq] at h
          obtain ⟨_, rfl, rfl⟩ := h
          obtain ⟨X, Y, Z, e1, e2, e3, e4⟩ := pickV_spec hp
          obtain ⟨c1, c2⟩ := ov hc
          have hraw : raw (sget sl s) = some X := by
            simp only [oval] at hc
            cases hs : sget sl s with
            | und => simp [hs] at hc
            | ud => simp [hs] at hc
            | v y =>
              simp only [hs, Option.some.injEq] at hc
              subst hc
              cases y <;> simp [toBool] at e1 <;> subst e1 <;> rfl
            | gv k y =>
              simp only [hs] at hc
              split at hc <;> simp only [Option.some.injEq, reduceCtorEq] at hc
              subst hc
              cases y <;> simp [toBool] at e1 <;> subst e1 <;> rfl
          have hr : den ρ r = .bool (if X then Y else Z) := toBool_spec e4
          refine pureY (y := r) ?_ (by cases r <;> simp [toBool] at e4 <;> trivial) rfl rfl
          rw [hr]
          simp only [execOp, c1, toBool_spec e1, asBool, Sem.run_bind, Sem.run_pure, Result.andThen_ok]
          cases X with
          | true =>
            have := (oval_spec (ch := (s, true) :: ch) hF (by rw [gOf_cons]; simp [hraw, hg]) ha).1
            simp [this, toBool_spec e2]
          | false =>
            have := (oval_spec (ch := (s, false) :: ch) hF (by rw [gOf_cons]; simp [hraw, hg]) hb).1
            simp [this, toBool_spec e3]
      · simp at h
      · simp at h
    · simp at h
  case box t y =>
    split at h
    · rename_i v hy
      split at h
      · simp at h
      · rename_i ht
        simp only [Option.some.injEq, Prod.mk.injEq] at h
        obtain ⟨_, rfl, rfl⟩ := h
        have hn : ¬ K nid := by simpa using hfr 0 (by simp)
        refine ⟨.inl ⟨_, _, ?_, ρ.setNum nid w.heap.size, Grew.alloc (ty := t) (ov hy).2 (by simpa using ht) hn, rfl, .inr ⟨Nat.le_refl _, by simp⟩⟩, fun k hk => by simp at hk; subst hk; simp [rget]⟩
        simp [execOp, Instr.box, (ov hy).1, newVar, newRow, den, Env.setNum, cells]
    · simp at h
  case alloc t =>
    split at h
    · rename_i z hz
      simp only [Option.some.injEq, Prod.mk.injEq] at h
      obtain ⟨_, rfl, rfl⟩ := h
      have hn : ¬ K nid := by simpa using hfr 0 (by simp)
      obtain ⟨i, h1, h2, h3, h4, h5⟩ := hC.z t z hz
      refine ⟨.inl ⟨_, _, ?_, ρ.setNum nid w.heap.size, Grew.alloc (ty := t) (ok_empty h3) h4 hn, rfl, .inr ⟨Nat.le_refl _, by simp⟩⟩, fun k hk => by simp at hk; subst hk; simp [rget]⟩
      simp [execOp, Instr.alloc, run_zero (ρ := ρ) hC.z hz, newVar, newRow, den, Env.setNum, cells]
    · simp at h
  case makeSlice t y z =>
    split at h
    · rename_i u v hu hv
      obtain ⟨rfl, o', e', l', rfl⟩ := makeV_new h
      have hn : ¬ K nid := by simpa using hfr 0 (by simp)
      obtain ⟨w', ρ', e1, e2⟩ := makeV_spec (ρ := ρ) (w := w) (w0 := w0) (F0 := F0) hC.z h hq hn
      refine ⟨.inl ⟨_, w', ?_, ρ', e2, rfl, .inr ⟨Nat.le_refl _, by simp⟩⟩, fun k hk => by simp at hk; subst hk; simp [rget]⟩
      simp [execOp, (ov hu).1, (ov hv).1, e1]
    · simp at h
  case makeInterface t y =>
    split at h
    · rename_i v d hv hd
      have : ∀ {x' : V} {n' : List Res}, (∀ n, d ≠ .interface n) → some (none, V.ic t v, ([] : List Res)) = some (q, x', n') → x' = x → n' = new → Yields C.P ⟨dst, .makeInterface t y, type, pos, after, guard⟩ a w (Gives K ρ nid x new w0 F0 w) ∧ ∀ k, k < new.length → rget new k ≠ .yet := by
        intro x' n' hni hh h1 h2
        simp only [Option.some.injEq, Prod.mk.injEq] at hh
        obtain ⟨_, rfl, rfl⟩ := hh
        refine pureY (y := .ic t v) ?_ (ov hv).2 h1.symm h2.symm
        cases d <;> first
          | exact absurd rfl (hni _)
          | simp [execOp, (ov hv).1, Instr.makeInterface, run_und w hd, den]
      split at h
      · simp at h
      · rename_i hni
        exact this (fun n e => hni n e) h rfl rfl
    · simp at h
  case makeMap t r =>
    split at h
    case h_2 => simp at h
    split at h
    case h_2 => simp at h
    split at h
    case h_2 => simp at h
    simp only [Option.some.injEq, Prod.mk.injEq] at h
    obtain ⟨_, rfl, rfl⟩ := h
    have hn : ¬ K nid := by simpa using hfr 0 (by simp)
    refine ⟨.inl ⟨_, _, ?_, ρ.setNum nid w.heap.size, Grew.mapNew hn, rfl, .inr ⟨Nat.le_refl _, by simp⟩⟩, fun k hk => by simp at hk; subst hk; simp [rget]⟩
    simp [execOp, show (Instr.makeMap t none).run C.P w = .ok (.map (some w.heap.size)) (w.alloc (.map #[] 0)) from rfl, den, Env.setNum]
  case lookup t m y two =>
    split at h
    case h_2 => simp at h
    rename_i mv xv hm hy
    split at h
    case h_2 => simp at h
    rename_i r hl
    simp only [Option.some.injEq, Prod.mk.injEq] at h
    obtain ⟨_, rfl, rfl⟩ := h
    obtain ⟨e1, e2⟩ := lookV_spec hC.z hH hl (ov hy).2
    exact pureY (by simp [execOp, (ov hm).1, (ov hy).1, e1]) e2 rfl rfl
  case load t y =>
    split at h
    · rename_i p hp
      cases hl : loadV C res t p with
      | none => simp [hl] at h
      | some r =>
        simp only [hl, Option.map_some, Option.some.injEq, Prod.mk.injEq] at h
        obtain ⟨rfl, rfl, rfl⟩ := h
        obtain ⟨e1, e2, _⟩ := loadV_spec hH hl hq (ov hp).2
        exact pureY (by simp [execOp, (ov hp).1, e1]) e2 rfl rfl
    · simp at h
  case fieldAddr t y f =>
    split at h
    · rename_i p hp
      cases hl : faV C.P t p f with
      | none => simp [hl] at h
      | some r =>
        simp only [hl, Option.map_some, Option.some.injEq, Prod.mk.injEq] at h
        obtain ⟨_, rfl, rfl⟩ := h
        obtain ⟨e1, e2, _⟩ := faV_spec (ρ := ρ) (w := w) hl (ov hp).2
        exact pureY (by simp [execOp, (ov hp).1, e1]) e2 rfl rfl
    · simp at h
  case field t y f =>
    split at h
    · rename_i p hp
      cases hl : fdV C.P t p f with
      | none => simp [hl] at h
      | some r =>
        simp only [hl, Option.map_some, Option.some.injEq, Prod.mk.injEq] at h
        obtain ⟨_, rfl, rfl⟩ := h
        obtain ⟨e1, e2, _⟩ := fdV_spec (ρ := ρ) (w := w) hl (ov hp).2
        exact pureY (by simp [execOp, (ov hp).1, e1]) e2 rfl rfl
    · simp at h
  case indexAddr t y i =>
    split at h
    · rename_i p j hp hj
      cases hl : iaV C.P res t p j with
      | none => simp [hl] at h
      | some r =>
        simp only [hl, Option.map_some, Option.some.injEq, Prod.mk.injEq] at h
        obtain ⟨rfl, rfl, rfl⟩ := h
        obtain ⟨e1, e2, _⟩ := iaV_spec hH hl hq (ov hp).2 (ov hj).2
        exact pureY (by simp [execOp, (ov hp).1, (ov hj).1, e1]) e2 rfl rfl
    · simp at h
  case index t y i =>
    split at h
    · rename_i p j hp hj
      cases hl : ixV C.P t p j with
      | none => simp [hl] at h
      | some r =>
        simp only [hl, Option.map_some, Option.some.injEq, Prod.mk.injEq] at h
        obtain ⟨rfl, rfl, rfl⟩ := h
        obtain ⟨e1, e2, _⟩ := ixV_spec (ρ := ρ) (w := w) hl hq (ov hp).2 (ov hj).2
        exact pureY (by simp [execOp, (ov hp).1, (ov hj).1, e1]) e2 rfl rfl
    · simp at h
  case nilCheck y =>
    split at h <;> simp only [Option.some.injEq, Prod.mk.injEq, reduceCtorEq] at h <;> rename_i hy <;> obtain ⟨_, rfl, rfl⟩ := h <;> obtain ⟨e1, e2⟩ := ov hy <;>
      exact pureY (by simp [execOp, e1, den]) e2 rfl rfl
  case binOp op t y z t' =>
    split at h
    · rename_i p j hp hj
      cases hl : binV C.P op t p j with
      | none => simp [hl] at h
      | some r =>
        simp only [hl, Option.map_some, Option.some.injEq, Prod.mk.injEq] at h
        obtain ⟨rfl, rfl, rfl⟩ := h
        obtain ⟨e1, e2⟩ := binV_spec (ρ := ρ) (K := K) w y z hl hq (ov hp).2 (ov hj).2
        exact pureY (by simp only [execOp, (ov hp).1, (ov hj).1]; rw [Sem.run_bind, e1]; rfl) e2 rfl rfl
    · simp at h
  case unOp op t y =>
    cases op <;> simp only [reduceCtorEq] at h
    · split at h
      · rename_i v hy
        split at h
        · rename_i k n hn
          obtain ⟨e1, e2⟩ := toInt_spec (ρ := ρ) hn (ov hy).2
          split at h
          · split at h <;> simp only [Option.some.injEq, Prod.mk.injEq, reduceCtorEq] at h
            rename_i hin
            obtain ⟨_, rfl, rfl⟩ := h
            refine pureY (y := .ci k (0 - n)) ?_ hin rfl rfl
            simp only [execOp, (ov hy).1, e1, Op.unary, Op.intArith, Sem.run_bind, Sem.run_pure, Result.andThen_ok, wrap_in hin, den]
          · simp only [Option.some.injEq, Prod.mk.injEq] at h
            obtain ⟨rfl, rfl, rfl⟩ := h
            refine pureY (y := .it k (isub 0 n)) ?_ hq rfl rfl
            simp only [execOp, (ov hy).1, e1, Op.unary, Op.intArith, Sem.run_bind, Sem.run_pure, Result.andThen_ok, wrap_in (show inR k (0 - n) from hq), den, isub]
        · simp at h
      · simp at h
    · split at h
      · rename_i v hy
        split at h <;> simp only [Option.some.injEq, Prod.mk.injEq, reduceCtorEq] at h
        rename_i b hb
        obtain ⟨_, rfl, rfl⟩ := h
        have hnb := notV_spec hb
        refine pureY (y := notV v b) ?_ (by generalize notV v b = z at hnb; cases z <;> simp [toBool] at hnb <;> trivial) rfl rfl
        rw [toBool_spec hnb]
        simp only [execOp, (ov hy).1, toBool_spec hb, Op.unary, Sem.run_bind, Sem.run_pure, Result.andThen_ok]
      · simp at h
  case convert s d y =>
    split at h
    · rename_i p hp
      cases hl : cvV C.P s d p with
      | none => simp [hl] at h
      | some r =>
        simp only [hl, Option.map_some, Option.some.injEq, Prod.mk.injEq] at h
        obtain ⟨rfl, rfl, rfl⟩ := h
        obtain ⟨e1, e2, _⟩ := cvV_spec (ρ := ρ) (w := w) hl hq (ov hp).2
        exact pureY (by simp [execOp, (ov hp).1, e1]) e2 rfl rfl
    · simp at h
  case extract y i =>
    split at h
    · rename_i l hy
      cases hl : l[i]? with
      | none => simp [hl] at h
      | some v =>
        simp only [hl, Option.map_some, Option.some.injEq, Prod.mk.injEq] at h
        obtain ⟨_, rfl, rfl⟩ := h
        obtain ⟨e1, e2⟩ := ov hy
        have : (denL ρ l)[i]? = some (den ρ v) := by rw [denL_eq]; simp [hl]
        refine pureY (y := v) ?_ ((okL_iff _).1 e2 v (List.mem_of_getElem? hl)) rfl rfl
        simp [execOp, e1, den, Instr.extract, this]
    · simp at h
  case makeFunc fn first caps =>
    cases fn <;> simp only [reduceCtorEq] at h
    rename_i f
    split at h
    · rename_i he
      cases hl : ovals sl ch caps.toList with
      | none => simp [hl] at h
      | some l =>
        simp only [hl, Option.map_some, Option.some.injEq, Prod.mk.injEq] at h
        obtain ⟨_, rfl, rfl⟩ := h
        obtain ⟨e1, e2⟩ := ovals_spec hF hg hl
        have hf : first = #[] := by simpa using he
        subst hf
        refine pureY (y := .fn f l) ?_ e2 rfl rfl
        have : caps.map a.eval = (denL ρ l).toArray := by apply Array.ext'; simp [e1]
        simp [execOp, Instr.makeFunc, den, this]
    · simp at h
  case build t ps =>
    split at h
    · rename_i l hl
      obtain ⟨e1, e2⟩ := opParts_spec hF hg hl
      cases hb : buildV C t l with
      | none => simp [hb] at h
      | some r =>
        simp only [hb, Option.map_some, Option.some.injEq, Prod.mk.injEq] at h
        obtain ⟨_, rfl, rfl⟩ := h
        obtain ⟨f1, f2, _⟩ := buildV_spec (ρ := ρ) (w := w) hC.z hb e2
        refine pureY (y := r) ?_ f2 rfl rfl
        have : (ps.map fun p => (p.1, a.eval p.2)) = (l.map fun p => (p.1, den ρ p.2)).toArray := by apply Array.ext'; simp [e1]
        simp only [execOp]
        rw [show (ps.map fun (i, x) => (i, a.eval x)) = (l.map fun p => (p.1, den ρ p.2)).toArray from this, Sem.run_bind, f1]
        rfl
    · simp at h
  case buildSlice t n ps =>
    split at h
    · rename_i l hl
      obtain ⟨e1, e2⟩ := opParts_spec hF hg hl
      cases hb : bsV C t n l nid with
      | none => simp [hb] at h
      | some r =>
        obtain ⟨r, new'⟩ := r
        simp only [hb, Option.map_some, Option.some.injEq, Prod.mk.injEq] at h
        obtain ⟨_, rfl, rfl⟩ := h
        have hn : ¬ K nid := by
          unfold bsV at hb
          split at hb
          · split at hb
            · simp at hb
            · split at hb
              · split at hb <;> simp only [Option.some.injEq, Prod.mk.injEq, reduceCtorEq] at hb
                obtain ⟨rfl, rfl⟩ := hb
                simpa using hfr 0 (by simp)
              · simp at hb
          · simp at hb
        obtain ⟨w', ρ', f1, f2, f3, f4⟩ := bsV_spec (ρ := ρ) (w := w) (w0 := w0) (F0 := F0) hC.z hb e2 hn
        refine ⟨.inl ⟨_, w', ?_, ρ', f2, rfl, f3⟩, f4⟩
        have : (ps.map fun p => (p.1, a.eval p.2)) = (l.map fun p => (p.1, den ρ p.2)).toArray := by apply Array.ext'; simp [e1]
        simp only [execOp]
        rw [show (ps.map fun (i, x) => (i, a.eval x)) = (l.map fun p => (p.1, den ρ p.2)).toArray from this, Sem.run_bind, f1]
        rfl
    · simp at h
  case call c =>
    obtain ⟨callee, args, argTypes⟩ := c
    cases callee with
    | invoke r m => simp at h
    | value f =>
      simp only at h
      split at h
      · rename_i fv vs hf has
        obtain ⟨e1, e2⟩ := ov hf
        obtain ⟨e3, e4⟩ := ovals_spec hF hg has
        unfold callV at h
        split at h
        · rename_i g caps
          split at h
          · rename_i ct hct
            split at h
            · rename_i hcall
              have e2' : okL K caps := e2
              obtain ⟨h1, h2⟩ := hC.ct g ct hct ρ fps res K w0 F0 w nid (vs ++ caps) q x new hH (by rw [okL_iff] at e4 e2' ⊢; intro z hz; rcases List.mem_append.1 hz with hz | hz; exact e4 z hz; exact e2' z hz) h hq hfr
              refine ⟨.inr ⟨g, (denL ρ (vs ++ caps)).toArray, ?_, h1⟩, h2⟩
              unfold callable at hcall
              split at hcall
              · rename_i fn hfn
                simp only [Bool.and_eq_true, bne_iff_ne, ne_eq] at hcall
                have hnm : (fn.name == "runtime.NumGoroutine") = false := by simpa using hcall.1
                have hbd : fn.body.isNone = false := by
                  cases hb : fn.body with
                  | none => simp [hb] at hcall
                  | some _ => rfl
                have ha : args.map a.eval = (denL ρ vs).toArray := by apply Array.ext'; simp [e3]
                have hcat : (denL ρ vs).toArray ++ (denL ρ caps).toArray = (denL ρ (vs ++ caps)).toArray := by simp [denL_eq]
                simp only [execOp, resolve, e1, den, Deferred.ofValue, ha, Sem.run_bind, Sem.run_pure, Result.andThen_ok, invoke, callFunc, run_program, hfn, hnm, Bool.false_eq_true, if_false, hbd,
                  Array.empty_append, hcat]
              · simp at hcall
            · simp at h
          · simp at h
        · simp at h
      · simp at h
    | builtin b =>
      simp only at h
      split at h
      · rename_i vs has
        obtain ⟨e3, e4⟩ := ovals_spec hF hg has
        have ha : args.map a.eval = (denL ρ vs).toArray := by apply Array.ext'; simp [e3]
        split at h
        · obtain ⟨rfl, o', e', l', rfl⟩ := appW_new h
          have hn : ¬ K nid := by simpa using hfr 0 (by simp)
          obtain ⟨w', ρ', d1, d2⟩ := appW_spec (ty := type) hC.z hH h hq hn
          refine ⟨.inl ⟨_, w', ?_, ρ', d2, rfl, .inr ⟨Nat.le_refl _, by simp⟩⟩, fun k hk => by simp at hk; subst hk; simp [rget]⟩
          have d1' : (Builtin.append_ argTypes type (denL ρ vs).toArray).run C.P w = .ok (den ρ' (.sa nid)) w' := by simpa using d1
          simp only [execOp, resolve, Sem.run_bind, Sem.run_pure, Result.andThen_ok, invoke, builtin, ha]
          rw [d1']; rfl
        rename_i hnb
        clear hnb
        cases hb : builtinV C res b argTypes.toList vs with
        | none => simp [hb] at h
        | some r =>
          simp only [hb, Option.map_some, Option.some.injEq, Prod.mk.injEq] at h
          obtain ⟨rfl, rfl, rfl⟩ := h
          unfold builtinV at hb
          split at hb
          · rename_i t ts y hts
            have hty : argTypes = (t :: ts).toArray := by rw [← hts]
            obtain ⟨f1, f2⟩ := lenV_spec hH hb hq ts type
            refine pureY (y := r.2) ?_ f2 rfl rfl
            simp only [execOp, resolve, Sem.run_bind, Sem.run_pure, Result.andThen_ok, invoke, builtin, ha, denL, hty]
            rw [f1]; rfl
          · rename_i y z
            cases hm : minV y z with
            | none => simp [hm] at hb
            | some m =>
              simp only [hm, Option.map_some, Option.some.injEq] at hb
              subst hb
              unfold minV at hm
              split at hm
              · rename_i k a1 k' b1 h1 h2
                split at hm <;> simp only [Option.some.injEq, reduceCtorEq] at hm
                rename_i hk
                have hk := beq_iff_eq.1 hk
                subst hk
                subst hm
                obtain ⟨g1, g2⟩ := toInt_spec (ρ := ρ) h1 e4.1
                obtain ⟨g3, g4⟩ := toInt_spec (ρ := ρ) h2 e4.2.1
                refine pureY (y := .it k (imin a1 b1)) ?_ (show inR k (imin a1 b1) by unfold imin; split <;> assumption) rfl rfl
                simp [den, execOp, resolve, invoke, builtin, ha, denL, g1, g3, Builtin.min_, Builtin.min2, imin]
              · simp at hm
          · rename_i y z
            cases hm : maxV y z with
            | none => simp [hm] at hb
            | some m =>
              simp only [hm, Option.map_some, Option.some.injEq] at hb
              subst hb
              unfold maxV at hm
              split at hm
              · rename_i k a1 k' b1 h1 h2
                split at hm <;> simp only [Option.some.injEq, reduceCtorEq] at hm
                rename_i hk
                have hk := beq_iff_eq.1 hk
                subst hk
                subst hm
                obtain ⟨g1, g2⟩ := toInt_spec (ρ := ρ) h1 e4.1
                obtain ⟨g3, g4⟩ := toInt_spec (ρ := ρ) h2 e4.2.1
                refine pureY (y := .it k (imax a1 b1)) ?_ (show inR k (imax a1 b1) by unfold imax; split <;> assumption) rfl rfl
                simp [den, execOp, resolve, invoke, builtin, ha, denL, g1, g3, Builtin.max_, Builtin.max2, imax]
              · simp at hm
          · simp at hb
      · simp at h

end
end Go.Sx
