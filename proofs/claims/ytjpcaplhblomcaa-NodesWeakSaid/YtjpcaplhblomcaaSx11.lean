/- The executor: a step of a region in the text's order, with stores and calls. No condition. -/
import Derived.Test.YtjpcaplhblomcaaSx10x
import Derived.TacticsIn
import Derived.OrdersIn
import Derived.RangeFuncLeaves
import Derived.RangeFuncRecord
set_option linter.unusedVariables false
set_option linter.unusedSimpArgs false
namespace Go.Sx
open Go.RowKit (Below)

/-- What is known at a point of the code. -/
structure St where
  slots : List S
  res : List Res
  defs : List (Nat × List V × List V)

/-- Is a deferred call the mark of a loop over a function? -/
def mrk : List V → Option Nat
  | [x] => match x with
    | .yl k => some k
    | _ => none
  | _ => none

def dDen (ρ : Env) (d : Nat × List V × List V) : Deferred :=
  match mrk d.2.1 with
  | some k => { target := .collected (ρ.num k), args := #[] }
  | none => { target := .fn (.func d.1) (denL ρ d.2.2).toArray, args := (denL ρ d.2.1).toArray }

theorem mrk_spec {l : List V} {k : Nat} (h : mrk l = some k) : l = [.yl k] := by
  unfold mrk at h
  split at h
  · split at h
    · simp only [Option.some.injEq] at h; subst h; rfl
    · simp at h
  · simp at h

def Rep (ρ : Env) (fps : Nat → Nat → Prop) (σ : St) (w0 : World) (F0 : Nat → Prop) (a : Act) (w : World) : Prop :=
  FRep ρ (known σ.res) σ.slots a ∧ HRep ρ fps σ.res (known σ.res) w0 F0 w ∧ a.defers = σ.defs.map (dDen ρ) ∧ ∀ d ∈ σ.defs, okL (known σ.res) d.2.1 ∧ okL (known σ.res) d.2.2

/-- One state of knowledge goes on from another. -/
def Good (ρ : Env) (res : List Res) (ρ' : Env) (res' : List Res) : Prop := Env.agree (known res) ρ ρ' ∧ ∀ i, known res i → known res' i

theorem Good.refl (ρ : Env) (res : List Res) : Good ρ res ρ res := ⟨Env.agree.refl _ _, fun _ h => h⟩
theorem Good.trans {ρ ρ' ρ'' : Env} {r r' r'' : List Res} (h : Good ρ r ρ' r') (h' : Good ρ' r' ρ'' r'') : Good ρ r ρ'' r'' :=
  ⟨h.1.trans h'.1 h.2, fun i hi => h'.2 i (h.2 i hi)⟩

theorem defs_env {ρ ρ' : Env} {K K' : Nat → Prop} {l : List (Nat × List V × List V)} (hl : ∀ d ∈ l, okL K d.2.1 ∧ okL K d.2.2) (ha : Env.agree K ρ ρ') (hK : ∀ i, K i → K' i) :
    l.map (dDen ρ') = l.map (dDen ρ) ∧ ∀ d ∈ l, okL K' d.2.1 ∧ okL K' d.2.2 :=
  ⟨List.map_congr_left fun d hd => by
      unfold dDen
      cases hm : mrk d.2.1 with
      | none => simp only [denL_agree ha _ (hl d hd).1, denL_agree ha _ (hl d hd).2]
      | some k =>
        have h1 := (hl d hd).1
        rw [mrk_spec hm] at h1
        simp only [(ha k h1.1).1], fun d hd => ⟨okL_mono hK _ (hl d hd).1, okL_mono hK _ (hl d hd).2⟩⟩

/-- What becomes of a call: it gives a value, or panics. -/
def CallTo (P : Program) (f : Nat) (args : List V) (res : List Res) (K : V → List Res → Prop) (KP : V → List Res → Prop) : Prop :=
  ∀ ρ fps w0 F0 w, HRep ρ fps res (known res) w0 F0 w → okL (known res) args →
    Calls P f (denL ρ args).toArray w fun e w' => ∃ x ρ' fps' res', HRep ρ' fps' res' (known res') w0 F0 w' ∧ Good ρ res ρ' res' ∧ ok (known res') x ∧
      ((e = .returned (den ρ' x) ∧ K x res') ∨ (e = .panicked [{ v := den ρ' x, recovered := false }] ∧ KP x res'))

abbrev Handler := Nat → List V → List Res → (V → List Res → Prop) → (V → List Res → Prop) → Prop

def Handler.OK (P : Program) (H : Handler) : Prop := ∀ f args res K KP, H f args res K KP → CallTo P f args res K KP

def addR (res new : List Res) : List Res :=
  match new with
  | [] => res
  | r :: l => res ++ (r :: l)

theorem addR_eq (res new : List Res) : addR res new = res ++ new := by cases new <;> simp [addR]

def offCh (d : Nat) : S → Bool
  | .gv ch _ => !named d ch
  | _ => true

def putS (sl : List S) (dst : Option Nat) (s : S) : Option (List S) :=
  match dst with
  | none => some sl
  | some d => if free' d sl && offCh d s then some (sset sl d s) else none

/-- The same in the order of evaluation. -/
def ssetK : List S → Nat → S → (List S → Prop) → Prop
  | [], _, _, k => k []
  | _ :: l, 0, y, k => k (y :: l)
  | x :: l, n + 1, y, k => ssetK l n y fun l' => k (x :: l')

theorem ssetK_eq : ∀ (l : List S) (n : Nat) (y : S) (k : List S → Prop), ssetK l n y k = k (sset l n y)
  | [], _, _, _ => rfl
  | _ :: _, 0, _, _ => rfl
  | _ :: l, n + 1, y, k => by simp only [ssetK, sset]; exact ssetK_eq l n y _

def putK (sl : List S) (dst : Option Nat) (s : S) (k : List S → Prop) : Prop :=
  match dst with
  | none => k sl
  | some d => if free' d sl && offCh d s then ssetK sl d s k else False

theorem putK_eq (sl : List S) (dst : Option Nat) (s : S) (k : List S → Prop) : putK sl dst s k = match putS sl dst s with | some l => k l | none => False := by
  unfold putK putS
  cases dst with
  | none => rfl
  | some d =>
    simp only
    split
    · rw [ssetK_eq]
    · rfl

def frcK : List S → (List S → Prop) → Prop
  | [], k => k []
  | x :: l, k => match x with
    | .und => frcK l fun l' => k (.und :: l')
    | .ud => frcK l fun l' => k (.ud :: l')
    | .v y => frcK l fun l' => k (.v y :: l')
    | .gv c y => frcK l fun l' => k (.gv c y :: l')

theorem frcK_eq : ∀ (l : List S) (k : List S → Prop), frcK l k = k l
  | [], _ => rfl
  | x :: l, k => by cases x <;> simp only [frcK] <;> exact frcK_eq l _

def cleanK : List S → (List S → Prop) → Prop
  | [], k => k []
  | x :: l, k => match x with
    | .v y => cleanK l fun l' => k (.v y :: l')
    | _ => cleanK l fun l' => k (.und :: l')

theorem cleanK_eq : ∀ (l : List S) (k : List S → Prop), cleanK l k = k (clean l)
  | [], _ => rfl
  | x :: l, k => by cases x <;> simp only [cleanK, clean] <;> exact cleanK_eq l _

/-- A store: what the places hold then. -/
def storeV (P : Program) (res : List Res) (t : Nat) (p y : V) : Option (List Res) :=
  if tsz P t == some (vsz y) && !isTp y then
    match p with
    | .lp id off => match rget res id with
      | .blk ty c => (setAt 8 c off y).map fun c' => rset res id (.blk ty c')
      | _ => none
    | .lx id off esz n i inner => match rget res id with
      | .blk ty c => (setLx c off esz n i inner y).map fun c' => rset res id (.blk ty c')
      | _ => none
    | _ => none
  else none

/-- What a call of a loop's yield is. -/
abbrev YHandler := Nat → List V → List Res → (V → List Res → Prop) → (V → List Res → Prop) → Prop
def noY : YHandler := fun _ _ _ _ _ => False

/-- A call of a function that is chosen. -/
def callCh (C : Ctx) (H : Handler) (vs : List V) (res : List Res) (K KP : V → List Res → Prop) : V → Prop
  | .fn g caps => callable C.P g = true ∧ H g (vs ++ caps) res K KP
  | .ch b g caps y => (b = true → callable C.P g = true ∧ H g (vs ++ caps) res K KP) ∧ (b = false → callCh C H vs res K KP y)
  | _ => False

theorem callCh_spec {C : Ctx} {H : Handler} {vs : List V} {res : List Res} {K KP : V → List Res → Prop} {ρ : Env} {N : Nat → Prop} : ∀ fv, callCh C H vs res K KP fv → ok N fv →
    ∃ g caps, den ρ fv = .func (.func g) #[] (denL ρ caps).toArray ∧ okL N caps ∧ callable C.P g = true ∧ H g (vs ++ caps) res K KP
  | .fn g caps, h, hk => ⟨g, caps, rfl, hk, h.1, h.2⟩
  | .ch b g caps y, h, hk => by
    cases b
    · obtain ⟨g', caps', e⟩ := callCh_spec (ρ := ρ) y (h.2 rfl) hk.2.1
      exact ⟨g', caps', e⟩
    · exact ⟨g, caps, rfl, hk.1, (h.1 rfl).1, (h.1 rfl).2⟩
  | .cb _, h, _ | .bo _, h, _ | .ci _ _, h, _ | .it _ _, h, _ | .bt _, h, _ | .st _, h, _ | .nl _, h, _ | .lp _ _, h, _ | .lx _ _ _ _ _ _, h, _ | .sc _ _ _, h, _ | .so _ _, h, _ | .ap _ _ _ _, h, _ | .sa _, h, _ | .op _ _, h, _ | .yl _, h, _ | .ic _ _, h, _ | .ag _, h, _ | .tp _, h, _
  | .key _, h, _ | .sl _, h, _ | .by _, h, _ | .ob _, h, _ | .mp _, h, _ | .ax _ _ _ _ _ _ _ _, h, _ => h.elim

/-- An operation that writes, panics, calls, defers. -/
def opWR (C : Ctx) (H : Handler) (Y : YHandler) (σ : St) (ch : List (Nat × Bool)) (o : Oper) (K : St → Prop) (KP : V → St → Prop) : Prop :=
  match o.op with
  | .store t p x => match oval σ.slots ch p, oval σ.slots ch x, o.dst with
    | some pv, some xv, none => match storeV C.P σ.res t pv xv with
      | some res' => K { σ with res := res' }
      | none => match storeW C.P σ.res t pv xv with
        | some (q, res') => reqO q (K { σ with res := res' })
        | none => False
    | _, _, _ => False
  | .insert t m k x => match oval σ.slots ch m, oval σ.slots ch k, oval σ.slots ch x, o.dst with
    | some mv, some kv, some xv, none => match insV C.P σ.res t mv kv xv with
      | some res' => K { σ with res := res' }
      | none => False
    | _, _, _, _ => False
  | .panic x => match oval σ.slots ch x with
    | some (.ic t y) => KP (.ic t y) { σ with slots := clean σ.slots }
    | _ => False
  | .call c => match c.callee with
    | .value f => match oval σ.slots ch f, ovals σ.slots ch c.args.toList with
      | some (.fn g caps), some vs => callable C.P g = true ∧ H g (vs ++ caps) σ.res
          (fun x res' => putK σ.slots o.dst (.v x) fun sl => K { σ with slots := sl, res := res' })
          (fun x res' => KP x { σ with slots := clean σ.slots, res := res' })
      | some (.ch b g caps y), some vs => callCh C H vs σ.res
          (fun x res' => putK σ.slots o.dst (.v x) fun sl => K { σ with slots := sl, res := res' })
          (fun x res' => KP x { σ with slots := clean σ.slots, res := res' }) (.ch b g caps y)
      | some (.yl k), some vs => Y k vs σ.res
          (fun x res' => putK σ.slots o.dst (.v x) fun sl => K { σ with slots := sl, res := res' })
          (fun x res' => KP x { σ with slots := clean σ.slots, res := res' })
      | _, _ => False
    | .builtin .append => match c.argTypes.toList, ovals σ.slots ch c.args.toList with
      | [t, t'], some [x, y] => if t == t' then match appV C σ.res t x y with
          | some (q, v, res') => reqO q (putK σ.slots o.dst (.v v) fun sl => K { σ with slots := sl, res := res' })
          | none => False
        else False
      | _, _ => False
    | _ => False
  | .defer c => match c.callee, o.dst with
    | .value f, none => match oval σ.slots ch f, ovals σ.slots ch c.args.toList with
      | some (.fn g caps), some vs => match mrk vs with
        | none => K { σ with defs := (g, vs, caps) :: σ.defs }
        | some _ => False
      | _, _ => False
    | _, _ => False
  | _ => False

/-- What a guard says of a slot, if anything. -/
def chAt : List (Nat × Bool) → Nat → Option Bool
  | [], _ => none
  | (s, w) :: c, i => if s == i then some w else chAt c i

/-- The slots where a chain of guards holds. -/
def fixT (ch : List (Nat × Bool)) (i : Nat) (s : S) : S :=
  match s with
  | .v y => match y with
    | .bo b => match chAt ch i with
      | some w => .v (.cb w)
      | none => .v (.bo b)
    | y => .v y
  | .gv c y => if chSub c ch then match y with
      | .bo b => match chAt ch i with
        | some w => .v (.cb w)
        | none => .v (.bo b)
      | y => .v y
    else .gv c y
  | s => s
def slT (ch : List (Nat × Bool)) : Nat → List S → List S
  | _, [] => []
  | i, s :: l => fixT ch i s :: slT ch (i + 1) l
/-- The slots where a guard does not hold. -/
def fixF (t : Nat) (w : Bool) (i : Nat) (s : S) : S :=
  match s with
  | .v y => match y with
    | .bo b => if i == t then .v (.cb (!w)) else .v (.bo b)
    | y => .v y
  | .gv c _ => if chHas c t w then .ud else .und
  | s => s
def slF1 (t : Nat) (w : Bool) : Nat → List S → List S
  | _, [] => []
  | i, s :: l => fixF t w i s :: slF1 t w (i + 1) l
def slF (ch : List (Nat × Bool)) (l : List S) : List S :=
  match ch with
  | [(t, w)] => match sget l t with
    | .v (.bo _) => slF1 t w 0 l
    | _ => l
  | _ => l

/-- One operation. -/
def stepS (C : Ctx) (H : Handler) (Y : YHandler) (ops : List Oper) (o : Oper) (σ : St) (K : St → Prop) (KP : V → St → Prop) : Prop :=
  match chainOf σ.slots ops o.guard with
  | none => False
  | some none => putK σ.slots o.dst .ud fun sl => K { σ with slots := sl }
  | some (some ch) => match opRO C σ.slots σ.res σ.res.length ch o.op with
    | some (q, x, new) =>
      if ch.isEmpty then
        putK σ.slots o.dst (.v x) fun sl => reqO q (K { σ with slots := sl, res := addR σ.res new })
      else if new.isEmpty then
        putK σ.slots o.dst (.gv ch x) fun sl => reqG (gOf σ.slots ch) q (K { σ with slots := sl })
      else (gOf σ.slots ch = true → putK σ.slots o.dst (.v x) fun sl => reqO q (K { σ with slots := sl, res := addR σ.res new })) ∧ (gOf σ.slots ch = false → putK σ.slots o.dst .ud fun sl => K { σ with slots := sl })
    | none => if ch.isEmpty then opWR C H Y σ ch o K KP else (gOf σ.slots ch = true → frcK (slT ch 0 σ.slots) fun sl => opWR C H Y { σ with slots := sl } [] o K KP) ∧ (gOf σ.slots ch = false → frcK (slF ch σ.slots) fun sl => putK sl o.dst .ud fun sl => K { σ with slots := sl })

section
variable {C : Ctx} {ρ : Env} {fps : Nat → Nat → Prop} {w0 w : World} {F0 : Nat → Prop} {a : Act}

theorem FRep.putS {K : Nat → Prop} {sl sl' : List S} {dst : Option Nat} {s : S} {x : Value} (h : FRep ρ K sl a) (hp : putS sl dst s = some sl')
    (hs : ∀ d, dst = some d → free' d sl = true → (∀ ch y, s = .gv ch y → named d ch = false) → SlotOK ρ K (sset sl d s) x s) : FRep ρ K sl' (a.put dst x) := by
  unfold Sx.putS at hp
  cases dst with
  | none => simp only [Option.some.injEq] at hp; subst hp; exact h
  | some d =>
    simp only at hp
    split at hp
    · rename_i hc
      simp only [Option.some.injEq] at hp
      simp only [Bool.and_eq_true] at hc
      subst hp
      refine h.put hc.1 (hs d rfl hc.1 fun ch y e => ?_)
      subst e
      simpa [offCh] using hc.2
    · simp at hp

theorem put_defers (a : Act) (dst : Option Nat) (v : Value) : (a.put dst v).defers = a.defers := by cases dst <;> rfl

theorem setRow_at (w : World) (g : Nat) (cs cs' : Array Value) (t : Nat) (h : w.heap[g]? = some (.cells cs t (0, 0))) : (w.setRow g cs').heap[g]? = some (.cells cs' t (0, 0)) := by
  exact setRow_heap w g cs cs' t (0, 0) h

theorem storeV_row {P : Program} {res res' : List Res} {K : Nat → Prop} {t : Nat} {p y : V} (h : HRep ρ fps res K w0 F0 w) (hs : storeV P res t p y = some res') (hp : ok K p) (hy : ok K y) :
    ∃ b off ty cs cs', den ρ p = .pointer (some ⟨b, off, none⟩) ∧ w.heap[b]? = some (.cells cs ty (0, 0)) ∧ (∀ w1 : World, w1.heap[b]? = some (.cells cs ty (0, 0)) → (Instr.storeAt t (den ρ p) (den ρ y)).run P w1 = .ok () (w1.setRow b cs')) ∧ HRep ρ fps res' K w0 F0 (w.setRow b cs') ∧ ∀ i, known res' i ↔ known res i := by
  unfold storeV at hs
  split at hs
  · rename_i hc
    simp only [Bool.and_eq_true, beq_iff_eq, Bool.not_eq_true'] at hc
    obtain ⟨hsz, hty⟩ := hc
    have fin : ∀ id ty c c' off, rget res id = .blk ty c → Put K ρ c c' off y → den ρ p = .pointer (some ⟨ρ.num id, off, none⟩) →
        ∃ b off ty' cs cs', den ρ p = .pointer (some ⟨b, off, none⟩) ∧ w.heap[b]? = some (.cells cs ty' (0, 0)) ∧ (∀ w1 : World, w1.heap[b]? = some (.cells cs ty' (0, 0)) → (Instr.storeAt t (den ρ p) (den ρ y)).run P w1 = .ok () (w1.setRow b cs')) ∧ HRep ρ fps (rset res id (.blk ty c')) K w0 F0 (w.setRow b cs') ∧ ∀ i, known (rset res id (.blk ty c')) i ↔ known res i := by
      intro id ty c c' off hr hput hdp
      have hk : known res id := by unfold known; rw [hr]; simp
      have hh := h.holds id hk
      rw [hr] at hh
      obtain ⟨h1, h2, h3, h4⟩ := hh
      refine ⟨ρ.num id, off, ty, (cells ρ c).toArray, (cells ρ c').toArray, hdp, h4, fun w1 hw1 => ?_, h.write hr hput.2.2.1 hput.2.2.2 rfl rfl rfl (by simp [World.setRow]) (setRow_at w _ _ _ _ h4) fun b hb => setRow_other w _ _ b hb, fun i => ?_⟩
      · have hst := run_store_part (P := P) (t := t) w1 hy hty hsz hw1 hput
        rw [hdp]; simp only [Instr.storeAt, Instr.sureAddr, Sem.run_bind, Sem.run_pure, Result.andThen_ok]; exact hst
      · unfold known
        rw [rget_rset _ _ _ _ (rget_lt hk)]
        by_cases e : i = id
        · subst e; simp [hr]
        · simp [e]
    split at hs
    · rename_i id off
      split at hs
      · rename_i ty c hr
        cases hset : setAt 8 c off y with
        | none => simp [hset] at hs
        | some c' =>
          simp only [hset, Option.map_some, Option.some.injEq] at hs
          subst hs
          have hh := h.holds id (by unfold known; rw [hr]; simp)
          rw [hr] at hh
          exact fin id ty c c' off hr (setAt_spec ρ y hy hty 8 c off c' hh.1 hh.2.1 hset) rfl
      · simp at hs
    · rename_i id off esz n i inner
      split at hs
      · rename_i ty c hr
        cases hset : setLx c off esz n i inner y with
        | none => simp [hset] at hs
        | some c' =>
          simp only [hset, Option.map_some, Option.some.injEq] at hs
          subst hs
          have hh := h.holds id (by unfold known; rw [hr]; simp)
          rw [hr] at hh
          exact fin id ty c c' _ hr (setLx_spec ρ hh.1 hh.2.1 hp.2 hy hty hset) rfl
      · simp at hs
    · simp at hs
  · simp at hs

theorem storeV_spec {P : Program} {res res' : List Res} {K : Nat → Prop} {t : Nat} {p y : V} (h : HRep ρ fps res K w0 F0 w) (hs : storeV P res t p y = some res') (hp : ok K p) (hy : ok K y) :
    ∃ w', (Instr.storeAt t (den ρ p) (den ρ y)).run P w = .ok () w' ∧ HRep ρ fps res' K w0 F0 w' ∧ ∀ i, known res' i ↔ known res i := by
  obtain ⟨b, off, ty, cs, cs', h1, h2, h3, h4, h5⟩ := storeV_row h hs hp hy
  exact ⟨_, h3 w h2, h4, h5⟩

/-- The caller's frame, behind a call. -/
theorem Rep.after {σ : St} {ρ' : Env} {fps' : Nat → Nat → Prop} {res' : List Res} {w' : World} (h : Rep ρ fps σ w0 F0 a w) (hH : HRep ρ' fps' res' (known res') w0 F0 w') (hg : Good ρ σ.res ρ' res') :
    Rep ρ' fps' { σ with res := res' } w0 F0 a w' := by
  obtain ⟨h1, h2, h3, h4⟩ := h
  obtain ⟨e1, e2⟩ := defs_env h4 hg.1 hg.2
  exact ⟨h1.env hg.2 hg.1, hH, by rw [h3]; exact e1.symm, e2⟩

/-- A fence that lets all in, in a round or not. -/
def FF (ro : Option Nat) : Fence := { fn := fun _ => True, depth := none, alive := false, round := ro }

theorem ff_room (ro : Option Nat) (n : Nat) : (FF ro).room n := fun _ h => by simp [FF] at h
theorem ff_calls {P : Program} {ro : Option Nat} {n f : Nat} {args : Array Value} {w : World} {R : Ending → World → Prop} (h : Calls P f args w R) : CallsIn (FF ro) n P f args w R := by
  have := (callsIn_wide (n := n)).2 h
  exact ⟨trivial, fun cs _ => this.2 cs (room_wide _)⟩
theorem ff_calls' {P : Program} {ro : Option Nat} {n f : Nat} {args : Array Value} {w : World} {R : Ending → World → Prop} (h : CallsIn (FF ro) n P f args w R) : Calls P f args w R :=
  (callsIn_wide (n := n)).1 ⟨trivial, fun cs _ => h.2 cs (ff_room ro _)⟩
theorem ff_rows {P : Program} {ro : Option Nat} {n : Nat} {row : String} {args : Array Value} {w : World} {R : Value → World → Prop} (h : Rows P row args w R) : RowsIn (FF ro) n P row args w R := fun c cs _ => by
  obtain ⟨v, w', r, hs⟩ := h c cs
  exact ⟨v, w', r, (stepsIn_wide (P := P)).2 hs⟩

def notDefer (o : Oper) : Prop := ∀ c, o.op ≠ .defer c

theorem oper_in {P : Program} {ro : Option Nat} {o : Oper} {a : Act} {w : World} {next : Act → World → Prop} {Q : Exit → Act → World → Prop} (hd : ro ≠ none → notDefer o) (h : o.wp P a w next Q) : o.wpIn (FF ro) 0 P a w next Q := by
  refine ⟨fun _ _ => trivial, ?_⟩
  have hs : o.semAt (FF ro).round a.eval = execOp a.eval o := by
    show o.semAt ro a.eval = _
    cases ro with
    | none => exact Oper.semAt_none _ _
    | some l => exact Oper.semAt_some l _ o (hd (by simp))
  rw [hs]
  unfold Oper.wp at h
  generalize (execOp a.eval o).run P w = r at *
  cases r with
  | ok x w' =>
    cases x <;> simp only [Oper.upon, Oper.uponIn] at h ⊢ <;> first
      | exact h
      | exact h.elim
      | exact ⟨fun h => by simp [FF] at h, ff_calls h⟩
      | exact ⟨fun h => by simp [FF] at h, ff_rows h⟩
  | halt x w' => cases x <;> simp only [Oper.upon, Oper.uponIn] at h ⊢ <;> first | exact h | exact h.elim

/-- What a call of yield does, from a state on. -/
def YOK (P : Program) (Y : YHandler) (ρ0 : Env) (res0 : List Res) : Prop :=
  ∀ k args res K KP, Y k args res K KP → ∀ ρ fps w0 F0 w, Good ρ0 res0 ρ res → HRep ρ fps res (known res) w0 F0 w → known res k → okL (known res) args →
    ∃ l fn tmps assign body, (Instr.yield (ρ.num k) (denL ρ args).toArray).run P w = .ok (.round l fn tmps assign body) w ∧
      ∀ ro, RoundIn (FF ro) 0 P l fn tmps assign body w fun e w' => ∃ x ρ' fps' res', HRep ρ' fps' res' (known res') w0 F0 w' ∧ Good ρ res ρ' res' ∧ ok (known res') x ∧
        ((e = .returned (den ρ' x) ∧ K x res') ∨ (e = .panicked [{ v := den ρ' x, recovered := false }] ∧ KP x res'))

theorem YOK.later {P : Program} {Y : YHandler} {ρ0 ρ1 : Env} {res0 res1 : List Res} (h : YOK P Y ρ0 res0) (hg : Good ρ0 res0 ρ1 res1) : YOK P Y ρ1 res1 :=
  fun k args res K KP hy ρ fps w0 F0 w hg1 => h k args res K KP hy ρ fps w0 F0 w (hg.trans hg1)
theorem noY_ok {P : Program} {ρ0 : Env} {res0 : List Res} : YOK P noY ρ0 res0 := fun _ _ _ _ _ h => h.elim

theorem ro_spec {o : Oper} {σ : St} {ch : List (Nat × Bool)} {q : Option Prop} {x : V} {new : List Res} {K : St → Prop} {next : Act → World → Prop} {Q : Exit → Act → World → Prop} (hC : C.Sound)
    (ho : opRO C σ.slots σ.res σ.res.length ch o.op = some (q, x, new)) (hg : gOf σ.slots ch = true) (h : putK σ.slots o.dst (.v x) fun sl => reqO q (K { σ with slots := sl, res := addR σ.res new })) (hr : Rep ρ fps σ w0 F0 a w)
    (hn : ∀ σ' ρ' fps' a' w', K σ' → Rep ρ' fps' σ' w0 F0 a' w' → Good ρ σ.res ρ' σ'.res → next a' w') : o.wp C.P a w next Q := by
  obtain ⟨h1, h2, h3, h4⟩ := hr
  rw [putK_eq] at h
  split at h
  · rename_i sl hsl
    obtain ⟨hq, hK⟩ := reqO_iff h
    have hfr : ∀ k, k < new.length → ¬ known σ.res (σ.res.length + k) := fun k _ hk => by have := rget_lt hk; omega
    obtain ⟨hy, hnew⟩ := opRO_spec hC ho h1 h2 hg hq hfr
    refine hy.wp fun v w' ⟨ρ', hg, hv, hx⟩ => ?_
    have hfr' : ∀ i, known σ.res i → ¬ fresh σ.res.length new.length i := fun i hi hf => by have := rget_lt hi; unfold fresh at hf; omega
    have hK' : ∀ i, known σ.res i ∨ fresh σ.res.length new.length i → known (addR σ.res new) i := by
      intro i hi
      rw [addR_eq]
      obtain ⟨b1, b2, b3⟩ := adds_append σ.res new
      rcases hi with hi | ⟨f1, f2⟩
      · unfold known; rw [(b1 i hi).1]; exact hi
      · have := b3 (i - σ.res.length) (by omega)
        rw [show σ.res.length + (i - σ.res.length) = i by omega] at this
        unfold known; rw [this]; exact hnew _ (by omega)
    obtain ⟨fps', g1, g2⟩ := h2.grow (res' := addR σ.res new) (by rw [addR_eq]; exact adds_append _ _) hfr' hK' hg
    obtain ⟨e1, e2⟩ := defs_env h4 g2 (fun i hi => hK' i (.inl hi))
    refine hn _ ρ' fps' _ _ hK ⟨?_, g1, by rw [put_defers, h3]; exact e1.symm, e2⟩ ⟨g2, fun i hi => hK' i (.inl hi)⟩
    exact (h1.env (fun i hi => hK' i (.inl hi)) g2).putS hsl fun _ _ _ _ => ⟨hv, ok_mono hK' _ hx⟩
  · exact h.elim

theorem opWR_spec {H : Handler} {Y : YHandler} {o : Oper} {σ : St} {ch : List (Nat × Bool)} {K : St → Prop} {KP : V → St → Prop} {next : Act → World → Prop} {Q : Exit → Act → World → Prop} {ro : Option Nat} (hC : C.Sound) (hH : H.OK C.P) (hY : YOK C.P Y ρ σ.res)
    (hd : ro ≠ none → notDefer o) (h : opWR C H Y σ ch o K KP) (hg : gOf σ.slots ch = true) (hr : Rep ρ fps σ w0 F0 a w)
    (hn : ∀ σ' ρ' fps' a' w', K σ' → Rep ρ' fps' σ' w0 F0 a' w' → Good ρ σ.res ρ' σ'.res → next a' w')
    (hp : ∀ v σ' ρ' fps' w', KP v σ' → ok (known σ'.res) v → Rep ρ' fps' σ' w0 F0 a w' → Good ρ σ.res ρ' σ'.res → Q (.panic [{ v := den ρ' v, recovered := false }]) a w') :
    o.wpIn (FF ro) 0 C.P a w next Q := by
  have hr0 := hr
  obtain ⟨h1, h2, h3, h4⟩ := hr
  have ov : ∀ {o : Operand} {y : V}, oval σ.slots ch o = some y → a.eval o = den ρ y ∧ ok (known σ.res) y := fun ho => oval_spec h1 hg ho
  obtain ⟨dst, op, type, pos, after, guard⟩ := o
  cases op <;> simp only [opWR] at h
  case store t p x =>
    split at h
    · rename_i pv xv hpv hxv
      split at h
      · rename_i res' hs
        obtain ⟨w', e1, e2, e3⟩ := storeV_spec h2 hs (ov hpv).2 (ov hxv).2
        have hrun : (execOp a.eval { dst := none, op := .store t p x, type, pos, after, guard }).run C.P w = .ok .skip w' := by
          simp [execOp, (ov hpv).1, (ov hxv).1, e1]
        refine oper_in hd ?_
        unfold Oper.wp
        rw [hrun]
        refine hn _ ρ fps _ _ h ⟨?_, e2.monoK fun i hi => (e3 i).2 hi, h3, fun d hd => ⟨okL_mono (fun i hi => (e3 i).2 hi) _ (h4 d hd).1, okL_mono (fun i hi => (e3 i).2 hi) _ (h4 d hd).2⟩⟩
          ⟨Env.agree.refl _ _, fun i hi => (e3 i).2 hi⟩
        exact h1.env (fun i hi => (e3 i).2 hi) (Env.agree.refl _ _)
      · split at h
        · rename_i q res' hs
          obtain ⟨hq, hK⟩ := reqO_iff h
          obtain ⟨w', ρ', fps', e1, e2, e3, e4⟩ := storeW_spec h2 hs hq (ov hpv).2 (ov hxv).2
          have hrun : (execOp a.eval { dst := none, op := .store t p x, type, pos, after, guard }).run C.P w = .ok .skip w' := by
            simp [execOp, (ov hpv).1, (ov hxv).1, e1]
          refine oper_in hd ?_
          unfold Oper.wp
          rw [hrun]
          obtain ⟨d1, d2⟩ := defs_env h4 e3 e4
          exact hn _ ρ' fps' _ _ hK ⟨h1.env e4 e3, e2, by rw [show (a.put none undef).defers = a.defers from rfl, h3]; exact d1.symm, d2⟩ ⟨e3, e4⟩
        · exact h.elim
    · exact h.elim
  case insert t m k x =>
    split at h
    case h_2 => exact h.elim
    rename_i mv kv xv hmv hkv hxv
    split at h
    case h_2 => exact h.elim
    rename_i res' hs
    obtain ⟨w', e1, e2, e3⟩ := insV_spec h2 hs (ov hxv).2
    have hrun : (execOp a.eval { dst := none, op := .insert t m k x, type, pos, after, guard }).run C.P w = .ok .skip w' := by
      simp [execOp, (ov hmv).1, (ov hkv).1, (ov hxv).1, e1]
    refine oper_in hd ?_
    unfold Oper.wp
    rw [hrun]
    refine hn _ ρ fps _ _ h ⟨?_, e2.monoK fun i hi => (e3 i).2 hi, h3, fun d hd => ⟨okL_mono (fun i hi => (e3 i).2 hi) _ (h4 d hd).1, okL_mono (fun i hi => (e3 i).2 hi) _ (h4 d hd).2⟩⟩
      ⟨Env.agree.refl _ _, fun i hi => (e3 i).2 hi⟩
    exact h1.env (fun i hi => (e3 i).2 hi) (Env.agree.refl _ _)
  case panic x =>
    split at h
    · rename_i t y hx
      obtain ⟨e1, e2⟩ := ov hx
      have hrun : (execOp a.eval { dst, op := .panic x, type, pos, after, guard }).run C.P w = .halt (.panic (den ρ (.ic t y))) w := by
        simp [execOp, e1, den, Instr.panic]
      refine oper_in hd ?_
      unfold Oper.wp
      rw [hrun]
      exact hp _ _ ρ fps w h e2 ⟨h1.clean, h2, h3, h4⟩ (Good.refl _ _)
    · exact h.elim
  case call c =>
    split at h
    · rename_i f hf
      have fnCall : ∀ (g : Nat) (caps vs : List V), a.eval f = .func (.func g) #[] (denL ρ caps).toArray → okL (known σ.res) caps → ovals σ.slots ch c.args.toList = some vs → callable C.P g = true → H g (vs ++ caps) σ.res
          (fun x res' => putK σ.slots dst (.v x) fun sl => K { σ with slots := sl, res := res' }) (fun x res' => KP x { σ with slots := clean σ.slots, res := res' }) → Oper.wpIn (FF ro) 0 C.P ⟨dst, .call c, type, pos, after, guard⟩ a w next Q := by
        intro g caps vs e1 e2' has hcall hh
        obtain ⟨e3, e4⟩ := ovals_spec h1 hg has
        have hca := hH _ _ _ _ _ hh ρ fps w0 F0 w h2 (by rw [okL_iff] at e4 e2' ⊢; intro z hz; rcases List.mem_append.1 hz with hz | hz; exact e4 z hz; exact e2' z hz)
        have hrun : (execOp a.eval { dst, op := .call c, type, pos, after, guard }).run C.P w = .ok (.enter g (denL ρ (vs ++ caps)).toArray) w := by
          obtain ⟨callee, args, argTypes⟩ := c
          simp only at hf
          subst hf
          unfold callable at hcall
          split at hcall
          · rename_i fn hfn
            simp only [Bool.and_eq_true, bne_iff_ne, ne_eq] at hcall
            have hnm : (fn.name == "runtime.NumGoroutine") = false := by simpa using hcall.1
            have hbd : fn.body.isNone = false := by
              cases hb : fn.body with
              | none => simp [hb] at hcall
              | some _ => rfl
            have ha : args.map a.eval = (denL ρ vs).toArray := by apply Array.ext'; simp [e3]
            have hcat : (denL ρ vs).toArray ++ (denL ρ caps).toArray = (denL ρ (vs ++ caps)).toArray := by simp [denL_eq]
            simp only [execOp, resolve, e1, den, Deferred.ofValue, ha, Sem.run_bind, Sem.run_pure, Result.andThen_ok, invoke, callFunc, run_program, hfn, hnm, Bool.false_eq_true, if_false, hbd,
              Array.empty_append, hcat]
          · simp at hcall
        refine oper_in hd ?_
        unfold Oper.wp
        rw [hrun]
        refine hca.mono fun e w' ⟨x, ρ', fps', res', g1, g2, g3, g4⟩ => ?_
        have hra := hr0.after g1 g2
        rcases g4 with ⟨rfl, hK⟩ | ⟨rfl, hK⟩
        · simp only
          rw [putK_eq] at hK
          split at hK
          · rename_i sl hsl
            obtain ⟨k1, k2, k3, k4⟩ := hra
            exact hn _ ρ' fps' _ _ hK ⟨k1.putS hsl fun _ _ _ _ => ⟨rfl, g3⟩, k2, by rw [put_defers]; exact k3, k4⟩ g2
          · exact hK.elim
        · obtain ⟨k1, k2, k3, k4⟩ := hra
          exact hp _ _ ρ' fps' w' hK g3 ⟨k1.clean, k2, k3, k4⟩ g2
      split at h
      · rename_i g caps vs hfv has
        obtain ⟨e1, e2⟩ := ov hfv
        exact fnCall g caps vs e1 e2 has h.1 h.2
      · rename_i b g caps y vs hfv has
        obtain ⟨e1, e2⟩ := ov hfv
        obtain ⟨g', caps', d1, d2, d3, d4⟩ := callCh_spec (ρ := ρ) _ h e2
        exact fnCall g' caps' vs (e1.trans d1) d2 has d3 d4
      · rename_i k vs hfv has
        obtain ⟨e1, e2⟩ := ov hfv
        obtain ⟨e3, e4⟩ := ovals_spec h1 hg has
        obtain ⟨l, fn, tmps, assign, body, y1, y2⟩ := hY _ _ _ _ _ h ρ fps w0 F0 w (Good.refl _ _) h2 e2 e4
        refine ⟨fun _ _ => trivial, ?_⟩
        have hsem : Oper.semAt (FF ro).round a.eval { dst, op := .call c, type, pos, after, guard } = execOp a.eval { dst, op := .call c, type, pos, after, guard } := by
          show Oper.semAt ro _ _ = _
          cases ro with
          | none => exact Oper.semAt_none _ _
          | some l => exact Oper.semAt_some l _ _ (fun c => by simp)
        rw [hsem]
        have hrun : (execOp a.eval { dst, op := .call c, type, pos, after, guard }).run C.P w = .ok (.round l fn tmps assign body) w := by
          obtain ⟨callee, args, argTypes⟩ := c
          simp only at hf
          subst hf
          have ha : args.map a.eval = (denL ρ vs).toArray := by apply Array.ext'; simp [e3]
          simp only [execOp, resolve, e1, den, Deferred.ofValue, ha, Sem.run_bind, Sem.run_pure, Result.andThen_ok, invoke, callFunc, Array.empty_append, Array.append_empty]
          exact y1
        rw [hrun]
        refine ⟨fun h => by simp [FF] at h, RoundIn.mono (y2 ro) fun e w' ⟨x, ρ', fps', res', g1, g2, g3, g4⟩ => ?_⟩
        have hra := hr0.after g1 g2
        rcases g4 with ⟨rfl, hK⟩ | ⟨rfl, hK⟩
        · simp only
          rw [putK_eq] at hK
          split at hK
          · rename_i sl hsl
            obtain ⟨k1, k2, k3, k4⟩ := hra
            exact hn _ ρ' fps' _ _ hK ⟨k1.putS hsl fun _ _ _ _ => ⟨rfl, g3⟩, k2, by rw [put_defers]; exact k3, k4⟩ g2
          · exact hK.elim
        · obtain ⟨k1, k2, k3, k4⟩ := hra
          exact hp _ _ ρ' fps' w' hK g3 ⟨k1.clean, k2, k3, k4⟩ g2
      · exact h.elim
    · rename_i hcal
      split at h
      · rename_i t t' x y hts has
        split at h
        · rename_i htt
          have htt := beq_iff_eq.1 htt
          subst htt
          split at h
          · rename_i q v res' hap
            obtain ⟨hq, hK⟩ := reqO_iff h
            rw [putK_eq] at hK
            split at hK
            · rename_i sl hsl
              obtain ⟨e3, e4⟩ := ovals_spec h1 hg has
              obtain ⟨w', ρ', fps', g1, g2, g3, g4, g5⟩ := appV_spec (ty := type) hC.z h2 hap hq e4.1
              have hrun : (execOp a.eval { dst, op := .call c, type, pos, after, guard }).run C.P w = .ok (.value (den ρ' v)) w' := by
                obtain ⟨callee, args, argTypes⟩ := c
                simp only at hcal hts e3
                subst hcal
                have ha : args.map a.eval = #[den ρ x, den ρ y] := by apply Array.ext'; simp [e3, denL]
                have hty : argTypes = #[t, t] := by apply Array.ext'; simpa using hts
                subst hty
                simp only [execOp, resolve, Sem.run_bind, Sem.run_pure, Result.andThen_ok, invoke, builtin, ha]
                rw [g1]; rfl
              refine oper_in hd ?_
              unfold Oper.wp
              rw [hrun]
              obtain ⟨k1, k2, k3, k4⟩ := hr0.after g2 ⟨g3, g4⟩
              exact hn _ ρ' fps' _ _ hK ⟨k1.putS hsl fun _ _ _ _ => ⟨rfl, g5⟩, k2, by rw [put_defers]; exact k3, k4⟩ ⟨g3, g4⟩
            · exact hK.elim
          · exact h.elim
        · exact h.elim
      · exact h.elim
    · exact h.elim
  case defer c =>
    split at h
    · rename_i f hf
      split at h
      · rename_i g caps vs hfv has
        obtain ⟨e1, e2⟩ := ov hfv
        obtain ⟨e3, e4⟩ := ovals_spec h1 hg has
        split at h
        case h_2 => exact h.elim
        rename_i hmk
        have hrun : (execOp a.eval { dst := none, op := .defer c, type, pos, after, guard }).run C.P w = .ok (.defer (dDen ρ (g, vs, caps))) w := by
          obtain ⟨callee, args, argTypes⟩ := c
          simp only at hf
          subst hf
          have ha : args.map a.eval = (denL ρ vs).toArray := by apply Array.ext'; simp [e3]
          simp [execOp, resolve, e1, den, Deferred.ofValue, ha, dDen, hmk]
        refine oper_in hd ?_
        unfold Oper.wp
        rw [hrun]
        refine hn _ ρ fps _ _ h ⟨h1, h2, by simp [Act.put, h3], fun d hd => ?_⟩ (Good.refl _ _)
        rcases List.mem_cons.1 hd with rfl | hd
        · exact ⟨e4, e2⟩
        · exact h4 d hd
      · exact h.elim
    · exact h.elim

theorem sget_slT (ch : List (Nat × Bool)) : ∀ (l : List S) (i t : Nat), sget (slT ch i l) t = fixT ch (i + t) (sget l t)
  | [], i, t => by simp [slT, sget, fixT]
  | s :: l, i, 0 => by simp [slT, sget]
  | s :: l, i, t + 1 => by simp only [slT, sget]; rw [sget_slT ch l (i + 1) t, show i + 1 + t = i + (t + 1) by omega]
theorem slT_length (ch : List (Nat × Bool)) : ∀ (l : List S) (i : Nat), (slT ch i l).length = l.length
  | [], _ => rfl
  | s :: l, i => by simp [slT, slT_length ch l]
theorem sget_slF1 (q : Nat) (w : Bool) : ∀ (l : List S) (i t : Nat), sget (slF1 q w i l) t = fixF q w (i + t) (sget l t)
  | [], i, t => by simp [slF1, sget, fixF]
  | s :: l, i, 0 => by simp [slF1, sget]
  | s :: l, i, t + 1 => by simp only [slF1, sget]; rw [sget_slF1 q w l (i + 1) t, show i + 1 + t = i + (t + 1) by omega]
theorem slF1_length (q : Nat) (w : Bool) : ∀ (l : List S) (i : Nat), (slF1 q w i l).length = l.length
  | [], _ => rfl
  | s :: l, i => by simp [slF1, slF1_length q w l]
theorem chAt_mem : ∀ {ch : List (Nat × Bool)} {i : Nat} {w : Bool}, chAt ch i = some w → (i, w) ∈ ch
  | [], _, _, h => by simp [chAt] at h
  | (s, v) :: c, i, w, h => by
    simp only [chAt] at h
    split at h
    · rename_i e
      have e := beq_iff_eq.1 e
      simp only [Option.some.injEq] at h
      subst e; subst h; simp
    · exact List.mem_cons_of_mem _ (chAt_mem h)

theorem raw_fixT {sl : List S} {ch : List (Nat × Bool)} (hg : gOf sl ch = true) (t : Nat) : raw (fixT ch t (sget sl t)) = raw (sget sl t) := by
  have key : ∀ w, chAt ch t = some w → raw (sget sl t) = some w := fun w hw => (gOf_iff sl ch).1 hg (t, w) (chAt_mem hw)
  cases hs : sget sl t with
  | und => rfl
  | ud => rfl
  | v y =>
    rw [hs] at key
    cases y <;> try rfl
    simp only [fixT]
    cases hw : chAt ch t with
    | none => rfl
    | some w => exact (key w hw).symm
  | gv c y =>
    rw [hs] at key
    simp only [fixT]
    split
    · cases y <;> try rfl
      simp only
      cases hw : chAt ch t with
      | none => rfl
      | some w => exact (key w hw).symm
    · rfl

theorem gOf_raw {sl sl' : List S} (h : ∀ t, raw (sget sl' t) = raw (sget sl t)) : ∀ c, gOf sl' c = gOf sl c
  | [] => rfl
  | (s, w) :: c => by rw [gOf_cons, gOf_cons, h, gOf_raw h c]

theorem FRep.slT {K : Nat → Prop} {sl : List S} {ch : List (Nat × Bool)} (h : FRep ρ K sl a) (hg : gOf sl ch = true) : FRep ρ K (slT ch 0 sl) a := by
  have hget : ∀ t, sget (Sx.slT ch 0 sl) t = fixT ch t (sget sl t) := fun t => by rw [sget_slT, Nat.zero_add]
  have hraw : ∀ t, raw (sget (Sx.slT ch 0 sl) t) = raw (sget sl t) := fun t => by rw [hget, raw_fixT hg]
  refine ⟨by rw [slT_length]; exact h.1, fun t => ?_⟩
  rw [hget]
  have ht := h.2 t
  have key : ∀ w, chAt ch t = some w → raw (sget sl t) = some w := fun w hw => (gOf_iff sl ch).1 hg (t, w) (chAt_mem hw)
  cases hs : sget sl t with
  | und => trivial
  | ud => rw [hs] at ht; exact ht
  | v y =>
    rw [hs] at ht key
    cases y <;> try exact ht
    simp only [fixT]
    cases hw : chAt ch t with
    | none => exact ht
    | some w =>
      have := key w hw
      simp only [raw, Option.some.injEq] at this
      subst this
      exact ht
  | gv c y =>
    rw [hs] at ht key
    simp only [fixT]
    split
    · rename_i hsub
      obtain ⟨e1, e2⟩ := ht.1 (gOf_sub hsub hg)
      cases y <;> try exact ⟨e1, e2⟩
      simp only
      cases hw : chAt ch t with
      | none => exact ⟨e1, e2⟩
      | some w =>
        have := key w hw
        simp only [raw, Option.some.injEq] at this
        subst this
        exact ⟨e1, e2⟩
    · exact ⟨fun hgc => ht.1 (by rwa [gOf_raw hraw] at hgc), fun hgc => ht.2 (by rwa [gOf_raw hraw] at hgc)⟩

theorem FRep.slF {K : Nat → Prop} {sl : List S} {ch : List (Nat × Bool)} (h : FRep ρ K sl a) (hg : gOf sl ch = false) : FRep ρ K (slF ch sl) a := by
  unfold Sx.slF
  split
  · rename_i q w
    split
    · rename_i b hq
      have hb : b = !w := by
        rw [gOf_cons, hq] at hg
        simp only [raw, gOf, Bool.and_true] at hg
        cases w <;> simp_all
      refine ⟨by rw [slF1_length]; exact h.1, fun t => ?_⟩
      rw [sget_slF1, Nat.zero_add]
      have ht := h.2 t
      cases hs : sget sl t with
      | und => trivial
      | ud => rw [hs] at ht; exact ht
      | v y =>
        rw [hs] at ht
        cases y <;> try exact ht
        simp only [fixF]
        split
        · rename_i e
          have e := beq_iff_eq.1 e
          subst e
          rw [hq] at hs
          simp only [S.v.injEq, V.bo.injEq] at hs
          subst hs
          rw [← hb]
          exact ht
        · exact ht
      | gv c y =>
        rw [hs] at ht
        simp only [fixF]
        split
        · rename_i hc
          refine ht.2 ?_
          cases hgc : gOf sl c with
          | false => rfl
          | true =>
            simp only [chHas, List.any_eq_true, Bool.and_eq_true, beq_iff_eq] at hc
            obtain ⟨p, hp, e1, e2⟩ := hc
            have := (gOf_iff sl c).1 hgc p hp
            rw [e1, e2, hq] at this
            simp only [raw, Option.some.injEq] at this
            rw [this] at hb
            cases w <;> simp at hb
        · trivial
    · exact h
  · exact h

theorem stepS_spec {H : Handler} {Y : YHandler} {ops : Array Oper} {o : Oper} {σ : St} {K : St → Prop} {KP : V → St → Prop} {next : Act → World → Prop} {Q : Exit → Act → World → Prop} {ro : Option Nat} (hC : C.Sound) (hH : H.OK C.P) (hY : YOK C.P Y ρ σ.res)
    (hd : ro ≠ none → notDefer o) (h : stepS C H Y ops.toList o σ K KP) (hr : Rep ρ fps σ w0 F0 a w)
    (hn : ∀ σ' ρ' fps' a' w', K σ' → Rep ρ' fps' σ' w0 F0 a' w' → Good ρ σ.res ρ' σ'.res → next a' w')
    (hp : ∀ v σ' ρ' fps' w', KP v σ' → ok (known σ'.res) v → Rep ρ' fps' σ' w0 F0 a w' → Good ρ σ.res ρ' σ'.res → Q (.panic [{ v := den ρ' v, recovered := false }]) a w') :
    if Region.wanted o (yielded ops a.tmps) then o.wpIn (FF ro) 0 C.P a w next Q else next (a.put o.dst undef) w := by
  have hr0 := hr
  obtain ⟨h1, h2, h3, h4⟩ := hr
  have skip : (putK σ.slots o.dst .ud fun sl => K { σ with slots := sl }) → next (a.put o.dst undef) w := fun h => by
    rw [putK_eq] at h
    split at h
    · rename_i sl hsl
      exact hn _ ρ fps _ _ h ⟨h1.putS hsl fun _ _ _ _ => rfl, h2, by rw [put_defers]; exact h3, h4⟩ (Good.refl _ _)
    · exact h.elim
  unfold stepS at h
  split at h
  · exact h.elim
  · rename_i hc
    rw [chainOf_spec h1 hc]
    simp only [does, Bool.false_eq_true, if_false]
    exact skip h
  · rename_i ch hc
    rw [chainOf_spec h1 hc]
    rw [show does σ.slots (some ch) = gOf σ.slots ch from rfl]
    split at h
    · rename_i q x new ho
      split at h
      · rename_i hch
        have hch : ch = [] := by simpa using hch
        subst hch
        simp only [gOf, if_true]
        exact oper_in hd (ro_spec hC ho rfl h hr0 hn)
      · split at h
        · rename_i hne
          have hne : new = [] := by simpa using hne
          subst hne
          rw [putK_eq] at h
          split at h
          · rename_i sl hsl
            obtain ⟨hq, hK⟩ := reqG_iff h
            by_cases hgo : gOf σ.slots ch = true
            · rw [if_pos hgo]
              obtain ⟨hy, _⟩ := opRO_spec hC ho h1 h2 hgo (hq hgo) fun k hk => by simp at hk
              refine oper_in hd (hy.wp fun v w' ⟨ρ', hg, hv, hx⟩ => ?_)
              have hfr' : ∀ i, known σ.res i → ¬ fresh σ.res.length ([] : List Res).length i := fun i hi hf => by unfold fresh at hf; simp at hf; omega
              have hK' : ∀ i, known σ.res i ∨ fresh σ.res.length ([] : List Res).length i → known σ.res i := fun i hi => by
                rcases hi with hi | hf
                · exact hi
                · unfold fresh at hf; simp at hf; omega
              obtain ⟨fps', g1, g2⟩ := h2.grow (res' := σ.res) (by have := adds_append σ.res []; simpa using this) hfr' hK' hg
              obtain ⟨e1, e2⟩ := defs_env h4 g2 (fun i hi => hi)
              refine hn _ ρ' fps' _ _ hK ⟨?_, g1, by rw [put_defers, h3]; exact e1.symm, e2⟩ ⟨g2, fun i hi => hi⟩
              refine (h1.env (fun i hi => hi) g2).putS hsl fun d hd hf hnm => ⟨fun _ => ⟨hv, ok_mono hK' _ hx⟩, fun hgf => ?_⟩
              rw [gOf_sset (hnm ch x rfl), hgo] at hgf
              simp at hgf
            · rw [if_neg hgo]
              refine hn _ ρ fps _ _ hK ⟨?_, h2, by rw [put_defers]; exact h3, h4⟩ (Good.refl _ _)
              refine h1.putS hsl fun d hd hf hnm => ⟨fun hgt => ?_, fun _ => rfl⟩
              rw [gOf_sset (hnm ch x rfl)] at hgt
              exact absurd hgt hgo
          · exact h.elim
        · obtain ⟨ht, hf⟩ := h
          split
          · rename_i hgo
            exact oper_in hd (ro_spec hC ho hgo (ht hgo) hr0 hn)
          · rename_i hgo
            exact skip (hf (by simpa using hgo))
    · split at h
      · rename_i hch
        have hch : ch = [] := by simpa using hch
        subst hch
        simp only [gOf, if_true]
        exact opWR_spec hC hH hY hd h rfl hr0 hn hp
      · obtain ⟨ht, hf⟩ := h
        simp only [frcK_eq] at ht hf
        split
        · rename_i hgo
          exact opWR_spec (σ := { σ with slots := slT ch 0 σ.slots }) hC hH hY hd (ht hgo) rfl ⟨h1.slT hgo, h2, h3, h4⟩ hn hp
        · rename_i hgo
          have hf := hf (by simpa using hgo)
          rw [putK_eq] at hf
          split at hf
          · rename_i sl hsl
            exact hn _ ρ fps _ _ hf ⟨(h1.slF (by simpa using hgo)).putS hsl fun _ _ _ _ => rfl, h2, by rw [put_defers]; exact h3, h4⟩ (Good.refl _ _)
          · exact hf.elim

end
end Go.Sx
