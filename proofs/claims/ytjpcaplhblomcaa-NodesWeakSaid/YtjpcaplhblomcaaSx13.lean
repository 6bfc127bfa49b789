/- The executor: code, loops, functions. No condition. -/
import Derived.Test.YtjpcaplhblomcaaSx12s
set_option linter.unusedVariables false
set_option linter.unusedSimpArgs false
namespace Go.Sx
open Go.RowKit (Below)

/-- What is said of a loop: its states by a parameter, what holds of it, what goes down. -/
structure LoopAnn where
  γ : Type
  head : St → γ → St
  inv : γ → Prop
  μ : γ → Nat
  pre : List Gh := []
  ext : St → Option (List Nat) := fun _ => none

/-- At a loop's entry; behind a round. -/
def SubE (l : List Gh) (σ τ : St) : Prop :=
  match ghosts l σ with
  | some σ' => Sub σ' τ
  | none => False
def SubX (n : Nat) (e : Option (List Nat)) (σ τ : St) : Prop :=
  match e with
  | none => Sub σ τ
  | some l => match reSt n l σ with
    | some σ' => Sub σ' τ
    | none => False

structure Cfg extends Ctx where
  H0 : Handler
  inl : Nat → Bool
  ann : Nat → Nat → Option LoopAnn

def firstReg : Code → Option Nat
  | .region i _ _ => some i
  | .seq a b => match firstReg a with
    | some i => some i
    | none => firstReg b
  | .cond _ a b => match firstReg a with
    | some i => some i
    | none => firstReg b
  | .block _ b => firstReg b
  | .loop b => firstReg b
  | .scope b => firstReg b
  | _ => none

def execOps (C : Ctx) (H : Handler) (Y : YHandler) (ops : List Oper) : List Oper → St → (Out → St → Prop) → Prop
  | [], σ, K => cleanK σ.slots fun sl => K .norm { σ with slots := sl }
  | o :: l, σ, K => stepS C H Y ops o σ (fun σ' => execOps C H Y ops l σ' K) (fun v σ' => K (.pan v) σ')

def keepB : List Res → List Res → Bool
  | [], _ => true
  | x :: l, m => (match x with | .yet => true | _ => match m with | [] => false | y :: _ => match y with | .yet => false | _ => true) && keepB l m.tail

/-- The results of a function. -/
def resultsV (C : Ctx) (σ : St) : List ResultVar → Option (List (Option Prop × V))
  | [] => some []
  | .tmp t :: l => match sget σ.slots t, resultsV C σ l with
    | .v x, some xs => some ((none, x) :: xs)
    | _, _ => none
  | .cell a t :: l => match sget σ.slots a, resultsV C σ l with
    | .v p, some xs => match p with
      | .lp _ _ => match loadV C σ.res t p with
        | some r => some (r :: xs)
        | none => none
      | _ => none
    | _, _ => none

def oneOf : List (Option Prop × V) → V
  | [x] => x.2
  | l => .tp (l.map (·.2))

/-- The deferred calls of a function: marks of loops over functions are taken; functions that catch do so. -/
def leaveS (C : Ctx) : List (Nat × List V × List V) → Option V → List Res → (Option V → List Res → Prop) → Prop
  | [], m, res, K => K m res
  | d :: l, m, res, K => match mrk d.2.1 with
    | some k => match rget res k with
      | .dfr => leaveS C l m (rset res k .gone) K
      | _ => False
    | none => match C.D d.1 with
      | some (ts, te) => if callable C.P d.1 then match d.2.2 with
          | [] => match d.2.1 with
            | [p] => match m with
              | none => leaveS C l none res K
              | some v => match v with
                | .ic t y => if t == ts then match y with
                    | .ag yl => match yl with
                      | [x] => match toInt x with
                        | some (k, n) => match storeV C.P res te p (.it k n) with
                          | some res' => leaveS C l none res' K
                          | none => False
                        | none => False
                      | _ => False
                    | _ => False
                  else False
                | _ => False
            | _ => False
          | _ => False
        else False
      | none => False

/-- What a function's end gives. -/
def finE (C : Ctx) (fn : Func) (K KP : V → List Res → Prop) (σ : St) (m : Option V) (res : List Res) : Prop :=
  match m with
  | none => match resultsV C { σ with res := res } fn.results.toList with
    | some l => K (oneOf l) res
    | none => False
  | some v => KP v res
def finish (C : Ctx) (fn : Func) (K KP : V → List Res → Prop) : Out → St → Prop
  | .norm, σ => leaveS C σ.defs none σ.res (finE C fn K KP σ)
  | .ret, σ => leaveS C σ.defs none σ.res (finE C fn K KP σ)
  | .pan v, σ => leaveS C σ.defs (some v) σ.res (finE C fn K KP σ)
  | _, _ => False

def argSlots (n : Nat) (args : List V) : List S := args.map .v ++ List.replicate (n - args.length) .und

/-- The code of a function from its arguments. -/
def enter (C : Ctx) (ex : Code → St → (Out → St → Prop) → Prop) (f : Nat) (args : List V) (res : List Res) (K KP : V → List Res → Prop) : Prop :=
  match C.P.funcs[f]? with
  | none => False
  | some fn => match fn.body with
    | none => False
    | some c => ex c { slots := argSlots fn.ntmps args, res := res, defs := [] } (finish C fn K KP)

/-- A loop over a function, as its rounds know it. -/
structure YFrame where
  k : Nat
  r0 : Loop
  slots : List S
  ps : List Nat
  assign : Code
  body : Code
  fid : Nat

/-- Where code is run: in a round? within which loop's function? -/
structure YC where
  rd : Bool
  y : Option YFrame

def setPs : List Nat → List V → List S → Option (List S)
  | [], [], sl => some sl
  | p :: ps, x :: xs, sl => setPs ps xs (sset sl p (.v x))
  | _, _, _ => none

def defOp (o : Oper) : Bool :=
  match o.op with
  | .defer _ => true
  | _ => false

/-- A round of a loop over a function. -/
def yieldS (ex : Nat → Code → St → (Out → St → Prop) → Prop) (y : YFrame) (k : Nat) (args : List V) (res : List Res) (K : V → List Res → Prop) : Prop :=
  if k == y.k then match rget res k with
    | .lop r s j => if lsEq s .ready && j.isNone then r = y.r0 ∧ match setPs y.ps args y.slots with
      | some sl => ex y.fid y.assign { slots := sl, res := res, defs := [] } fun out σ1 => match out with
        | .norm => match rget σ1.res k with
          | .lop r1 s1 j1 => if lsEq s1 .ready && j1.isNone then r1 = y.r0 ∧ ex y.fid y.body { σ1 with res := rset σ1.res k (.lop y.r0 .busy none) } fun out σ2 => match rget σ2.res k with
            | .lop r2 s2 j2 => if lsEq s2 .busy && j2.isNone then r2 = y.r0 ∧ match out with
              | .norm => K (.cb true) (rset σ2.res k (.lop y.r0 .ready none))
              | .ret => K (.cb false) (rset σ2.res k (.lop y.r0 .done (some .ret)))
              | .exit i => K (.cb false) (rset σ2.res k (.lop y.r0 .done (some (.exit i))))
              | .goto l => K (.cb false) (rset σ2.res k (.lop y.r0 .done (some (.goto l))))
              | .pan _ => False
              else False
            | _ => False
            else False
          | _ => False
        | _ => False
      | none => False
      else False
    | _ => False
  else False

/-- Behind a loop over a function. -/
def afterY (σ : St) (kd kl : Nat) (K : Out → St → Prop) (res : List Res) : Prop :=
  match rget res kl with
  | .lop _ s j => if lsEq s .busy then False else match j with
    | none => K .norm { slots := clean σ.slots, res := shutL σ.res σ.res.length (rset res kl .gone), defs := (0, [.yl kd], []) :: σ.defs }
    | some c => match c with
      | .ret => K .ret { slots := clean σ.slots, res := shutL σ.res σ.res.length (rset res kl .gone), defs := (0, [.yl kd], []) :: σ.defs }
      | .exit i => K (.exit i) { slots := clean σ.slots, res := shutL σ.res σ.res.length (rset res kl .gone), defs := (0, [.yl kd], []) :: σ.defs }
      | .goto l => K (.goto l) { slots := clean σ.slots, res := shutL σ.res σ.res.length (rset res kl .gone), defs := (0, [.yl kd], []) :: σ.defs }
      | _ => False
  | _ => False

/-- Under which number the loops of a loop's function are annotated: by the first region of the body. -/
def yfid (g : Nat) (assign body : Code) : Nat :=
  match firstReg (.seq assign body) with
  | some r => 1000 * (r + 1) + g
  | none => g

def exec (C : Cfg) : Nat → YC → Nat → Code → St → (Out → St → Prop) → Prop
  | 0, _, _, _, _, _ => False
  | n + 1, yc, fid, c, σ, K => match c with
    | .skip => K .norm σ
    | .label _ => K .norm σ
    | .region _ ops draw => if yc.rd && ops.toList.any defOp then False
        else if draw then drawS C.toCtx (fun f args res K KP => if C.inl f then enter C.toCtx (exec C n ⟨false, none⟩ f) f args res K KP else C.H0 f args res K KP)
          (fun k args res K _ => match yc.y with | some y => yieldS (exec C n ⟨true, none⟩) y k args res K | none => False) ops.toList σ K
        else execOps C.toCtx (fun f args res K KP => if C.inl f then enter C.toCtx (exec C n ⟨false, none⟩ f) f args res K KP else C.H0 f args res K KP)
          (fun k args res K _ => match yc.y with | some y => yieldS (exec C n ⟨true, none⟩) y k args res K | none => False) ops.toList ops.toList σ K
    | .seq a b => exec C n yc fid a σ fun out σ' => match out with
      | .norm => exec C n yc fid b σ' K
      | o => K o σ'
    | .cond x a b => match oval σ.slots [] x with
      | some (.cb true) => exec C n yc fid a σ K
      | some (.cb false) => exec C n yc fid b σ K
      | some (.bo t) => (t = true → exec C n yc fid a σ K) ∧ (t = false → exec C n yc fid b σ K)
      | _ => False
    | .block id b => exec C n yc fid b σ fun out σ' => match out with
      | .exit i => if i == id then K .norm σ' else K (.exit i) σ'
      | o => K o σ'
    | .loop b => match firstReg b with
      | none => False
      | some r => match C.ann fid r with
        | none => False
        | some A => (∃ g, A.inv g ∧ SubE A.pre σ (A.head σ g)) ∧ ∀ g, A.inv g → if keepB σ.res (A.head σ g).res then
            exec C n yc fid b (A.head σ g) fun out σ' => match out with
              | .norm => ∃ g', A.inv g' ∧ pLt (A.μ g') (A.μ g) ∧ SubX σ.res.length (A.ext σ') σ' (A.head σ g')
              | o => K o σ'
          else False
    | .rangeFunc f ps assign body => if yc.rd then False else match oval σ.slots [] f with
      | some (.fn g caps) => callable C.P g = true ∧ ∀ r0 : Loop,
          enter C.toCtx (exec C n ⟨false, some ⟨(openL σ.res.length σ.res).length + 1, r0, clean σ.slots, ps.toList, assign, body, fid⟩⟩ (yfid g assign body)) g (.yl ((openL σ.res.length σ.res).length + 1) :: caps) (openL σ.res.length σ.res ++ [.dfr, .lop r0 .ready none])
            (fun _ res => afterY σ (openL σ.res.length σ.res).length ((openL σ.res.length σ.res).length + 1) K res) (fun _ _ => False)
      | _ => False
    | .exit i => K (.exit i) σ
    | .goto l => K (.goto l) σ
    | .ret => K .ret σ
    | _ => False

section
variable {ρ ρ0 : Env} {res0 : List Res} {fps : Nat → Nat → Prop} {w0 w : World} {F0 : Nat → Prop} {a : Act}

theorem execOps_spec {C : Ctx} {H : Handler} {Y : YHandler} {ops : Array Oper} {K : Out → St → Prop} {ro : Option Nat} (hC : C.Sound) (hH : H.OK C.P) (hY : YOK C.P Y ρ0 res0) (hnd : ro ≠ none → ∀ o ∈ ops.toList, notDefer o) : ∀ (l : List Oper), (∀ o ∈ l, o ∈ ops.toList) → ∀ (σ : St) (ρ : Env) (fps : Nat → Nat → Prop) (a : Act) (w : World),
    execOps C H Y ops.toList l σ K → Rep ρ fps σ w0 F0 a w → Good ρ0 res0 ρ σ.res → wpListIn (FF ro) 0 C.P ops (Post ρ0 res0 w0 F0 K) l a w
  | [], _, σ, ρ, fps, a, w, h, hr, hg => ⟨.norm, { σ with slots := clean σ.slots }, ρ, fps, trivial, by simpa only [execOps, cleanK_eq] using h, ⟨hr.1.clean, hr.2.1, hr.2.2.1, hr.2.2.2⟩, hg⟩
  | o :: l, hl, σ, ρ, fps, a, w, h, hr, hg => by
    have key := stepS_spec (ro := ro) (next := wpListIn (FF ro) 0 C.P ops (Post ρ0 res0 w0 F0 K) l) (Q := Post ρ0 res0 w0 F0 K) hC hH (hY.later hg) (fun hr => hnd hr o (hl o (by simp))) h hr
      (fun σ' ρ' fps' a' w' hK hr' hg' => execOps_spec hC hH hY hnd l (fun o ho => hl o (by simp [ho])) σ' ρ' fps' a' w' hK hr' (hg.trans hg'))
      (fun v σ' ρ' fps' w' hK hv hr' hg' => ⟨.pan v, σ', ρ', fps', ⟨rfl, hv⟩, hK, hr', hg.trans hg'⟩)
    unfold wpListIn
    split
    · rename_i hw; rw [if_pos hw] at key; exact key
    · rename_i hw; rw [if_neg hw] at key; exact ⟨fun _ _ => trivial, key⟩

theorem SubE.rep {l : List Gh} {σ τ : St} (h : SubE l σ τ) (hr : Rep ρ fps σ w0 F0 a w) : ∃ ρ' fps', Rep ρ' fps' τ w0 F0 a w ∧ Env.agree (known σ.res) ρ ρ' := by
  unfold SubE at h
  split at h
  · rename_i σ' hg
    obtain ⟨ρ', fps', g1, g2⟩ := ghosts_rep hg hr
    exact ⟨ρ', fps', (h.rep g1).1, g2.1⟩
  · exact h.elim

theorem SubX.rep {n : Nat} {e : Option (List Nat)} {σ τ : St} (h : SubX n e σ τ) (hr : Rep ρ fps σ w0 F0 a w) : ∃ ρ' fps', Rep ρ' fps' τ w0 F0 a w ∧ Env.agree (fun i => i < n) ρ ρ' := by
  unfold SubX at h
  split at h
  · exact ⟨ρ, fps, (h.rep hr).1, Env.agree.refl _ _⟩
  · split at h
    · rename_i l σ' hg
      obtain ⟨ρ', fps', g1, g2⟩ := reSt_rep hg hr
      exact ⟨ρ', fps', (h.rep g1).1, g2⟩
    · exact h.elim

theorem keepB_spec : ∀ (l m : List Res), keepB l m = true → ∀ i, known l i → known m i
  | [], m, _, i, hi => by simp [known, rget] at hi
  | x :: l, m, h, i, hi => by
    simp only [keepB, Bool.and_eq_true] at h
    cases i with
    | zero =>
      obtain ⟨h1, _⟩ := h
      cases m with
      | nil => cases x <;> simp_all [known, rget]
      | cons y m => cases x <;> cases y <;> simp_all [known, rget]
    | succ i =>
      have := keepB_spec l m.tail h.2 i hi
      cases m with
      | nil => simp [known, rget] at this
      | cons y m => exact this

theorem resultsV_spec {C : Ctx} {σ : St} (hr : Rep ρ fps σ w0 F0 a w) : ∀ (rs : List ResultVar) (l : List (Option Prop × V)), resultsV C σ rs = some l →
    (rs.mapM fun (r : ResultVar) => (match r with | .tmp t => pure (a.tmps.getD t undef) | .cell b t => do loadVar t (← asAddr (a.tmps.getD b undef)) : Sem Value)).run C.P w = .ok (l.map fun x => den ρ x.2) w ∧ okL (known σ.res) (l.map (·.2))
  | [], l, h => by simp only [resultsV, Option.some.injEq] at h; subst h; exact ⟨by simp, trivial⟩
  | .tmp t :: rs, l, h => by
    simp only [resultsV] at h
    split at h
    · rename_i x xs hx hxs
      simp only [Option.some.injEq] at h
      subst h
      obtain ⟨e1, e2⟩ := resultsV_spec hr rs xs hxs
      have := hr.1.2 t
      rw [hx] at this
      refine ⟨?_, this.2, e2⟩
      rw [List.mapM_cons]
      simp only [Sem.run_bind, Sem.run_pure, Result.andThen_ok, e1, this.1, List.map_cons]
    · simp at h
  | .cell b t :: rs, l, h => by
    simp only [resultsV] at h
    split at h
    · rename_i p xs hp hxs
      split at h
      · rename_i id off
        split at h
        · rename_i r hl
          simp only [Option.some.injEq] at h
          subst h
          obtain ⟨e1, e2⟩ := resultsV_spec hr rs xs hxs
          have hb := hr.1.2 b
          rw [hp] at hb
          have hq : holdsO r.1 := by
            unfold loadV at hl
            split at hl
            · simp only at hl
              split at hl
              · rename_i hu _ c _
                generalize getAt 8 _ _ _ _ = z at hl
                cases z with
                | none => simp at hl
                | some z => simp only [Option.map_some, Option.some.injEq] at hl; subst hl; trivial
              · simp at hl
            · simp at hl
          obtain ⟨f1, f2, _⟩ := loadV_spec hr.2.1 (q := r.1) (r := r.2) hl hq hb.2
          refine ⟨?_, f2, e2⟩
          have hh : (do loadVar t (← asAddr (a.tmps.getD b undef)) : Sem Value).run C.P w = .ok (den ρ r.2) w := by
            rw [hb.1]
            simpa [den, asAddr, Instr.loadAt, Instr.sureAddr] using f1
          rw [List.mapM_cons, Sem.run_bind]
          refine Eq.trans (congrArg (fun r => Result.andThen r _) hh) ?_
          simp only [Result.andThen_ok, Sem.run_bind, e1, Sem.run_pure, List.map_cons]
        · simp at h
      · simp at h
    · simp at h

theorem run_results {C : Ctx} {σ : St} {fn : Func} {l : List (Option Prop × V)} (hr : Rep ρ fps σ w0 F0 a w) (h : resultsV C σ fn.results.toList = some l) :
    (results fn a.tmps).run C.P w = .ok (den ρ (oneOf l)) w ∧ ok (known σ.res) (oneOf l) := by
  obtain ⟨e1, e2⟩ := resultsV_spec hr _ _ h
  have hm : (fn.results.mapM fun (r : ResultVar) => (match r with | .tmp t => pure (a.tmps.getD t undef) | .cell b t => do loadVar t (← asAddr (a.tmps.getD b undef)) : Sem Value)).run C.P w = .ok (l.map fun x => den ρ x.2).toArray w := by
    rw [Array.mapM_eq_mapM_toList]
    simp only [Sem.run_map, e1, Result.andThen_ok]
  unfold results
  rw [Sem.run_bind]
  refine ⟨?_, ?_⟩
  · refine Eq.trans (congrArg (fun r => Result.andThen r _) hm) ?_
    simp only [Result.andThen_ok, Sem.run_pure]
    match l with
    | [] => simp [oneOf, den, denL]
    | [x] => simp [oneOf]
    | x :: y :: l => simp [oneOf, den, denL_eq]
  · match l, e2 with
    | [], e2 => exact e2
    | [x], e2 => exact e2.1
    | x :: y :: l, e2 => exact e2

/-- A place's object is another. -/
theorem HRep.reloop {res : List Res} {k : Nat} {r : Res} (h : HRep ρ fps res (known res) w0 F0 w) (hk : known res k) (o : Go.Obj) (hf : fps k (ρ.num k)) (hlt : ρ.num k < w.heap.size) (hr : r ≠ .yet)
    (hh : r.holds (known (rset res k r)) ρ k (fps k) w0 F0 (w.putObj (ρ.num k) o)) :
    ∃ fps', HRep ρ fps' (rset res k r) (known (rset res k r)) w0 F0 (w.putObj (ρ.num k) o) ∧ ∀ i, known res i → known (rset res k r) i := by
  have hl := rget_lt hk
  have hget : ∀ i, rget (rset res k r) i = if i = k then r else rget res i := fun i => rget_rset _ _ _ _ hl
  have hmono : ∀ i, known res i → known (rset res k r) i := fun i hi => by
    unfold known
    rw [hget]
    split
    · exact hr
    · exact hi
  obtain ⟨fps', g⟩ := h.turn (w' := w.putObj (ρ.num k) o) (res' := rset res k r) (K' := known (rset res k r)) (fun i => i = k) (fun i => i = k) (fun i b => i = k ∧ fps k b) (fun i hi => hi) hmono (Env.agree.refl _ _)
    (fun i hi hb => by
      have e := hget i
      rw [if_neg hb] at e
      exact ⟨by unfold known at hi ⊢; rw [e] at hi; exact hi, hb, e⟩)
    (fun i hi hb => by
      subst hb
      refine ⟨?_, fun b hb => .inl ⟨i, rfl, hk, hb.2⟩⟩
      rw [hget, if_pos rfl]
      have : (fun b => i = i ∧ fps i b) = fps i := by funext b; simp
      rw [this]; exact hh)
    (fun i j b hi hj hne _ _ => hne (hi.trans hj.symm)) rfl rfl rfl (by simp) (fun b hb hno => World.putObj_heap_other fun e => hno k rfl hk (by rw [e]; exact hf))
  exact ⟨fps', g, hmono⟩

def modeOf (ρ : Env) : Option V → FrameMode
  | none => .returning
  | some v => .panicking [{ v := den ρ v, recovered := false }]

theorem leave_spec {C : Ctx} (hC : C.Sound) {fn : Func} {tmps : Array Value} {R : Ending → World → Prop} {Kf : Option V → List Res → Prop} : ∀ (l : List (Nat × List V × List V)) (m : Option V) (res : List Res) (fps : Nat → Nat → Prop) (w : World), leaveS C l m res Kf → HRep ρ fps res (known res) w0 F0 w →
    (∀ d ∈ l, okL (known res) d.2.1 ∧ okL (known res) d.2.2) → (∀ v, m = some v → ok (known res) v) →
    (∀ m' res' fps' w', Kf m' res' → HRep ρ fps' res' (known res') w0 F0 w' → (∀ i, known res i → known res' i) → (∀ v, m' = some v → ok (known res') v) → LeavesInM (FF none) 0 C.P fn tmps R [] (modeOf ρ m') w') → LeavesInM (FF none) 0 C.P fn tmps R (l.map (dDen ρ)) (modeOf ρ m) w
  | [], m, res, fps, w, h, hH, hd, hm, hk => hk m res fps w h hH (fun i hi => hi) hm
  | d :: l, m, res, fps, w, h, hH, hd, hm, hk => by
    have hu : modeOf ρ m ≠ .run := by cases m <;> simp [modeOf]
    simp only [leaveS] at h
    split at h
    · rename_i k hmk
      split at h
      · rename_i hr
        have hkk : known res k := by unfold known; rw [hr]; simp
        have hh := hH.holds k hkk
        rw [hr] at hh
        obtain ⟨h1, h2⟩ := hh
        have hlt : ρ.num k < w.heap.size := (Array.getElem?_eq_some_iff.1 h2).1
        obtain ⟨fps1, g1, g2⟩ := hH.reloop (r := .gone) hkk (.deferred none) h1 hlt (by simp) trivial
        refine ⟨hu, .inl ⟨ρ.num k, _, ?_, run_takeDeferred h2, ?_⟩⟩
        · unfold dDen; rw [hmk]
        · exact leave_spec hC l m _ fps1 _ h g1 (fun d hd' => ⟨okL_mono g2 _ (hd d (by simp [hd'])).1, okL_mono g2 _ (hd d (by simp [hd'])).2⟩) (fun v hv => ok_mono g2 _ (hm v hv)) fun m' res' fps' w' hK' hH' hk' hm' => hk m' res' fps' w' hK' hH' (fun i hi => hk' i (g2 i hi)) hm'
      · exact h.elim
    · rename_i hmk
      split at h
      · rename_i ts te hD
        obtain ⟨c1, c2⟩ := hC.dk _ ts te hD
        split at h
        · rename_i hcall
          split at h
          · rename_i hcaps
            split at h
            · rename_i p hargs
              have hp : ok (known res) p := by
                have := (hd d (by simp)).1
                rw [hargs] at this
                exact this.1
              have hfn : ∃ fn', C.P.funcs[d.1]? = some fn' ∧ (fn'.name == "runtime.NumGoroutine") = false ∧ fn'.body.isNone = false := by
                unfold callable at hcall
                split at hcall
                · rename_i fn' hfn'
                  simp only [Bool.and_eq_true, bne_iff_ne, ne_eq] at hcall
                  refine ⟨fn', hfn', by simpa using hcall.1, ?_⟩
                  cases hb : fn'.body with
                  | none => simp [hb] at hcall
                  | some _ => rfl
                · simp at hcall
              obtain ⟨fn', f1, f2, f3⟩ := hfn
              have htar : (dDen ρ d).target = .fn (.func d.1) #[] := by unfold dDen; rw [hmk]; simp [hcaps, denL]
              have hda : (dDen ρ d).args = #[den ρ p] := by unfold dDen; rw [hmk]; simp [hargs, denL]
              have hinv : (invoke (dDen ρ d).target (dDen ρ d).args).run C.P w = .ok (.enter d.1 #[den ρ p]) w := by
                rw [htar, hda]
                simp only [invoke, Sem.run_bind, run_program, callFunc, f1, f2, f3, Bool.false_eq_true, if_false, Result.andThen_ok]
                simp
              have hdl : ∀ e ∈ l, okL (known res) e.2.1 ∧ okL (known res) e.2.2 := fun e he => hd e (by simp [he])
              have hlead : ∀ g, (dDen ρ d).target.leads C.P w (dDen ρ d).args = some g → (FF none).fn g := fun _ _ => trivial
              split at h
              · refine ⟨hu, .inr ⟨fun hh => by simp [FF] at hh, .func d.1, #[], d.1, #[den ρ p], htar, hinv, hlead, ?_⟩⟩
                refine CallsDIn.mono (c1 (den ρ p) w) ?_
                rintro e u' w' ⟨⟨v, rfl⟩, rfl, rfl⟩
                exact leave_spec hC l none _ fps _ h hH hdl (fun v hv => by simp at hv) hk
              · rename_i v
                split at h
                · rename_i t y
                  split at h
                  · rename_i htt
                    have htt := beq_iff_eq.1 htt
                    subst htt
                    split at h
                    · rename_i yl
                      split at h
                      · rename_i x
                        split at h
                        · rename_i k n hx
                          split at h
                          · rename_i res' hs
                            have hxk : inR k n := by
                              have := (hm _ rfl)
                              have hxo : ok (known res) x := this.1.1
                              cases x <;> simp only [toInt, Option.some.injEq, Prod.mk.injEq, reduceCtorEq] at hx <;> obtain ⟨rfl, rfl⟩ := hx
                              · exact hxo
                              · exact hxo
                              · rename_i b
                                have := b.toNat_lt
                                simp only [inR, b2i]; omega
                            obtain ⟨b, off, bty, cs, cs', e0, e4, e1, e2, e3⟩ := storeV_row hH hs hp (show ok (known res) (.it k n) from hxk)
                            have hden : den ρ (.ic t (.ag [x])) = .iface t (.agg #[.int k n]) := by
                              simp only [den, cellsL]
                              simp [toInt_den hx, Value.cells]
                            refine ⟨hu, .inr ⟨fun hh => by simp [FF] at hh, .func d.1, #[], d.1, #[den ρ p], htar, hinv, hlead, ?_⟩⟩
                            show CallsDIn (FF none) 0 C.P d.1 #[den ρ p] (.panicking [{ v := den ρ (.ic t (.ag [x])), recovered := false }]) w _
                            rw [hden]
                            rw [e0] at e1 ⊢
                            refine CallsDIn.mono (c2 b off bty cs cs' k n w e4 e1) ?_
                            rintro e u' w'' ⟨⟨v, rfl⟩, rfl, hbw⟩
                            have hsz : (w.setRow b cs').heap.size = w.heap.size := by simp [World.setRow]
                            obtain ⟨fps2, e2, _⟩ := e2.grow (res' := res') (ρ' := ρ) (nid := 0) (new := []) (K' := known res) ⟨fun i hi => ⟨rfl, fun hf => by unfold fresh at hf; simp only [List.length_nil] at hf; omega⟩, fun i hi => .inl hi, fun k hk => by simp at hk⟩ (fun i hi hf => by unfold fresh at hf; simp only [List.length_nil] at hf; omega) (fun i hi => hi.resolve_right fun hf => by unfold fresh at hf; simp only [List.length_nil] at hf; omega)
                              (w' := w'') ⟨by rw [hsz]; exact hbw, Env.agree.refl _ _, fun _ _ => False, fun k hk => by simp at hk, fun k l b hk => by simp at hk⟩
                            have hkn : ∀ i, known res i → known res' i := fun i hi => (e3 i).2 hi
                            exact leave_spec hC l none _ fps2 _ h (e2.monoK hkn) (fun e he => ⟨okL_mono hkn _ (hdl e he).1, okL_mono hkn _ (hdl e he).2⟩) (fun v hv => by simp at hv)
                              fun m' res'' fps' w' hK' hH' hk' hm' => hk m' res'' fps' w' hK' hH' (fun i hi => hk' i (hkn i hi)) hm'
                          · exact h.elim
                        · exact h.elim
                      · exact h.elim
                    · exact h.elim
                  · exact h.elim
                · exact h.elim
            · exact h.elim
          · exact h.elim
        · exact h.elim
      · exact h.elim

abbrev CallPost (ρ0 : Env) (res0 : List Res) (w0 : World) (F0 : Nat → Prop) (K KP : V → List Res → Prop) (e : Ending) (w' : World) : Prop :=
  ∃ x ρ' fps' res', HRep ρ' fps' res' (known res') w0 F0 w' ∧ Good ρ0 res0 ρ' res' ∧ ok (known res') x ∧
      ((e = .returned (den ρ' x) ∧ K x res') ∨ (e = .panicked [{ v := den ρ' x, recovered := false }] ∧ KP x res'))

theorem resultsV_defs {C : Ctx} (σ : St) (d : List (Nat × List V × List V)) : ∀ rs, resultsV C { σ with defs := d } rs = resultsV C σ rs
  | [] => rfl
  | .tmp t :: l => by simp only [resultsV, resultsV_defs σ d l]
  | .cell a t :: l => by simp only [resultsV, resultsV_defs σ d l]

theorem finish_spec {C : Ctx} (hC : C.Sound) {fn : Func} {K KP : V → List Res → Prop} {e : Exit} (h : Post ρ0 res0 w0 F0 (finish C fn K KP) e a w) : bodyPostM (FF none) 0 C.P fn (CallPost ρ0 res0 w0 F0 K KP) e a w := by
  obtain ⟨out, σ, ρ, fps, h1, h2, h3, h4⟩ := h
  obtain ⟨r1, r2, r3, r4⟩ := h3
  have key : ∀ m, leaveS C σ.defs m σ.res (finE C fn K KP σ) → (∀ v, m = some v → ok (known σ.res) v) → LeavesInM (FF none) 0 C.P fn a.tmps (CallPost ρ0 res0 w0 F0 K KP) a.defers (modeOf ρ m) w := by
    intro m hh hm
    rw [r3]
    refine leave_spec hC _ m _ fps w hh r2 r4 hm fun m' res fps' w' hK hH' hk' hm' => ?_
    unfold finE at hK
    split at hK
    · split at hK
      · rename_i l hl
        have hrep : Rep ρ fps' { slots := σ.slots, res := res, defs := [] } w0 F0 { a with defers := [] } w' := ⟨⟨r1.1, fun t => (r1.2 t).env hk' (Env.agree.refl _ _)⟩, hH', rfl, by simp⟩
        obtain ⟨e1, e2⟩ := run_results hrep (l := l) (by rw [← hl]; exact resultsV_defs { σ with res := res } [] _)
        exact ⟨_, e1, _, ρ, fps', res, hH', ⟨h4.1, fun i hi => hk' i (h4.2 i hi)⟩, e2, .inl ⟨rfl, hK⟩⟩
      · exact hK.elim
    · rename_i v
      exact ⟨v, ρ, fps', res, hH', ⟨h4.1, fun i hi => hk' i (h4.2 i hi)⟩, hm' _ rfl, .inr ⟨rfl, hK⟩⟩
  cases out <;> cases e <;> simp only [OutIs, finish] at h1 h2
  · exact key none h2 (by simp)
  · exact key none h2 (by simp)
  · rename_i v chain
    obtain ⟨rfl, hv⟩ := h1
    exact key (some v) h2 fun v' hv' => by simp only [Option.some.injEq] at hv'; subst hv'; exact hv

theorem enter_spec {C : Ctx} (hC : C.Sound) {ex : Code → St → (Out → St → Prop) → Prop} {f : Nat} {args : List V} {res : List Res} {K KP : V → List Res → Prop}
    (hex : ∀ c σ K a, σ.res = res → ex c σ K → Rep ρ fps σ w0 F0 a w → c.wpIn (FF none) 0 C.P (Post ρ σ.res w0 F0 K) a w) (h : enter C ex f args res K KP)
    (hH : HRep ρ fps res (known res) w0 F0 w) (hargs : okL (known res) args) : Calls C.P f (denL ρ args).toArray w (CallPost ρ res w0 F0 K KP) := by
  unfold enter at h
  split at h
  · exact h.elim
  · rename_i fn hf
    split at h
    · exact h.elim
    · rename_i c hc
      refine ff_calls' (ro := none) (n := 0) (callsIn_of_wp_marks hf hc trivial ?_)
      refine wpIn_mono (hex _ _ _ _ rfl h ?_) fun e a w hp => finish_spec hC hp
      refine ⟨⟨by simp [argSlots, denL_eq], fun t => ?_⟩, hH, rfl, by simp⟩
      simp only [argSlots]
      rw [sget_eq, List.getD_eq_getElem?_getD]
      by_cases ht : t < args.length
      · rw [List.getElem?_append_left (by simpa using ht)]
        simp only [List.getElem?_map, List.getElem?_eq_getElem ht, Option.map_some, Option.getD_some, SlotOK]
        refine ⟨?_, (okL_iff _).1 hargs _ (List.getElem_mem ht)⟩
        rw [Array.getD_eq_getD_getElem?, Array.getElem?_append_left (by simpa [denL_eq] using ht)]
        simp [denL_eq, List.getElem?_eq_getElem ht]
      · rw [List.getElem?_append_right (by simpa using ht)]
        simp only [List.length_map, List.getElem?_replicate]
        split <;> trivial

/-- What a round finds. -/
def YGood (y : YFrame) (ρ : Env) (res : List Res) : Prop :=
  y.r0.params.toList = y.ps ∧ y.r0.assign = y.assign ∧ y.r0.body = y.body ∧ FRep ρ (known res) y.slots { tmps := y.r0.tmps, defers := [] } ∧ ∀ t, (∃ x, sget y.slots t = .v x) ∨ sget y.slots t = .und

theorem setPs_spec {K : Nat → Prop} : ∀ (ps : List Nat) (args : List V) (sl sl' : List S) (tmps : Array Value), setPs ps args sl = some sl' → FRep ρ K sl { tmps := tmps, defers := [] } → (∀ t, (∃ x, sget sl t = .v x) ∨ sget sl t = .und) → okL K args →
    ps.length = args.length ∧ FRep ρ K sl' { tmps := (ps.zip (denL ρ args)).foldl (fun t (p : Nat × Value) => t.setIfInBounds p.1 p.2) tmps, defers := [] }
  | [], [], sl, sl', tmps, h, hF, _, _ => by simp only [setPs, Option.some.injEq] at h; subst h; exact ⟨rfl, hF⟩
  | [], _ :: _, _, _, _, h, _, _, _ => by simp [setPs] at h
  | _ :: _, [], _, _, _, h, _, _, _ => by simp [setPs] at h
  | p :: ps, x :: xs, sl, sl', tmps, h, hF, hp, hk => by
    simp only [setPs] at h
    have hfree : free' p sl = true := by
      unfold free'
      rw [List.all_eq_true]
      intro s hs
      obtain ⟨i, hi, rfl⟩ := List.getElem_of_mem hs
      have := hp i
      rw [sget_eq, List.getD_eq_getElem?_getD, List.getElem?_eq_getElem hi] at this
      simp only [Option.getD_some] at this
      rcases this with ⟨y, h⟩ | h <;> rw [h]
    have h1 := hF.put (d := p) (s := .v x) (x := den ρ x) hfree ⟨rfl, hk.1⟩
    obtain ⟨e1, e2⟩ := setPs_spec ps xs _ _ (tmps.setIfInBounds p (den ρ x)) h h1 (fun t => by
      rw [sget_sset]
      split
      · exact .inl ⟨x, rfl⟩
      · exact hp t) hk.2
    exact ⟨by simp [e1], by simpa [denL] using e2⟩

theorem lsEq_eq {s t : LoopState} (h : lsEq s t = true) : s = t := lsEq_spec h

/-- A round, as the loop's function meets it. -/
theorem yield_ok {C : Ctx} {ex : Nat → Code → St → (Out → St → Prop) → Prop} {y : YFrame} (hex : ∀ ro fid c σ K ρ fps w0 F0 a w, ex fid c σ K → Rep ρ fps σ w0 F0 a w → c.wpIn (FF ro) 0 C.P (Post ρ σ.res w0 F0 K) a w) (hy : YGood y ρ0 res0) :
    YOK C.P (fun k args res K _ => yieldS ex y k args res K) ρ0 res0 := by
  intro k args res K KP h ρ fps w0 F0 w hg hH hk hargs
  unfold yieldS at h
  split at h
  · rename_i hky
    have hky := beq_iff_eq.1 hky
    subst hky
    split at h
    · rename_i r s j hr
      split at h
      · rename_i hs
        simp only [Bool.and_eq_true, Option.isNone_iff_eq_none] at hs
        obtain ⟨hs, rfl⟩ := hs
        have hs := lsEq_eq hs
        subst hs
        obtain ⟨rfl, h⟩ := h
        split at h
        · rename_i sl hsl
          obtain ⟨y1, y2, y3, y4, y5⟩ := hy
          have hh := hH.holds y.k hk
          rw [hr] at hh
          obtain ⟨l1, l2⟩ := hh
          obtain ⟨e1, e2⟩ := setPs_spec (ρ := ρ) (K := known res) _ _ _ _ y.r0.tmps hsl (y4.env hg.2 hg.1) y5 hargs
          refine ⟨ρ.num y.k, _, _, _, _, run_yield l2 (by
            have hps : y.r0.params.size = y.ps.length := by rw [← y1]; simp
            show _ = y.r0.params.size
            rw [hps, e1]; simp [denL_eq]), fun ro => ?_⟩
          refine roundIn_of_wpIn (F := FF ro) trivial ?_
          have hrep : Rep ρ fps { slots := sl, res := res, defs := [] } w0 F0 { tmps := (y.r0.params.zip (denL ρ args).toArray).foldl (fun tmps (t, a) => tmps.setIfInBounds t a) y.r0.tmps, defers := [] } w := by
            refine ⟨?_, hH, rfl, by simp⟩
            have : (y.r0.params.zip (denL ρ args).toArray).foldl (fun tmps (t, a) => tmps.setIfInBounds t a) y.r0.tmps = (y.ps.zip (denL ρ args)).foldl (fun t (p : Nat × Value) => t.setIfInBounds p.1 p.2) y.r0.tmps := by
              rw [← Array.foldl_toList, Array.toList_zip, y1]
            rw [this]; exact e2
          show Code.wpIn (FF (some (ρ.num y.k))) 0 C.P y.r0.assign _ _ w
          rw [y2]
          refine wpIn_mono (hex (some (ρ.num y.k)) y.fid y.assign _ _ ρ fps w0 F0 _ w h hrep) fun e a1 w1 hp => ?_
          obtain ⟨o, σ1, ρ1, fps1, p1, p2, p3, p4⟩ := hp
          cases o <;> simp only at p2 <;> (try exact p2.elim)
          cases e <;> (try exact (show False from p1).elim)
          have hk1 : known σ1.res y.k := p4.2 _ hk
          have hn1 : ρ1.num y.k = ρ.num y.k := (p4.1 _ hk).1
          split at p2
          · rename_i r1 s1 j1 hr1
            split at p2
            · rename_i hs1
              simp only [Bool.and_eq_true, Option.isNone_iff_eq_none] at hs1
              obtain ⟨hs1, rfl⟩ := hs1
              have hs1 := lsEq_eq hs1
              subst hs1
              obtain ⟨rfl, p2⟩ := p2
              have hh1 := p3.2.1.holds y.k hk1
              rw [hr1] at hh1
              obtain ⟨m1, m2⟩ := hh1
              have hlt1 : ρ1.num y.k < w1.heap.size := (Array.getElem?_eq_some_iff.1 m2).1
              obtain ⟨fps2, g1, g2⟩ := p3.2.1.reloop (r := .lop y.r0 .busy none) hk1 (.loop { y.r0 with state := .busy, pending := none }) m1 hlt1 (by simp) ⟨m1, World.putObj_heap_same hlt1⟩
              refine ⟨_, run_beginRound (by rw [← hn1]; exact m2) rfl, ?_⟩
              obtain ⟨d1, d2⟩ := defs_env p3.2.2.2 (Env.agree.refl _ ρ1) g2
              have hbody := hex (some (ρ1.num y.k)) y.fid y.body _ _ ρ1 fps2 w0 F0 a1 _ p2 ⟨⟨p3.1.1, fun t => (p3.1.2 t).env g2 (Env.agree.refl _ _)⟩, g1, p3.2.2.1, d2⟩
              rw [← y3] at hbody
              rw [← hn1]
              refine wpIn_mono hbody fun e a2 w2 hq => ?_
              obtain ⟨o, σ2, ρ2, fps3, q1, q2, q3, q4⟩ := hq
              have hk2 : known σ2.res y.k := q4.2 _ (g2 _ hk1)
              have hn2 : ρ2.num y.k = ρ1.num y.k := (q4.1 _ (g2 _ hk1)).1
              split at q2
              · rename_i r2 s2 j2 hr2
                split at q2
                · rename_i hs2
                  simp only [Bool.and_eq_true, Option.isNone_iff_eq_none] at hs2
                  obtain ⟨hs2, rfl⟩ := hs2
                  have hs2 := lsEq_eq hs2
                  subst hs2
                  obtain ⟨rfl, q2⟩ := q2
                  have hh2 := q3.2.1.holds y.k hk2
                  rw [hr2] at hh2
                  obtain ⟨n1, n2⟩ := hh2
                  have hlt2 : ρ2.num y.k < w2.heap.size := (Array.getElem?_eq_some_iff.1 n2).1
                  have fin : ∀ (jump : Option Code) (b : Bool), b = jump.isNone → K (.cb b) (rset σ2.res y.k (.lop y.r0 (if jump.isNone then .ready else .done) jump)) →
                      ∃ v w', (Instr.endRound (ρ1.num y.k) jump).run C.P w2 = .ok v w' ∧ CallPost ρ res w0 F0 K KP (.returned v) w' := fun jump b hb hK => by
                    obtain ⟨fps4, g3, g4⟩ := q3.2.1.reloop (r := .lop y.r0 (if jump.isNone then .ready else .done) jump) hk2 (.loop { y.r0 with state := if jump.isNone then .ready else .done, pending := jump }) n1 hlt2 (by simp) ⟨n1, World.putObj_heap_same hlt2⟩
                    have hn2' : w2.heap[ρ1.num y.k]? = some (.loop { y.r0 with state := .busy, pending := none }) := by rw [← hn2]; exact n2
                    refine ⟨_, _, run_endRound jump hn2', .cb b, ρ2, fps4, _, by rw [← hn2]; exact g3, ?_, trivial, .inl ⟨by rw [hb]; rfl, hK⟩⟩
                    exact ⟨p4.1.trans (q4.1.mono g2) p4.2, fun i hi => g4 i (q4.2 i (g2 i (p4.2 i hi)))⟩
                  rw [hn1]
                  rw [hn1] at fin
                  cases o <;> cases e <;> simp only [OutIs] at q1 <;> (try exact (show False from q1).elim) <;> simp only at q2
                  · exact fin none true rfl q2
                  · subst q1; exact fin (some (.exit _)) false rfl q2
                  · subst q1; exact fin (some (.goto _)) false rfl q2
                  · exact fin (some .ret) false rfl q2
                · exact q2.elim
              · exact q2.elim
            · exact p2.elim
          · exact p2.elim
        · exact h.elim
      · exact h.elim
    · exact h.elim
  · exact h.elim

/-- Two objects that a loop over a function lays. -/
theorem loop_grew {K : Nat → Prop} {nid : Nat} {r0 : Loop} (hn : ¬ K nid) (hn' : ¬ K (nid + 1)) (rec : Loop) (hr : rec = { r0 with state := .ready, pending := none }) :
    Grew K ρ ((ρ.setNum nid w.heap.size).setNum (nid + 1) (w.heap.size + 1)) nid [.dfr, .lop r0 .ready none] w0 F0 w ((w.alloc (.deferred (some []))).alloc (.loop rec)) := by
  have e1 : ((ρ.setNum nid w.heap.size).setNum (nid + 1) (w.heap.size + 1)).num nid = w.heap.size := by simp [Env.setNum]
  have e2 : ((ρ.setNum nid w.heap.size).setNum (nid + 1) (w.heap.size + 1)).num (nid + 1) = w.heap.size + 1 := by simp [Env.setNum]
  refine ⟨((Below.refl _ w).alloc (Nat.le_refl _) _).trans (((Below.refl _ _).alloc (Nat.le_refl _) _).mono (by simp)), fun i hi => ?_, fun k b => b = w.heap.size + k, fun k hk => ?_, fun k l b hk hl hne h1 h2 => hne (by omega)⟩
  · have h1 : i ≠ nid := fun e => hi ⟨by omega, by simp; omega⟩
    have h2 : i ≠ nid + 1 := fun e => hi ⟨by omega, by simp; omega⟩
    simp [Env.setNum, h1, h2]
  · have : k = 0 ∨ k = 1 := by simp at hk; omega
    rcases this with rfl | rfl
    · refine ⟨⟨e1, ?_⟩, fun b hb => by subst hb; simp only [World.size_alloc]; omega⟩
      show (_ : World).heap[((ρ.setNum nid w.heap.size).setNum (nid + 1) (w.heap.size + 1)).num nid]? = _
      rw [e1]
      exact (Below.heap_alloc _ _ _ (by simp)).trans (World.alloc_heap_new w _)
    · refine ⟨⟨e2, ?_⟩, fun b hb => by subst hb; simp only [World.size_alloc]; omega⟩
      rw [e2]
      have := World.alloc_heap_new (w.alloc (.deferred (some []))) (.loop rec)
      rw [World.size_alloc] at this
      rw [this, hr]

theorem exec_spec {C : Cfg} (hC : C.toCtx.Sound) (hH0 : C.H0.OK C.P) : ∀ (n : Nat) (yc : YC) (fid : Nat) (c : Code) (σ : St) (K : Out → St → Prop) (ρ : Env) (fps : Nat → Nat → Prop) (w0 : World) (F0 : Nat → Prop) (a : Act) (w : World) (ro : Option Nat),
    (yc.rd = false → ro = none) → (∀ y, yc.y = some y → YGood y ρ σ.res) → exec C n yc fid c σ K → Rep ρ fps σ w0 F0 a w → c.wpIn (FF ro) 0 C.P (Post ρ σ.res w0 F0 K) a w
  | 0, _, _, _, _, _, _, _, _, _, _, _, _, _, _, h, _ => h.elim
  | n + 1, yc, fid, c, σ, K, ρ, fps, w0, F0, a, w, ro, hro, hyc, h, hr => by
    have ih := exec_spec hC hH0 n
    have lift : ∀ {ρ1 : Env} {res1 : List Res} {K' : Out → St → Prop} {e : Exit} {a' : Act} {w' : World}, Good ρ σ.res ρ1 res1 → Post ρ1 res1 w0 F0 K' e a' w' → Post ρ σ.res w0 F0 K' e a' w' :=
      fun hg ⟨o, s, r, f, h1, h2, h3, h4⟩ => ⟨o, s, r, f, h1, h2, h3, hg.trans h4⟩
    have here : ∀ {o : Out} {e : Exit}, OutIs ρ σ.res e o → K o σ → Post ρ σ.res w0 F0 K e a w := fun ho hk => ⟨_, σ, ρ, fps, ho, hk, hr, Good.refl _ _⟩
    have ycl : ∀ {ρ1 : Env} {res1 : List Res}, Good ρ σ.res ρ1 res1 → ∀ y, yc.y = some y → YGood y ρ1 res1 := fun hg y hy => by
      obtain ⟨y1, y2, y3, y4, y5⟩ := hyc y hy
      exact ⟨y1, y2, y3, y4.env hg.2 hg.1, y5⟩
    cases c <;> simp only [exec] at h
    case skip => exact wpIn_skip (here (o := .norm) trivial h)
    case label => exact wpIn_label (here (o := .norm) trivial h)
    case region id ops draw =>
      have hH : Handler.OK C.P (fun f args res K KP => if C.inl f then enter C.toCtx (exec C n ⟨false, none⟩ f) f args res K KP else C.H0 f args res K KP) := by
        intro f args res K KP hh
        split at hh
        · intro ρ fps w0 F0 w hH hargs
          exact enter_spec hC (fun c σ K a hσ h hr => ih ⟨false, none⟩ f c σ K ρ fps w0 F0 a w none (fun _ => rfl) (fun y hy => by simp at hy) h hr) hh hH hargs
        · exact hH0 _ _ _ _ _ hh
      have hY : YOK C.P (fun k args res K _ => match yc.y with | some y => yieldS (exec C n ⟨true, none⟩) y k args res K | none => False) ρ σ.res := by
        cases hy : yc.y with
        | none => exact fun _ _ _ _ _ h => h.elim
        | some y => exact yield_ok (C := C.toCtx) (fun ro fid c σ K ρ fps w0 F0 a w h hr => ih ⟨true, none⟩ fid c σ K ρ fps w0 F0 a w ro (fun h => by simp at h) (fun y hy => by simp at hy) h hr) (hyc y hy)
      split at h
      · exact h.elim
      · rename_i hdef
        have hnd : ro ≠ none → ∀ o ∈ ops.toList, notDefer o := fun hne o ho c hc => by
          have hrd : yc.rd = true := by
            cases h : yc.rd with
            | true => rfl
            | false => exact absurd (hro h) hne
          apply hdef
          rw [hrd, Bool.true_and, List.any_eq_true]
          exact ⟨o, ho, by unfold defOp; rw [hc]⟩
        split at h
        · rename_i hd
          subst hd
          exact drawS_spec hC hH hY hnd h hr
        · rename_i hd
          have hd : draw = false := by simpa using hd
          subst hd
          exact wpIn_region_list (execOps_spec hC hH hY hnd _ (fun o ho => ho) σ ρ fps a w h hr (Good.refl _ _))
    case seq x y =>
      refine wpIn_seq (wpIn_mono (ih yc fid x σ _ ρ fps w0 F0 a w ro hro hyc h hr) fun e a' w' hp => ?_)
      obtain ⟨o, s, r, f, h1, h2, h3, h4⟩ := hp
      cases e <;> cases o <;> (first | exact (show False from h1).elim | skip) <;> (try simp only [Exit.then] at h2 ⊢)
      · exact wpIn_mono (ih yc fid y s K r f w0 F0 a' w' ro hro (ycl h4) h2 h3) fun e a w hp => lift h4 hp
      · exact ⟨_, s, r, f, h1, h2, h3, h4⟩
      · exact ⟨_, s, r, f, h1, h2, h3, h4⟩
      · exact ⟨_, s, r, f, h1, h2, h3, h4⟩
      · exact ⟨_, s, r, f, h1, h2, h3, h4⟩
    case cond x y z =>
      split at h
      · rename_i hx
        have := (oval_spec hr.1 rfl hx).1
        exact wpIn_cond_true this (ih yc fid y σ K ρ fps w0 F0 a w ro hro hyc h hr)
      · rename_i hx
        have := (oval_spec hr.1 rfl hx).1
        exact wpIn_cond_false this (ih yc fid z σ K ρ fps w0 F0 a w ro hro hyc h hr)
      · rename_i t hx
        have := (oval_spec hr.1 rfl hx).1
        exact wpIn_cond_split (t := t) this (fun ht => ih yc fid y σ K ρ fps w0 F0 a w ro hro hyc (h.1 ht) hr) (fun ht => ih yc fid z σ K ρ fps w0 F0 a w ro hro hyc (h.2 ht) hr)
      · exact h.elim
    case block id b =>
      refine wpIn_block (wpIn_mono (ih yc fid b σ _ ρ fps w0 F0 a w ro hro hyc h hr) fun e a' w' hp => ?_)
      obtain ⟨o, s, r, f, h1, h2, h3, h4⟩ := hp
      cases e <;> cases o <;> (first | exact (show False from h1).elim | skip) <;> (try simp only [Exit.inBlock] at h2 ⊢)
      · exact ⟨_, s, r, f, h1, h2, h3, h4⟩
      · have h1 : _ = _ := h1
        subst h1
        split at h2
        · rename_i he
          rw [if_pos (beq_iff_eq.1 he)]
          exact ⟨.norm, s, r, f, trivial, h2, h3, h4⟩
        · rename_i he
          rw [if_neg (by simpa using he)]
          exact ⟨.exit _, s, r, f, rfl, h2, h3, h4⟩
      · exact ⟨_, s, r, f, h1, h2, h3, h4⟩
      · exact ⟨_, s, r, f, h1, h2, h3, h4⟩
      · exact ⟨_, s, r, f, h1, h2, h3, h4⟩
    case loop b =>
      split at h
      · exact h.elim
      · split at h
        · exact h.elim
        · rename_i A hA
          obtain ⟨⟨g0, i0, s0⟩, hround⟩ := h
          -- the rounds, by the measure
          have key : ∀ (b' : Frame) (k : List Item) (cs : List Frame), b'.roundOf = (FF ro).round → ∀ m g ρ1 fps1 a1 w1, A.μ g = m → A.inv g → Rep ρ1 fps1 (A.head σ g) w0 F0 a1 w1 → Good ρ σ.res ρ1 (A.head σ g).res →
              ∃ e a' w', Post ρ σ.res w0 F0 K e a' w' ∧ ArrivesIn (Machine.fenced C.P (FF ro)) C.P (lone (b'.atR a1 (.code b :: .inLoop b :: k)) cs w1) b' k cs e a' w' := by
            intro b' k cs hb' m
            induction m using Nat.strongRecOn with
            | _ m ihm =>
              intro g ρ1 fps1 a1 w1 hm hi hr1 hg1
              have hb := hround g hi
              split at hb
              · obtain ⟨e, a2, w2, hp, harr⟩ := ih yc fid b (A.head σ g) _ ρ1 fps1 w0 F0 a1 w1 ro hro (ycl hg1) hb hr1 b' (.inLoop b :: k) cs hb' trivial (ff_room _ _)
                obtain ⟨o, s, r, f, h1, h2, h3, h4⟩ := hp
                cases e <;> cases o <;> (first | exact (show False from h1).elim | skip) <;> (try simp only at h2)
                · obtain ⟨g', i', hlt, hs⟩ := h2
                  have hlt : A.μ g' < A.μ g := hlt
                  obtain ⟨r2, f2, hr2, ha2⟩ := hs.rep h3
                  have hkeep := hround g' i'
                  split at hkeep
                  · rename_i hkb
                    have hg2 : Good ρ σ.res r2 (A.head σ g').res := ⟨(hg1.trans h4).1.trans ha2 (fun i hi => rget_lt hi), keepB_spec _ _ hkb⟩
                    obtain ⟨e', a', w', hp', harr'⟩ := ihm (A.μ g') (by omega) g' r2 f2 a2 w2 rfl i' hr2 hg2
                    exact ⟨e', a', w', hp', .of_steps (StepsIn.trans harr (.one (fenced_calm (n := 0) trivial (ff_room _ _) rfl) stepR_inLoop)) harr'⟩
                  · exact hkeep.elim
                · exact ⟨_, a2, w2, ⟨_, s, r, f, h1, h2, h3, hg1.trans h4⟩, .pass (x := .inLoop b) rfl (fun _ _ => .inl (by simp)) harr⟩
                · exact ⟨_, a2, w2, ⟨_, s, r, f, h1, h2, h3, hg1.trans h4⟩, .pass (x := .inLoop b) rfl (fun _ _ => .inl (by simp)) harr⟩
                · exact ⟨_, a2, w2, ⟨_, s, r, f, h1, h2, h3, hg1.trans h4⟩, .pass (x := .inLoop b) rfl (fun _ _ => .inl (by simp)) harr⟩
                · exact ⟨_, a2, w2, ⟨_, s, r, f, h1, h2, h3, hg1.trans h4⟩, .pass (x := .inLoop b) rfl (fun _ _ => .inl (by simp)) harr⟩
              · exact hb.elim
          obtain ⟨r0, f0, hr0, ha0⟩ := s0.rep hr
          have hkeep := hround g0 i0
          split at hkeep
          · rename_i hkb
            intro b' k cs hb' _ _
            obtain ⟨e, a', w', hp, harr⟩ := key b' k cs hb' _ g0 r0 f0 a w rfl i0 hr0 ⟨ha0, keepB_spec _ _ hkb⟩
            exact ⟨e, a', w', hp, .of_steps (.one (fenced_calm (n := 0) trivial (ff_room _ _) rfl) stepR_loop) harr⟩
          · exact hkeep.elim
    case rangeFunc f ps assign body =>
      split at h
      · exact h.elim
      · rename_i hrd
        have hrn := hro (by simpa using hrd)
        subst hrn
        split at h
        · rename_i g caps hf
          obtain ⟨hcall, h⟩ := h
          obtain ⟨v1, v2⟩ := oval_spec hr.1 rfl hf
          refine wpIn_rangeFunc fun fn _ => ?_
          obtain ⟨ρa, fpsa, ho, hga⟩ := openL_rep σ.res.length σ.res ρ fps hr.2.1
          generalize openL σ.res.length σ.res = res1 at h ho hga
          have hnk : ¬ known res1 res1.length := fun hk => by have := rget_lt hk; omega
          have hnk' : ¬ known res1 (res1.length + 1) := fun hk => by have := rget_lt hk; omega
          generalize hrec : ({ state := .ready, pending := none, fn := fn, tmps := a.tmps, params := ps, assign := assign, body := body, defers := w.heap.size } : Loop) = rec
          have hg0 := loop_grew (ρ := ρa) (w := w) (w0 := w0) (F0 := F0) (K := known res1) (nid := res1.length) (r0 := rec) hnk hnk' rec (by rw [← hrec])
          have hadd := adds_append res1 [.dfr, .lop rec .ready none]
          have hK' : ∀ i, known res1 i ∨ fresh res1.length 2 i → known (res1 ++ [.dfr, .lop rec .ready none]) i := fun i hi => by
            obtain ⟨b1, _, b3⟩ := hadd
            rcases hi with hi | ⟨f1, f2⟩
            · unfold known; rw [(b1 i hi).1]; exact hi
            · have : i - res1.length = 0 ∨ i - res1.length = 1 := by omega
              have h3 := b3 (i - res1.length) (by simp; omega)
              rw [show res1.length + (i - res1.length) = i by omega] at h3
              unfold known
              rw [h3]
              rcases this with h | h <;> rw [h] <;> simp [rget]
          obtain ⟨fps1, g1, g2⟩ := ho.grow hadd (fun i hi hf => by have := rget_lt hi; unfold fresh at hf; omega) hK' hg0
          generalize hρ1 : ((ρa.setNum res1.length w.heap.size).setNum (res1.length + 1) (w.heap.size + 1)) = ρ1 at g1 g2
          have en1 : ρ1.num res1.length = w.heap.size := by subst hρ1; simp [Env.setNum]
          have en2 : ρ1.num (res1.length + 1) = w.heap.size + 1 := by subst hρ1; simp [Env.setNum]
          have hgood : Good ρ σ.res ρ1 (res1 ++ [.dfr, .lop rec .ready none]) := hga.trans ⟨g2, fun i hi => hK' i (.inl hi)⟩
          have hkl : known (res1 ++ [.dfr, .lop rec .ready none]) (res1.length + 1) := hK' _ (.inr ⟨by omega, by omega⟩)
          have hkd : known (res1 ++ [.dfr, .lop rec .ready none]) res1.length := hK' _ (.inr ⟨by omega, by omega⟩)
          have hcaps : okL (known (res1 ++ [.dfr, .lop rec .ready none])) caps := okL_mono hgood.2 _ v2
          have hyg : YGood ⟨res1.length + 1, rec, clean σ.slots, ps.toList, assign, body, fid⟩ ρ1 (res1 ++ [.dfr, .lop rec .ready none]) := by
            subst hrec
            exact ⟨rfl, rfl, rfl, hr.1.clean.env hgood.2 hgood.1, clean_plain σ.slots⟩
          have hcs := enter_spec hC (ρ := ρ1) (fps := fps1) (w0 := w0) (F0 := F0) (fun c σ' K a hσ h hr => ih ⟨false, some ⟨res1.length + 1, rec, clean σ.slots, ps.toList, assign, body, fid⟩⟩ (yfid g assign body) c σ' K ρ1 fps1 w0 F0 a _ none (fun _ => rfl)
            (fun y hy => by simp only [Option.some.injEq] at hy; subst hy; rw [hσ]; exact hyg) h hr) (h rec) g1 ⟨hkl, hcaps⟩
          have hcd : denL ρ1 caps = denL ρ caps := denL_agree hgood.1 caps v2
          have hfn : ∃ fn', C.P.funcs[g]? = some fn' ∧ (fn'.name == "runtime.NumGoroutine") = false ∧ fn'.body.isNone = false := by
            unfold callable at hcall
            split at hcall
            · rename_i fn' hfn'
              simp only [Bool.and_eq_true, bne_iff_ne, ne_eq] at hcall
              refine ⟨fn', hfn', by simpa using hcall.1, ?_⟩
              cases hb : fn'.body with
              | none => simp [hb] at hcall
              | some _ => rfl
            · simp at hcall
          obtain ⟨fn', f1, f2, f3⟩ := hfn
          have henter := run_enterLoop_outer (P := C.P) (w := w) fn a.tmps ps assign body
          rw [hrec] at henter
          refine ⟨w.heap.size + 1, [{ target := .collected w.heap.size, args := #[] }], (w.alloc (.deferred (some []))).alloc (.loop rec), { target := .fn (.func g) (denL ρ caps).toArray, args := #[.func (.yield (w.heap.size + 1)) #[] #[]] }, (w.alloc (.deferred (some []))).alloc (.loop rec), g, (denL ρ1 (.yl (res1.length + 1) :: caps)).toArray, (w.alloc (.deferred (some []))).alloc (.loop rec),
            henter, ?_, fun _ _ => trivial, ?_, fun h => by simp [FF] at h, ff_calls (hcs.mono ?_)⟩
          · simp only [resolve, v1, den]
            simp [go_sem]
          · simp only [invoke, Sem.run_bind, run_program, callFunc, f1, f2, f3, Bool.false_eq_true, if_false, Result.andThen_ok, denL, den, en2, hcd]
            simp
          · rintro e w' ⟨x, ρ2, fps2, res2, p1, p2, p3, p4⟩
            rcases p4 with ⟨rfl, p4⟩ | ⟨_, p4⟩
            · unfold afterY at p4
              split at p4
              · rename_i r s j hr2
                split at p4
                · exact p4.elim
                · rename_i hs
                  have hk2 : known res2 (res1.length + 1) := p2.2 _ hkl
                  have hh := p1.holds _ hk2
                  rw [hr2] at hh
                  obtain ⟨l1, l2⟩ := hh
                  have hlt : ρ2.num (res1.length + 1) < w'.heap.size := (Array.getElem?_eq_some_iff.1 l2).1
                  have en3 : ρ2.num (res1.length + 1) = w.heap.size + 1 := (p2.1 _ hkl).1.trans en2
                  have en4 : ρ2.num res1.length = w.heap.size := (p2.1 _ hkd).1.trans en1
                  obtain ⟨fps3, q1, q2⟩ := p1.reloop (r := .gone) hk2 (.loop { r with state := .exhausted, pending := j }) l1 hlt (by simp) trivial
                  have hend := run_endLoop (P := C.P) l2 (by intro e; simp only at e; subst e; simp [lsEq] at hs)
                  rw [en3] at hend q1
                  obtain ⟨fps4, q3, q4⟩ := shutL_rep (old := σ.res) σ.res.length _ _ q1
                  generalize shutL σ.res σ.res.length (rset res2 (res1.length + 1) .gone) = res3 at q3 q4 p4
                  have hg3 : Good ρ σ.res ρ2 res3 := ⟨hgood.1.trans p2.1 hgood.2, fun i hi => q4 i (q2 i (p2.2 i (hgood.2 i hi)))⟩
                  obtain ⟨d1, d2⟩ := defs_env hr.2.2.2 hg3.1 hg3.2
                  have hrep : Rep ρ2 fps4 { slots := clean σ.slots, res := res3, defs := (0, [.yl res1.length], []) :: σ.defs } w0 F0 { a with defers := [{ target := .collected w.heap.size, args := #[] }] ++ a.defers } (w'.putObj (w.heap.size + 1) (.loop { r with state := .exhausted, pending := j })) := by
                    refine ⟨hr.1.clean.env hg3.2 hg3.1, q3, ?_, fun d hd => ?_⟩
                    · simp only [List.map_cons, List.singleton_append, List.cons.injEq]
                      refine ⟨by simp [dDen, mrk, en4], by rw [hr.2.2.1]; exact d1.symm⟩
                    · rcases List.mem_cons.1 hd with rfl | hd
                      · exact ⟨⟨q4 _ (q2 _ (p2.2 _ hkd)), trivial⟩, trivial⟩
                      · exact d2 d hd
                  refine ⟨j, _, hend, ?_⟩
                  split at p4
                  · exact ⟨.norm, _, ρ2, fps4, trivial, p4, hrep, hg3⟩
                  · split at p4
                    · exact wpIn_ret ⟨.ret, _, ρ2, fps4, trivial, p4, hrep, hg3⟩
                    · exact wpIn_exit ⟨.exit _, _, ρ2, fps4, rfl, p4, hrep, hg3⟩
                    · exact wpIn_goto ⟨.goto _, _, ρ2, fps4, rfl, p4, hrep, hg3⟩
                    · exact p4.elim
              · exact p4.elim
            · exact p4.elim
        · exact h.elim
    case exit i => exact wpIn_exit (here (o := .exit i) rfl h)
    case goto l => exact wpIn_goto (here (o := .goto l) rfl h)
    case ret => exact wpIn_ret (here (o := .ret) trivial h)

/-- A function, by its own code. -/
theorem fn_spec {C : Cfg} (hC : C.toCtx.Sound) (hH0 : C.H0.OK C.P) {n f : Nat} {args : List V} {res : List Res} {K KP : V → List Res → Prop} (h : enter C.toCtx (exec C n ⟨false, none⟩ f) f args res K KP) : CallTo C.P f args res K KP := by
  intro ρ fps w0 F0 w hH hargs
  exact enter_spec hC (fun c σ K a hσ h hr => exec_spec hC hH0 n ⟨false, none⟩ f c σ K ρ fps w0 F0 a w none (fun _ => rfl) (fun y hy => by simp at hy) h hr) h hH hargs

end
end Go.Sx
namespace Go.Sx
theorem void_wf : void.wf := by simp [Key.wf, void, inR]
theorem noSlots_at (i : Nat) : noSlots.at i = void := by
  unfold Slots.at noSlots
  simp [Array.getD_eq_getD_getElem?, Array.getElem?_replicate]
  split <;> rfl
theorem noSlots_wf : noSlots.wf := fun i _ => by rw [noSlots_at]; exact void_wf
theorem free_wf : free.wf := ⟨by simp [free, inR], by simp [free, inR], by simp [free, inR], noSlots_wf⟩
end Go.Sx
namespace Go.Sx
def wfB (k : Key) : Bool := decide (inR .i64 k.kind) && decide (inR .i64 k.oid) && decide (inR .i64 k.count) && decide (inR .i64 k.call) && decide (inR .i64 k.rights) && decide (inR .i64 k.value)
theorem wfB_spec {k : Key} (h : wfB k = true) : k.wf := by
  simp only [wfB, Bool.and_eq_true, decide_eq_true_eq] at h
  obtain ⟨⟨⟨⟨⟨a, b⟩, c⟩, d⟩, e⟩, f⟩ := h
  exact ⟨a, b, c, d, e, f⟩
mutual
/-- Is a value that is written out fine, whatever the places? -/
def okz : V → Bool
  | .cb _ => true
  | .ci k n => decide (inR k n)
  | .st _ => true
  | .nl v => v.oneCell'
  | .key k => wfB k
  | .sl s => (List.range 16).all fun i => wfB (s.at i)
  | .by _ => true
  | .ob o => decide (inR .i64 o.kind) && decide (inR .i64 o.count) && decide (inR .i64 o.calls) && (List.range 16).all fun i => wfB (o.slots.at i)
  | .ag l => okzL l
  | _ => false
def okzL : List V → Bool
  | [] => true
  | x :: l => okz x && okzL l
end
mutual
theorem okz_spec {K : Nat → Prop} : ∀ v, okz v = true → ok K v ∧ isTp v = false
  | .cb _, _ | .st _, _ | .by _, _ => ⟨trivial, rfl⟩
  | .ci k n, h => ⟨show inR k n by simpa [okz] using h, rfl⟩
  | .nl v, h => ⟨show v.oneCell' = true by simpa [okz] using h, rfl⟩
  | .key k, h => ⟨wfB_spec (by simpa [okz] using h), rfl⟩
  | .sl s, h => by
    simp only [okz, List.all_eq_true, List.mem_range] at h
    exact ⟨fun i hi => wfB_spec (h i hi), rfl⟩
  | .ob o, h => by
    simp only [okz, Bool.and_eq_true, decide_eq_true_eq, List.all_eq_true, List.mem_range] at h
    obtain ⟨⟨⟨a, b⟩, c⟩, d⟩ := h
    exact ⟨⟨a, b, c, fun i hi => wfB_spec (d i hi)⟩, rfl⟩
  | .ag l, h => by
    have := okzL_spec (K := K) l (by simpa [okz] using h)
    exact ⟨this, rfl⟩
theorem okzL_spec {K : Nat → Prop} : ∀ l, okzL l = true → okL K l ∧ okC l
  | [], _ => ⟨trivial, trivial⟩
  | x :: l, h => by
    simp only [okzL, Bool.and_eq_true] at h
    have h1 := okz_spec (K := K) x h.1
    have h2 := okzL_spec (K := K) l h.2
    refine ⟨⟨h1.1, h2.1⟩, (okC_iff _).2 fun z hz => ?_⟩
    rcases List.mem_cons.1 hz with rfl | hz
    · exact h1.2
    · exact (okC_iff _).1 h2.2 z hz
end
/-- A table of zero values is the program's. -/
def ZP (P : Program) (t : Nat) (v : V) : Prop := ∃ i, P.info? t = some i ∧ (∀ ρ, i.zero = some (den ρ v)) ∧ okz v = true ∧ i.size = vsz v
def zf : List (Nat × V) → Nat → Option V
  | [], _ => none
  | (u, v) :: l, t => if u == t then some v else zf l t
theorem zf_spec {Q : Nat → V → Prop} : ∀ (l : List (Nat × V)), (∀ p ∈ l, Q p.1 p.2) → ∀ t v, zf l t = some v → Q t v
  | [], _, t, v, h => by simp [zf] at h
  | (u, x) :: l, hl, t, v, h => by
    simp only [zf] at h
    split at h
    · rename_i e
      have e := beq_iff_eq.1 e
      simp only [Option.some.injEq] at h
      subst h; subst e
      exact hl (u, x) (by simp)
    · exact zf_spec l (fun p hp => hl p (by simp [hp])) t v h
theorem zok_of {C : Ctx} (h : ∀ t v, C.Z t = some v → ZP C.P t v) : C.ZOK := fun t v hv => by
  obtain ⟨i, h1, h2, h3, h4⟩ := h t v hv
  obtain ⟨h5, h6⟩ := okz_spec (K := fun _ => False) v h3
  exact ⟨i, h1, h2, h5, h6, h4⟩
end Go.Sx
