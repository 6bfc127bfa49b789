/- The executor: code, loops, functions. No condition. -/
import Derived.Test.YtccgpnoiageklaaSx12e
namespace Go.Sx
open Go.RowKit (Below)

/-- What is said of a loop: its states by a parameter, what holds of it, what goes down. -/
structure LoopAnn where
  γ : Type
  head : St → γ → St
  inv : γ → Prop
  μ : γ → Nat
  pre : List Gh := []
  ext : St → Option (List Nat) := fun _ => none

/-- At a loop's entry; behind a round. -/
def SubE (l : List Gh) (σ τ : St) : Prop :=
  match ghosts l σ with
  | some σ' => Sub σ' τ
  | none => False
def SubX (n : Nat) (e : Option (List Nat)) (σ τ : St) : Prop :=
  match e with
  | none => Sub σ τ
  | some l => match reSt n l σ with
    | some σ' => Sub σ' τ
    | none => False

structure Cfg extends Ctx where
  H0 : Handler
  inl : Nat → Bool
  ann : Nat → Nat → Option LoopAnn

def firstReg : Code → Option Nat
  | .region i _ _ => some i
  | .seq a b => match firstReg a with
    | some i => some i
    | none => firstReg b
  | .cond _ a b => match firstReg a with
    | some i => some i
    | none => firstReg b
  | .block _ b => firstReg b
  | .loop b => firstReg b
  | .scope b => firstReg b
  | _ => none

def execOps (C : Ctx) (H : Handler) (ops : List Oper) : List Oper → St → (Out → St → Prop) → Prop
  | [], σ, K => cleanK σ.slots fun sl => K .norm { σ with slots := sl }
  | o :: l, σ, K => stepS C H ops o σ (fun σ' => execOps C H ops l σ' K) (fun v σ' => K (.pan v) σ')

def keepB : List Res → List Res → Bool
  | [], _ => true
  | x :: l, m => (match x with | .yet => true | _ => match m with | [] => false | y :: _ => match y with | .yet => false | _ => true) && keepB l m.tail

/-- The results of a function. -/
def resultsV (C : Ctx) (σ : St) : List ResultVar → Option (List (Option Prop × V))
  | [] => some []
  | .tmp t :: l => match sget σ.slots t, resultsV C σ l with
    | .v x, some xs => some ((none, x) :: xs)
    | _, _ => none
  | .cell a t :: l => match sget σ.slots a, resultsV C σ l with
    | .v p, some xs => match p with
      | .lp _ _ => match loadV C σ.res t p with
        | some r => some (r :: xs)
        | none => none
      | _ => none
    | _, _ => none

def oneOf : List (Option Prop × V) → V
  | [x] => x.2
  | l => .tp (l.map (·.2))

/-- What a function's end gives. -/
def finish (C : Ctx) (fn : Func) (K KP : V → List Res → Prop) : Out → St → Prop
  | .norm, σ => match σ.defs, resultsV C σ fn.results.toList with
    | [], some l => K (oneOf l) σ.res
    | _, _ => False
  | .ret, σ => match σ.defs, resultsV C σ fn.results.toList with
    | [], some l => K (oneOf l) σ.res
    | _, _ => False
  | .pan v, σ => match σ.defs with
    | [] => KP v σ.res
    | _ => False
  | _, _ => False

def argSlots (n : Nat) (args : List V) : List S := args.map .v ++ List.replicate (n - args.length) .und

/-- The code of a function from its arguments. -/
def enter (C : Ctx) (ex : Code → St → (Out → St → Prop) → Prop) (f : Nat) (args : List V) (res : List Res) (K KP : V → List Res → Prop) : Prop :=
  match C.P.funcs[f]? with
  | none => False
  | some fn => match fn.body with
    | none => False
    | some c => ex c { slots := argSlots fn.ntmps args, res := res, defs := [] } (finish C fn K KP)

def exec (C : Cfg) : Nat → Nat → Code → St → (Out → St → Prop) → Prop
  | 0, _, _, _, _ => False
  | n + 1, fid, c, σ, K => match c with
    | .skip => K .norm σ
    | .label _ => K .norm σ
    | .region _ ops draw => if draw then drawS C.toCtx (fun f args res K KP => if C.inl f then enter C.toCtx (exec C n f) f args res K KP else C.H0 f args res K KP) ops.toList σ K
        else execOps C.toCtx (fun f args res K KP => if C.inl f then enter C.toCtx (exec C n f) f args res K KP else C.H0 f args res K KP) ops.toList ops.toList σ K
    | .seq a b => exec C n fid a σ fun out σ' => match out with
      | .norm => exec C n fid b σ' K
      | o => K o σ'
    | .cond x a b => match oval σ.slots [] x with
      | some (.cb true) => exec C n fid a σ K
      | some (.cb false) => exec C n fid b σ K
      | some (.bo t) => (t = true → exec C n fid a σ K) ∧ (t = false → exec C n fid b σ K)
      | _ => False
    | .block id b => exec C n fid b σ fun out σ' => match out with
      | .exit i => if i == id then K .norm σ' else K (.exit i) σ'
      | o => K o σ'
    | .loop b => match firstReg b with
      | none => False
      | some r => match C.ann fid r with
        | none => False
        | some A => (∃ g, A.inv g ∧ SubE A.pre σ (A.head σ g)) ∧ ∀ g, A.inv g → if keepB σ.res (A.head σ g).res then
            exec C n fid b (A.head σ g) fun out σ' => match out with
              | .norm => ∃ g', A.inv g' ∧ pLt (A.μ g') (A.μ g) ∧ SubX σ.res.length (A.ext σ') σ' (A.head σ g')
              | o => K o σ'
          else False
    | .exit i => K (.exit i) σ
    | .goto l => K (.goto l) σ
    | .ret => K .ret σ
    | _ => False

section
variable {ρ ρ0 : Env} {res0 : List Res} {fps : Nat → Nat → Prop} {w0 w : World} {F0 : Nat → Prop} {a : Act}

theorem execOps_spec {C : Ctx} {H : Handler} {ops : Array Oper} {K : Out → St → Prop} (hC : C.Sound) (hH : H.OK C.P) : ∀ (l : List Oper) (σ : St) (ρ : Env) (fps : Nat → Nat → Prop) (a : Act) (w : World),
    execOps C H ops.toList l σ K → Rep ρ fps σ w0 F0 a w → Good ρ0 res0 ρ σ.res → wpList C.P ops (Post ρ0 res0 w0 F0 K) l a w
  | [], σ, ρ, fps, a, w, h, hr, hg => ⟨.norm, { σ with slots := clean σ.slots }, ρ, fps, trivial, by simpa only [execOps, cleanK_eq] using h, ⟨hr.1.clean, hr.2.1, hr.2.2.1, hr.2.2.2⟩, hg⟩
  | o :: l, σ, ρ, fps, a, w, h, hr, hg => by
    have key := stepS_spec (next := wpList C.P ops (Post ρ0 res0 w0 F0 K) l) (Q := Post ρ0 res0 w0 F0 K) hC hH h hr
      (fun σ' ρ' fps' a' w' hK hr' hg' => execOps_spec hC hH l σ' ρ' fps' a' w' hK hr' (hg.trans hg'))
      (fun v σ' ρ' fps' w' hK hv hr' hg' => ⟨.pan v, σ', ρ', fps', ⟨rfl, hv⟩, hK, hr', hg.trans hg'⟩)
    unfold wpList
    split
    · rename_i hw; rw [if_pos hw] at key; exact .inl key
    · rename_i hw; rw [if_neg hw] at key; exact key

theorem SubE.rep {l : List Gh} {σ τ : St} (h : SubE l σ τ) (hr : Rep ρ fps σ w0 F0 a w) : ∃ ρ' fps', Rep ρ' fps' τ w0 F0 a w ∧ Env.agree (known σ.res) ρ ρ' := by
  unfold SubE at h
  split at h
  · rename_i σ' hg
    obtain ⟨ρ', fps', g1, g2⟩ := ghosts_rep hg hr
    exact ⟨ρ', fps', (h.rep g1).1, g2.1⟩
  · exact h.elim

theorem SubX.rep {n : Nat} {e : Option (List Nat)} {σ τ : St} (h : SubX n e σ τ) (hr : Rep ρ fps σ w0 F0 a w) : ∃ ρ' fps', Rep ρ' fps' τ w0 F0 a w ∧ Env.agree (fun i => i < n) ρ ρ' := by
  unfold SubX at h
  split at h
  · exact ⟨ρ, fps, (h.rep hr).1, Env.agree.refl _ _⟩
  · split at h
    · rename_i l σ' hg
      obtain ⟨ρ', fps', g1, g2⟩ := reSt_rep hg hr
      exact ⟨ρ', fps', (h.rep g1).1, g2⟩
    · exact h.elim

theorem keepB_spec : ∀ (l m : List Res), keepB l m = true → ∀ i, known l i → known m i
  | [], m, _, i, hi => by simp [known, rget] at hi
  | x :: l, m, h, i, hi => by
    simp only [keepB, Bool.and_eq_true] at h
    cases i with
    | zero =>
      obtain ⟨h1, _⟩ := h
      cases m with
      | nil => cases x <;> simp_all [known, rget]
      | cons y m => cases x <;> cases y <;> simp_all [known, rget]
    | succ i =>
      have := keepB_spec l m.tail h.2 i hi
      cases m with
      | nil => simp [known, rget] at this
      | cons y m => exact this

theorem resultsV_spec {C : Ctx} {σ : St} (hr : Rep ρ fps σ w0 F0 a w) : ∀ (rs : List ResultVar) (l : List (Option Prop × V)), resultsV C σ rs = some l →
    (rs.mapM fun (r : ResultVar) => (match r with | .tmp t => pure (a.tmps.getD t undef) | .cell b t => do loadVar t (← asAddr (a.tmps.getD b undef)) : Sem Value)).run C.P w = .ok (l.map fun x => den ρ x.2) w ∧ okL (known σ.res) (l.map (·.2))
  | [], l, h => by simp only [resultsV, Option.some.injEq] at h; subst h; exact ⟨by simp, trivial⟩
  | .tmp t :: rs, l, h => by
    simp only [resultsV] at h
    split at h
    · rename_i x xs hx hxs
      simp only [Option.some.injEq] at h
      subst h
      obtain ⟨e1, e2⟩ := resultsV_spec hr rs xs hxs
      have := hr.1.2 t
      rw [hx] at this
      refine ⟨?_, this.2, e2⟩
      rw [List.mapM_cons]
      simp only [Sem.run_bind, Sem.run_pure, Result.andThen_ok, e1, this.1, List.map_cons]
    · simp at h
  | .cell b t :: rs, l, h => by
    simp only [resultsV] at h
    split at h
    · rename_i p xs hp hxs
      split at h
      · rename_i id off
        split at h
        · rename_i r hl
          simp only [Option.some.injEq] at h
          subst h
          obtain ⟨e1, e2⟩ := resultsV_spec hr rs xs hxs
          have hb := hr.1.2 b
          rw [hp] at hb
          have hq : holdsO r.1 := by
            unfold loadV at hl
            split at hl
            · simp only at hl
              split at hl
              · rename_i hu _ c _
                generalize getAt 8 _ _ _ _ = z at hl
                cases z with
                | none => simp at hl
                | some z => simp only [Option.map_some, Option.some.injEq] at hl; subst hl; trivial
              · simp at hl
            · simp at hl
          obtain ⟨f1, f2, _⟩ := loadV_spec hr.2.1 (q := r.1) (r := r.2) hl hq hb.2
          refine ⟨?_, f2, e2⟩
          have hh : (do loadVar t (← asAddr (a.tmps.getD b undef)) : Sem Value).run C.P w = .ok (den ρ r.2) w := by
            rw [hb.1]
            simpa [den, asAddr, Instr.loadAt, Instr.sureAddr] using f1
          rw [List.mapM_cons, Sem.run_bind]
          refine Eq.trans (congrArg (fun r => Result.andThen r _) hh) ?_
          simp only [Result.andThen_ok, Sem.run_bind, e1, Sem.run_pure, List.map_cons]
        · simp at h
      · simp at h
    · simp at h

theorem run_results {C : Ctx} {σ : St} {fn : Func} {l : List (Option Prop × V)} (hr : Rep ρ fps σ w0 F0 a w) (h : resultsV C σ fn.results.toList = some l) :
    (results fn a.tmps).run C.P w = .ok (den ρ (oneOf l)) w ∧ ok (known σ.res) (oneOf l) := by
  obtain ⟨e1, e2⟩ := resultsV_spec hr _ _ h
  have hm : (fn.results.mapM fun (r : ResultVar) => (match r with | .tmp t => pure (a.tmps.getD t undef) | .cell b t => do loadVar t (← asAddr (a.tmps.getD b undef)) : Sem Value)).run C.P w = .ok (l.map fun x => den ρ x.2).toArray w := by
    rw [Array.mapM_eq_mapM_toList]
    simp only [Sem.run_map, e1, Result.andThen_ok]
  unfold results
  rw [Sem.run_bind]
  refine ⟨?_, ?_⟩
  · refine Eq.trans (congrArg (fun r => Result.andThen r _) hm) ?_
    simp only [Result.andThen_ok, Sem.run_pure]
    match l with
    | [] => simp [oneOf, den, denL]
    | [x] => simp [oneOf]
    | x :: y :: l => simp [oneOf, den, denL_eq]
  · match l, e2 with
    | [], e2 => exact e2
    | [x], e2 => exact e2.1
    | x :: y :: l, e2 => exact e2

theorem finish_spec {C : Ctx} {fn : Func} {K KP : V → List Res → Prop} {e : Exit} (h : Post ρ0 res0 w0 F0 (finish C fn K KP) e a w) :
    bodyPost C.P fn (fun e w' => ∃ x ρ' fps' res', HRep ρ' fps' res' (known res') w0 F0 w' ∧ Good ρ0 res0 ρ' res' ∧ ok (known res') x ∧
      ((e = .returned (den ρ' x) ∧ K x res') ∨ (e = .panicked [{ v := den ρ' x, recovered := false }] ∧ KP x res'))) e a w := by
  obtain ⟨out, σ, ρ, fps, h1, h2, h3, h4⟩ := h
  have hnorm : (match σ.defs, resultsV C σ fn.results.toList with | [], some l => K (oneOf l) σ.res | _, _ => False) → a.defers = [] ∧ ∃ v, (results fn a.tmps).run C.P w = .ok v w ∧
      ∃ x ρ' fps' res', HRep ρ' fps' res' (known res') w0 F0 w ∧ Good ρ0 res0 ρ' res' ∧ ok (known res') x ∧
      ((Ending.returned v = .returned (den ρ' x) ∧ K x res') ∨ (Ending.returned v = .panicked [{ v := den ρ' x, recovered := false }] ∧ KP x res')) := by
    intro hh
    split at hh
    · rename_i l hd hl
      obtain ⟨e1, e2⟩ := run_results h3 hl
      exact ⟨by rw [h3.2.2.1, hd]; rfl, _, e1, _, ρ, fps, σ.res, h3.2.1, h4, e2, .inl ⟨rfl, hh⟩⟩
    · exact hh.elim
  cases out <;> cases e <;> simp only [OutIs, finish] at h1 h2
  · exact hnorm h2
  · exact hnorm h2
  · rename_i v chain
    obtain ⟨rfl, hv⟩ := h1
    split at h2
    · rename_i hd
      exact ⟨by rw [h3.2.2.1, hd]; rfl, v, ρ, fps, σ.res, h3.2.1, h4, hv, .inr ⟨rfl, h2⟩⟩
    · exact h2.elim

theorem enter_spec {C : Ctx} {ex : Code → St → (Out → St → Prop) → Prop} (hex : ∀ c σ K ρ fps w0 F0 a w, ex c σ K → Rep ρ fps σ w0 F0 a w → c.wp C.P (Post ρ σ.res w0 F0 K) a w)
    {f : Nat} {args : List V} {res : List Res} {K KP : V → List Res → Prop} (h : enter C ex f args res K KP) : CallTo C.P f args res K KP := by
  intro ρ fps w0 F0 w hH hargs
  unfold enter at h
  split at h
  · exact h.elim
  · rename_i fn hf
    split at h
    · exact h.elim
    · rename_i c hc
      refine calls_of_wp hf hc ?_
      refine wp_mono (hex _ _ _ ρ fps w0 F0 _ w h ?_) fun e a w hp => finish_spec hp
      refine ⟨⟨by simp [argSlots, denL_eq], fun t => ?_⟩, hH, rfl, by simp⟩
      simp only [argSlots]
      rw [sget_eq, List.getD_eq_getElem?_getD]
      by_cases ht : t < args.length
      · rw [List.getElem?_append_left (by simpa using ht)]
        simp only [List.getElem?_map, List.getElem?_eq_getElem ht, Option.map_some, Option.getD_some, SlotOK]
        refine ⟨?_, (okL_iff _).1 hargs _ (List.getElem_mem ht)⟩
        rw [Array.getD_eq_getD_getElem?, Array.getElem?_append_left (by simpa [denL_eq] using ht)]
        simp [denL_eq, List.getElem?_eq_getElem ht]
      · rw [List.getElem?_append_right (by simpa using ht)]
        simp only [List.length_map, List.getElem?_replicate]
        split <;> trivial

theorem exec_spec {C : Cfg} (hC : C.toCtx.Sound) (hH0 : C.H0.OK C.P) : ∀ (n : Nat) (fid : Nat) (c : Code) (σ : St) (K : Out → St → Prop) (ρ : Env) (fps : Nat → Nat → Prop) (w0 : World) (F0 : Nat → Prop) (a : Act) (w : World),
    exec C n fid c σ K → Rep ρ fps σ w0 F0 a w → c.wp C.P (Post ρ σ.res w0 F0 K) a w
  | 0, _, _, _, _, _, _, _, _, _, _, h, _ => h.elim
  | n + 1, fid, c, σ, K, ρ, fps, w0, F0, a, w, h, hr => by
    have ih := exec_spec hC hH0 n
    have lift : ∀ {ρ1 : Env} {res1 : List Res} {K' : Out → St → Prop} {e : Exit} {a' : Act} {w' : World}, Good ρ σ.res ρ1 res1 → Post ρ1 res1 w0 F0 K' e a' w' → Post ρ σ.res w0 F0 K' e a' w' :=
      fun hg ⟨o, s, r, f, h1, h2, h3, h4⟩ => ⟨o, s, r, f, h1, h2, h3, hg.trans h4⟩
    have here : ∀ {o : Out} {e : Exit}, OutIs ρ σ.res e o → K o σ → Post ρ σ.res w0 F0 K e a w := fun ho hk => ⟨_, σ, ρ, fps, ho, hk, hr, Good.refl _ _⟩
    cases c <;> simp only [exec] at h
    case skip => exact wp_skip (here (o := .norm) trivial h)
    case label => exact wp_label (here (o := .norm) trivial h)
    case region id ops draw =>
      have hH : Handler.OK C.P (fun f args res K KP => if C.inl f then enter C.toCtx (exec C n f) f args res K KP else C.H0 f args res K KP) := by
        intro f args res K KP hh
        split at hh
        · exact enter_spec (fun c σ K ρ fps w0 F0 a w h hr => ih f c σ K ρ fps w0 F0 a w h hr) hh
        · exact hH0 _ _ _ _ _ hh
      split at h
      · rename_i hd
        subst hd
        exact drawS_spec hC hH h hr
      · rename_i hd
        have hd : draw = false := by simpa using hd
        subst hd
        exact wp_region_list (execOps_spec hC hH _ σ ρ fps a w h hr (Good.refl _ _))
    case seq x y =>
      refine wp_seq (wp_mono (ih fid x σ _ ρ fps w0 F0 a w h hr) fun e a' w' hp => ?_)
      obtain ⟨o, s, r, f, h1, h2, h3, h4⟩ := hp
      cases e <;> cases o <;> (first | exact (show False from h1).elim | skip) <;> (try simp only [Exit.then] at h2 ⊢)
      · exact wp_mono (ih fid y s K r f w0 F0 a' w' h2 h3) fun e a w hp => lift h4 hp
      · exact ⟨_, s, r, f, h1, h2, h3, h4⟩
      · exact ⟨_, s, r, f, h1, h2, h3, h4⟩
      · exact ⟨_, s, r, f, h1, h2, h3, h4⟩
      · exact ⟨_, s, r, f, h1, h2, h3, h4⟩
    case cond x y z =>
      split at h
      · rename_i hx
        have := (oval_spec hr.1 rfl hx).1
        exact wp_cond_true this (ih fid y σ K ρ fps w0 F0 a w h hr)
      · rename_i hx
        have := (oval_spec hr.1 rfl hx).1
        exact wp_cond_false this (ih fid z σ K ρ fps w0 F0 a w h hr)
      · rename_i t hx
        have := (oval_spec hr.1 rfl hx).1
        exact wp_cond_split (t := t) this (fun ht => ih fid y σ K ρ fps w0 F0 a w (h.1 ht) hr) (fun ht => ih fid z σ K ρ fps w0 F0 a w (h.2 ht) hr)
      · exact h.elim
    case block id b =>
      refine wp_block (wp_mono (ih fid b σ _ ρ fps w0 F0 a w h hr) fun e a' w' hp => ?_)
      obtain ⟨o, s, r, f, h1, h2, h3, h4⟩ := hp
      cases e <;> cases o <;> (first | exact (show False from h1).elim | skip) <;> (try simp only [Exit.inBlock] at h2 ⊢)
      · exact ⟨_, s, r, f, h1, h2, h3, h4⟩
      · have h1 : _ = _ := h1
        subst h1
        split at h2
        · rename_i he
          rw [if_pos (beq_iff_eq.1 he)]
          exact ⟨.norm, s, r, f, trivial, h2, h3, h4⟩
        · rename_i he
          rw [if_neg (by simpa using he)]
          exact ⟨.exit _, s, r, f, rfl, h2, h3, h4⟩
      · exact ⟨_, s, r, f, h1, h2, h3, h4⟩
      · exact ⟨_, s, r, f, h1, h2, h3, h4⟩
      · exact ⟨_, s, r, f, h1, h2, h3, h4⟩
    case loop b =>
      split at h
      · exact h.elim
      · split at h
        · exact h.elim
        · rename_i A hA
          obtain ⟨⟨g0, i0, s0⟩, hround⟩ := h
          -- the rounds, by the measure
          have key : ∀ m g ρ1 fps1 a1 w1, A.μ g = m → A.inv g → Rep ρ1 fps1 (A.head σ g) w0 F0 a1 w1 → Good ρ σ.res ρ1 (A.head σ g).res →
              ∀ b' k cs, ∃ e a' w', Post ρ σ.res w0 F0 K e a' w' ∧ Arrives C.P (lone (b'.at a1 (.code b :: .inLoop b :: k)) cs w1) b' k cs e a' w' := by
            intro m
            induction m using Nat.strongRecOn with
            | _ m ihm =>
              intro g ρ1 fps1 a1 w1 hm hi hr1 hg1 b' k cs
              have hb := hround g hi
              split at hb
              · obtain ⟨e, a2, w2, hp, harr⟩ := ih fid b (A.head σ g) _ ρ1 fps1 w0 F0 a1 w1 hb hr1 b' (.inLoop b :: k) cs
                obtain ⟨o, s, r, f, h1, h2, h3, h4⟩ := hp
                cases e <;> cases o <;> (first | exact (show False from h1).elim | skip) <;> (try simp only at h2)
                · obtain ⟨g', i', hlt, hs⟩ := h2
                  have hlt : A.μ g' < A.μ g := hlt
                  obtain ⟨r2, f2, hr2, ha2⟩ := hs.rep h3
                  have hkeep := hround g' i'
                  split at hkeep
                  · rename_i hkb
                    have hg2 : Good ρ σ.res r2 (A.head σ g').res := ⟨(hg1.trans h4).1.trans ha2 (fun i hi => rget_lt hi), keepB_spec _ _ hkb⟩
                    obtain ⟨e', a', w', hp', harr'⟩ := ihm (A.μ g') (by omega) g' r2 f2 a2 w2 rfl i' hr2 hg2 b' k cs
                    exact ⟨e', a', w', hp', .of_steps (Steps.trans harr (.one step_inLoop)) harr'⟩
                  · exact hkeep.elim
                · exact ⟨_, a2, w2, ⟨_, s, r, f, h1, h2, h3, hg1.trans h4⟩, .pass (x := .inLoop b) rfl (fun _ _ => .inl (by simp)) harr⟩
                · exact ⟨_, a2, w2, ⟨_, s, r, f, h1, h2, h3, hg1.trans h4⟩, .pass (x := .inLoop b) rfl (fun _ _ => .inl (by simp)) harr⟩
                · exact ⟨_, a2, w2, ⟨_, s, r, f, h1, h2, h3, hg1.trans h4⟩, .pass (x := .inLoop b) rfl (fun _ _ => .inl (by simp)) harr⟩
                · exact ⟨_, a2, w2, ⟨_, s, r, f, h1, h2, h3, hg1.trans h4⟩, .pass (x := .inLoop b) rfl (fun _ _ => .inl (by simp)) harr⟩
              · exact hb.elim
          obtain ⟨r0, f0, hr0, ha0⟩ := s0.rep hr
          have hkeep := hround g0 i0
          split at hkeep
          · rename_i hkb
            intro b' k cs
            obtain ⟨e, a', w', hp, harr⟩ := key _ g0 r0 f0 a w rfl i0 hr0 ⟨ha0, keepB_spec _ _ hkb⟩ b' k cs
            exact ⟨e, a', w', hp, .of_steps (.one step_loop) harr⟩
          · exact hkeep.elim
    case exit i => exact wp_exit (here (o := .exit i) rfl h)
    case goto l => exact wp_goto (here (o := .goto l) rfl h)
    case ret => exact wp_ret (here (o := .ret) trivial h)

/-- A function, by its own code. -/
theorem fn_spec {C : Cfg} (hC : C.toCtx.Sound) (hH0 : C.H0.OK C.P) {n f : Nat} {args : List V} {res : List Res} {K KP : V → List Res → Prop} (h : enter C.toCtx (exec C n f) f args res K KP) : CallTo C.P f args res K KP :=
  enter_spec (fun c σ K ρ fps w0 F0 a w h hr => exec_spec hC hH0 n f c σ K ρ fps w0 F0 a w h hr) h

end
end Go.Sx
namespace Go.Sx
theorem void_wf : void.wf := by simp [Key.wf, void, inR]
theorem noSlots_at (i : Nat) : noSlots.at i = void := by
  unfold Slots.at noSlots
  simp [Array.getD_eq_getD_getElem?, Array.getElem?_replicate]
  split <;> rfl
theorem noSlots_wf : noSlots.wf := fun i _ => by rw [noSlots_at]; exact void_wf
theorem free_wf : free.wf := ⟨by simp [free, inR], by simp [free, inR], by simp [free, inR], noSlots_wf⟩
end Go.Sx
namespace Go.Sx
def wfB (k : Key) : Bool := decide (inR .i64 k.kind) && decide (inR .i64 k.oid) && decide (inR .i64 k.count) && decide (inR .i64 k.call) && decide (inR .i64 k.rights) && decide (inR .i64 k.value)
theorem wfB_spec {k : Key} (h : wfB k = true) : k.wf := by
  simp only [wfB, Bool.and_eq_true, decide_eq_true_eq] at h
  obtain ⟨⟨⟨⟨⟨a, b⟩, c⟩, d⟩, e⟩, f⟩ := h
  exact ⟨a, b, c, d, e, f⟩
mutual
/-- Is a value that is written out fine, whatever the places? -/
def okz : V → Bool
  | .cb _ => true
  | .ci k n => decide (inR k n)
  | .st _ => true
  | .nl v => v.oneCell'
  | .key k => wfB k
  | .sl s => (List.range 16).all fun i => wfB (s.at i)
  | .by _ => true
  | .ob o => decide (inR .i64 o.kind) && decide (inR .i64 o.count) && decide (inR .i64 o.calls) && (List.range 16).all fun i => wfB (o.slots.at i)
  | .ag l => okzL l
  | _ => false
def okzL : List V → Bool
  | [] => true
  | x :: l => okz x && okzL l
end
mutual
theorem okz_spec {K : Nat → Prop} : ∀ v, okz v = true → ok K v ∧ isTp v = false
  | .cb _, _ | .st _, _ | .by _, _ => ⟨trivial, rfl⟩
  | .ci k n, h => ⟨show inR k n by simpa [okz] using h, rfl⟩
  | .nl v, h => ⟨show v.oneCell' = true by simpa [okz] using h, rfl⟩
  | .key k, h => ⟨wfB_spec (by simpa [okz] using h), rfl⟩
  | .sl s, h => by
    simp only [okz, List.all_eq_true, List.mem_range] at h
    exact ⟨fun i hi => wfB_spec (h i hi), rfl⟩
  | .ob o, h => by
    simp only [okz, Bool.and_eq_true, decide_eq_true_eq, List.all_eq_true, List.mem_range] at h
    obtain ⟨⟨⟨a, b⟩, c⟩, d⟩ := h
    exact ⟨⟨a, b, c, fun i hi => wfB_spec (d i hi)⟩, rfl⟩
  | .ag l, h => by
    have := okzL_spec (K := K) l (by simpa [okz] using h)
    exact ⟨this, rfl⟩
theorem okzL_spec {K : Nat → Prop} : ∀ l, okzL l = true → okL K l ∧ okC l
  | [], _ => ⟨trivial, trivial⟩
  | x :: l, h => by
    simp only [okzL, Bool.and_eq_true] at h
    have h1 := okz_spec (K := K) x h.1
    have h2 := okzL_spec (K := K) l h.2
    refine ⟨⟨h1.1, h2.1⟩, (okC_iff _).2 fun z hz => ?_⟩
    rcases List.mem_cons.1 hz with rfl | hz
    · exact h1.2
    · exact (okC_iff _).1 h2.2 z hz
end
/-- A table of zero values is the program's. -/
def ZP (P : Program) (t : Nat) (v : V) : Prop := ∃ i, P.info? t = some i ∧ (∀ ρ, i.zero = some (den ρ v)) ∧ okz v = true ∧ i.size = vsz v
def zf : List (Nat × V) → Nat → Option V
  | [], _ => none
  | (u, v) :: l, t => if u == t then some v else zf l t
theorem zf_spec {Q : Nat → V → Prop} : ∀ (l : List (Nat × V)), (∀ p ∈ l, Q p.1 p.2) → ∀ t v, zf l t = some v → Q t v
  | [], _, t, v, h => by simp [zf] at h
  | (u, x) :: l, hl, t, v, h => by
    simp only [zf] at h
    split at h
    · rename_i e
      have e := beq_iff_eq.1 e
      simp only [Option.some.injEq] at h
      subst h; subst e
      exact hl (u, x) (by simp)
    · exact zf_spec l (fun p hp => hl p (by simp [hp])) t v h
theorem zok_of {C : Ctx} (h : ∀ t v, C.Z t = some v → ZP C.P t v) : C.ZOK := fun t v hv => by
  obtain ⟨i, h1, h2, h3, h4⟩ := h t v hv
  obtain ⟨h5, h6⟩ := okz_spec (K := fun _ => False) v h3
  exact ⟨i, h1, h2, h5, h6, h4⟩
end Go.Sx
