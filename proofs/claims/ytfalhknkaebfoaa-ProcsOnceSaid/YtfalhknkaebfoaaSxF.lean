/- Contracts: how what a function gives becomes an entry that callers use. No condition. -/
import Derived.Test.YtfalhknkaebfoaaCfg
set_option linter.unusedVariables false
set_option linter.unusedSimpArgs false
namespace Go.Sx
open Go.RowKit (Below)

abbrev Ct := List Res → Nat → List V → RR

/-- A contract is so. -/
def CtOK (P : Program) (f : Nat) (g : Ct) : Prop :=
  ∀ ρ fps res K w0 F0 w nid args q x new, HRep ρ fps res K w0 F0 w → okL K args → g res nid args = some (q, x, new) → holdsO q →
    (∀ k, k < new.length → ¬ K (nid + k)) →
    (CallsIn (FF P none) 0 P f (denL ρ args).toArray w fun e w' => ∃ v, e = .returned v ∧ Gives K ρ nid x new w0 F0 w v w') ∧ ∀ k, k < new.length → rget new k ≠ .yet

def gamLook : List (Nat × Ct) → Nat → Option Ct
  | [], _ => none
  | (g, c) :: l, f => if f == g then some c else gamLook l f

theorem gamLook_spec {P : Program} : ∀ {l : List (Nat × Ct)}, (∀ p ∈ l, CtOK P p.1 p.2) → ∀ f g, gamLook l f = some g → CtOK P f g
  | [], _, f, g, h => by simp [gamLook] at h
  | (k, c) :: l, hl, f, g, h => by
    simp only [gamLook] at h
    split at h
    · rename_i e
      have e := beq_iff_eq.1 e
      simp only [Option.some.injEq] at h
      subst h; subst e
      exact hl (f, c) (by simp)
    · exact gamLook_spec (fun p hp => hl p (by simp [hp])) f g h

mutual
/-- Does a value name no place? -/
def idf : V → Bool
  | .lp _ _ => false
  | .lx _ _ _ _ _ _ => false
  | .sc _ _ _ => false
  | .so _ _ => false
  | .ap _ _ _ _ => false
  | .ax _ _ _ _ _ _ _ _ => false
  | .sa _ => false
  | .op _ _ => false
  | .yl _ => false
  | .mp _ => false
  | .ch _ _ _ _ => false
  | .bs _ _ _ => false
  | .ks _ _ _ _ _ => false
  | .fn _ l => idfL l
  | .ic _ x => idf x
  | .ag l => idfL l
  | .tp l => idfL l
  | _ => true
def idfL : List V → Bool
  | [] => true
  | x :: l => idf x && idfL l
end

mutual
theorem idf_ok {K K' : Nat → Prop} : ∀ v, idf v = true → ok K v → ok K' v
  | .lp _ _, h, _ | .lx _ _ _ _ _ _, h, _ | .sc _ _ _, h, _ | .so _ _, h, _ | .ap _ _ _ _, h, _ | .sa _, h, _ | .op _ _, h, _ | .yl _, h, _ | .mp _, h, _ | .ch _ _ _ _, h, _ | .ax _ _ _ _ _ _ _ _, h, _ | .bs _ _ _, h, _ | .ks _ _ _ _ _, h, _ => by simp [idf] at h
  | .fn _ l, h, hk => idfL_ok l h hk
  | .ic _ x, h, hk => idf_ok x h hk
  | .ag l, h, hk => ⟨idfL_ok l h hk.1, hk.2⟩
  | .tp l, h, hk => idfL_ok l h hk
  | .cb _, _, hk | .bo _, _, hk | .ci _ _, _, hk | .it _ _, _, hk | .bt _, _, hk | .st _, _, hk | .nl _, _, hk | .key _, _, hk | .sl _, _, hk | .by _, _, hk | .ob _, _, hk => hk
theorem idfL_ok {K K' : Nat → Prop} : ∀ l, idfL l = true → okL K l → okL K' l
  | [], _, _ => trivial
  | x :: l, h, hk => by
    simp only [idfL, Bool.and_eq_true] at h
    exact ⟨idf_ok x h.1 hk.1, idfL_ok l h.2 hk.2⟩
end

theorem idf_den {K : Nat → Prop} {v : V} (h : idf v = true) (hk : ok K v) (ρ ρ' : Env) : den ρ' v = den ρ v :=
  den_agree (N := fun _ => False) (fun _ h => h.elim) v (idf_ok v h hk)

/-- A value is asked for. -/
def isV (v : V) (v' : V) (_ : List Res) : Prop :=
  match eqP v' v with
  | some l => allP l
  | none => False

/-- The same value, however it is written. -/
def isE (x v : V) (_ : List Res) : Prop := ∀ ρ K, Same ρ K v x
theorem isV_isE {x v : V} {r : List Res} (h : isV x v r) : isE x v r := by
  unfold isV at h
  split at h
  · rename_i l hl
    exact fun ρ K => eqP_spec ρ K _ _ l hl h
  · exact h.elim
theorem CallTo.mono {P : Program} {f : Nat} {args : List V} {res : List Res} {K K' KP KP' : V → List Res → Prop} (h : CallTo P f args res K KP) (hK : ∀ v r, K v r → K' v r) (hP : ∀ v r, KP v r → KP' v r) :
    CallTo P f args res K' KP' := by
  intro ρ fps w0 F0 w hH ha
  refine (h ρ fps w0 F0 w hH ha).mono fun e w' ⟨x, ρ', fps', res', g1, g2, g3, g4⟩ => ⟨x, ρ', fps', res', g1, g2, g3, ?_⟩
  rcases g4 with ⟨e1, e2⟩ | ⟨e1, e2⟩
  · exact .inl ⟨e1, hK _ _ e2⟩
  · exact .inr ⟨e1, hP _ _ e2⟩

/-- Two ways to write arguments. -/
def SameA (l m : List V) : Prop := (∀ ρ, denL ρ l = denL ρ m) ∧ ∀ K, okL K l → okL (fun _ => False) m

/-- A contract of values alone. -/
theorem ct_pure {P : Program} {f : Nat} {g : Ct} (h : ∀ res nid args q x new, g res nid args = some (q, x, new) → new = [] ∧ idf x = true ∧
    ∃ args', SameA args args' ∧ (holdsO q → okL (fun _ => False) args' → CallTo P f args' [] (isE x) (fun _ _ => False))) : CtOK P f g := by
  intro ρ fps res K w0 F0 w nid args q x new hH hargs hg hq hfr
  obtain ⟨rfl, hid, args', ⟨s1, s2⟩, hc⟩ := h res nid args q x new hg
  refine ⟨?_, fun k hk => by simp at hk⟩
  have hok := s2 K hargs
  have hrep : HRep ρ (fun _ _ => False) [] (known []) w (fun _ => False) w :=
    ⟨fun i hi => hi, Nat.le_refl _, rfl, rfl, rfl, fun i hi => by simp [known, rget] at hi, fun i b hi => by simp [known, rget] at hi, fun i j b hi => by simp [known, rget] at hi, fun i b hi => by simp [known, rget] at hi, fun _ _ _ => rfl⟩
  have hcall := hc hq hok ρ (fun _ _ => False) w (fun _ => False) w hrep (by rw [okL_iff] at hok ⊢; exact fun z hz => ok_empty (hok z hz))
  rw [s1 ρ]
  refine hcall.mono fun e w' ⟨y, ρ', fps', res', g1, g2, g3, g4⟩ => ?_
  rcases g4 with ⟨rfl, hK⟩ | ⟨_, hK⟩
  · refine ⟨_, rfl, ρ, ?_, ?_, ?_⟩
    · have hb : Below w.heap.size w w' := by
        refine ⟨g1.os, g1.tape, g1.output, g1.old, fun b hb => g1.same b hb (fun h => h)⟩
      exact ⟨hb, Env.agree.refl _ _, fun _ _ => False, fun k hk => by simp at hk, fun k l b hk => by simp at hk⟩
    · obtain ⟨e1, e2, _⟩ := hK ρ' (known res')
      rw [e1]
      exact idf_den hid (e2 g3) ρ ρ'
    · obtain ⟨e1, e2, _⟩ := hK ρ' (known res')
      exact idf_ok x hid (e2 g3)
  · exact hK.elim

/-- How an argument is read. -/
def RdOK {α : Type} (r : V → Option α) (m : α → V) : Prop := ∀ v x, r v = some x → (∀ ρ, den ρ v = den ρ (m x)) ∧ ∀ K, ok K v → ok (fun _ => False) (m x)

def rI (k : IntKind) (v : V) : Option Int :=
  match toInt v with
  | some (k', n) => if k == k' then some n else none
  | none => none
def rK : V → Option Key
  | .key k => some k
  | _ => none
def rO : V → Option Obj
  | .ob o => some o
  | _ => none

theorem rB_ok : RdOK toBool V.bo := by
  intro v x h
  cases v <;> simp [toBool] at h <;> subst h <;> exact ⟨fun _ => rfl, fun _ _ => trivial⟩
theorem rI_ok (k : IntKind) : RdOK (rI k) (V.it k) := by
  intro v x h
  unfold rI at h
  cases v <;> simp [toInt] at h <;> obtain ⟨rfl, rfl⟩ := h
  · exact ⟨fun _ => rfl, fun _ hk => hk⟩
  · exact ⟨fun _ => rfl, fun _ hk => hk⟩
  · rename_i b
    refine ⟨fun _ => rfl, fun _ _ => ?_⟩
    have := b.toNat_lt
    simp only [ok, inR, b2i]
    omega
theorem rK_ok : RdOK rK V.key := by
  intro v x h
  cases v <;> simp [rK] at h <;> subst h <;> exact ⟨fun _ => rfl, fun _ hk => hk⟩
theorem rO_ok : RdOK rO V.ob := by
  intro v x h
  cases v <;> simp [rO] at h <;> subst h <;> exact ⟨fun _ => rfl, fun _ hk => hk⟩

def mk0 (F : V) : Ct := fun _ _ xs => match xs with
  | [] => some (none, F, [])
  | _ => none
def mk1 {α : Type} (r : V → Option α) (F : α → V) : Ct := fun _ _ xs => match xs with
  | [a] => match r a with
    | some x => some (none, F x, [])
    | none => none
  | _ => none
def mk2 {α β : Type} (r : V → Option α) (s : V → Option β) (F : α → β → V) : Ct := fun _ _ xs => match xs with
  | [a, b] => match r a, s b with
    | some x, some y => some (none, F x y, [])
    | _, _ => none
  | _ => none
def mk3 {α β γ : Type} (r : V → Option α) (s : V → Option β) (t : V → Option γ) (F : α → β → γ → V) : Ct := fun _ _ xs => match xs with
  | [a, b, c] => match r a, s b, t c with
    | some x, some y, some z => some (none, F x y z, [])
    | _, _, _ => none
  | _ => none

theorem mk0_ok {P : Program} {f : Nat} {F : V} (hF : idf F = true) (h : CallTo P f [] [] (isV F) (fun _ _ => False)) : CtOK P f (mk0 F) := by
  refine ct_pure fun res nid args q x new hg => ?_
  unfold mk0 at hg
  split at hg <;> simp only [Option.some.injEq, Prod.mk.injEq, reduceCtorEq] at hg
  obtain ⟨rfl, rfl, rfl⟩ := hg
  exact ⟨rfl, hF, [], ⟨fun _ => rfl, fun _ _ => trivial⟩, fun _ _ => h.mono (fun _ _ => isV_isE) fun _ _ h => h⟩
theorem mk0_eq {P : Program} {f : Nat} {F : V} (hF : idf F = true) (h : CallTo P f [] [] (fun v _ => v = F) (fun _ _ => False)) : CtOK P f (mk0 F) := by
  refine ct_pure fun res nid args q x new hg => ?_
  unfold mk0 at hg
  split at hg <;> simp only [Option.some.injEq, Prod.mk.injEq, reduceCtorEq] at hg
  obtain ⟨rfl, rfl, rfl⟩ := hg
  exact ⟨rfl, hF, [], ⟨fun _ => rfl, fun _ _ => trivial⟩, fun _ _ => h.mono (fun v _ e => by subst e; exact fun ρ K => Same.refl ρ K v) fun _ _ h => h⟩
theorem mk1_ok {P : Program} {f : Nat} {α : Type} {r : V → Option α} {m : α → V} {F : α → V} (hr : RdOK r m) (hF : ∀ x, idf (F x) = true)
    (h : ∀ x, ok (fun _ => False) (m x) → CallTo P f [m x] [] (isV (F x)) (fun _ _ => False)) : CtOK P f (mk1 r F) := by
  refine ct_pure fun res nid args q x new hg => ?_
  unfold mk1 at hg
  split at hg <;> (try split at hg) <;> simp only [Option.some.injEq, Prod.mk.injEq, reduceCtorEq] at hg
  rename_i a x h1
  obtain ⟨rfl, rfl, rfl⟩ := hg
  obtain ⟨a1, a2⟩ := hr _ x h1
  exact ⟨rfl, hF x, [m x], ⟨fun ρ => by simp [denL, a1 ρ], fun K hK => ⟨a2 K hK.1, trivial⟩⟩, fun _ hok => (h x hok.1).mono (fun _ _ => isV_isE) fun _ _ h => h⟩
theorem mk2_ok {P : Program} {f : Nat} {α β : Type} {r : V → Option α} {s : V → Option β} {m : α → V} {n : β → V} {F : α → β → V} (hr : RdOK r m) (hs : RdOK s n) (hF : ∀ x y, idf (F x y) = true)
    (h : ∀ x y, ok (fun _ => False) (m x) → ok (fun _ => False) (n y) → CallTo P f [m x, n y] [] (isV (F x y)) (fun _ _ => False)) : CtOK P f (mk2 r s F) := by
  refine ct_pure fun res nid args q x new hg => ?_
  unfold mk2 at hg
  split at hg <;> (try split at hg) <;> simp only [Option.some.injEq, Prod.mk.injEq, reduceCtorEq] at hg
  rename_i a b x y h1 h2
  obtain ⟨rfl, rfl, rfl⟩ := hg
  obtain ⟨a1, a2⟩ := hr _ x h1
  obtain ⟨b1, b2⟩ := hs _ y h2
  exact ⟨rfl, hF x y, [m x, n y], ⟨fun ρ => by simp [denL, a1 ρ, b1 ρ], fun K hK => ⟨a2 K hK.1, b2 K hK.2.1, trivial⟩⟩, fun _ hok => (h x y hok.1 hok.2.1).mono (fun _ _ => isV_isE) fun _ _ h => h⟩
theorem mk3_ok {P : Program} {f : Nat} {α β γ : Type} {r : V → Option α} {s : V → Option β} {t : V → Option γ} {m : α → V} {n : β → V} {o : γ → V} {F : α → β → γ → V} (hr : RdOK r m) (hs : RdOK s n) (ht : RdOK t o)
    (hF : ∀ x y z, idf (F x y z) = true)
    (h : ∀ x y z, ok (fun _ => False) (m x) → ok (fun _ => False) (n y) → ok (fun _ => False) (o z) → CallTo P f [m x, n y, o z] [] (isV (F x y z)) (fun _ _ => False)) : CtOK P f (mk3 r s t F) := by
  refine ct_pure fun res nid args q x new hg => ?_
  unfold mk3 at hg
  split at hg <;> (try split at hg) <;> simp only [Option.some.injEq, Prod.mk.injEq, reduceCtorEq] at hg
  rename_i a b c x y z h1 h2 h3
  obtain ⟨rfl, rfl, rfl⟩ := hg
  obtain ⟨a1, a2⟩ := hr _ x h1
  obtain ⟨b1, b2⟩ := hs _ y h2
  obtain ⟨c1, c2⟩ := ht _ z h3
  exact ⟨rfl, hF x y z, [m x, n y, o z], ⟨fun ρ => by simp [denL, a1 ρ, b1 ρ, c1 ρ], fun K hK => ⟨a2 K hK.1, b2 K hK.2.1, c2 K hK.2.2.1, trivial⟩⟩, fun _ hok => (h x y z hok.1 hok.2.1 hok.2.2.1).mono (fun _ _ => isV_isE) fun _ _ h => h⟩

/-- What is known at a loop's head: slots that are kept, slots that are set. -/
def inL : List Nat → Nat → Bool
  | [], _ => false
  | x :: l, i => x == i || inL l i
def setL : List (Nat × V) → Nat → Option V
  | [], _ => none
  | (j, v) :: l, i => if j == i then some v else setL l i
def hdS (keep : List Nat) (set : List (Nat × V)) : Nat → List S → List S
  | _, [] => []
  | i, s :: l => (match setL set i with
    | some v => .v v
    | none => if inL keep i then s else .und) :: hdS keep set (i + 1) l
def lpI (keep : List Nat) (t : Nat) (inv : Int → Prop) (m : Int) : LoopAnn :=
  { γ := Int, head := fun σ g => { σ with slots := hdS keep [(t, .it .i64 g)] 0 σ.slots }, inv := inv, μ := fun g => i2n (isub m g) }
def lpG (keep : List Nat) (set : Int → List (Nat × V)) (inv : Int → Prop) (m : Int) : LoopAnn :=
  { γ := Int, head := fun σ g => { σ with slots := hdS keep (set g) 0 σ.slots }, inv := inv, μ := fun g => i2n (isub m g) }
def annL : List (Nat × Nat × LoopAnn) → Nat → Nat → Option LoopAnn
  | [], _, _ => none
  | (f, r, A) :: l, f', r' => if f == f' && r == r' then some A else annL l f' r'
def noAnn (_ _ : Nat) : Option LoopAnn := none
def noInl (_ : Nat) : Bool := false
def noH : Handler := fun _ _ _ _ _ => False
end Go.Sx
namespace Go.Proofs.Ytfalhknkaebfoaa
open Go.Sx
/-- The seat's configuration over contracts. -/
noncomputable def cf (l : List (Nat × Ct)) (inl : Nat → Bool) (ann : Nat → Nat → Option LoopAnn) : Cfg := { P := Try.prog, Z := zeroOf, Γ := gamLook l, H0 := noH, inl := inl, ann := ann, opn := opnOf inl }
theorem cf_sound {l : List (Nat × Ct)} {inl : Nat → Bool} {ann : Nat → Nat → Option LoopAnn} (hl : ∀ p ∈ l, CtOK Try.prog p.1 p.2) : (cf l inl ann).toCtx.Sound :=
  ⟨zok_of zeroOf_ok, Try.checked.mixed, fun f g hg => gamLook_spec hl f g hg, fun f ts te h => by simp [cf] at h⟩
/-- The obligation of a function. -/
abbrev vc (l : List (Nat × Ct)) (inl : Nat → Bool) (ann : Nat → Nat → Option LoopAnn) (f : Nat) (args : List V) (res : List Res) (K KP : V → List Res → Prop) : Prop :=
  enter (cf l inl ann).toCtx (exec (cf l inl ann) 100 ⟨false, none⟩) (exec (cf l inl ann) 100 ⟨false, none⟩ f) f args res K KP
set_option maxRecDepth 100000 in
theorem vc_call {l : List (Nat × Ct)} {inl : Nat → Bool} {ann : Nat → Nat → Option LoopAnn} (hl : ∀ p ∈ l, CtOK Try.prog p.1 p.2) {f : Nat} {args : List V} {res : List Res} {K KP : V → List Res → Prop}
    {G : Prop} (hG : G) (h : G = vc l inl ann f args res K KP) : CallTo Try.prog f args res K KP :=
  fn_spec (C := cf l inl ann) (n := 100) (cf_sound hl) (fun _ _ _ _ _ hh => hh.elim) (Eq.mp h hG)
end Go.Proofs.Ytfalhknkaebfoaa
namespace Go.Sx
theorem oks_nil {P : Program} : ∀ p ∈ ([] : List (Nat × Ct)), CtOK P p.1 p.2 := by simp
theorem oks_cons {P : Program} {f : Nat} {g : Ct} {l : List (Nat × Ct)} (h : CtOK P f g) (t : ∀ p ∈ l, CtOK P p.1 p.2) : ∀ p ∈ (f, g) :: l, CtOK P p.1 p.2 := by
  intro p hp
  rcases List.mem_cons.1 hp with rfl | hp
  · exact h
  · exact t p hp
end Go.Sx
/- The frame: a call that was looked at with few places, among many. No condition. -/
set_option linter.unusedVariables false
set_option linter.unusedSimpArgs false
namespace Go.Sx
open Go.RowKit (Below)

theorem HRep.look' {ρ : Env} {fps : Nat → Nat → Prop} {res : List Res} {K : Nat → Prop} {w0 : World} {F0 : Nat → Prop} {w : World} (h : HRep ρ fps res K w0 F0 w) {i : Nat} {r : Res}
    (hr : rlook res i = r) (hk : known res i) : ∃ fp : Nat → Prop, r.holds K ρ i fp w0 F0 w ∧ ∀ b, fp b → fps i b ∨ (b < w0.heap.size ∧ ¬ F0 b) := by
  have hh := h.holds i hk
  unfold rlook at hr
  split at hr
  · rename_i r' he
    rw [he] at hh
    subst hr
    obtain ⟨fp', h1, h2⟩ := hh
    exact ⟨fp', Res.holds_keep _ h1 fun b hb => h.same b (h2 b hb).1 (h2 b hb).2, fun b hb => .inr (h2 b hb)⟩
  · subst hr
    exact ⟨fps i, hh, fun b hb => .inl hb⟩

/-- Some of the places, under new names: those that may be turned, those that are only read. -/
def restr (κ : Nat → Option Nat) (res : List Res) : List (Nat × Bool) → List Res
  | [] => []
  | (p, o) :: l => (if o then renR κ (rget res p) else .ro (renR κ (rlook res p))) :: restr κ res l

def fsts : List (Nat × Bool) → List Nat
  | [] => []
  | (p, _) :: l => p :: fsts l

def knownAll (res : List Res) : List (Nat × Bool) → Bool
  | [] => true
  | (p, _) :: l => knownB res p && knownAll res l

theorem fsts_get : ∀ (l : List (Nat × Bool)) (i : Nat), (fsts l)[i]? = (l[i]?).map (·.1)
  | [], i => by simp [fsts]
  | (p, o) :: l, 0 => by simp [fsts]
  | (p, o) :: l, i + 1 => by simp [fsts, fsts_get l i]

theorem restr_get (κ : Nat → Option Nat) (res : List Res) : ∀ (l : List (Nat × Bool)) (i : Nat), rget (restr κ res l) i = match l[i]? with
    | some (p, o) => if o then renR κ (rget res p) else .ro (renR κ (rlook res p))
    | none => .yet
  | [], i => by simp [restr, rget]
  | (p, o) :: l, 0 => by simp [restr, rget]
  | (p, o) :: l, i + 1 => by simp [restr, rget, restr_get κ res l i]

theorem restr_length (κ : Nat → Option Nat) (res : List Res) : ∀ (l : List (Nat × Bool)), (restr κ res l).length = l.length
  | [] => rfl
  | (p, o) :: l => by simp [restr, restr_length κ res l]

theorem knownAll_spec {res : List Res} : ∀ {l : List (Nat × Bool)}, knownAll res l = true → ∀ (i : Nat) (p : Nat) (o : Bool), l[i]? = some (p, o) → known res p
  | [], _, i, p, o, h => by simp at h
  | (x, y) :: l, hk, i, p, o, h => by
    simp only [knownAll, Bool.and_eq_true] at hk
    cases i with
    | zero => simp at h; obtain ⟨rfl, _⟩ := h; exact knownB_iff.1 hk.1
    | succ i => exact knownAll_spec hk.2 i p o (by simpa using h)

theorem idxOf_of {p : Nat} : ∀ (l : List Nat) (m k : Nat), l.Nodup → l[k]? = some p → idxOf l m p = some (m + k)
  | [], m, k, _, h => by simp at h
  | x :: l, m, k, hnd, h => by
    simp only [idxOf]
    cases k with
    | zero => simp at h; subst h; simp
    | succ k =>
      simp at h
      have hne : (x == p) = false := by
        rw [beq_eq_false_iff_ne]
        rintro rfl
        exact (List.nodup_cons.1 hnd).1 (List.mem_of_getElem? h)
      rw [hne]
      simp only [Bool.false_eq_true, if_false]
      rw [idxOf_of l (m + 1) k (List.nodup_cons.1 hnd).2 h]
      congr 1; omega

theorem kap0_some {l : List Nat} {p i : Nat} (h : kap 0 l p = some i) : l[i]? = some p := by
  unfold kap at h
  split at h
  · rename_i hb; simp at hb
  · have := idxOf_spec h
    simpa using this.2.2

theorem kap0_of {l : List Nat} {p i : Nat} (hnd : l.Nodup) (h : l[i]? = some p) : kap 0 l p = some i := by
  unfold kap
  rw [if_neg (by simp), idxOf_of l 0 i hnd h]; simp

/-- What the small memory is. -/
def Frame (ρ : Env) (fps : Nat → Nat → Prop) (pl : List (Nat × Bool)) (b : Nat) : Prop := ∃ (i p : Nat), pl[i]? = some (p, true) ∧ fps p b

section
variable {ρ : Env} {fps : Nat → Nat → Prop} {res : List Res} {w0 w : World} {F0 : Nat → Prop}

theorem HRep.restr {K : Nat → Prop} (h : HRep ρ fps res K w0 F0 w) {pl : List (Nat × Bool)} (hk : knownAll res pl = true) (hnd : (fsts pl).Nodup) :
    HRep (ρ.pull (src 0 (fsts pl))) (fun i b => ∃ p : Nat, pl[i]? = some (p, true) ∧ fps p b) (restr (kap 0 (fsts pl)) res pl) (known (restr (kap 0 (fsts pl)) res pl)) w (Frame ρ fps pl) w ∧
      (∀ i, i < pl.length → known (restr (kap 0 (fsts pl)) res pl) i) ∧ Env.via (kap 0 (fsts pl)) ρ (ρ.pull (src 0 (fsts pl))) ∧ ∀ p i, kap 0 (fsts pl) p = some i → K p → known (Sx.restr (kap 0 (fsts pl)) res pl) i := by
  generalize hκ : kap 0 (fsts pl) = κ
  have hπ : ∀ p i, κ p = some i → src 0 (fsts pl) i = p := fun p i hp => by subst hκ; exact kap_src hp
  have hv : Env.via κ ρ (ρ.pull (src 0 (fsts pl))) := pull_via hπ
  have hsome : ∀ i p o, pl[i]? = some (p, o) → κ p = some i := fun i p o hi => by
    subst hκ
    exact kap0_of hnd (by rw [fsts_get, hi]; rfl)
  have hkn : ∀ i p o, pl[i]? = some (p, o) → known (Sx.restr κ res pl) i := fun i p o hi => by
    unfold known
    rw [restr_get, hi]
    simp only
    split
    · exact fun e => knownAll_spec hk i p o hi (renR_yet.1 e)
    · simp
  have hget : ∀ i, known (Sx.restr κ res pl) i → ∃ p o, pl[i]? = some (p, o) := fun i hi => by
    have := rget_lt hi
    rw [restr_length] at this
    exact ⟨pl[i].1, pl[i].2, by rw [List.getElem?_eq_getElem this]⟩
  have hN : ∀ p i, κ p = some i → K p → known (Sx.restr κ res pl) i := fun p i hp _ => by
    subst hκ
    have := kap0_some hp
    rw [fsts_get] at this
    cases hi : pl[i]? with
    | none => rw [hi] at this; simp at this
    | some po => exact hkn i po.1 po.2 hi
  have huniq : ∀ i j p o o', pl[i]? = some (p, o) → pl[j]? = some (p, o') → i = j := fun i j p o o' hi hj => by
    have a := hsome i p o hi
    rw [hsome j p o' hj] at a
    simpa using a.symm
  have hfr : ∀ b, b < w0.heap.size → ¬ F0 b → w.heap[b]? = w0.heap[b]? ∧ ¬ Frame ρ fps pl b := fun b hb hF => by
    refine ⟨h.same b hb hF, ?_⟩
    rintro ⟨i, p, hi, hf⟩
    exact hF (h.inF p b (knownAll_spec hk i p true hi) hf hb)
  refine ⟨⟨fun i hi => hi, Nat.le_refl _, rfl, rfl, rfl, fun i hi => ?_, ?_, ?_, ?_, fun _ _ _ => rfl⟩, fun i hi => hkn i pl[i].1 pl[i].2 (by rw [List.getElem?_eq_getElem hi]), hv, hN⟩
  · obtain ⟨p, o, hp⟩ := hget i hi
    have hkp := knownAll_spec hk i p o hp
    rw [restr_get, hp]
    simp only
    cases o with
    | true =>
      simp only [if_true]
      have := Res.rebase h.old hfr _ _ (h.holds p hkp)
      have := renR_spec hv hN (hsome i p true hp) _ _ _ this
      have e : (fun b => ∃ p' : Nat, some (p, true) = some (p', true) ∧ fps p' b) = fps p := by
        funext b; simp
      rw [e]; exact this
    | false =>
      simp only [Bool.false_eq_true, if_false]
      obtain ⟨fp, g1, g2⟩ := h.look' rfl hkp
      refine ⟨fp, renR_spec hv hN (hsome i p false hp) _ _ _ (Res.rebase h.old hfr _ _ g1), fun b hb => ?_⟩
      rcases g2 b hb with hf | ⟨hl, hF⟩
      · refine ⟨h.lt p b hkp hf, ?_⟩
        rintro ⟨j, p', hj, hf'⟩
        have hkp' := knownAll_spec hk j p' true hj
        refine h.disj p p' b hkp hkp' (fun e => ?_) hf hf'
        subst e
        have := huniq i j p false true hp hj
        subst this
        rw [hp] at hj
        simp at hj
      · exact ⟨Nat.lt_of_lt_of_le hl h.old, (hfr b hl hF).2⟩
  · rintro i b hi ⟨p, hp, hf⟩
    exact h.lt p b (knownAll_spec hk i p true hp) hf
  · rintro i j b hi hj hne ⟨p, hp, hf⟩ ⟨p', hp', hf'⟩
    refine h.disj p p' b (knownAll_spec hk i p true hp) (knownAll_spec hk j p' true hp') (fun e => hne ?_) hf hf'
    subst e
    exact huniq i j p true true hp hp'
  · rintro i b hi ⟨p, hp, hf⟩ _
    exact ⟨i, p, hp, hf⟩

/-- The places behind, put back among all. -/
def putBack (κ2 : Nat → Option Nat) (r' : List Res) : Nat → List (Nat × Bool) → List Res → List Res
  | _, [], res => res
  | i, (p, o) :: l, res => if o then putBack κ2 r' (i + 1) l (rset res p (renR κ2 (rget r' i))) else putBack κ2 r' (i + 1) l res

def getP : List (Nat × Bool) → Nat → Option Nat
  | [], _ => none
  | (p, _) :: _, 0 => some p
  | _ :: l, i + 1 => getP l i

/-- The names of the places behind. -/
def back (pl : List (Nat × Bool)) (ext : List Nat) (n j : Nat) : Option Nat :=
  match getP pl j with
  | some p => some p
  | none => idxOf ext n j

def merge (pl : List (Nat × Bool)) (ext : List Nat) (r' res : List Res) : List Res :=
  putBack (back pl ext res.length) r' 0 pl res ++ reRes2 (back pl ext res.length) r' ext

theorem getP_eq : ∀ (l : List (Nat × Bool)) (i : Nat), getP l i = (l[i]?).map (·.1)
  | [], i => by simp [getP]
  | (p, o) :: l, 0 => by simp [getP]
  | (p, o) :: l, i + 1 => by simp [getP, getP_eq l i]

theorem putBack_length (κ2 : Nat → Option Nat) (r' : List Res) : ∀ (l : List (Nat × Bool)) (i : Nat) (res : List Res), (putBack κ2 r' i l res).length = res.length
  | [], _, _ => rfl
  | (p, o) :: l, i, res => by
    simp only [putBack]
    split
    · rw [putBack_length κ2 r' l, rset_length]
    · exact putBack_length κ2 r' l _ _

theorem putBack_other (κ2 : Nat → Option Nat) (r' : List Res) : ∀ (l : List (Nat × Bool)) (i : Nat) (res : List Res) (x : Nat), (∀ k : Nat, l[k]? ≠ some (x, true)) → (∀ (k p : Nat) (o : Bool), l[k]? = some (p, o) → p < res.length) → rget (putBack κ2 r' i l res) x = rget res x
  | [], _, _, _, _, _ => rfl
  | (p, o) :: l, i, res, x, h, hb => by
    have hl : ∀ k : Nat, l[k]? ≠ some (x, true) := fun k => by have := h (k + 1); simpa using this
    have hb' : ∀ (k p : Nat) (o : Bool), l[k]? = some (p, o) → p < res.length := fun k p o hk => hb (k + 1) p o (by simpa using hk)
    simp only [putBack]
    split
    · rename_i ho
      subst ho
      have hne : x ≠ p := fun e => h 0 (by simp [e])
      rw [putBack_other κ2 r' l _ _ x hl (fun k p o hk => by rw [rset_length]; exact hb' k p o hk), rget_rset _ _ _ _ (hb 0 p true (by simp)), if_neg hne]
    · exact putBack_other κ2 r' l _ _ x hl hb'

theorem putBack_own (κ2 : Nat → Option Nat) (r' : List Res) : ∀ (l : List (Nat × Bool)) (i : Nat) (res : List Res) (x k : Nat), l[k]? = some (x, true) → (fsts l).Nodup → (∀ (k p : Nat) (o : Bool), l[k]? = some (p, o) → p < res.length) →
    rget (putBack κ2 r' i l res) x = renR κ2 (rget r' (i + k))
  | [], _, _, _, _, h, _, _ => by simp at h
  | (p, o) :: l, i, res, x, k, h, hnd, hb => by
    have hb' : ∀ (k p : Nat) (o : Bool), l[k]? = some (p, o) → p < res.length := fun k p o hk => hb (k + 1) p o (by simpa using hk)
    have hnd' := List.nodup_cons.1 (show (p :: fsts l).Nodup from hnd)
    simp only [putBack]
    cases k with
    | zero =>
      simp at h
      obtain ⟨rfl, rfl⟩ := h
      simp only [if_true, Nat.add_zero]
      rw [putBack_other κ2 r' l _ _ p (fun k hk => hnd'.1 (List.mem_of_getElem? (i := k) (by rw [fsts_get, hk]; rfl))) (fun k p o hk => by rw [rset_length]; exact hb' k p o hk), rget_rset _ _ _ _ (hb 0 p true (by simp)), if_pos rfl]
    | succ k =>
      have h : l[k]? = some (x, true) := by simpa using h
      split
      · rw [putBack_own κ2 r' l _ _ x k h hnd'.2 (fun k p o hk => by rw [rset_length]; exact hb' k p o hk)]
        congr 2; omega
      · rw [putBack_own κ2 r' l _ _ x k h hnd'.2 hb']
        congr 2; omega

theorem ownR_renR {κ : Nat → Option Nat} {r : Res} (h : ownR r = true) : ownR (renR κ r) = true := by
  cases r <;> simp only [renR] <;> (try split) <;> simp_all [ownR]

/-- Two environments, one behind the other. -/
def Env.join (n : Nat) (ext : List Nat) (ρ ρ2 : Env) : Env :=
  { num := fun i => if i < n then ρ.num i else ρ2.num (ext.getD (i - n) 0), cap := fun i => if i < n then ρ.cap i else ρ2.cap (ext.getD (i - n) 0), adr := fun i => if i < n then ρ.adr i else ρ2.adr (ext.getD (i - n) 0),
    sa := fun i => if i < n then ρ.sa i else ρ2.sa (ext.getD (i - n) 0), sn := fun i => if i < n then ρ.sn i else ρ2.sn (ext.getD (i - n) 0), ob := fun i => if i < n then ρ.ob i else ρ2.ob (ext.getD (i - n) 0) }

section
variable {ρ : Env} {fps : Nat → Nat → Prop} {res : List Res} {w0 w : World} {F0 : Nat → Prop}

theorem HRep.merge (h : HRep ρ fps res (known res) w0 F0 w) {pl : List (Nat × Bool)} (hk : knownAll res pl = true) (hnd : (fsts pl).Nodup) {ρ2 : Env} {fps2 : Nat → Nat → Prop} {r' : List Res} {w' : World}
    (h2 : HRep ρ2 fps2 r' (known r') w (Frame ρ fps pl) w') (hg : Good (ρ.pull (src 0 (fsts pl))) (Sx.restr (kap 0 (fsts pl)) res pl) ρ2 r') {ext : List Nat} (he : okExt pl.length r'.length ext = true)
    (ho1 : ∀ (i p : Nat), pl[i]? = some (p, true) → ownR (rget r' i) = true) (ho2 : ∀ j, j ∈ ext → ownR (rget r' j) = true) :
    ∃ ρ3 fps3, HRep ρ3 fps3 (Sx.merge pl ext r' res) (known (Sx.merge pl ext r' res)) w0 F0 w' ∧ Good ρ res ρ3 (Sx.merge pl ext r' res) ∧ Env.via (back pl ext res.length) ρ2 ρ3 ∧
      ∀ j i, back pl ext res.length j = some i → known r' j → known (Sx.merge pl ext r' res) i := by
  obtain ⟨_, hkr, _, _⟩ := h.restr hk hnd
  obtain ⟨e1, e2⟩ := okExt_spec he
  have hlt : ∀ (k p : Nat) (o : Bool), pl[k]? = some (p, o) → p < res.length := fun k p o hp => rget_lt (knownAll_spec hk k p o hp)
  have hpll : ∀ (k p : Nat) (o : Bool), pl[k]? = some (p, o) → k < pl.length := fun k p o hp => (List.getElem?_eq_some_iff.1 hp).1
  have huniq : ∀ i j p o o', pl[i]? = some (p, o) → pl[j]? = some (p, o') → i = j := fun i j p o o' hi hj => by
    have a := kap0_of hnd (show (fsts pl)[i]? = some p by rw [fsts_get, hi]; rfl)
    rw [kap0_of hnd (show (fsts pl)[j]? = some p by rw [fsts_get, hj]; rfl)] at a
    simpa using a.symm
  have huniqE : ∀ (a b j : Nat), ext[a]? = some j → ext[b]? = some j → a = b := fun a b j ha hb => by
    have x := idxOf_of ext 0 a e2 ha
    rw [idxOf_of ext 0 b e2 hb] at x
    simpa using x.symm
  -- the names
  have hback1 : ∀ k p o, pl[k]? = some (p, o) → back pl ext res.length k = some p := fun k p o hp => by
    unfold back; rw [getP_eq, hp]; rfl
  have hback2 : ∀ a j, ext[a]? = some j → back pl ext res.length j = some (res.length + a) := fun a j ha => by
    unfold back
    have := (e1 j (List.mem_of_getElem? ha)).1
    rw [getP_eq, List.getElem?_eq_none this]
    exact idxOf_of ext _ a e2 ha
  have hbackS : ∀ j i, back pl ext res.length j = some i → (∃ o, pl[j]? = some (i, o)) ∨ (∃ a, ext[a]? = some j ∧ i = res.length + a) := fun j i hj => by
    unfold back at hj
    rw [getP_eq] at hj
    cases hp : pl[j]? with
    | some po => rw [hp] at hj; simp at hj; exact .inl ⟨po.2, by rw [← hj]⟩
    | none =>
      rw [hp] at hj
      simp at hj
      obtain ⟨a1, a2, a3⟩ := idxOf_spec hj
      exact .inr ⟨i - res.length, a3, by omega⟩
  have hget : ∀ i, rget (Sx.merge pl ext r' res) i = if i < res.length then rget (putBack (back pl ext res.length) r' 0 pl res) i else match ext[i - res.length]? with | some j => renR (back pl ext res.length) (rget r' j) | none => .yet := fun i => by
    unfold Sx.merge
    rw [rget_append, putBack_length]
    by_cases hi : i < res.length
    · rw [if_pos hi, if_pos hi]
    · rw [if_neg hi, if_neg hi, rget_reRes2]
      cases ext[i - res.length]? <;> rfl
  have hown : ∀ k p, pl[k]? = some (p, true) → rget (Sx.merge pl ext r' res) p = renR (back pl ext res.length) (rget r' k) := fun k p hp => by
    rw [hget, if_pos (hlt k p true hp), putBack_own _ r' pl 0 res p k hp hnd hlt, Nat.zero_add]
  have hother : ∀ i, i < res.length → (∀ k, pl[k]? ≠ some (i, true)) → rget (Sx.merge pl ext r' res) i = rget res i := fun i hi hno => by
    rw [hget, if_pos hi, putBack_other _ r' pl 0 res i hno hlt]
  have hext : ∀ a j, ext[a]? = some j → rget (Sx.merge pl ext r' res) (res.length + a) = renR (back pl ext res.length) (rget r' j) := fun a j ha => by
    rw [hget, if_neg (by omega), show res.length + a - res.length = a by omega, ha]
  have hkr' : ∀ k p o, pl[k]? = some (p, o) → known r' k := fun k p o hp => hg.2 k (hkr k (hpll k p o hp))
  have hN : ∀ j i, back pl ext res.length j = some i → known r' j → known (Sx.merge pl ext r' res) i := fun j i hj hkj => by
    rcases hbackS j i hj with ⟨o, hp⟩ | ⟨a, ha, rfl⟩
    · by_cases hT : ∃ k : Nat, pl[k]? = some (i, true)
      · obtain ⟨k, hk'⟩ := hT
        unfold known
        rw [hown k i hk']
        exact fun e => hkr' k i true hk' (renR_yet.1 e)
      · unfold known
        rw [hother i (hlt j i o hp) fun k hk' => hT ⟨k, hk'⟩]
        exact knownAll_spec hk j i o hp
    · unfold known
      rw [hext a j ha]
      exact fun e => hkj (renR_yet.1 e)
  have hmono : ∀ i, known res i → known (Sx.merge pl ext r' res) i := fun i hi => by
    by_cases hT : ∃ k : Nat, pl[k]? = some (i, true)
    · obtain ⟨k, hk'⟩ := hT
      exact hN k i (hback1 k i true hk') (hkr' k i true hk')
    · unfold known
      rw [hother i (rget_lt hi) fun k hk' => hT ⟨k, hk'⟩]
      exact hi
  have hag : Env.agree (known res) ρ (Env.join res.length ext ρ ρ2) := fun i hi => by
    have := rget_lt hi
    simp [Env.join, this]
  have hvia : Env.via (back pl ext res.length) ρ2 (Env.join res.length ext ρ ρ2) := fun j i hj => by
    rcases hbackS j i hj with ⟨o, hp⟩ | ⟨a, ha, rfl⟩
    · have hil := hlt j i o hp
      have hj' := hg.1 j (hkr j (hpll j i o hp))
      have hsrc : src 0 (fsts pl) j = i := by
        unfold src
        rw [if_neg (by omega), Nat.sub_zero, List.getD_eq_getElem?_getD, fsts_get, hp]; rfl
      simp only [Env.pull, hsrc] at hj'
      obtain ⟨a1, a2, a3, a4, a5, a6⟩ := hj'
      simp [Env.join, hil, a1, a2, a3, a4, a5, a6]
    · have hng : ¬ res.length + a < res.length := by omega
      have : ext.getD (res.length + a - res.length) 0 = j := by
        rw [show res.length + a - res.length = a by omega, List.getD_eq_getElem?_getD, ha]; rfl
      simp only [Env.join, if_neg hng, this]
      simp
  obtain ⟨fps3, g⟩ := h.turn (res' := Sx.merge pl ext r' res) (K' := known (Sx.merge pl ext r' res)) (fun i => ∃ k : Nat, pl[k]? = some (i, true)) (fun i => (∃ k : Nat, pl[k]? = some (i, true)) ∨ res.length ≤ i)
    (fun i b => (∃ k : Nat, pl[k]? = some (i, true) ∧ fps2 k b) ∨ (res.length ≤ i ∧ ∃ j, ext[i - res.length]? = some j ∧ known r' j ∧ fps2 j b))
    (fun i hi => hi) hmono hag
    (fun i hi hb => by
      have hlt' : i < res.length := by
        rcases Nat.lt_or_ge i res.length with h | h
        · exact h
        · exact absurd (.inr h) hb
      have e := hother i hlt' fun k hk' => hb (.inl ⟨k, hk'⟩)
      exact ⟨by unfold known at hi ⊢; rw [e] at hi; exact hi, fun hT => hb (.inl hT), e⟩)
    (fun i hi hb => by
      have hfoot : ∀ k b, known r' k → fps2 k b → (∃ t, (∃ k : Nat, pl[k]? = some (t, true)) ∧ known res t ∧ fps t b) ∨ (w.heap.size ≤ b ∧ b < w'.heap.size) := fun k b hk' hf => by
        by_cases hbw : b < w.heap.size
        · obtain ⟨x, p, hp, hfp⟩ := h2.inF k b hk' hf hbw
          exact .inl ⟨p, ⟨x, hp⟩, knownAll_spec hk x p true hp, hfp⟩
        · exact .inr ⟨by omega, h2.lt k b hk' hf⟩
      by_cases hT : ∃ k : Nat, pl[k]? = some (i, true)
      · obtain ⟨k, hp⟩ := hT
        have hkk := hkr' k i true hp
        have hil := hlt k i true hp
        have e : (fun b => (∃ k : Nat, pl[k]? = some (i, true) ∧ fps2 k b) ∨ (res.length ≤ i ∧ ∃ j, ext[i - res.length]? = some j ∧ known r' j ∧ fps2 j b)) = fps2 k := by
          funext b
          apply propext
          constructor
          · rintro (⟨k', hp', hf⟩ | ⟨hge, _⟩)
            · rw [huniq k k' i true true hp hp']; exact hf
            · omega
          · exact fun hf => .inl ⟨k, hp, hf⟩
        refine ⟨?_, fun b hf => hfoot k b hkk (by rw [← e]; exact hf)⟩
        rw [e, hown k i hp]
        exact renR_spec hvia hN (hback1 k i true hp) _ _ _ (ownR_holds (ho1 k i hp) (h2.holds k hkk))
      · have hge : res.length ≤ i := hb.resolve_left hT
        have hj : ∃ j, ext[i - res.length]? = some j := by
          unfold known at hi
          rw [hget, if_neg (by omega)] at hi
          cases hx : ext[i - res.length]? with
          | none => rw [hx] at hi; exact absurd rfl hi
          | some j => exact ⟨j, rfl⟩
        obtain ⟨j, hj⟩ := hj
        have hkj : known r' j := by
          unfold known at hi
          rw [hget, if_neg (by omega), hj] at hi
          exact fun e => hi (renR_yet.2 e)
        have e : (fun b => (∃ k : Nat, pl[k]? = some (i, true) ∧ fps2 k b) ∨ (res.length ≤ i ∧ ∃ j, ext[i - res.length]? = some j ∧ known r' j ∧ fps2 j b)) = fps2 j := by
          funext b
          apply propext
          constructor
          · rintro (⟨k', hp', hf⟩ | ⟨_, j', hj', _, hf⟩)
            · exact absurd ⟨k', hp'⟩ hT
            · rw [hj] at hj'; simp at hj'; subst hj'; exact hf
          · exact fun hf => .inr ⟨hge, j, hj, hkj, hf⟩
        refine ⟨?_, fun b hf => hfoot j b hkj (by rw [← e]; exact hf)⟩
        have hie : i = res.length + (i - res.length) := by omega
        have hb2 := hback2 _ j hj
        rw [← hie] at hb2
        have hx := hext _ j hj
        rw [← hie] at hx
        rw [e, hx]
        exact renR_spec hvia hN hb2 _ _ _ (ownR_holds (ho2 j (List.mem_of_getElem? hj)) (h2.holds j hkj)))
    (fun i j b hbi hbj hne hf hf' => by
      have sel : ∀ x, ((∃ k : Nat, pl[k]? = some (x, true) ∧ fps2 k b) ∨ (res.length ≤ x ∧ ∃ j, ext[x - res.length]? = some j ∧ known r' j ∧ fps2 j b)) → ∃ k, known r' k ∧ fps2 k b ∧ ((pl[k]? = some (x, true)) ∨ (res.length ≤ x ∧ ext[x - res.length]? = some k)) := by
        rintro x (⟨k, hp, hf⟩ | ⟨hge, j, hj, hkj, hf⟩)
        · exact ⟨k, hkr' k x true hp, hf, .inl hp⟩
        · exact ⟨j, hkj, hf, .inr ⟨hge, hj⟩⟩
      obtain ⟨k, k1, k2, k3⟩ := sel i hf
      obtain ⟨l, l1, l2, l3⟩ := sel j hf'
      refine h2.disj k l b k1 l1 (fun e => hne ?_) k2 l2
      subst e
      rcases k3 with k3 | ⟨k3, k4⟩ <;> rcases l3 with l3 | ⟨l3, l4⟩
      · rw [k3] at l3; simp at l3; exact l3
      · have := (e1 k (List.mem_of_getElem? l4)).1
        have := hpll k i true k3
        omega
      · have := (e1 k (List.mem_of_getElem? k4)).1
        have := hpll k j true l3
        omega
      · have := huniqE _ _ _ k4 l4
        omega)
    h2.os h2.tape h2.output h2.old
    (fun b hb hno => h2.same b hb fun ⟨i, p, hp, hf⟩ => hno p ⟨i, hp⟩ (knownAll_spec hk i p true hp) hf)
  exact ⟨_, fps3, g, ⟨hag, hmono⟩, hvia, hN⟩

end
end
end Go.Sx
/- Calls with few places, among many; stores opened and shut. No condition. -/
set_option linter.unusedVariables false
set_option linter.unusedSimpArgs false
namespace Go.Sx
open Go.RowKit (Below)

def allOwn (r' : List Res) : Nat → List (Nat × Bool) → Bool
  | _, [] => true
  | i, (_, o) :: l => (if o then ownR (rget r' i) else true) && allOwn r' (i + 1) l

theorem allOwn_spec {r' : List Res} : ∀ {l : List (Nat × Bool)} {i : Nat}, allOwn r' i l = true → ∀ k p : Nat, l[k]? = some (p, true) → ownR (rget r' (i + k)) = true
  | [], i, _, k, p, h => by simp at h
  | (x, o) :: l, i, ha, k, p, h => by
    simp only [allOwn, Bool.and_eq_true] at ha
    cases k with
    | zero => simp at h; obtain ⟨_, rfl⟩ := h; simpa using ha.1
    | succ k =>
      have := allOwn_spec ha.2 k p (by simpa using h)
      rwa [show i + (k + 1) = i + 1 + k by omega]

def allOwnE (r' : List Res) : List Nat → Bool
  | [] => true
  | j :: l => ownR (rget r' j) && allOwnE r' l

theorem allOwnE_spec {r' : List Res} : ∀ {l : List Nat}, allOwnE r' l = true → ∀ j ∈ l, ownR (rget r' j) = true
  | [], _, j, h => by simp at h
  | x :: l, ha, j, h => by
    simp only [allOwnE, Bool.and_eq_true] at ha
    rcases List.mem_cons.1 h with rfl | h
    · exact ha.1
    · exact allOwnE_spec ha.2 j h

/-- A value under other names. -/
def Turns (κ : Nat → Option Nat) (v v3 : V) : Prop := ∀ (ρ2 ρ3 : Env) (N N' : Nat → Prop), Env.via κ ρ2 ρ3 → (∀ j i, κ j = some i → N j → N' i) → ok N v → den ρ3 v3 = den ρ2 v ∧ ok N' v3

theorem Turns.idf {κ : Nat → Option Nat} {v x : V} (h : isE x v []) (hx : Sx.idf x = true) : Turns κ v x := fun ρ2 ρ3 N N' _ _ hv => by
  obtain ⟨s1, s2, _⟩ := h ρ2 N
  exact ⟨by rw [s1]; exact idf_den hx (s2 hv) ρ2 ρ3, idf_ok x hx (s2 hv)⟩

theorem Turns.ren {κ : Nat → Option Nat} {v v2 v3 : V} (h : renO κ v = some v2) (hs : ∀ ρ N, Same ρ N v2 v3) : Turns κ v v3 := fun ρ2 ρ3 N N' h1 h2 hv => by
  obtain ⟨c1, c2, _⟩ := renO_spec h1 h2 v v2 h
  obtain ⟨s1, s2, _⟩ := hs ρ3 N'
  exact ⟨s1.symm.trans c1, s2 (c2 hv)⟩

/-- What a call with few places gives, among many. -/
def Back (pl : List (Nat × Bool)) (res : List Res) (v : V) (r' : List Res) (K : V → List Res → Prop) : Prop :=
  ∃ (ext : List Nat) (v3 : V), okExt pl.length r'.length ext = true ∧ allOwn r' 0 pl = true ∧ allOwnE r' ext = true ∧ Turns (back pl ext res.length) v v3 ∧ K v3 (merge pl ext r' res)

section
variable {P : Program}

theorem CallTo.frame {f : Nat} {args args0 : List V} {res : List Res} {pl : List (Nat × Bool)} {K0 KP0 K KP : V → List Res → Prop} (hk : knownAll res pl = true) (hnd : okExt 0 res.length (fsts pl) = true)
    (ha : renOL (kap 0 (fsts pl)) args = some args0) (hc : CallTo P f args0 (restr (kap 0 (fsts pl)) res pl) K0 KP0)
    (hK : ∀ v r', K0 v r' → Back pl res v r' K) (hKP : ∀ v r', KP0 v r' → Back pl res v r' KP) : CallTo P f args res K KP := by
  intro ρ fps w0 F0 w hH hargs
  have hnd := (okExt_spec hnd).2
  obtain ⟨g1, g2, g3, g4⟩ := hH.restr hk hnd
  obtain ⟨a1, _, a3, _⟩ := renOL_spec g3 g4 _ _ ha
  rw [← a1]
  refine (hc _ _ _ _ _ g1 (a3 hargs)).mono fun e w' ⟨x, ρ2, fps2, r', h1, h2, h3, h4⟩ => ?_
  have fin : ∀ {K : V → List Res → Prop}, Back pl res x r' K → ∃ x' ρ' fps' res', HRep ρ' fps' res' (known res') w0 F0 w' ∧ Good ρ res ρ' res' ∧ ok (known res') x' ∧ den ρ' x' = den ρ2 x ∧ K x' res' := by
    rintro K ⟨ext, v3, b1, b2, b3, b4, b5⟩
    obtain ⟨ρ3, fps3, m1, m2, m3, m4⟩ := hH.merge hk hnd h1 h2 b1 (fun i p hp => by have := allOwn_spec b2 i p hp; rwa [Nat.zero_add] at this) (allOwnE_spec b3)
    obtain ⟨c1, c2⟩ := b4 ρ2 ρ3 _ _ m3 m4 h3
    exact ⟨v3, ρ3, fps3, _, m1, m2, c2, c1, b5⟩
  rcases h4 with ⟨rfl, h4⟩ | ⟨rfl, h4⟩
  · obtain ⟨x', ρ', fps', res', f1, f2, f3, f4, f5⟩ := fin (hK _ _ h4)
    exact ⟨x', ρ', fps', res', f1, f2, f3, .inl ⟨by rw [f4], f5⟩⟩
  · obtain ⟨x', ρ', fps', res', f1, f2, f3, f4, f5⟩ := fin (hKP _ _ h4)
    exact ⟨x', ρ', fps', res', f1, f2, f3, .inr ⟨by rw [f4], f5⟩⟩

/-- Does a place name no other? -/
def closedR : Res → Bool
  | .store _ _ _ => true
  | .arr _ _ _ => true
  | _ => false

theorem closedR_renR {κ : Nat → Option Nat} {r : Res} (h : closedR r = true) : renR κ r = r := by
  cases r <;> first | rfl | simp [closedR] at h

/-- What is seen at a place, whatever it is written as. -/
def Sees (res : List Res) (p : Nat) (r : Res) : Prop := known res p ∧ ∀ ρ fps K w0 F0 w, HRep ρ fps res K w0 F0 w →
  ∃ fp : Nat → Prop, r.holds K ρ p fp w0 F0 w ∧ ∀ b, fp b → (∃ i, known res i ∧ fps i b) ∨ (b < w0.heap.size ∧ ¬ F0 b)

theorem Sees.look {res : List Res} {p : Nat} {r : Res} (h : rlook res p = r) (hne : r ≠ .yet) : Sees res p r := by
  have hk := rlook_known h hne
  refine ⟨hk, fun ρ fps K w0 F0 w hH => ?_⟩
  obtain ⟨fp, g1, g2⟩ := hH.look' h hk
  exact ⟨fp, g1, fun b hb => (g2 b hb).elim (fun h => .inl ⟨p, hk, h⟩) .inr⟩

/-- Places that are only read. -/
def ros : List (Nat × Res) → List Res
  | [] => []
  | (_, r) :: l => .ro r :: ros l

theorem ros_get : ∀ (l : List (Nat × Res)) (i : Nat), rget (ros l) i = match l[i]? with | some p => .ro p.2 | none => .yet
  | [], i => by simp [ros, rget]
  | (p, r) :: l, 0 => by simp [ros, rget]
  | (p, r) :: l, i + 1 => by simp [ros, rget, ros_get l i]

theorem ros_length : ∀ l : List (Nat × Res), (ros l).length = l.length
  | [] => rfl
  | (p, r) :: l => by simp [ros, ros_length l]

def fstR : List (Nat × Res) → Nat → Nat
  | [], _ => 0
  | (p, _) :: _, 0 => p
  | _ :: l, i + 1 => fstR l i

theorem fstR_get : ∀ (l : List (Nat × Res)) (i : Nat) (p : Nat × Res), l[i]? = some p → fstR l i = p.1
  | [], i, p, h => by simp at h
  | (x, r) :: l, 0, p, h => by simp at h; subst h; rfl
  | (x, r) :: l, i + 1, p, h => by simp only [fstR]; exact fstR_get l i p (by simpa using h)

/-- A contract of a function that reads places. -/
theorem ct_read {f : Nat} {g : Ct} (h : ∀ res nid args q x new, g res nid args = some (q, x, new) → new = [] ∧ idf x = true ∧
    ∃ (pls : List (Nat × Res)) (args0 : List V), (∀ p ∈ pls, Sees res p.1 p.2 ∧ closedR p.2 = true) ∧ (∀ (ρ : Env) K, okL K args → denL (ρ.pull (fstR pls)) args0 = denL ρ args) ∧ (∀ K, okL K args → okL (known (ros pls)) args0) ∧
      (holdsO q → okL (known (ros pls)) args0 → CallTo P f args0 (ros pls) (isE x) (fun _ _ => False))) : CtOK P f g := by
  intro ρ fps res K w0 F0 w nid args q x new hH hargs hg hq hfr
  obtain ⟨rfl, hid, pls, args0, hcl, hden, hok, hc⟩ := h res nid args q x new hg
  refine ⟨?_, fun k hk => by simp at hk⟩
  have hfr : ∀ b, b < w0.heap.size → ¬ F0 b → w.heap[b]? = w0.heap[b]? ∧ ¬ (fun _ : Nat => False) b := fun b hb hF => ⟨hH.same b hb hF, fun h => h⟩
  have hrep : HRep (ρ.pull (fstR pls)) (fun _ _ => False) (ros pls) (known (ros pls)) w (fun _ => False) w := by
    refine ⟨fun i hi => hi, Nat.le_refl _, rfl, rfl, rfl, fun i hi => ?_, fun i b hi h => h.elim, fun i j b hi hj hne h => h.elim, fun i b hi h => h.elim, fun _ _ _ => rfl⟩
    have hlt := rget_lt hi
    rw [ros_length] at hlt
    have hp : pls[i]? = some pls[i] := List.getElem?_eq_getElem hlt
    generalize pls[i] = p at hp
    rw [ros_get, hp]
    simp only
    obtain ⟨hs, hcl⟩ := hcl p (List.mem_of_getElem? hp)
    obtain ⟨fp, g1, g2⟩ := hs.2 ρ fps K w0 F0 w hH
    have hv : Env.via (fun x => if x = p.1 then some i else none) ρ (ρ.pull (fstR pls)) := pull_via fun x j hx => by
      split at hx
      · simp only [Option.some.injEq] at hx; subst hx; rename_i e; subst e
        exact fstR_get pls i p hp
      · simp at hx
    have := renR_spec (N' := known (ros pls)) hv (fun x j hx _ => by
      split at hx
      · simp only [Option.some.injEq] at hx; subst hx; exact hi
      · simp at hx) (p := p.1) (i := i) (by simp) _ _ _ (Res.rebase hH.old hfr _ _ g1)
    rw [closedR_renR hcl] at this
    refine ⟨fp, this, fun b hb => ⟨?_, fun h => h⟩⟩
    rcases g2 b hb with ⟨j, hj, hf⟩ | ⟨hl, _⟩
    · exact hH.lt j b hj hf
    · exact Nat.lt_of_lt_of_le hl hH.old
  have hok0 := hok K hargs
  rw [← hden ρ K hargs]
  refine (hc hq hok0 _ _ _ _ _ hrep hok0).mono fun e w' ⟨y, ρ', fps', res', g1, g2, g3, g4⟩ => ?_
  rcases g4 with ⟨rfl, hK⟩ | ⟨_, hK⟩
  · refine ⟨_, rfl, ρ, ?_, ?_, ?_⟩
    · exact ⟨⟨g1.os, g1.tape, g1.output, g1.old, fun b hb => g1.same b hb (fun h => h)⟩, Env.agree.refl _ _, fun _ _ => False, fun k hk => by simp at hk, fun k l b hk => by simp at hk⟩
    · obtain ⟨e1, e2, _⟩ := hK ρ' (known res')
      rw [e1]
      exact idf_den hid (e2 g3) ρ ρ'
    · obtain ⟨e1, e2, _⟩ := hK ρ' (known res')
      exact idf_ok x hid (e2 g3)
  · exact hK.elim

theorem CallTo.good {f : Nat} {args : List V} {res res1 : List Res} {K KP : V → List Res → Prop} (h : CallTo P f args res1 K KP)
    (ho : ∀ ρ fps w0 F0 w, HRep ρ fps res (known res) w0 F0 w → ∃ ρ' fps', HRep ρ' fps' res1 (known res1) w0 F0 w ∧ Good ρ res ρ' res1) : CallTo P f args res K KP := by
  intro ρ fps w0 F0 w hH hargs
  obtain ⟨ρ', fps', h1, h2⟩ := ho ρ fps w0 F0 w hH
  rw [← denL_agree h2.1 args hargs]
  refine (h ρ' fps' w0 F0 w h1 (okL_mono h2.2 _ hargs)).mono fun e w' ⟨x, ρ2, fps2, r', g1, g2, g3, g4⟩ => ⟨x, ρ2, fps2, r', g1, h2.trans g2, g3, g4⟩

theorem CallTo.openS {f : Nat} {args : List V} {res : List Res} {k t e : Nat} {L : List Obj} {K KP : V → List Res → Prop} (hr : rget res k = .store t e L) (h : CallTo P f args (openS res k t e L) K KP) : CallTo P f args res K KP :=
  h.good fun _ _ _ _ _ hH => openS_rep hr hH

theorem CallTo.openRS {f : Nat} {args : List V} {res : List Res} {k t e : Nat} {L : List Obj} {K KP : V → List Res → Prop} (hr : rget res k = .ro (.store t e L)) (h : CallTo P f args (openRS res k t e L) K KP) : CallTo P f args res K KP :=
  h.good fun _ _ _ _ _ hH => openRS_rep hr hH

/-- Behind a call a store is shut. -/
theorem CallTo.shut {f : Nat} {args : List V} {res : List Res} {K0 KP K : V → List Res → Prop} (h : CallTo P f args res K0 KP) (hK : ∀ v r, K0 v r → K v r ∨ ∃ k r', shutS r k = some r' ∧ K v r') : CallTo P f args res K KP := by
  intro ρ fps w0 F0 w hH hargs
  refine (h ρ fps w0 F0 w hH hargs).mono fun e w' ⟨x, ρ2, fps2, r', g1, g2, g3, g4⟩ => ?_
  rcases g4 with ⟨rfl, hk⟩ | g4
  · rcases hK _ _ hk with hk | ⟨k, r2, s1, s2⟩
    · exact ⟨x, ρ2, fps2, r', g1, g2, g3, .inl ⟨rfl, hk⟩⟩
    · obtain ⟨fps3, m1, m2⟩ := shutS_rep s1 g1
      exact ⟨x, ρ2, fps3, r2, m1, ⟨g2.1, fun i hi => m2 i (g2.2 i hi)⟩, ok_mono m2 _ g3, .inl ⟨rfl, s2⟩⟩
  · exact ⟨x, ρ2, fps2, r', g1, g2, g3, .inr g4⟩

end
end Go.Sx
/- Contracts of functions over stores and lists. No condition. -/
set_option linter.unusedVariables false
set_option linter.unusedSimpArgs false
namespace Go.Sx
open Go.RowKit (Below)

section
variable {P : Program}

/-- What is known of a store, beside. -/
theorem CallTo.fact {f : Nat} {args : List V} {res : List Res} {K KP : V → List Res → Prop} {k t e : Nat} {L : List Obj} (hr : rlook res k = .store t e L)
    (h : (∀ o ∈ L, o.wf) → L.length ≤ 9223372036854775807 → CallTo P f args res K KP) : CallTo P f args res K KP := by
  intro ρ fps w0 F0 w hH hargs
  obtain ⟨fp, hh, _⟩ := hH.look hr (by simp)
  obtain ⟨_, h1, h2, _⟩ := hh
  exact h h1 h2 ρ fps w0 F0 w hH hargs

theorem CallTo.factA {f : Nat} {args : List V} {res : List Res} {K KP : V → List Res → Prop} {k esz : Nat} {own : Option Nat} {L : List Obj} (hr : rlook res k = .arr own esz (.ob L))
    (h : (∀ o ∈ L, o.wf) → L.length ≤ 9223372036854775807 → CallTo P f args res K KP) : CallTo P f args res K KP := by
  intro ρ fps w0 F0 w hH hargs
  obtain ⟨fp, hh, _⟩ := hH.look hr (by simp)
  obtain ⟨h1, _, h2, _⟩ := hh
  refine h (fun o ho => ?_) h2 ρ fps w0 F0 w hH hargs
  obtain ⟨i, hi, rfl⟩ := List.getElem_of_mem ho
  have := (h1 i hi).1
  simpa [TL.get, lget, List.getD_eq_getElem?_getD, hi, ok] using this

theorem CallTo.factL {f : Nat} {args : List V} {res : List Res} {K KP : V → List Res → Prop} {k esz : Nat} {own : Option Nat} {l : TL} (hr : rlook res k = .arr own esz l)
    (h : l.len ≤ 9223372036854775807 → CallTo P f args res K KP) : CallTo P f args res K KP := by
  intro ρ fps w0 F0 w hH hargs
  obtain ⟨fp, hh, _⟩ := hH.look hr (by simp)
  exact h hh.2.2.1 ρ fps w0 F0 w hH hargs

/-- An open store is seen as a store. -/
theorem Sees.open {res : List Res} {p j t e q : Nat} {L : List Obj} (hp : rlook res p = .blk t (.ag [.sa j])) (hj : rlook res j = .obs e q L) (hte : t ≠ e) : Sees res p (.store t e L) := by
  have hkp := rlook_known hp (by simp)
  have hkj := rlook_known hj (by simp)
  refine ⟨hkp, fun ρ fps K w0 F0 w hH => ?_⟩
  obtain ⟨fp1, ⟨_, _, b3, b4⟩, g1⟩ := hH.look' hp hkp
  obtain ⟨fp2, ⟨_, c1, c2, c3, c4, c5, c6, c7⟩, g2⟩ := hH.look' hj hkj
  have b4' : w.heap[ρ.num p]? = some (.cells #[ρ.sl j] t (0, 0)) := by
    rw [b4]
    have : den ρ (.sa j) = ρ.sl j := rfl
    simp [cells_ag, cellsL, this, Env.sl, Value.cells]
  refine ⟨fun b => fp1 b ∨ fp2 b, ⟨.inl b3, c1, c3, ρ.sl j, ρ.ob q, b4', c6, fun b hb => ?_, fun x hx => ?_⟩, fun b hb => ?_⟩
  · have hb' := hb
    cases ha : ρ.sa j with
    | none => simp [Env.sl, ha, Value.ownBlock] at hb
    | some a =>
      simp only [Env.sl, ha, Value.ownBlock, Option.some.injEq] at hb
      subst hb
      refine ⟨.inr (c4 a ha).2, fun e' => ?_⟩
      rcases c6.2 with ⟨hh, _⟩ | ⟨g, cap, cur, hh, _, h3, _⟩
      · simp [Env.sl, ha] at hh
      · rw [hh] at hb'
        simp only [Value.ownBlock, Option.some.injEq] at hb'
        rw [hb', e', b4'] at h3
        simp only [Option.some.injEq, Go.Obj.cells.injEq] at h3
        exact hte h3.2.1
  · obtain ⟨d1, t', d2⟩ := c7 x hx
    refine ⟨.inr d1, fun e' => ?_, t', d2⟩
    rw [e', b4'] at d2
    simp only [Option.some.injEq, Go.Obj.cells.injEq] at d2
    have := congrArg Array.size d2.1
    simp [obCells_length] at this
  · rcases hb with hb | hb
    · exact (g1 b hb).elim (fun h => .inl ⟨p, hkp, h⟩) .inr
    · exact (g2 b hb).elim (fun h => .inl ⟨j, hkj, h⟩) .inr

theorem Sees.zero {res : List Res} {p t e : Nat} (hp : rlook res p = .blk t (.ag [.nl (.slice none 0 0)])) : Sees res p (.store t e []) := by
  have hkp := rlook_known hp (by simp)
  refine ⟨hkp, fun ρ fps K w0 F0 w hH => ?_⟩
  obtain ⟨fp1, ⟨_, _, b3, b4⟩, g1⟩ := hH.look' hp hkp
  refine ⟨fp1, ⟨b3, by simp, by simp, .slice none 0 0, fun _ => 0, ?_, World.ownsRow_nil w 0 e 1, fun b hb => by simp [Value.ownBlock] at hb, fun x hx => by simp at hx⟩, fun b hb => (g1 b hb).elim (fun h => .inl ⟨p, hkp, h⟩) .inr⟩
  rw [b4]
  simp [cells_ag, cellsL, den, Value.cells]

/-- A store that is pointed to: nil is none. -/
def rS (t e : Nat) (res : List Res) (v : V) : Option (Option Nat × List Obj) :=
  match v with
  | .nl v => match v with
    | .pointer p => match p with
      | none => some (none, [])
      | some _ => none
    | _ => none
  | .lp k off => if off == 0 then match rlook res k with
    | .store t' e' L => if t' == t && e' == e then some (some k, L) else none
    | .blk t' c => if t' == t && !(t == e) then match c with
      | .ag l => match l with
        | [x] => match x with
          | .sa j => match rlook res j with
            | .obs e' _ L => if e' == e then some (some k, L) else none
            | _ => none
          | .nl v => match v with
            | .slice none 0 0 => some (some k, [])
            | _ => none
          | _ => none
        | _ => none
      | _ => none
      else none
    | _ => none
    else none
  | _ => none

theorem rS_spec {t e : Nat} {res : List Res} {v : V} {o : Option Nat} {L : List Obj} (h : rS t e res v = some (o, L)) : (o = none ∧ L = [] ∧ v = .nl (.pointer none)) ∨ ∃ k, o = some k ∧ v = .lp k 0 ∧ Sees res k (.store t e L) := by
  unfold rS at h
  split at h
  · split at h
    · split at h
      · simp only [Option.some.injEq, Prod.mk.injEq] at h
        exact .inl ⟨h.1.symm, h.2.symm, rfl⟩
      · simp at h
    · simp at h
  · rename_i k off
    split at h
    · rename_i ho
      have ho := beq_iff_eq.1 ho
      subst ho
      split at h
      · rename_i t' e' L' hl
        split at h
        · rename_i hc
          simp only [Bool.and_eq_true, beq_iff_eq] at hc
          obtain ⟨rfl, rfl⟩ := hc
          simp only [Option.some.injEq, Prod.mk.injEq] at h
          obtain ⟨rfl, rfl⟩ := h
          exact .inr ⟨k, rfl, rfl, Sees.look hl (by simp)⟩
        · simp at h
      · rename_i t' c hl
        split at h
        · rename_i hc
          simp only [Bool.and_eq_true, beq_iff_eq, Bool.not_eq_true', beq_eq_false_iff_ne] at hc
          obtain ⟨rfl, hte⟩ := hc
          split at h
          · split at h
            · split at h
              · split at h
                · rename_i hj
                  split at h
                  · rename_i hc
                    have hc := beq_iff_eq.1 hc
                    subst hc
                    simp only [Option.some.injEq, Prod.mk.injEq] at h
                    obtain ⟨rfl, rfl⟩ := h
                    exact .inr ⟨k, rfl, rfl, Sees.open hl hj hte⟩
                  · simp at h
                · simp at h
              · split at h
                · simp only [Option.some.injEq, Prod.mk.injEq] at h
                  obtain ⟨rfl, rfl⟩ := h
                  exact .inr ⟨k, rfl, rfl, Sees.zero hl⟩
                · simp at h
              · simp at h
            · simp at h
          · simp at h
        · simp at h
      · simp at h
    · simp at h
  · simp at h

def nilp : V := .nl (.pointer none)
def mkS (t e : Nat) (F : List Obj → V) : Ct := fun res _ xs => match xs with
  | [a] => match rS t e res a with
    | some (_, L) => some (none, F L, [])
    | none => none
  | _ => none
def mkS1 {α : Type} (t e : Nat) (r : V → Option α) (F : List Obj → α → V) : Ct := fun res _ xs => match xs with
  | [a, b] => match rS t e res a with
    | some (_, L) => match r b with
      | some x => some (none, F L x, [])
      | none => none
    | none => none
  | _ => none
def mkSS (t e : Nat) (Q : List Obj → List Obj → Prop) (F : List Obj → List Obj → V) : Ct := fun res _ xs => match xs with
  | [a, b] => match rS t e res a with
    | some (_, L) => match rS t e res b with
      | some (_, M) => some (some (Q L M), F L M, [])
      | none => none
    | none => none
  | _ => none

theorem mkS_ok {f t e : Nat} {F : List Obj → V} (hF : ∀ L, idf (F L) = true) (h0 : CallTo P f [nilp] [] (isV (F [])) (fun _ _ => False))
    (h1 : ∀ L, (∀ o ∈ L, o.wf) → L.length ≤ 9223372036854775807 → CallTo P f [.lp 0 0] [.ro (.blk t (.ag [.sa 1])), .ro (.obs e 2 L), .gen 1] (isV (F L)) (fun _ _ => False)) : CtOK P f (mkS t e F) := by
  refine ct_read fun res nid args q x new hg => ?_
  unfold mkS at hg
  split at hg <;> (try split at hg) <;> simp only [Option.some.injEq, Prod.mk.injEq, reduceCtorEq] at hg
  rename_i a o L hr
  obtain ⟨rfl, rfl, rfl⟩ := hg
  rcases rS_spec hr with ⟨rfl, rfl, rfl⟩ | ⟨k, rfl, rfl, hs⟩
  · exact ⟨rfl, hF [], [], [nilp], by simp, fun ρ _ _ => rfl, fun K hK => ⟨hK.1, trivial⟩, fun _ _ => h0.mono (fun _ _ => isV_isE) fun _ _ h => h⟩
  · refine ⟨rfl, hF L, [(k, .store t e L)], [.lp 0 0], by simpa using ⟨hs, rfl⟩, fun ρ _ _ => rfl, fun K hK => ⟨by simp [ok, known, ros, rget], trivial⟩, fun _ _ => ?_⟩
    exact CallTo.fact (k := 0) rfl fun w1 w2 => (CallTo.openRS (res := ros [(k, .store t e L)]) (k := 0) rfl (h1 L w1 w2)).mono (fun _ _ => isV_isE) fun _ _ h => h

theorem mkS1_ok {f t e : Nat} {α : Type} {r : V → Option α} {m : α → V} {F : List Obj → α → V} (hr : RdOK r m) (hF : ∀ L x, idf (F L x) = true)
    (h0 : ∀ x, ok (fun _ => False) (m x) → CallTo P f [nilp, m x] [] (isV (F [] x)) (fun _ _ => False))
    (h1 : ∀ L x, (∀ o ∈ L, o.wf) → L.length ≤ 9223372036854775807 → ok (fun _ => False) (m x) → CallTo P f [.lp 0 0, m x] [.ro (.blk t (.ag [.sa 1])), .ro (.obs e 2 L), .gen 1] (isV (F L x)) (fun _ _ => False))
    (hid : ∀ x, idf (m x) = true) : CtOK P f (mkS1 t e r F) := by
  refine ct_read fun res nid args q x new hg => ?_
  unfold mkS1 at hg
  split at hg <;> (try split at hg) <;> (try split at hg) <;> simp only [Option.some.injEq, Prod.mk.injEq, reduceCtorEq] at hg
  rename_i a b _ o L hs _ x hb
  obtain ⟨rfl, rfl, rfl⟩ := hg
  obtain ⟨b1, b2⟩ := hr _ x hb
  have hde : ∀ ρ ρ' : Env, ∀ K, ok K b → den ρ' (m x) = den ρ b := fun ρ ρ' K hk => by rw [b1 ρ]; exact idf_den (hid x) (b2 K hk) ρ ρ'
  rcases rS_spec hs with ⟨rfl, rfl, rfl⟩ | ⟨k, rfl, rfl, hse⟩
  · refine ⟨rfl, hF [] x, [], [nilp, m x], by simp, fun ρ K hK => ?_, fun K hK => ⟨hK.1, ok_empty (b2 K hK.2.1), trivial⟩, fun _ hok => ?_⟩
    · simp only [denL, hde ρ (ρ.pull (fstR [])) K hK.2.1]; rfl
    · exact (h0 x (idf_ok _ (hid x) hok.2.1)).mono (fun _ _ => isV_isE) fun _ _ h => h
  · refine ⟨rfl, hF L x, [(k, .store t e L)], [.lp 0 0, m x], by simpa using ⟨hse, rfl⟩, fun ρ K hK => ?_, fun K hK => ⟨by simp [ok, known, ros, rget], ok_empty (b2 K hK.2.1), trivial⟩, fun _ hok => ?_⟩
    · simp only [denL, hde ρ (ρ.pull (fstR [(k, .store t e L)])) K hK.2.1]; rfl
    · exact CallTo.fact (k := 0) rfl fun w1 w2 => (CallTo.openRS (res := ros [(k, .store t e L)]) (k := 0) rfl (h1 L x w1 w2 (idf_ok _ (hid x) hok.2.1))).mono (fun _ _ => isV_isE) fun _ _ h => h

theorem mkSS_ok {f t e : Nat} {Q : List Obj → List Obj → Prop} {F : List Obj → List Obj → V} (hF : ∀ L M, idf (F L M) = true) (h00 : CallTo P f [nilp, nilp] [] (isV (F [] [])) (fun _ _ => False))
    (h01 : ∀ M, (∀ o ∈ M, o.wf) → M.length ≤ 9223372036854775807 → CallTo P f [nilp, .lp 0 0] [.ro (.blk t (.ag [.sa 1])), .ro (.obs e 2 M), .gen 1] (isV (F [] M)) (fun _ _ => False))
    (h10 : ∀ L, (∀ o ∈ L, o.wf) → L.length ≤ 9223372036854775807 → CallTo P f [.lp 0 0, nilp] [.ro (.blk t (.ag [.sa 1])), .ro (.obs e 2 L), .gen 1] (isV (F L [])) (fun _ _ => False))
    (h11 : ∀ L M, Q L M → (∀ o ∈ L, o.wf) → L.length ≤ 9223372036854775807 → (∀ o ∈ M, o.wf) → M.length ≤ 9223372036854775807 →
      CallTo P f [.lp 0 0, .lp 1 0] [.ro (.blk t (.ag [.sa 2])), .ro (.blk t (.ag [.sa 4])), .ro (.obs e 3 L), .gen 2, .ro (.obs e 5 M), .gen 4] (isV (F L M)) (fun _ _ => False)) : CtOK P f (mkSS t e Q F) := by
  refine ct_read fun res nid args q x new hg => ?_
  unfold mkSS at hg
  split at hg <;> (try split at hg) <;> (try split at hg) <;> simp only [Option.some.injEq, Prod.mk.injEq, reduceCtorEq] at hg
  rename_i a b _ o L hs _ p M hb
  obtain ⟨rfl, rfl, rfl⟩ := hg
  rcases rS_spec hs with ⟨rfl, rfl, rfl⟩ | ⟨k, rfl, rfl, hse⟩ <;> rcases rS_spec hb with ⟨rfl, rfl, rfl⟩ | ⟨j, rfl, rfl, hbe⟩
  · exact ⟨rfl, hF [] [], [], [nilp, nilp], by simp, fun ρ _ _ => rfl, fun K hK => ⟨hK.1, hK.2.1, trivial⟩, fun _ _ => h00.mono (fun _ _ => isV_isE) fun _ _ h => h⟩
  · refine ⟨rfl, hF [] M, [(j, .store t e M)], [nilp, .lp 0 0], by simpa using ⟨hbe, rfl⟩, fun ρ _ _ => rfl, fun K hK => ⟨hK.1, by simp [ok, known, ros, rget], trivial⟩, fun _ _ => ?_⟩
    exact CallTo.fact (k := 0) rfl fun w1 w2 => (CallTo.openRS (res := ros [(j, .store t e M)]) (k := 0) rfl (h01 M w1 w2)).mono (fun _ _ => isV_isE) fun _ _ h => h
  · refine ⟨rfl, hF L [], [(k, .store t e L)], [.lp 0 0, nilp], by simpa using ⟨hse, rfl⟩, fun ρ _ _ => rfl, fun K hK => ⟨by simp [ok, known, ros, rget], hK.2.1, trivial⟩, fun _ _ => ?_⟩
    exact CallTo.fact (k := 0) rfl fun w1 w2 => (CallTo.openRS (res := ros [(k, .store t e L)]) (k := 0) rfl (h10 L w1 w2)).mono (fun _ _ => isV_isE) fun _ _ h => h
  · refine ⟨rfl, hF L M, [(k, .store t e L), (j, .store t e M)], [.lp 0 0, .lp 1 0], by simpa using ⟨⟨hse, rfl⟩, hbe, rfl⟩, fun ρ _ _ => rfl, fun K hK => ⟨by simp [ok, known, ros, rget], by simp [ok, known, ros, rget], trivial⟩, fun hQ _ => ?_⟩
    exact CallTo.fact (k := 0) rfl fun w1 w2 => CallTo.fact (k := 1) rfl fun w3 w4 =>
      (CallTo.openRS (res := ros [(k, .store t e L), (j, .store t e M)]) (k := 0) rfl (CallTo.openRS (k := 1) rfl (h11 L M hQ w1 w2 w3 w4))).mono (fun _ _ => isV_isE) fun _ _ h => h

/-- A list of objects is seen. -/
theorem Sees.arr {res : List Res} {p esz : Nat} {own : Option Nat} {l : TL} (h : rlook res p = .arr own esz l) : Sees res p (.arr none esz l) := by
  have hk := rlook_known h (by simp)
  refine ⟨hk, fun ρ fps K w0 F0 w hH => ?_⟩
  obtain ⟨fp, ⟨h1, h2, h3, h4, h5, h6, h7⟩, g2⟩ := hH.look' h hk
  refine ⟨fp, ⟨h1, h2, h3, h4, h5, h6, ?_⟩, fun b hb => (g2 b hb).elim (fun h => .inl ⟨p, hk, h⟩) .inr⟩
  rcases h7 with ⟨e, h7⟩ | ⟨e, e1, e2⟩
  · exact .inl ⟨rfl, h7⟩
  · exact .inr ⟨e, by simp, e2⟩

def rA (res : List Res) (v : V) : Option (Nat × List Obj) :=
  match v with
  | .sa k => match rlook res k with
    | .arr _ e l => if e == 163 then match l with
      | .ob l => some (k, l)
      | _ => none
      else none
    | _ => none
  | _ => none

theorem rA_spec {res : List Res} {v : V} {k : Nat} {l : List Obj} (h : rA res v = some (k, l)) : v = .sa k ∧ Sees res k (.arr none 163 (.ob l)) ∧ ∃ own, rlook res k = .arr own 163 (.ob l) := by
  unfold rA at h
  split at h
  · split at h
    · rename_i own e l' hl
      split at h
      · rename_i he
        have he := beq_iff_eq.1 he
        subst he
        split at h
        · simp only [Option.some.injEq, Prod.mk.injEq] at h
          obtain ⟨rfl, rfl⟩ := h
          exact ⟨rfl, Sees.arr hl, _, hl⟩
        · simp at h
      · simp at h
    · simp at h
  · simp at h

def mkA (F : List Obj → V) : Ct := fun res _ xs => match xs with
  | [a] => match rA res a with
    | some (_, L) => some (none, F L, [])
    | none => none
  | _ => none
def mkA1 {α : Type} (r : V → Option α) (F : List Obj → α → V) : Ct := fun res _ xs => match xs with
  | [a, b] => match rA res a with
    | some (_, L) => match r b with
      | some x => some (none, F L x, [])
      | none => none
    | none => none
  | _ => none
def mkAA (F : List Obj → List Obj → V) : Ct := fun res _ xs => match xs with
  | [a, b] => match rA res a with
    | some (_, L) => match rA res b with
      | some (_, M) => some (none, F L M, [])
      | none => none
    | none => none
  | _ => none

theorem pull_sa {ρ : Env} {i k : Nat} {pls : List (Nat × Res)} (h : fstR pls i = k) : den (ρ.pull (fstR pls)) (.sa i) = den ρ (.sa k) := by
  simp only [den, Env.pull, h]

theorem mkA_ok {f : Nat} {F : List Obj → V} (hF : ∀ L, idf (F L) = true)
    (h1 : ∀ L, (∀ o ∈ L, o.wf) → L.length ≤ 9223372036854775807 → CallTo P f [.sa 0] [.ro (.arr none 163 (.ob L))] (isV (F L)) (fun _ _ => False)) : CtOK P f (mkA F) := by
  refine ct_read fun res nid args q x new hg => ?_
  unfold mkA at hg
  split at hg <;> (try split at hg) <;> simp only [Option.some.injEq, Prod.mk.injEq, reduceCtorEq] at hg
  rename_i a k L hr
  obtain ⟨rfl, rfl, rfl⟩ := hg
  obtain ⟨rfl, hs, _⟩ := rA_spec hr
  exact ⟨rfl, hF L, [(k, .arr none 163 (.ob L))], [.sa 0], by simpa using ⟨hs, rfl⟩, fun ρ _ _ => by simp only [denL, pull_sa (pls := [(k, .arr none 163 (.ob L))]) (i := 0) (k := k) rfl], fun K hK => ⟨by simp [ok, known, ros, rget], trivial⟩,
    fun _ _ => CallTo.factA (k := 0) rfl fun w1 w2 => (h1 L w1 w2).mono (fun _ _ => isV_isE) fun _ _ h => h⟩

theorem mkA1_ok {f : Nat} {α : Type} {r : V → Option α} {m : α → V} {F : List Obj → α → V} (hr : RdOK r m) (hF : ∀ L x, idf (F L x) = true)
    (h1 : ∀ L x, (∀ o ∈ L, o.wf) → L.length ≤ 9223372036854775807 → ok (fun _ => False) (m x) → CallTo P f [.sa 0, m x] [.ro (.arr none 163 (.ob L))] (isV (F L x)) (fun _ _ => False)) (hid : ∀ x, idf (m x) = true) : CtOK P f (mkA1 r F) := by
  refine ct_read fun res nid args q x new hg => ?_
  unfold mkA1 at hg
  split at hg <;> (try split at hg) <;> (try split at hg) <;> simp only [Option.some.injEq, Prod.mk.injEq, reduceCtorEq] at hg
  rename_i a b _ k L hs _ x hb
  obtain ⟨rfl, rfl, rfl⟩ := hg
  obtain ⟨rfl, hse, _⟩ := rA_spec hs
  obtain ⟨b1, b2⟩ := hr _ x hb
  have hde : ∀ ρ ρ' : Env, ∀ K, ok K b → den ρ' (m x) = den ρ b := fun ρ ρ' K hk => by rw [b1 ρ]; exact idf_den (hid x) (b2 K hk) ρ ρ'
  refine ⟨rfl, hF L x, [(k, .arr none 163 (.ob L))], [.sa 0, m x], by simpa using ⟨hse, rfl⟩, fun ρ K hK => ?_, fun K hK => ⟨by simp [ok, known, ros, rget], ok_empty (b2 K hK.2.1), trivial⟩, fun _ hok => ?_⟩
  · simp only [denL, hde ρ (ρ.pull (fstR [(k, .arr none 163 (.ob L))])) K hK.2.1, pull_sa (pls := [(k, .arr none 163 (.ob L))]) (i := 0) (k := k) rfl]
  · exact CallTo.factA (k := 0) rfl fun w1 w2 => (h1 L x w1 w2 (idf_ok _ (hid x) hok.2.1)).mono (fun _ _ => isV_isE) fun _ _ h => h

theorem mkAA_ok {f : Nat} {F : List Obj → List Obj → V} (hF : ∀ L M, idf (F L M) = true)
    (h1 : ∀ L M, (∀ o ∈ L, o.wf) → L.length ≤ 9223372036854775807 → (∀ o ∈ M, o.wf) → M.length ≤ 9223372036854775807 → CallTo P f [.sa 0, .sa 1] [.ro (.arr none 163 (.ob L)), .ro (.arr none 163 (.ob M))] (isV (F L M)) (fun _ _ => False)) : CtOK P f (mkAA F) := by
  refine ct_read fun res nid args q x new hg => ?_
  unfold mkAA at hg
  split at hg <;> (try split at hg) <;> (try split at hg) <;> simp only [Option.some.injEq, Prod.mk.injEq, reduceCtorEq] at hg
  rename_i a b _ k L hs _ j M hb
  obtain ⟨rfl, rfl, rfl⟩ := hg
  obtain ⟨rfl, hse, _⟩ := rA_spec hs
  obtain ⟨rfl, hbe, _⟩ := rA_spec hb
  refine ⟨rfl, hF L M, [(k, .arr none 163 (.ob L)), (j, .arr none 163 (.ob M))], [.sa 0, .sa 1], by simpa using ⟨⟨hse, rfl⟩, hbe, rfl⟩, fun ρ K hK => ?_, fun K hK => ⟨by simp [ok, known, ros, rget], by simp [ok, known, ros, rget], trivial⟩, fun _ hok => ?_⟩
  · simp only [denL, pull_sa (pls := [(k, .arr none 163 (.ob L)), (j, .arr none 163 (.ob M))]) (i := 0) (k := k) rfl, pull_sa (pls := [(k, .arr none 163 (.ob L)), (j, .arr none 163 (.ob M))]) (i := 1) (k := j) rfl]
  · exact CallTo.factA (k := 0) rfl fun w1 w2 => CallTo.factA (k := 1) rfl fun w3 w4 => (h1 L M w1 w2 w3 w4).mono (fun _ _ => isV_isE) fun _ _ h => h

def mkSA (t e : Nat) (F : List Obj → List Obj → V) : Ct := fun res _ xs => match xs with
  | [a, b] => match rS t e res a with
    | some (_, L) => match rA res b with
      | some (_, M) => some (none, F L M, [])
      | none => none
    | none => none
  | _ => none

theorem mkSA_ok {f t e : Nat} {F : List Obj → List Obj → V} (hF : ∀ L M, idf (F L M) = true)
    (h0 : ∀ M, (∀ o ∈ M, o.wf) → M.length ≤ 9223372036854775807 → CallTo P f [nilp, .sa 0] [.ro (.arr none 163 (.ob M))] (isV (F [] M)) (fun _ _ => False))
    (h1 : ∀ L M, (∀ o ∈ L, o.wf) → L.length ≤ 9223372036854775807 → (∀ o ∈ M, o.wf) → M.length ≤ 9223372036854775807 →
      CallTo P f [.lp 0 0, .sa 1] [.ro (.blk t (.ag [.sa 2])), .ro (.arr none 163 (.ob M)), .ro (.obs e 3 L), .gen 2] (isV (F L M)) (fun _ _ => False)) : CtOK P f (mkSA t e F) := by
  refine ct_read fun res nid args q x new hg => ?_
  unfold mkSA at hg
  split at hg <;> (try split at hg) <;> (try split at hg) <;> simp only [Option.some.injEq, Prod.mk.injEq, reduceCtorEq] at hg
  rename_i a b _ o L hs _ j M hb
  obtain ⟨rfl, rfl, rfl⟩ := hg
  obtain ⟨rfl, hbe, _⟩ := rA_spec hb
  rcases rS_spec hs with ⟨rfl, rfl, rfl⟩ | ⟨k, rfl, rfl, hse⟩
  · refine ⟨rfl, hF [] M, [(j, .arr none 163 (.ob M))], [nilp, .sa 0], by simpa using ⟨hbe, rfl⟩, fun ρ K hK => ?_, fun K hK => ⟨hK.1, by simp [ok, known, ros, rget], trivial⟩, fun _ hok => ?_⟩
    · simp only [denL, pull_sa (pls := [(j, .arr none 163 (.ob M))]) (i := 0) (k := j) rfl]; rfl
    · exact CallTo.factA (k := 0) rfl fun w1 w2 => (h0 M w1 w2).mono (fun _ _ => isV_isE) fun _ _ h => h
  · refine ⟨rfl, hF L M, [(k, .store t e L), (j, .arr none 163 (.ob M))], [.lp 0 0, .sa 1], by simpa using ⟨⟨hse, rfl⟩, hbe, rfl⟩, fun ρ K hK => ?_, fun K hK => ⟨by simp [ok, known, ros, rget], by simp [ok, known, ros, rget], trivial⟩, fun _ hok => ?_⟩
    · simp only [denL, pull_sa (pls := [(k, .store t e L), (j, .arr none 163 (.ob M))]) (i := 1) (k := j) rfl]; rfl
    · exact CallTo.fact (k := 0) rfl fun w1 w2 => CallTo.factA (k := 1) rfl fun w3 w4 =>
        (CallTo.openRS (res := ros [(k, .store t e L), (j, .arr none 163 (.ob M))]) (k := 0) rfl (h1 L M w1 w2 w3 w4)).mono (fun _ _ => isV_isE) fun _ _ h => h

end
end Go.Sx
/- Contracts of functions that make or change places. No condition. -/
set_option linter.unusedVariables false
set_option linter.unusedSimpArgs false
namespace Go.Sx
open Go.RowKit (Below)

/-- What a call asks for, and gives. -/
abbrev HCt := List V → List Res → (V → List Res → Prop) → Prop
def HOK (P : Program) (f : Nat) (h : HCt) : Prop := ∀ args res K KP, h args res K → CallTo P f args res K KP
def hLook : List (Nat × HCt) → Handler
  | [], _, _, _, _, _ => False
  | (g, h) :: l, f, args, res, K, KP => if f == g then h args res K else hLook l f args res K KP

theorem hLook_ok {P : Program} : ∀ {l : List (Nat × HCt)}, (∀ p ∈ l, HOK P p.1 p.2) → Handler.OK P (hLook l)
  | [], _, f, args, res, K, KP, h => h.elim
  | (g, x) :: l, hl, f, args, res, K, KP, h => by
    simp only [hLook] at h
    split at h
    · rename_i e
      have e := beq_iff_eq.1 e
      subst e
      exact hl (f, x) (by simp) args res K KP h
    · exact hLook_ok (fun p hp => hl p (by simp [hp])) f args res K KP h

theorem hoks_nil {P : Program} : ∀ p ∈ ([] : List (Nat × HCt)), HOK P p.1 p.2 := by simp
theorem hoks_cons {P : Program} {f : Nat} {g : HCt} {l : List (Nat × HCt)} (h : HOK P f g) (t : ∀ p ∈ l, HOK P p.1 p.2) : ∀ p ∈ (f, g) :: l, HOK P p.1 p.2 := by
  intro p hp
  rcases List.mem_cons.1 hp with rfl | hp
  · exact h
  · exact t p hp

theorem renO_idf {κ : Nat → Option Nat} : ∀ v, idf v = true → renO κ v = some v := by
  intro v
  exact V.rec (motive_1 := fun v => idf v = true → renO κ v = some v) (motive_2 := fun l => idfL l = true → renOL κ l = some l)
    (fun b _ => rfl) (fun b _ => rfl) (fun k n _ => rfl) (fun k n _ => rfl) (fun b _ => rfl) (fun s _ => rfl) (fun v _ => rfl) (fun _ _ h => by simp [idf] at h) (fun _ _ _ _ _ _ h => by simp [idf] at h)
    (fun _ _ _ h => by simp [idf] at h) (fun _ _ h => by simp [idf] at h) (fun _ _ _ _ h => by simp [idf] at h) (fun _ h => by simp [idf] at h) (fun _ _ h => by simp [idf] at h) (fun _ h => by simp [idf] at h)
    (fun f l ih h => by simp only [renO]; rw [ih h]) (fun t x ih h => by simp only [renO]; rw [ih h]) (fun l ih h => by simp only [renO]; rw [ih h]) (fun l ih h => by simp only [renO]; rw [ih h])
    (fun _ _ => rfl) (fun _ _ => rfl) (fun _ _ => rfl) (fun _ _ => rfl) (fun _ h => by simp [idf] at h) (fun _ _ _ _ _ _ h => by simp [idf] at h) (fun _ _ _ _ _ _ _ _ h => by simp [idf] at h) (fun _ _ _ _ h => by simp [idf] at h) (fun _ _ _ _ _ _ h => by simp [idf] at h) (fun _ => rfl)
    (fun x l ih1 ih2 h => by simp only [idfL, Bool.and_eq_true] at h; simp only [renOL]; rw [ih1 h.1]; simp only; rw [ih2 h.2]) v

theorem renOL_idf {κ : Nat → Option Nat} : ∀ l, idfL l = true → renOL κ l = some l
  | [], _ => rfl
  | x :: l, h => by
    simp only [idfL, Bool.and_eq_true] at h
    simp only [renOL]
    rw [renO_idf x h.1]
    simp only
    rw [renOL_idf l h.2]

/-- Arguments that stand for the same. -/
def SameB (l m : List V) : Prop := ∀ (ρ : Env) K, okL K l → denL ρ l = denL ρ m ∧ okL K m
theorem SameB.nil : SameB [] [] := fun _ _ _ => ⟨rfl, trivial⟩
theorem SameB.keep {x : V} {l m : List V} (h : SameB l m) : SameB (x :: l) (x :: m) := fun ρ K hk => ⟨by simp only [denL, (h ρ K hk.2).1], hk.1, (h ρ K hk.2).2⟩
theorem SameB.rd {α : Type} {r : V → Option α} {f : α → V} (hr : RdOK r f) {a : V} {x : α} (hx : r a = some x) {l m : List V} (h : SameB l m) : SameB (a :: l) (f x :: m) := fun ρ K hk => by
  obtain ⟨a1, a2⟩ := hr a x hx
  exact ⟨by simp only [denL, (h ρ K hk.2).1, a1], ok_empty (a2 K hk.1), (h ρ K hk.2).2⟩

section
variable {P : Program}

theorem CallTo.args {f : Nat} {args args' : List V} {res : List Res} {K KP : V → List Res → Prop} (h : SameB args args') (hc : CallTo P f args' res K KP) : CallTo P f args res K KP := by
  intro ρ fps w0 F0 w hH hargs
  obtain ⟨h1, h2⟩ := h ρ _ hargs
  rw [h1]
  exact hc ρ fps w0 F0 w hH h2

/-- What is known of arguments. -/
theorem CallTo.okArgs {f : Nat} {args : List V} {res : List Res} {K KP : V → List Res → Prop} (h : okL (known res) args → CallTo P f args res K KP) : CallTo P f args res K KP := by
  intro ρ fps w0 F0 w hH hargs
  exact h hargs ρ fps w0 F0 w hH hargs

/-- A call that changes one store. -/
theorem CallTo.onStore {f : Nat} {rest : List V} {res : List Res} {K KP : V → List Res → Prop} {k t e : Nat} {L M : List Obj} {x : V} (hr : rget res k = .store t e L) (hid : idfL rest = true) (hx : idf x = true)
    (h : CallTo P f (.lp 0 0 :: rest) [.store t e L] (fun v r => isE x v r ∧ rget r 0 = .store t e M) (fun _ _ => False)) (hK : K x (rset res k (.store t e M))) : CallTo P f (.lp k 0 :: rest) res K KP := by
  have hk : known res k := by unfold known; rw [hr]; simp
  have hlt := rget_lt hk
  refine CallTo.frame (pl := [(k, true)]) (args0 := .lp 0 0 :: rest) (K0 := fun v r => isE x v r ∧ rget r 0 = .store t e M) (KP0 := fun _ _ => False) (by simp [knownAll, knownB_iff.2 hk]) (by simpa [okExt, fsts, inNl] using hlt) ?_ ?_ (fun v r hv => ?_) (fun _ _ h => h.elim)
  · simp only [renOL, renO, kap, idxOf, fsts]
    rw [renOL_idf rest hid]; simp
  · have : restr (kap 0 (fsts [(k, true)])) res [(k, true)] = [.store t e L] := by simp [restr, hr, renR]
    rw [this]
    exact h
  · obtain ⟨h1, h2⟩ := hv
    have hm : merge [(k, true)] [] r res = rset res k (.store t e M) := by simp [merge, putBack, h2, renR, reRes2]
    exact ⟨[], x, rfl, by simp [allOwn, h2, ownR], rfl, Turns.idf h1 hx, by rw [hm]; exact hK⟩

/-- A call of values alone. -/
theorem CallTo.pure {f : Nat} {args : List V} {res : List Res} {K KP : V → List Res → Prop} {x : V} (hid : idfL args = true) (hx : idf x = true)
    (h : CallTo P f args [] (fun v _ => isE x v []) (fun _ _ => False)) (hK : K x res) : CallTo P f args res K KP := by
  refine CallTo.frame (pl := []) (args0 := args) (K0 := fun v _ => isE x v []) (KP0 := fun _ _ => False) rfl rfl (renOL_idf args hid) h (fun v r hv => ?_) (fun _ _ h => h.elim)
  have hm : merge [] [] r res = res := by simp [merge, putBack, reRes2]
  exact ⟨[], x, rfl, rfl, rfl, Turns.idf hv hx, by rw [hm]; exact hK⟩

/-- A call that reads one place. -/
theorem CallTo.read1 {f : Nat} {rest : List V} {res : List Res} {K KP : V → List Res → Prop} {k : Nat} {r0 : Res} {x : V} (hr : rlook res k = r0) (hne : r0 ≠ .yet) (hren : ∀ κ, renR κ r0 = r0) (hid : idfL rest = true) (hx : idf x = true)
    (h : CallTo P f (.lp 0 0 :: rest) [.ro r0] (fun v _ => isE x v []) (fun _ _ => False)) (hK : K x res) : CallTo P f (.lp k 0 :: rest) res K KP := by
  have hk := rlook_known hr hne
  have hlt := rget_lt hk
  refine CallTo.frame (pl := [(k, false)]) (args0 := .lp 0 0 :: rest) (K0 := fun v _ => isE x v []) (KP0 := fun _ _ => False) (by simp [knownAll, knownB_iff.2 hk]) (by simpa [okExt, fsts, inNl] using hlt) ?_ ?_ (fun v r hv => ?_) (fun _ _ h => h.elim)
  · simp only [renOL, renO, kap, idxOf, fsts]
    rw [renOL_idf rest hid]; simp
  · have : restr (kap 0 (fsts [(k, false)])) res [(k, false)] = [.ro r0] := by simp [restr, hr, hren]
    rw [this]
    exact h
  · have hm : merge [(k, false)] [] r res = res := by simp [merge, putBack, reRes2]
    exact ⟨[], x, rfl, by simp [allOwn], rfl, Turns.idf hv hx, by rw [hm]; exact hK⟩

theorem HRep.weaken {ρ : Env} {fps : Nat → Nat → Prop} {res res' : List Res} {w0 w : World} {F0 : Nat → Prop} (h : HRep ρ fps res (known res) w0 F0 w)
    (hk : ∀ i, known res' i → known res i ∧ ∀ fp, (rget res i).holds (known res) ρ i fp w0 F0 w → (rget res' i).holds (known res') ρ i fp w0 F0 w) : HRep ρ fps res' (known res') w0 F0 w :=
  ⟨fun i hi => hi, h.old, h.os, h.tape, h.output, fun i hi => (hk i hi).2 _ (h.holds i (hk i hi).1), fun i b hi => h.lt i b (hk i hi).1, fun i j b hi hj => h.disj i j b (hk i hi).1 (hk j hj).1, fun i b hi => h.inF i b (hk i hi).1, h.same⟩

theorem arr_none {K K' : Nat → Prop} {ρ : Env} {i : Nat} {fp : Nat → Prop} {w0 w : World} {F0 : Nat → Prop} {own : Option Nat} {e : Nat} {l : TL} (h : (Res.arr own e l).holds K ρ i fp w0 F0 w) : (Res.arr none e l).holds K' ρ i fp w0 F0 w := by
  obtain ⟨h1, h2, h3, h4, h5, h6, h7⟩ := h
  refine ⟨h1, h2, h3, h4, h5, h6, ?_⟩
  rcases h7 with ⟨e, h7⟩ | ⟨e, e1, e2⟩
  · exact .inl ⟨rfl, h7⟩
  · exact .inr ⟨e, by simp, e2⟩

theorem CallTo.weakA {f : Nat} {args : List V} {K KP : V → List Res → Prop} {own : Option Nat} {e : Nat} {l : TL} (h : CallTo P f args [.ro (.arr none e l)] K KP) : CallTo P f args [.ro (.arr own e l)] K KP := by
  have hk : ∀ i (own : Option Nat), known [.ro (.arr own e l)] i ↔ i = 0 := fun i own => by
    unfold known
    cases i with
    | zero => simp [rget]
    | succ i => simp [rget]
  refine h.good fun ρ fps w0 F0 w hH => ⟨ρ, fps, hH.weaken fun i hi => ?_, Env.agree.refl _ _, fun i hi => (hk i _).2 ((hk i _).1 hi)⟩
  have := (hk i _).1 hi
  subst this
  refine ⟨(hk 0 _).2 rfl, fun fp hh => ?_⟩
  obtain ⟨fp', g1, g2⟩ := hh
  exact ⟨fp', arr_none g1, g2⟩

/-- A call that reads a list of objects, and makes a store. -/
theorem CallTo.mkStoreA {f : Nat} {rest : List V} {res : List Res} {K KP : V → List Res → Prop} {t e k esz : Nat} {own : Option Nat} {l : TL} {M : List Obj} {F : Nat → V} (hr : rlook res k = .arr own esz l) (hid : idfL rest = true)
    (h : CallTo P f (.sa 0 :: rest) [.ro (.arr own esz l)] (fun v r => ∃ j, 1 ≤ j ∧ rget r j = .store t e M ∧ (∀ (κ : Nat → Option Nat) (i : Nat), κ j = some i → Turns κ v (F i))) (fun _ _ => False)) (hK : K (F res.length) (res ++ [.store t e M])) : CallTo P f (.sa k :: rest) res K KP := by
  have hk := rlook_known hr (by simp)
  have hlt := rget_lt hk
  refine CallTo.frame (pl := [(k, false)]) (args0 := .sa 0 :: rest) (K0 := fun v r => ∃ j, 1 ≤ j ∧ rget r j = .store t e M ∧ (∀ (κ : Nat → Option Nat) (i : Nat), κ j = some i → Turns κ v (F i))) (KP0 := fun _ _ => False) (by simp [knownAll, knownB_iff.2 hk]) (by simpa [okExt, fsts, inNl] using hlt) ?_ ?_ (fun v r hv => ?_) (fun _ _ h => h.elim)
  · simp only [renOL, renO, kap, idxOf, fsts]
    rw [renOL_idf rest hid]; simp
  · have : restr (kap 0 (fsts [(k, false)])) res [(k, false)] = [.ro (.arr own esz l)] := by simp [restr, hr, renR]
    rw [this]
    exact h
  · obtain ⟨j, hj1, hj, hv⟩ := hv
    have hjl : j < r.length := rget_lt (by rw [hj]; simp)
    have hm : merge [(k, false)] [j] r res = res ++ [.store t e M] := by simp [merge, putBack, reRes2, hj, renR]
    refine ⟨[j], F res.length, by simpa [okExt, inNl] using ⟨hj1, hjl⟩, by simp [allOwn], by simp [allOwnE, hj, ownR], hv _ _ ?_, by rw [hm]; exact hK⟩
    obtain ⟨m, rfl⟩ : ∃ m, j = m + 1 := ⟨j - 1, by omega⟩
    simp [back, getP, idxOf]

/-- A call that reads a list of objects. -/
theorem CallTo.readA {f : Nat} {rest : List V} {res : List Res} {K KP : V → List Res → Prop} {k esz : Nat} {own : Option Nat} {l : TL} {x : V} (hr : rlook res k = .arr own esz l) (hid : idfL rest = true) (hx : idf x = true)
    (h : CallTo P f (.sa 0 :: rest) [.ro (.arr own esz l)] (fun v _ => isE x v []) (fun _ _ => False)) (hK : K x res) : CallTo P f (.sa k :: rest) res K KP := by
  have hk := rlook_known hr (by simp)
  have hlt := rget_lt hk
  refine CallTo.frame (pl := [(k, false)]) (args0 := .sa 0 :: rest) (K0 := fun v _ => isE x v []) (KP0 := fun _ _ => False) (by simp [knownAll, knownB_iff.2 hk]) (by simpa [okExt, fsts, inNl] using hlt) ?_ ?_ (fun v r hv => ?_) (fun _ _ h => h.elim)
  · simp only [renOL, renO, kap, idxOf, fsts]
    rw [renOL_idf rest hid]; simp
  · have : restr (kap 0 (fsts [(k, false)])) res [(k, false)] = [.ro (.arr own esz l)] := by simp [restr, hr, renR]
    rw [this]
    exact h
  · have hm : merge [(k, false)] [] r res = res := by simp [merge, putBack, reRes2]
    exact ⟨[], x, rfl, by simp [allOwn], rfl, Turns.idf hv hx, by rw [hm]; exact hK⟩

theorem putBack_ro (κ2 : Nat → Option Nat) (r' : List Res) : ∀ (l : List (Nat × Bool)) (i : Nat) (res : List Res), (∀ p ∈ l, p.2 = false) → putBack κ2 r' i l res = res
  | [], _, _, _ => rfl
  | (p, o) :: l, i, res, h => by
    have := h (p, o) (by simp)
    simp only at this
    subst this
    simp only [putBack, Bool.false_eq_true, if_false]
    exact putBack_ro κ2 r' l _ _ fun p hp => h p (by simp [hp])
theorem allOwn_ro (r' : List Res) : ∀ (l : List (Nat × Bool)) (i : Nat), (∀ p ∈ l, p.2 = false) → allOwn r' i l = true
  | [], _, _ => rfl
  | (p, o) :: l, i, h => by
    have := h (p, o) (by simp)
    simp only at this
    subst this
    simp only [allOwn, Bool.false_eq_true, if_false, Bool.true_and]
    exact allOwn_ro r' l _ fun p hp => h p (by simp [hp])
theorem getP_none : ∀ (l : List (Nat × Bool)) (j : Nat), l.length ≤ j → getP l j = none
  | [], _, _ => rfl
  | (p, o) :: l, 0, h => by simp at h
  | (p, o) :: l, j + 1, h => by simp only [getP]; exact getP_none l j (by simpa using h)

/-- A call that reads places, and makes one. -/
theorem CallTo.mkRo {f : Nat} {args args0 : List V} {res : List Res} {K KP : V → List Res → Prop} {pl : List (Nat × Bool)} {new : Res} {F : Nat → V} (hk : knownAll res pl = true) (hnd : okExt 0 res.length (fsts pl) = true) (hro : ∀ p ∈ pl, p.2 = false)
    (ha : renOL (kap 0 (fsts pl)) args = some args0) (hnew : ownR new = true) (hne : new ≠ .yet) (hren : ∀ κ, renR κ new = new)
    (h : CallTo P f args0 (restr (kap 0 (fsts pl)) res pl) (fun v r => ∃ j, pl.length ≤ j ∧ rget r j = new ∧ (∀ (κ : Nat → Option Nat) (i : Nat), κ j = some i → Turns κ v (F i))) (fun _ _ => False))
    (hK : K (F res.length) (res ++ [new])) : CallTo P f args res K KP := by
  refine CallTo.frame hk hnd ha h (fun v r hv => ?_) (fun _ _ h => h.elim)
  obtain ⟨j, hj1, hj, hv⟩ := hv
  have hjl : j < r.length := rget_lt (by rw [hj]; exact hne)
  have hm : merge pl [j] r res = res ++ [new] := by simp [merge, putBack_ro _ _ pl 0 res hro, reRes2, hj, hren]
  refine ⟨[j], F res.length, by simpa [okExt, inNl] using ⟨hj1, hjl⟩, allOwn_ro _ _ _ hro, by simp [allOwnE, hj, hnew], hv _ _ ?_, by rw [hm]; exact hK⟩
  simp [back, getP_none pl j hj1, idxOf]

/-- A call that reads places. -/
theorem CallTo.rdRo {f : Nat} {args args0 : List V} {res : List Res} {K KP : V → List Res → Prop} {pl : List (Nat × Bool)} {x : V} (hk : knownAll res pl = true) (hnd : okExt 0 res.length (fsts pl) = true) (hro : ∀ p ∈ pl, p.2 = false)
    (ha : renOL (kap 0 (fsts pl)) args = some args0) (hx : idf x = true)
    (h : CallTo P f args0 (restr (kap 0 (fsts pl)) res pl) (fun v _ => isE x v []) (fun _ _ => False)) (hK : K x res) : CallTo P f args res K KP := by
  refine CallTo.frame hk hnd ha h (fun v r hv => ?_) (fun _ _ h => h.elim)
  have hm : merge pl [] r res = res := by simp [merge, putBack_ro _ _ pl 0 res hro, reRes2]
  exact ⟨[], x, rfl, allOwn_ro _ _ _ hro, rfl, Turns.idf hv hx, by rw [hm]; exact hK⟩

theorem stOf_shut {r : List Res} {k t e j : Nat} {L : List Obj} (h : stOf r k = some (t, e, j, L)) : ∃ r', shutS r k = some r' ∧ rget r' k = .store t e L := by
  unfold shutS
  rw [h]
  refine ⟨_, rfl, ?_⟩
  have hk : k < r.length := by
    unfold stOf at h
    split at h
    · rename_i hr
      exact rget_lt (by rw [hr]; simp)
    · simp at h
  rw [rget_rset _ _ _ _ (by rw [rset_length]; exact hk), if_pos rfl]

/-- What a store's objects are, open or shut. -/
def shOf (r : List Res) (k : Nat) : Option (Nat × Nat × List Obj) :=
  match rget r k with
  | .store t e L => some (t, e, L)
  | _ => match stOf r k with
    | some (t, e, _, L) => some (t, e, L)
    | none => none

theorem shOf_out {r : List Res} {k t e : Nat} {L : List Obj} (h : shOf r k = some (t, e, L)) : rget r k = .store t e L ∨ ∃ r', shutS r k = some r' ∧ rget r' k = .store t e L := by
  unfold shOf at h
  split at h
  · rename_i hr
    simp only [Option.some.injEq, Prod.mk.injEq] at h
    obtain ⟨rfl, rfl, rfl⟩ := h
    exact .inl hr
  · split at h
    · rename_i hst
      simp only [Option.some.injEq, Prod.mk.injEq] at h
      obtain ⟨rfl, rfl, rfl⟩ := h
      exact .inr (stOf_shut hst)
    · simp at h

theorem isE_tp2 {a b c : V} (h : isE c b []) : isE (.tp [a, c]) (.tp [a, b]) [] := fun ρ K => by
  obtain ⟨s1, s2, _⟩ := h ρ K
  exact ⟨by simp only [den, denL, s1], fun hk => ⟨hk.1, s2 hk.2.1, trivial⟩, rfl⟩

/-- A call of values alone that makes a store. -/
theorem CallTo.mkStore {f : Nat} {args : List V} {res : List Res} {K KP : V → List Res → Prop} {t e : Nat} {M : List Obj} {F : Nat → V} (hid : idfL args = true)
    (h : CallTo P f args [] (fun v r => ∃ j, rget r j = .store t e M ∧ (∀ (κ : Nat → Option Nat) (i : Nat), κ j = some i → Turns κ v (F i))) (fun _ _ => False)) (hK : K (F res.length) (res ++ [.store t e M])) : CallTo P f args res K KP := by
  refine CallTo.frame (pl := []) (args0 := args) (K0 := fun v r => ∃ j, rget r j = .store t e M ∧ (∀ (κ : Nat → Option Nat) (i : Nat), κ j = some i → Turns κ v (F i))) (KP0 := fun _ _ => False) rfl rfl (renOL_idf args hid) h (fun v r hv => ?_) (fun _ _ h => h.elim)
  obtain ⟨j, hj, hv⟩ := hv
  have hlt : j < r.length := rget_lt (by rw [hj]; simp)
  have hm : merge [] [j] r res = res ++ [.store t e M] := by simp [merge, putBack, reRes2, hj, renR]
  exact ⟨[j], F res.length, by simpa [okExt, inNl] using hlt, rfl, by simp [allOwnE, hj, ownR], hv _ _ (by simp [back, getP, idxOf]), by rw [hm]; exact hK⟩

end

/-- Which place a slice lies over. -/
def saOf (v : V) : Option Nat :=
  match v with
  | .sa j => some j
  | .ag l => match l with
    | [x] => match x with
      | .sa j => some j
      | _ => none
    | _ => none
  | _ => none

/-- Where a list lies that a block holds. -/
def extB (c : Nat) (σ : St) : Option (List Nat) :=
  match rget σ.res c with
  | .blk _ x => match saOf x with
    | some j => match rget σ.res j with
      | .obs _ q _ => some [j, q]
      | _ => some [j]
    | none => some []
  | _ => some []

/-- A loop that turns a place. -/
def lpR (keep : List Nat) (set : Int → List (Nat × V)) (k : Nat) (R : Int → Res) (inv : Int → Prop) (m : Int) : LoopAnn :=
  { γ := Int, head := fun σ g => { σ with slots := hdS keep (set g) 0 σ.slots, res := rset σ.res k (R g) }, inv := inv, μ := fun g => i2n (isub m g) }

def rsets : List (Nat × Res) → List Res → List Res
  | [], r => r
  | (k, x) :: l, r => rsets l (rset r k x)

/-- A loop that turns several places, by what it likes. -/
def lpT {γ : Type} (keep : List Nat) (set : γ → List (Nat × V)) (rs : γ → List (Nat × Res)) (inv : γ → Prop) (μ : γ → Nat) : LoopAnn :=
  { γ := γ, head := fun σ g => { σ with slots := hdS keep (set g) 0 σ.slots, res := rsets (rs g) σ.res }, inv := inv, μ := μ }

def TL.emp : TL → TL
  | .ob _ => .ob []
  | .key _ => .key []
  | .it k _ => .it k []
  | .bo _ => .bo []
  | .st _ => .st []
  | .fn n g => .fn n g

/-- Where a list lies that a slot holds. -/
def extS (t : Nat) (σ : St) : Option (List Nat) :=
  match sget σ.slots t with
  | .v x => match saOf x with
    | some j => some [j]
    | none => some []
  | _ => some []

/-- A loop that makes a list of values, in a slot. -/
def lpS (keep : List Nat) (set : Int → List (Nat × V)) (t e esz : Nat) (L : Int → TL) (inv : Int → Prop) (m : Int) : LoopAnn :=
  { γ := Int, head := fun σ g => { σ with slots := hdS keep ((t, .sa σ.res.length) :: set g) 0 σ.slots, res := σ.res ++ [.arr (some e) esz (L g)] },
    inv := inv, μ := fun g => i2n (isub m g), pre := [.sl t e esz (TL.emp (L 0))], ext := extS t }

/-- A loop whose list, in a slot, may be replaced: first it is not yet. -/
def lpA2 (keep : List Nat) (set : Int → List (Nat × V)) (t e esz : Nat) (L : Int → TL) (inv inv2 : Int → Prop) (m : Int) : LoopAnn :=
  { γ := Int, head := fun σ g => { σ with slots := hdS keep (set g) 0 σ.slots }, inv := inv, μ := fun g => i2n (isub m g), m2 := true,
    head2 := fun σ g => { σ with slots := hdS keep ((t, .sa σ.res.length) :: set g) 0 σ.slots, res := σ.res ++ [.arr (some e) esz (L g)] }, inv2 := inv2, ext2 := extS t }
/-- A loop with loops over functions in it: their marks are one. -/
def extD (σ : St) : Option (List Nat) :=
  match σ.defs with
  | d :: _ => match mrk d.2.1 with
    | some k => some [k]
    | none => none
  | [] => none
def lpTD {γ : Type} (keep : List Nat) (set : γ → List (Nat × V)) (rs : γ → List (Nat × Res)) (inv : γ → Prop) (μ : γ → Nat) : LoopAnn :=
  { γ := γ, head := fun σ g => { slots := hdS keep (set g) 0 σ.slots, res := rsets (rs g) σ.res ++ [.dfr], defs := (0, [.yl σ.res.length], []) :: σ.defs }, inv := inv, μ := μ, pre := [.dm], ext := extD }
/-- A loop that is unrolled. -/
def lpU (n : Nat) : LoopAnn := { γ := Unit, head := fun σ _ => σ, inv := fun _ => True, μ := fun _ => 0, unr := some n }

/-- A loop whose list, in a slot, may be replaced. -/
def lpAl {γ : Type} (keep : List Nat) (set : γ → List (Nat × V)) (t esz : Nat) (L : γ → TL) (rs : γ → List (Nat × Res)) (inv : γ → Prop) (μ : γ → Nat) : LoopAnn :=
  { γ := γ, head := fun σ g => { σ with slots := hdS keep ((t, .sa σ.res.length) :: set g) 0 σ.slots, res := rsets (rs g) σ.res ++ [.arr none esz (L g)] },
    inv := inv, μ := μ, pre := [.al t], ext := extS t }

/-- A loop that makes a list of values, in a block. -/
def lpV (keep : List Nat) (set : Int → List (Nat × V)) (c ty e esz : Nat) (L : Int → TL) (inv : Int → Prop) (m : Int) : LoopAnn :=
  { γ := Int, head := fun σ g => { σ with slots := hdS keep (set g) 0 σ.slots, res := rset σ.res c (.blk ty (.sa σ.res.length)) ++ [.arr (some e) esz (L g)] },
    inv := inv, μ := fun g => i2n (isub m g), pre := [.bv c e esz (TL.emp (L 0))], ext := extB c }

/-- A loop with a slice that is written out, in a slot. -/
def lpL (keep : List Nat) (set : Int → List (Nat × V)) (t e : Nat) (L : List Obj) (inv : Int → Prop) (m : Int) : LoopAnn :=
  { γ := Int, head := fun σ g => match sget σ.slots t with
      | .v x => match x with
        | .sc k _ _ => { σ with slots := hdS keep ((t, .sa σ.res.length) :: set g) 0 σ.slots, res := rset σ.res k .gone ++ [.arr (some e) 163 (.ob L)] }
        | _ => σ
      | _ => σ, inv := inv, μ := fun g => i2n (isub m g), pre := [.li t] }

/-- A slice that is written out, in a slot, is seen as a list from here. -/
def lpH (t : Nat) : LoopAnn := { γ := Unit, head := fun σ _ => σ, inv := fun _ => True, μ := fun _ => 0, pre := [.li t] }

/-- A loop that turns the block that a slot points to. -/
def lpP {γ : Type} (keep : List Nat) (set : γ → List (Nat × V)) (t : Nat) (R : γ → Res) (inv : γ → Prop) (μ : γ → Nat) : LoopAnn :=
  { γ := γ, head := fun σ g => match sget σ.slots t with
      | .v x => match x with
        | .lp k _ => { σ with slots := hdS keep (set g) 0 σ.slots, res := rset σ.res k (R g) }
        | _ => σ
      | _ => σ, inv := inv, μ := μ }

/-- The blocks that slots point to are turned. -/
def rsetP (sl : List S) : List (Nat × Res) → List Res → List Res
  | [], r => r
  | (t, x) :: l, r => match sget sl t with
    | .v y => match y with
      | .lp k _ => rsetP sl l (rset r k x)
      | _ => rsetP sl l r
    | _ => rsetP sl l r
mutual
/-- The places that a value names. -/
def plV : V → List Nat
  | .lp i _ => [i]
  | .lx i _ _ _ _ _ => [i]
  | .sc i _ _ => [i]
  | .so i _ => [i]
  | .ap i _ _ _ => [i]
  | .ax i _ _ _ _ _ _ _ => [i]
  | .sa i => [i]
  | .op i _ => [i]
  | .yl i => [i]
  | .bs x _ _ => plV x
  | .ks x _ _ _ _ => plV x
  | .fn _ l => plL l
  | .ic _ x => plV x
  | .ag l => plL l
  | .tp l => plL l
  | .ch _ _ l y => plL l ++ plV y
  | _ => []
def plL : List V → List Nat
  | [] => []
  | x :: l => plV x ++ plL l
end
def plR : Res → List Nat
  | .blk _ c => plV c
  | .ro r => match r with
    | .blk _ c => plV c
    | _ => []
  | _ => []
def plS : List S → List Nat
  | [] => []
  | x :: l => (match x with | .v y => plV y | _ => []) ++ plS l
def plD : List (Nat × List V × List V) → List Nat
  | [] => []
  | x :: l => plL x.2.1 ++ plL x.2.2 ++ plD l
/-- Those that are named by them, so many times. -/
def plN (res : List Res) : Nat → List Nat → List Nat
  | 0, l => l
  | n + 1, l => plN res n (l.foldr (fun i m => (plR (rget res i)).foldr (fun j k => if inL k j then k else j :: k) m) l)
/-- Blocks and maps that nothing kept names are forgotten. -/
def gcR (l : List Nat) : Nat → List Res → List Res
  | _, [] => []
  | i, x :: r => (match x with | .mp _ _ _ => .gone | .blk t c => if inL l i then .blk t c else .gone | .ro y => (match y with | .blk t c => if inL l i then .ro (.blk t c) else .gone | y => .ro y) | x => x) :: gcR l (i + 1) r
def gcS (σ : St) : St := { σ with res := gcR (plN σ.res 4 (plS σ.slots ++ plD σ.defs)) 0 σ.res }
/-- A place between two parts: some slots and places are kept, others turned. -/
def lpC {γ : Type} (keep : List Nat) (set : γ → List (Nat × V)) (bl : γ → List (Nat × Res)) (rs : γ → List (Nat × Res)) (inv : γ → Prop) : LoopAnn :=
  { γ := γ, head := fun σ g => gcS { σ with slots := hdS keep (set g) 0 σ.slots, res := rsets (rs g) (rsetP σ.slots (bl g) σ.res) }, inv := inv, μ := fun _ => 0 }

/-- A loop that makes a list of pointers to objects, in a block. -/
def lpB (keep : List Nat) (set : Int → List (Nat × V)) (c t e : Nat) (L : Int → List Obj) (inv : Int → Prop) (m : Int) : LoopAnn :=
  { γ := Int, head := fun σ g => { σ with slots := hdS keep (set g) 0 σ.slots, res := rset σ.res c (.blk t (.ag [.sa σ.res.length])) ++ [.obs e (σ.res.length + 1) (L g), .gen σ.res.length] },
    inv := inv, μ := fun g => i2n (isub m g), pre := [.bl c e], ext := extB c }
end Go.Sx
namespace Go.Proofs.Ytfalhknkaebfoaa
open Go.Sx
/-- The seat's configuration over contracts of both kinds. -/
noncomputable def cfh (l : List (Nat × Ct)) (hl : List (Nat × HCt)) (inl : Nat → Bool) (ann : Nat → Nat → Option LoopAnn) : Cfg := { P := Try.prog, Z := zeroOf, Γ := gamLook l, H0 := hLook hl, inl := inl, ann := ann, opn := opnOf inl }
theorem cfh_sound {l : List (Nat × Ct)} {hl : List (Nat × HCt)} {inl : Nat → Bool} {ann : Nat → Nat → Option LoopAnn} (h : ∀ p ∈ l, CtOK Try.prog p.1 p.2) : (cfh l hl inl ann).toCtx.Sound :=
  ⟨zok_of zeroOf_ok, Try.checked.mixed, fun f g hg => gamLook_spec h f g hg, fun f ts te h => by simp [cfh] at h⟩
/-- The obligation of a function. -/
abbrev vch (l : List (Nat × Ct)) (hl : List (Nat × HCt)) (inl : Nat → Bool) (ann : Nat → Nat → Option LoopAnn) (f : Nat) (args : List V) (res : List Res) (K KP : V → List Res → Prop) : Prop :=
  enter (cfh l hl inl ann).toCtx (exec (cfh l hl inl ann) 100 ⟨false, none⟩) (exec (cfh l hl inl ann) 100 ⟨false, none⟩ f) f args res K KP
set_option maxRecDepth 100000 in
theorem vch_call {l : List (Nat × Ct)} {hl : List (Nat × HCt)} {inl : Nat → Bool} {ann : Nat → Nat → Option LoopAnn} (h : ∀ p ∈ l, CtOK Try.prog p.1 p.2) (hh : ∀ p ∈ hl, HOK Try.prog p.1 p.2) {f : Nat} {args : List V} {res : List Res}
    {K KP : V → List Res → Prop} {G : Prop} (hG : G) (he : G = vch l hl inl ann f args res K KP) : CallTo Try.prog f args res K KP :=
  fn_spec (C := cfh l hl inl ann) (n := 100) (cfh_sound h) (hLook_ok hh) (Eq.mp he hG)
def dLook : List (Nat × Nat × Nat) → Nat → Option (Nat × Nat)
  | [], _ => none
  | (g, ts, te) :: l, f => if f == g then some (ts, te) else dLook l f
theorem dLook_ok {P : Program} : ∀ {l : List (Nat × Nat × Nat)}, (∀ p ∈ l, CatchOK P p.1 p.2.1 p.2.2) → ∀ f ts te, dLook l f = some (ts, te) → CatchOK P f ts te
  | [], _, f, ts, te, h => by simp [dLook] at h
  | (g, a, b) :: l, hl, f, ts, te, h => by
    simp only [dLook] at h
    split at h
    · rename_i e
      have e := beq_iff_eq.1 e
      simp only [Option.some.injEq, Prod.mk.injEq] at h
      obtain ⟨rfl, rfl⟩ := h
      subst e
      exact hl (f, a, b) (by simp)
    · exact dLook_ok (fun p hp => hl p (by simp [hp])) f ts te h
/-- The seat's configuration over contracts of both kinds, and functions that catch. -/
noncomputable def cfd (l : List (Nat × Ct)) (hl : List (Nat × HCt)) (dl : List (Nat × Nat × Nat)) (inl : Nat → Bool) (ann : Nat → Nat → Option LoopAnn) : Cfg := { P := Try.prog, Z := zeroOf, Γ := gamLook l, D := dLook dl, H0 := hLook hl, inl := inl, ann := ann, opn := opnOf inl }
abbrev vcd (l : List (Nat × Ct)) (hl : List (Nat × HCt)) (dl : List (Nat × Nat × Nat)) (inl : Nat → Bool) (ann : Nat → Nat → Option LoopAnn) (f : Nat) (args : List V) (res : List Res) (K KP : V → List Res → Prop) : Prop :=
  enter (cfd l hl dl inl ann).toCtx (exec (cfd l hl dl inl ann) 100 ⟨false, none⟩) (exec (cfd l hl dl inl ann) 100 ⟨false, none⟩ f) f args res K KP
set_option maxRecDepth 100000 in
theorem vcd_call {l : List (Nat × Ct)} {hl : List (Nat × HCt)} {dl : List (Nat × Nat × Nat)} {inl : Nat → Bool} {ann : Nat → Nat → Option LoopAnn} (h : ∀ p ∈ l, CtOK Try.prog p.1 p.2) (hh : ∀ p ∈ hl, HOK Try.prog p.1 p.2) (hd : ∀ p ∈ dl, CatchOK Try.prog p.1 p.2.1 p.2.2) {f : Nat} {args : List V} {res : List Res}
    {K KP : V → List Res → Prop} {G : Prop} (hG : G) (he : G = vcd l hl dl inl ann f args res K KP) : CallTo Try.prog f args res K KP :=
  fn_spec (C := cfd l hl dl inl ann) (n := 100) ⟨zok_of zeroOf_ok, Try.checked.mixed, fun f g hg => gamLook_spec h f g hg, dLook_ok hd⟩ (hLook_ok hh) (Eq.mp he hG)
end Go.Proofs.Ytfalhknkaebfoaa
/- The executor: functions that make places and give them. No condition. -/
set_option linter.unusedVariables false
set_option linter.unusedSimpArgs false
namespace Go.Sx
open Go.RowKit (Below)

def newL (κ : Nat → Option Nat) (r : List Res) : List Nat → Option (List Res)
  | [] => some []
  | p :: l => if knownB r p && ownR (rget r p) then match newL κ r l with
      | some m => some (renR κ (rget r p) :: m)
      | none => none
    else none

/-- A value over new places, named from a number on. -/
def NewAs (π : List Nat) (x : Nat → V) (new : Nat → List Res) (v : V) (r : List Res) : Prop :=
  ∀ nid, renO (idxOf π nid) v = some (x nid) ∧ newL (idxOf π nid) r π = some (new nid)

def mkNew (x : Nat → V) (new : Nat → List Res) : Ct := fun _ nid args => match args with
  | [] => some (none, x nid, new nid)
  | _ => none

def yfr : List Res → Bool
  | [] => true
  | r :: l => match r with
    | .yet => false
    | _ => yfr l

theorem yfr_spec : ∀ {l : List Res}, yfr l = true → ∀ k, k < l.length → rget l k ≠ .yet
  | [], _, k, hk => by simp at hk
  | r :: l, h, k, hk => by
    simp only [yfr] at h
    split at h
    · simp at h
    · rename_i hr
      cases k with
      | zero => exact hr
      | succ k => exact yfr_spec h k (by simpa using hk)

theorem newL_spec {κ : Nat → Option Nat} {r : List Res} : ∀ {π : List Nat} {new : List Res}, newL κ r π = some new → new.length = π.length ∧
    ∀ (k p : Nat), π[k]? = some p → known r p ∧ ownR (rget r p) = true ∧ rget new k = renR κ (rget r p)
  | [], new, h => by simp only [newL, Option.some.injEq] at h; subst h; exact ⟨rfl, fun k p h => by simp at h⟩
  | q :: π, new, h => by
    simp only [newL] at h
    split at h
    · rename_i hc
      simp only [Bool.and_eq_true] at hc
      split at h <;> simp only [Option.some.injEq, reduceCtorEq] at h
      rename_i m hm
      subst h
      obtain ⟨a, b⟩ := newL_spec hm
      refine ⟨by simp [a], fun k p hk => ?_⟩
      cases k with
      | zero => simp at hk; subst hk; exact ⟨knownB_iff.1 hc.1, hc.2, rfl⟩
      | succ k => exact b k p (by simpa using hk)
    · simp at h

theorem mkNew_ok {P : Program} {f : Nat} {π : List Nat} {x : Nat → V} {new : Nat → List Res} (hnd : π.Nodup) (hy : ∀ nid, yfr (new nid) = true) (h : CallTo P f [] [] (NewAs π x new) (fun _ _ => False)) : CtOK P f (mkNew x new) := by
  intro ρ fps res K w0 F0 w nid args q y new' hH hargs hg hq hfr
  unfold mkNew at hg
  split at hg <;> simp only [Option.some.injEq, Prod.mk.injEq, reduceCtorEq] at hg
  obtain ⟨_, rfl, rfl⟩ := hg
  have hE : HRep ρ (fun _ _ => False) [] (known []) w (fun _ => False) w :=
    ⟨fun i hi => hi, Nat.le_refl _, rfl, rfl, rfl, fun i hi => by simp [known, rget] at hi, fun i b hi => by simp [known, rget] at hi, fun i j b hi => by simp [known, rget] at hi, fun i b hi => by simp [known, rget] at hi, fun _ _ _ => rfl⟩
  have hc := h ρ _ w (fun _ => False) w hE trivial
  refine ⟨?_, ?_⟩
  · refine hc.mono fun e w' ⟨v, ρ1, fps1, r, g1, g2, g3, g4⟩ => ?_
    rcases g4 with ⟨rfl, hN⟩ | ⟨_, hF⟩
    · obtain ⟨n1, n2⟩ := hN nid
      obtain ⟨l1, l2⟩ := newL_spec n2
      refine ⟨_, rfl, ?_⟩
      let ρ' : Env := ⟨fun i => if i < nid then ρ.num i else if i < nid + π.length then ρ1.num (π.getD (i - nid) 0) else ρ.num i, fun i => if i < nid then ρ.cap i else if i < nid + π.length then ρ1.cap (π.getD (i - nid) 0) else ρ.cap i,
        fun i => if i < nid then ρ.adr i else if i < nid + π.length then ρ1.adr (π.getD (i - nid) 0) else ρ.adr i, fun i => if i < nid then ρ.sa i else if i < nid + π.length then ρ1.sa (π.getD (i - nid) 0) else ρ.sa i,
        fun i => if i < nid then ρ.sn i else if i < nid + π.length then ρ1.sn (π.getD (i - nid) 0) else ρ.sn i, fun i => if i < nid then ρ.ob i else if i < nid + π.length then ρ1.ob (π.getD (i - nid) 0) else ρ.ob i⟩
      have hvia : Env.via (idxOf π nid) ρ1 ρ' := by
        intro p i hp
        obtain ⟨a1, a2, a3⟩ := idxOf_spec hp
        have : π.getD (i - nid) 0 = p := by simp [List.getD_eq_getElem?_getD, a3]
        simp [ρ', if_neg (show ¬ i < nid by omega), if_pos a2, a3]
      have hat : ∀ k, k < (new nid).length → ∃ p, π[k]? = some p ∧ idxOf π nid p = some (nid + k) := fun k hk => by
        have hk' : k < π.length := by omega
        exact ⟨π[k], by simp [hk'], idxOf_of π nid k hnd (by simp [hk'])⟩
      have hNN : ∀ p i, idxOf π nid p = some i → known r p → K i ∨ fresh nid (new nid).length i := fun p i hp _ => by
        obtain ⟨a1, a2, a3⟩ := idxOf_spec hp
        exact .inr ⟨a1, by omega⟩
      refine ⟨ρ', ⟨⟨g1.os, g1.tape, g1.output, g1.old, fun b hb => g1.same b hb (by simp)⟩, fun i hi => ?_, fun k => fps1 (π.getD k 0), fun k hk => ?_, fun k l b hk hl hne => ?_⟩, ?_, ?_⟩
      · have : ¬ (nid ≤ i ∧ i < nid + π.length) := fun ⟨a, b⟩ => hi ⟨a, by omega⟩
        by_cases hlt : i < nid
        · simp [ρ', if_pos hlt]
        · simp [ρ', if_neg hlt, if_neg (show ¬ i < nid + π.length by omega)]
      · obtain ⟨p, p1, p2⟩ := hat k hk
        obtain ⟨m1, m2, m3⟩ := l2 k p p1
        have hgd : π.getD k 0 = p := by simp [List.getD_eq_getElem?_getD, p1]
        simp only [hgd]
        refine ⟨?_, fun b hb => ⟨?_, g1.lt p b m1 hb⟩⟩
        · rw [m3]
          exact renR_spec hvia hNN p2 _ _ _ (ownR_holds m2 (g1.holds p m1))
        · refine Nat.le_of_not_lt fun hlt => ?_
          exact g1.inF p b m1 hb hlt
      · obtain ⟨p, p1, p2⟩ := hat k hk
        obtain ⟨p', p1', p2'⟩ := hat l hl
        have hgd : π.getD k 0 = p := by simp [List.getD_eq_getElem?_getD, p1]
        have hgd' : π.getD l 0 = p' := by simp [List.getD_eq_getElem?_getD, p1']
        simp only [hgd, hgd']
        have hpp : p ≠ p' := by
          rintro rfl
          rw [p2] at p2'
          simp at p2'
          omega
        exact g1.disj p p' b (l2 k p p1).1 (l2 l p' p1').1 hpp
      · exact (renO_spec hvia hNN _ _ n1).1.symm
      · exact (renO_spec hvia hNN _ _ n1).2.1 g3
    · exact hF.elim
  · intro k hk
    exact yfr_spec (hy nid) k hk
end Go.Sx
/- Contracts of functions that read places: their arguments, put together. No condition. -/
set_option linter.unusedVariables false
set_option linter.unusedSimpArgs false
namespace Go.Sx
open Go.RowKit (Below)

/-- How an argument is read: its places, what it says; what it is, with its places from a number on. -/
structure Arg (α : Type) where
  rd : List Res → V → Option (List (Nat × Res) × α)
  cn : α → Nat → V
  pl : α → List Res
structure ArgL (α : Type) where
  rd : List Res → List V → Option (List (Nat × Res) × α)
  cn : α → Nat → List V
  pl : α → List Res

def ArgOK {α : Type} (A : Arg α) : Prop := ∀ res v pls a, A.rd res v = some (pls, a) → pls.map (·.2) = A.pl a ∧ (∀ p ∈ pls, Sees res p.1 p.2 ∧ closedR p.2 = true) ∧ isTp (A.cn a 0) = isTp v ∧ (∀ n, isTp (A.cn a n) = isTp (A.cn a 0)) ∧
  ∀ (pre post : List (Nat × Res)), (∀ ρ K, ok K v → den (ρ.pull (fstR (pre ++ (pls ++ post)))) (A.cn a pre.length) = den ρ v) ∧ ∀ K, ok K v → ok (known (ros (pre ++ (pls ++ post)))) (A.cn a pre.length)
def ArgLOK {α : Type} (A : ArgL α) : Prop := ∀ res l pls a, A.rd res l = some (pls, a) → pls.map (·.2) = A.pl a ∧ (∀ p ∈ pls, Sees res p.1 p.2 ∧ closedR p.2 = true) ∧ (okC l → ∀ n, okC (A.cn a n)) ∧
  ∀ (pre post : List (Nat × Res)), (∀ ρ K, okL K l → denL (ρ.pull (fstR (pre ++ (pls ++ post)))) (A.cn a pre.length) = denL ρ l ∧ cellsL (ρ.pull (fstR (pre ++ (pls ++ post)))) (A.cn a pre.length) = cellsL ρ l) ∧ ∀ K, okL K l → okL (known (ros (pre ++ (pls ++ post)))) (A.cn a pre.length)

def nilA : ArgL Unit := ⟨fun _ l => match l with | [] => some ([], ()) | _ => none, fun _ _ => [], fun _ => []⟩
def consA {α β : Type} (A : Arg α) (B : ArgL β) : ArgL (α × β) :=
  ⟨fun res l => match l with
    | v :: l => match A.rd res v with
      | some (p, a) => match B.rd res l with
        | some (q, b) => some (p ++ q, (a, b))
        | none => none
      | none => none
    | [] => none, fun x n => A.cn x.1 n :: B.cn x.2 (n + (A.pl x.1).length), fun x => A.pl x.1 ++ B.pl x.2⟩
/-- A value. -/
def valA {α : Type} (r : V → Option α) (m : α → V) : Arg α := ⟨fun _ v => match r v with | some x => some ([], x) | none => none, fun x _ => m x, fun _ => []⟩
/-- A pointer to a store. -/
def stA (t e : Nat) : Arg (Option (List Obj)) :=
  ⟨fun res v => match rS t e res v with
    | some (o, L) => match o with
      | none => some ([], none)
      | some k => some ([(k, .store t e L)], some L)
    | none => none, fun o n => match o with | none => nilp | some _ => .lp n 0, fun o => match o with | none => [] | some L => [.store t e L]⟩
/-- A list of objects. -/
def liA : Arg (List Obj) :=
  ⟨fun res v => match rA res v with
    | some (k, L) => some ([(k, .arr none 163 (.ob L))], L)
    | none => none, fun _ n => .sa n, fun L => [.arr none 163 (.ob L)]⟩
/-- A list of values. -/
def laA {α : Type} (esz : Nat) (r : TL → Option α) (m : α → TL) : Arg α :=
  ⟨fun res v => match v with
    | .sa k => match rlook res k with
      | .arr _ e l => if e == esz then match r l with
        | some x => some ([(k, .arr none esz (m x))], x)
        | none => none
        else none
      | _ => none
    | _ => none, fun _ n => .sa n, fun x => [.arr none esz (m x)]⟩
/-- A struct. -/
def agA {α : Type} (B : ArgL α) : Arg α :=
  ⟨fun res v => match v with
    | .ag l => B.rd res l
    | _ => none, fun x n => .ag (B.cn x n), B.pl⟩

theorem pull_fst {pre pls post : List (Nat × Res)} {k : Nat} {r : Res} : fstR (pre ++ ((k, r) :: pls ++ post)) pre.length = k := fstR_get _ _ (k, r) (by simp)
theorem ros_known {pre pls post : List (Nat × Res)} {k : Nat} {r : Res} : known (ros (pre ++ ((k, r) :: pls ++ post))) pre.length := by
  unfold known
  rw [ros_get]
  simp

theorem nilA_ok : ArgLOK nilA := by
  intro res l pls a h
  simp only [nilA] at h
  split at h <;> simp only [Option.some.injEq, Prod.mk.injEq, reduceCtorEq] at h
  obtain ⟨rfl, _⟩ := h
  exact ⟨rfl, by simp, fun _ _ => trivial, fun pre post => ⟨fun _ _ _ => ⟨rfl, rfl⟩, fun _ _ => trivial⟩⟩

theorem consA_ok {α β : Type} {A : Arg α} {B : ArgL β} (hA : ArgOK A) (hB : ArgLOK B) : ArgLOK (consA A B) := by
  intro res l pls x h
  simp only [consA] at h
  split at h
  case h_2 => simp at h
  rename_i v l
  split at h
  case h_2 => simp at h
  rename_i p a ha
  split at h
  case h_2 => simp at h
  rename_i q b hb
  simp only [Option.some.injEq, Prod.mk.injEq] at h
  obtain ⟨rfl, rfl⟩ := h
  obtain ⟨a1, a2, a3, a3', a4⟩ := hA _ _ _ _ ha
  obtain ⟨b1, b2, b3, b4⟩ := hB _ _ _ _ hb
  refine ⟨by simp [consA, a1, b1], fun p' hp' => ?_, fun hc n => ?_, fun pre post => ?_⟩
  · rcases List.mem_append.1 hp' with hp' | hp'
    · exact a2 p' hp'
    · exact b2 p' hp'
  · rw [okC_iff] at hc ⊢
    intro z hz
    simp only [consA] at hz
    rcases List.mem_cons.1 hz with rfl | hz
    · rw [a3', a3]; exact hc v (by simp)
    · exact (okC_iff _).1 (b3 ((okC_iff _).2 fun y hy => hc y (by simp [hy])) _) z hz
  · have hlen : (A.pl a).length = p.length := by rw [← a1]; simp
    obtain ⟨c1, c2⟩ := a4 pre (q ++ post)
    obtain ⟨d1, d2⟩ := b4 (pre ++ p) post
    have e1 : pre ++ (p ++ q ++ post) = pre ++ (p ++ (q ++ post)) := by simp
    have e2 : (pre ++ p) ++ (q ++ post) = pre ++ (p ++ (q ++ post)) := by simp
    have e3 : (pre ++ p).length = pre.length + (A.pl a).length := by simp [hlen]
    rw [e2, e3] at d1 d2
    rw [e1]
    refine ⟨fun ρ K hK => ?_, fun K hK => ?_⟩
    · obtain ⟨f1, f2⟩ := d1 ρ K hK.2
      have f3 := c1 ρ K hK.1
      simp only [consA]
      exact ⟨by simp only [denL]; rw [f3, f1], by simp only [cellsL]; rw [f3, f2]⟩
    · exact ⟨c2 K hK.1, d2 K hK.2⟩

theorem valA_ok {α : Type} {r : V → Option α} {m : α → V} (hr : RdOK r m) (hid : ∀ x, idf (m x) = true) (ht : ∀ v x, r v = some x → isTp v = isTp (m x)) : ArgOK (valA r m) := by
  intro res v pls a h
  simp only [valA] at h
  split at h <;> simp only [Option.some.injEq, Prod.mk.injEq, reduceCtorEq] at h
  rename_i x hx
  obtain ⟨rfl, rfl⟩ := h
  obtain ⟨b1, b2⟩ := hr _ x hx
  refine ⟨rfl, by simp, (ht v x hx).symm, fun _ => rfl, fun pre post => ⟨fun ρ K hK => ?_, fun K hK => ok_empty (b2 K hK)⟩⟩
  show den _ (m x) = _
  rw [b1 ρ]
  exact idf_den (hid x) (b2 K hK) ρ _

theorem stA_ok (t e : Nat) : ArgOK (stA t e) := by
  intro res v pls a h
  simp only [stA] at h
  split at h
  case h_2 => simp at h
  rename_i o L hs
  rcases rS_spec hs with ⟨rfl, rfl, rfl⟩ | ⟨k, rfl, rfl, hse⟩ <;> simp only [Option.some.injEq, Prod.mk.injEq] at h <;> obtain ⟨rfl, rfl⟩ := h
  · exact ⟨rfl, by simp, rfl, fun _ => rfl, fun pre post => ⟨fun _ _ _ => rfl, fun _ _ => rfl⟩⟩
  · refine ⟨rfl, by simpa using ⟨hse, rfl⟩, rfl, fun _ => rfl, fun pre post => ⟨fun ρ K hK => ?_, fun K hK => ros_known (pls := [])⟩⟩
    simp only [stA, den, Env.pull]
    rw [pull_fst (pls := [])]

theorem liA_ok : ArgOK liA := by
  intro res v pls a h
  simp only [liA] at h
  split at h <;> simp only [Option.some.injEq, Prod.mk.injEq, reduceCtorEq] at h
  rename_i k L hs
  obtain ⟨rfl, rfl⟩ := h
  obtain ⟨rfl, hse, _⟩ := rA_spec hs
  refine ⟨rfl, by simpa using ⟨hse, rfl⟩, rfl, fun _ => rfl, fun pre post => ⟨fun ρ K hK => ?_, fun K hK => ros_known (pls := [])⟩⟩
  simp only [liA, den, Env.pull]
  rw [pull_fst (pls := [])]

theorem laA_ok {α : Type} {esz : Nat} {r : TL → Option α} {m : α → TL} (hr : ∀ l x, r l = some x → l = m x) : ArgOK (laA esz r m) := by
  intro res v pls a h
  simp only [laA] at h
  split at h
  case h_2 => simp at h
  rename_i k
  split at h
  case h_2 => simp at h
  rename_i own e l hl
  split at h
  case isFalse => simp at h
  rename_i he
  have he := beq_iff_eq.1 he
  subst he
  split at h <;> simp only [Option.some.injEq, Prod.mk.injEq, reduceCtorEq] at h
  rename_i x hx
  obtain ⟨rfl, rfl⟩ := h
  have := hr _ _ hx
  subst this
  refine ⟨rfl, by simpa using ⟨Sees.arr hl, rfl⟩, rfl, fun _ => rfl, fun pre post => ⟨fun ρ K hK => ?_, fun K hK => ros_known (pls := [])⟩⟩
  simp only [laA, den, Env.pull]
  rw [pull_fst (pls := [])]

theorem agA_ok {α : Type} {B : ArgL α} (hB : ArgLOK B) : ArgOK (agA B) := by
  intro res v pls a h
  simp only [agA] at h
  split at h
  case h_2 => simp at h
  rename_i l
  obtain ⟨b1, b2, b3, b4⟩ := hB _ _ _ _ h
  refine ⟨b1, b2, rfl, fun _ => rfl, fun pre post => ?_⟩
  obtain ⟨c1, c2⟩ := b4 pre post
  refine ⟨fun ρ K hK => ?_, fun K hK => ⟨c2 K hK.1, b3 hK.2 _⟩⟩
  simp only [agA, den]
  rw [(c1 ρ K hK.1).2]

/-- A function that reads what its arguments say, and gives a value. -/
def mkR {α : Type} (B : ArgL α) (Q : α → Option Prop) (F : α → V) : Ct := fun res _ xs => match B.rd res xs with
  | some (_, a) => some (Q a, F a, [])
  | none => none
def rosOf (l : List Res) : List Res := l.map .ro
theorem ros_of (pls : List (Nat × Res)) : ros pls = rosOf (pls.map (·.2)) := by
  induction pls with
  | nil => rfl
  | cons p l ih => obtain ⟨p, r⟩ := p; simp [ros, rosOf, ih]

theorem mkR_ok {P : Program} {f : Nat} {α : Type} {B : ArgL α} {Q : α → Option Prop} {F : α → V} (hB : ArgLOK B) (hF : ∀ a, idf (F a) = true)
    (h : ∀ a, holdsO (Q a) → okL (known (rosOf (B.pl a))) (B.cn a 0) → CallTo P f (B.cn a 0) (rosOf (B.pl a)) (isV (F a)) (fun _ _ => False)) : CtOK P f (mkR B Q F) := by
  refine ct_read fun res nid args q x new hg => ?_
  unfold mkR at hg
  split at hg <;> simp only [Option.some.injEq, Prod.mk.injEq, reduceCtorEq] at hg
  rename_i pls a ha
  obtain ⟨rfl, rfl, rfl⟩ := hg
  obtain ⟨b1, b2, _, b4⟩ := hB _ _ _ _ ha
  obtain ⟨c1, c2⟩ := b4 [] []
  simp only [List.nil_append, List.append_nil, List.length_nil] at c1 c2
  refine ⟨rfl, hF a, pls, B.cn a 0, b2, fun ρ K hK => (c1 ρ K hK).1, c2, fun hq hok => ?_⟩
  rw [ros_of, b1] at hok ⊢
  exact (h a hq hok).mono (fun _ _ => isV_isE) fun _ _ h => h

/-- A function that reads what its arguments say, and makes places. -/
def mkRN {α : Type} (B : ArgL α) (Q : α → Option Prop) (x : α → Nat → V) (new : α → Nat → List Res) : Ct := fun res nid xs => match B.rd res xs with
  | some (_, a) => some (Q a, x a nid, new a nid)
  | none => none
theorem ros_rep {ρ : Env} {fps : Nat → Nat → Prop} {res : List Res} {K : Nat → Prop} {w0 w : World} {F0 : Nat → Prop} (hH : HRep ρ fps res K w0 F0 w) {pls : List (Nat × Res)} (hcl : ∀ p ∈ pls, Sees res p.1 p.2 ∧ closedR p.2 = true) :
    HRep (ρ.pull (fstR pls)) (fun _ _ => False) (ros pls) (known (ros pls)) w (fun _ => False) w := by
  have hfr : ∀ b, b < w0.heap.size → ¬ F0 b → w.heap[b]? = w0.heap[b]? ∧ ¬ (fun _ : Nat => False) b := fun b hb hF => ⟨hH.same b hb hF, fun h => h⟩
  refine ⟨fun i hi => hi, Nat.le_refl _, rfl, rfl, rfl, fun i hi => ?_, fun i b hi h => h.elim, fun i j b hi hj hne h => h.elim, fun i b hi h => h.elim, fun _ _ _ => rfl⟩
  have hlt := rget_lt hi
  rw [ros_length] at hlt
  have hp : pls[i]? = some pls[i] := List.getElem?_eq_getElem hlt
  generalize pls[i] = p at hp
  rw [ros_get, hp]
  simp only
  obtain ⟨hs, hcl⟩ := hcl p (List.mem_of_getElem? hp)
  obtain ⟨fp, g1, g2⟩ := hs.2 ρ fps K w0 F0 w hH
  have hv : Env.via (fun x => if x = p.1 then some i else none) ρ (ρ.pull (fstR pls)) := pull_via fun x j hx => by
    split at hx
    · simp only [Option.some.injEq] at hx; subst hx; rename_i e; subst e
      exact fstR_get pls i p hp
    · simp at hx
  have := renR_spec (N' := known (ros pls)) hv (fun x j hx _ => by
    split at hx
    · simp only [Option.some.injEq] at hx; subst hx; exact hi
    · simp at hx) (p := p.1) (i := i) (by simp) _ _ _ (Res.rebase hH.old hfr _ _ g1)
  rw [closedR_renR hcl] at this
  refine ⟨fp, this, fun b hb => ⟨?_, fun h => h⟩⟩
  rcases g2 b hb with ⟨j, hj, hf⟩ | ⟨hl, _⟩
  · exact hH.lt j b hj hf
  · exact Nat.lt_of_lt_of_le hl hH.old

/-- What is behind a call that makes places, named from a number on. -/
theorem made_gives {ρ ρ1 : Env} {K : Nat → Prop} {fps1 : Nat → Nat → Prop} {r : List Res} {w0 w w' : World} {F0 : Nat → Prop} {nid : Nat} {π : List Nat} {x : Nat → V} {new : Nat → List Res} {v : V} (hnd : π.Nodup)
    (g1 : HRep ρ1 fps1 r (known r) w (fun _ => False) w') (g3 : ok (known r) v) (hN : NewAs π x new v r) : Gives K ρ nid (x nid) (new nid) w0 F0 w (den ρ1 v) w' := by
  obtain ⟨n1, n2⟩ := hN nid
  obtain ⟨l1, l2⟩ := newL_spec n2
  let ρ' : Env := ⟨fun i => if i < nid then ρ.num i else if i < nid + π.length then ρ1.num (π.getD (i - nid) 0) else ρ.num i, fun i => if i < nid then ρ.cap i else if i < nid + π.length then ρ1.cap (π.getD (i - nid) 0) else ρ.cap i,
    fun i => if i < nid then ρ.adr i else if i < nid + π.length then ρ1.adr (π.getD (i - nid) 0) else ρ.adr i, fun i => if i < nid then ρ.sa i else if i < nid + π.length then ρ1.sa (π.getD (i - nid) 0) else ρ.sa i,
    fun i => if i < nid then ρ.sn i else if i < nid + π.length then ρ1.sn (π.getD (i - nid) 0) else ρ.sn i, fun i => if i < nid then ρ.ob i else if i < nid + π.length then ρ1.ob (π.getD (i - nid) 0) else ρ.ob i⟩
  have hvia : Env.via (idxOf π nid) ρ1 ρ' := by
    intro p i hp
    obtain ⟨a1, a2, a3⟩ := idxOf_spec hp
    simp [ρ', if_neg (show ¬ i < nid by omega), if_pos a2, a3]
  have hat : ∀ k, k < (new nid).length → ∃ p, π[k]? = some p ∧ idxOf π nid p = some (nid + k) := fun k hk => by
    have hk' : k < π.length := by omega
    exact ⟨π[k], by simp [hk'], idxOf_of π nid k hnd (by simp [hk'])⟩
  have hNN : ∀ p i, idxOf π nid p = some i → known r p → K i ∨ fresh nid (new nid).length i := fun p i hp _ => by
    obtain ⟨a1, a2, a3⟩ := idxOf_spec hp
    exact .inr ⟨a1, by omega⟩
  refine ⟨ρ', ⟨⟨g1.os, g1.tape, g1.output, g1.old, fun b hb => g1.same b hb (by simp)⟩, fun i hi => ?_, fun k => fps1 (π.getD k 0), fun k hk => ?_, fun k l b hk hl hne => ?_⟩, ?_, ?_⟩
  · have : ¬ (nid ≤ i ∧ i < nid + π.length) := fun ⟨a, b⟩ => hi ⟨a, by omega⟩
    by_cases hlt : i < nid
    · simp [ρ', if_pos hlt]
    · simp [ρ', if_neg hlt, if_neg (show ¬ i < nid + π.length by omega)]
  · obtain ⟨p, p1, p2⟩ := hat k hk
    obtain ⟨m1, m2, m3⟩ := l2 k p p1
    have hgd : π.getD k 0 = p := by simp [List.getD_eq_getElem?_getD, p1]
    simp only [hgd]
    refine ⟨?_, fun b hb => ⟨?_, g1.lt p b m1 hb⟩⟩
    · rw [m3]
      exact renR_spec hvia hNN p2 _ _ _ (ownR_holds m2 (g1.holds p m1))
    · refine Nat.le_of_not_lt fun hlt => ?_
      exact g1.inF p b m1 hb hlt
  · obtain ⟨p, p1, p2⟩ := hat k hk
    obtain ⟨p', p1', p2'⟩ := hat l hl
    have hgd : π.getD k 0 = p := by simp [List.getD_eq_getElem?_getD, p1]
    have hgd' : π.getD l 0 = p' := by simp [List.getD_eq_getElem?_getD, p1']
    simp only [hgd, hgd']
    have hpp : p ≠ p' := by
      rintro rfl
      rw [p2] at p2'
      simp at p2'
      omega
    exact g1.disj p p' b (l2 k p p1).1 (l2 l p' p1').1 hpp
  · exact (renO_spec hvia hNN _ _ n1).1.symm
  · exact (renO_spec hvia hNN _ _ n1).2.1 g3

theorem mkRN_ok {P : Program} {f : Nat} {α : Type} {B : ArgL α} {Q : α → Option Prop} {x : α → Nat → V} {new : α → Nat → List Res} {π : α → List Nat} (hB : ArgLOK B) (hnd : ∀ a, (π a).Nodup) (hy : ∀ a nid, yfr (new a nid) = true)
    (h : ∀ a, holdsO (Q a) → okL (known (rosOf (B.pl a))) (B.cn a 0) → CallTo P f (B.cn a 0) (rosOf (B.pl a)) (fun v r => NewAs (π a) (x a) (new a) v r) (fun _ _ => False)) : CtOK P f (mkRN B Q x new) := by
  intro ρ fps res K w0 F0 w nid args q y new' hH hargs hg hq hfr
  unfold mkRN at hg
  split at hg <;> simp only [Option.some.injEq, Prod.mk.injEq, reduceCtorEq] at hg
  rename_i pls a ha
  obtain ⟨rfl, rfl, rfl⟩ := hg
  obtain ⟨b1, b2, _, b4⟩ := hB _ _ _ _ ha
  obtain ⟨c1, c2⟩ := b4 [] []
  simp only [List.nil_append, List.append_nil, List.length_nil] at c1 c2
  refine ⟨?_, fun k hk => yfr_spec (hy a nid) k hk⟩
  have hrep := ros_rep hH b2
  have hok := c2 K hargs
  rw [← (c1 ρ K hargs).1]
  have hro : ros pls = rosOf (B.pl a) := by rw [ros_of, b1]
  rw [hro] at hrep hok
  refine (h a hq hok _ _ _ _ _ hrep hok).mono fun e w' ⟨v, ρ1, fps1, r, g1, g2, g3, g4⟩ => ?_
  rcases g4 with ⟨rfl, hN⟩ | ⟨_, hF⟩
  · exact ⟨_, rfl, made_gives (hnd a) g1 g3 hN⟩
  · exact hF.elim
/-- What gives is a call. -/
theorem CallTo.ofGives {P : Program} {f : Nat} {args : List V} {res : List Res} {x : V} {new : List Res} {K KP : V → List Res → Prop} (hy : ∀ k, k < new.length → rget new k ≠ .yet)
    (h : ∀ ρ fps w0 F0 w, HRep ρ fps res (known res) w0 F0 w → okL (known res) args → CallsIn (FF P none) 0 P f (denL ρ args).toArray w fun e w' => ∃ v, e = .returned v ∧ Gives (known res) ρ res.length x new w0 F0 w v w') (hK : K x (res ++ new)) : CallTo P f args res K KP := by
  intro ρ fps w0 F0 w hH hargs
  refine (h ρ fps w0 F0 w hH hargs).mono fun e w' ⟨v, he, ρ', hg, hv, hx⟩ => ?_
  have hfr' : ∀ i, known res i → ¬ fresh res.length new.length i := fun i hi hf => by have := rget_lt hi; unfold fresh at hf; omega
  have hK' : ∀ i, known res i ∨ fresh res.length new.length i → known (res ++ new) i := by
    intro i hi
    obtain ⟨b1, b2, b3⟩ := adds_append res new
    rcases hi with hi | ⟨f1, f2⟩
    · unfold known; rw [(b1 i hi).1]; exact hi
    · have := b3 (i - res.length) (by omega)
      rw [show res.length + (i - res.length) = i by omega] at this
      unfold known; rw [this]; exact hy _ (by omega)
  obtain ⟨fps', g1, g2⟩ := hH.grow (res' := res ++ new) (adds_append _ _) hfr' hK' hg
  exact ⟨x, ρ', fps', res ++ new, g1, ⟨g2, fun i hi => hK' i (.inl hi)⟩, ok_mono hK' _ hx, .inl ⟨by rw [he, hv], hK⟩⟩

/-- A function that reads, and makes one place or none. -/
def hMk {α : Type} (B : ArgL α) (Q : α → Prop) (c : α → Bool) (F0 : α → V) (F1 : α → Nat → V) (new : α → Res) : HCt := fun args res K =>
  match B.rd res args with
  | some (_, a) => Q a ∧ (c a = false → K (F0 a) res) ∧ (c a = true → K (F1 a res.length) (res ++ [new a]))
  | none => False
def kMk1 (c : Bool) (x0 : V) (F1 : Nat → V) (new : Res) (p : Option Nat) (v : V) (r : List Res) : Prop :=
  match p with
  | some p => c = true ∧ NewAs [p] F1 (fun _ => [new]) v r
  | none => c = false ∧ isV x0 v r
/-- Which place a result names first. -/
def fstP (v : V) : Option Nat :=
  match v with
  | .sa p => some p
  | .lp p _ => some p
  | .tp l => match l with
    | x :: _ => match x with
      | .sa p => some p
      | .lp p _ => some p
      | _ => none
    | [] => none
  | _ => none
def kMkV (c : Bool) (x0 : V) (F1 : Nat → V) (new : Res) (v : V) (r : List Res) : Prop := kMk1 c x0 F1 new (fstP v) v r

theorem hMk_ok {P : Program} {f : Nat} {α : Type} {B : ArgL α} {Q : α → Prop} {c : α → Bool} {F0 : α → V} {F1 : α → Nat → V} {new : α → Res} (hB : ArgLOK B) (hF : ∀ a, idf (F0 a) = true) (hn : ∀ a, new a ≠ .yet)
    (h : ∀ a, Q a → okL (known (rosOf (B.pl a))) (B.cn a 0) → CallTo P f (B.cn a 0) (rosOf (B.pl a)) (kMkV (c a) (F0 a) (F1 a) (new a)) (fun _ _ => False)) : HOK P f (hMk B Q c F0 F1 new) := by
  intro args res K KP hh
  unfold hMk at hh
  split at hh
  case h_2 => exact hh.elim
  rename_i pls a ha
  obtain ⟨hQ, h0, h1⟩ := hh
  obtain ⟨b1, b2, _, b4⟩ := hB _ _ _ _ ha
  obtain ⟨c1, c2⟩ := b4 [] []
  simp only [List.nil_append, List.append_nil, List.length_nil] at c1 c2
  have hro : ros pls = rosOf (B.pl a) := by rw [ros_of, b1]
  have main : ∀ ρ fps w0 F0' w, HRep ρ fps res (known res) w0 F0' w → okL (known res) args → CallsIn (FF P none) 0 P f (denL ρ args).toArray w fun e w' => ∃ v ρ1 fps1 r, e = .returned (den ρ1 v) ∧ HRep ρ1 fps1 r (known r) w (fun _ => False) w' ∧ ok (known r) v ∧ kMkV (c a) (F0 a) (F1 a) (new a) v r := by
    intro ρ fps w0 F0' w hH hargs
    have hrep := ros_rep hH b2
    have hok := c2 _ hargs
    rw [hro] at hrep hok
    rw [← (c1 ρ _ hargs).1]
    refine (h a hQ hok _ _ _ _ _ hrep hok).mono fun e w' ⟨v, ρ1, fps1, r, g1, g2, g3, g4⟩ => ?_
    rcases g4 with ⟨rfl, hN⟩ | ⟨_, hF⟩
    · exact ⟨v, ρ1, fps1, r, rfl, g1, g3, hN⟩
    · exact hF.elim
  cases hc : c a with
  | true =>
    refine CallTo.ofGives (x := F1 a res.length) (new := [new a]) (fun k hk => by simp at hk; subst hk; exact hn a) (fun ρ fps w0 F0' w hH hargs => ?_) (h1 hc)
    refine (main ρ fps w0 F0' w hH hargs).mono fun e w' ⟨v, ρ1, fps1, r, he, g1, g3, hv⟩ => ?_
    unfold kMkV kMk1 at hv
    split at hv
    · exact ⟨_, he, made_gives (new := fun _ => [new a]) (by simp) g1 g3 hv.2⟩
    · rw [hc] at hv; simp at hv
  | false =>
    have h0' := h0 hc
    rw [← List.append_nil res] at h0'
    refine CallTo.ofGives (x := F0 a) (new := []) (fun k hk => by simp at hk) (fun ρ fps w0 F0' w hH hargs => ?_) h0'
    refine (main ρ fps w0 F0' w hH hargs).mono fun e w' ⟨v, ρ1, fps1, r, he, g1, g3, hv⟩ => ?_
    unfold kMkV kMk1 at hv
    split at hv
    · rw [hc] at hv; simp at hv
    · refine ⟨_, he, ρ, ⟨⟨g1.os, g1.tape, g1.output, g1.old, fun b hb => g1.same b hb (fun h => h)⟩, Env.agree.refl _ _, fun _ _ => False, fun k hk => by simp at hk, fun k l b hk => by simp at hk⟩, ?_, ?_⟩
      · obtain ⟨e1, e2, _⟩ := isV_isE hv.2 ρ1 (known r)
        rw [e1]
        exact idf_den (hF a) (e2 g3) ρ ρ1
      · obtain ⟨e1, e2, _⟩ := isV_isE hv.2 ρ1 (known r)
        exact idf_ok _ (hF a) (e2 g3)
end Go.Sx
/- Contracts: slices that are written out, seen as lists; a store and a list at once. No condition. -/
set_option linter.unusedVariables false
set_option linter.unusedSimpArgs false
namespace Go.Sx
open Go.RowKit (Below)

theorem CallTo.scArg {P : Program} {f : Nat} {rest : List V} {res : List Res} {K KP : V → List Res → Prop} {k n e : Nat} {x : V} {L : List Obj} (hr : rget res k = .blk e x) (hl : obsX x = some L) (hn : n = L.length) (hs : n ≤ 1000)
    (h : CallTo P f (.sa res.length :: rest) (rset res k .gone ++ [.arr (some e) 163 (.ob L)]) K KP) : CallTo P f (.sc k n n :: rest) res K KP := by
  intro ρ fps w0 F0 w hH hargs
  have hk : known res k := by unfold known; rw [hr]; simp
  have hnk : ¬ known res res.length := fun hk => by have := rget_lt hk; omega
  have hag := setSlO_agree (N := known res) ρ (i := res.length) (a := some ⟨ρ.num k, 0, none⟩) (n := n) (cap := n) hnk
  obtain ⟨fps', g1, g2, g3, g4⟩ := lit_hrep hH hr hl hn hs
  have hargs' : okL (known (goneL [k] res ++ [.arr (some e) 163 (.ob L)])) (.sa res.length :: rest) := ⟨g4, okL_mono g3 _ hargs.2⟩
  have hd : denL (ρ.setSlO res.length (some ⟨ρ.num k, 0, none⟩) n n) (.sa res.length :: rest) = denL ρ (.sc k n n :: rest) := by
    simp only [denL, denL_agree hag rest hargs.2]
    simp [den, Env.setSlO]
  have := h _ fps' w0 F0 w g1 hargs'
  rw [hd] at this
  refine this.mono fun en w' ⟨x, ρ'', fps'', res'', a1, a2, a3, a4⟩ => ⟨x, ρ'', fps'', res'', a1, ⟨g2.trans (a2.1.mono fun i hi => g3 i hi) (fun _ h => h), fun i hi => a2.2 i (g3 i hi)⟩, a3, a4⟩

/-- A contract whose first argument may be a slice that is written out. -/
def hLit (h : HCt) : HCt := fun args res K =>
  match args with
  | a :: rest => match a with
    | .sc k n c => match rget res k with
      | .blk e x => match obsX x with
          | some L => if n == L.length && c == n && Nat.ble n 1000 then h (.sa res.length :: rest) (rset res k .gone ++ [.arr (some e) 163 (.ob L)]) K else False
          | none => False
      | _ => False
    | a => h (a :: rest) res K
  | [] => h [] res K

theorem hLit_ok {P : Program} {f : Nat} {h : HCt} (hh : HOK P f h) : HOK P f (hLit h) := by
  intro args res K KP hc
  unfold hLit at hc
  split at hc
  · split at hc
    · split at hc
      case h_2 => exact hc.elim
      rename_i e x hr
      split at hc
      case h_2 => exact hc.elim
      rename_i L hL
      split at hc
      case isFalse => exact hc.elim
      rename_i hb
      simp only [Bool.and_eq_true, beq_iff_eq, Nat.ble_eq] at hb
      obtain ⟨⟨h1, rfl⟩, h2⟩ := hb
      exact CallTo.scArg hr hL h1 h2 (hh _ _ _ _ hc)
    · exact hh _ _ _ _ hc
  · exact hh _ _ _ _ hc
end Go.Sx
