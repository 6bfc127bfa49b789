/- Contracts: how what a function gives becomes an entry that callers use. No condition. -/
import Derived.Test.YtjpcaplhblomcaaCfg
set_option linter.unusedVariables false
set_option linter.unusedSimpArgs false
namespace Go.Sx
open Go.RowKit (Below)

abbrev Ct := List Res → Nat → List V → RR

/-- A contract is so. -/
def CtOK (P : Program) (f : Nat) (g : Ct) : Prop :=
  ∀ ρ fps res K w0 F0 w nid args q x new, HRep ρ fps res K w0 F0 w → okL K args → g res nid args = some (q, x, new) → holdsO q →
    (∀ k, k < new.length → ¬ K (nid + k)) →
    (Calls P f (denL ρ args).toArray w fun e w' => ∃ v, e = .returned v ∧ Gives K ρ nid x new w0 F0 w v w') ∧ ∀ k, k < new.length → rget new k ≠ .yet

def gamLook : List (Nat × Ct) → Nat → Option Ct
  | [], _ => none
  | (g, c) :: l, f => if f == g then some c else gamLook l f

theorem gamLook_spec {P : Program} : ∀ {l : List (Nat × Ct)}, (∀ p ∈ l, CtOK P p.1 p.2) → ∀ f g, gamLook l f = some g → CtOK P f g
  | [], _, f, g, h => by simp [gamLook] at h
  | (k, c) :: l, hl, f, g, h => by
    simp only [gamLook] at h
    split at h
    · rename_i e
      have e := beq_iff_eq.1 e
      simp only [Option.some.injEq] at h
      subst h; subst e
      exact hl (f, c) (by simp)
    · exact gamLook_spec (fun p hp => hl p (by simp [hp])) f g h

mutual
/-- Does a value name no place? -/
def idf : V → Bool
  | .lp _ _ => false
  | .lx _ _ _ _ _ _ => false
  | .sc _ _ _ => false
  | .so _ _ => false
  | .ap _ _ _ _ => false
  | .ax _ _ _ _ _ _ _ _ => false
  | .sa _ => false
  | .op _ _ => false
  | .yl _ => false
  | .mp _ => false
  | .ch _ _ _ _ => false
  | .fn _ l => idfL l
  | .ic _ x => idf x
  | .ag l => idfL l
  | .tp l => idfL l
  | _ => true
def idfL : List V → Bool
  | [] => true
  | x :: l => idf x && idfL l
end

mutual
theorem idf_ok {K K' : Nat → Prop} : ∀ v, idf v = true → ok K v → ok K' v
  | .lp _ _, h, _ | .lx _ _ _ _ _ _, h, _ | .sc _ _ _, h, _ | .so _ _, h, _ | .ap _ _ _ _, h, _ | .sa _, h, _ | .op _ _, h, _ | .yl _, h, _ | .mp _, h, _ | .ch _ _ _ _, h, _ | .ax _ _ _ _ _ _ _ _, h, _ => by simp [idf] at h
  | .fn _ l, h, hk => idfL_ok l h hk
  | .ic _ x, h, hk => idf_ok x h hk
  | .ag l, h, hk => ⟨idfL_ok l h hk.1, hk.2⟩
  | .tp l, h, hk => idfL_ok l h hk
  | .cb _, _, hk | .bo _, _, hk | .ci _ _, _, hk | .it _ _, _, hk | .bt _, _, hk | .st _, _, hk | .nl _, _, hk | .key _, _, hk | .sl _, _, hk | .by _, _, hk | .ob _, _, hk => hk
theorem idfL_ok {K K' : Nat → Prop} : ∀ l, idfL l = true → okL K l → okL K' l
  | [], _, _ => trivial
  | x :: l, h, hk => by
    simp only [idfL, Bool.and_eq_true] at h
    exact ⟨idf_ok x h.1 hk.1, idfL_ok l h.2 hk.2⟩
end

theorem idf_den {K : Nat → Prop} {v : V} (h : idf v = true) (hk : ok K v) (ρ ρ' : Env) : den ρ' v = den ρ v :=
  den_agree (N := fun _ => False) (fun _ h => h.elim) v (idf_ok v h hk)

/-- A value is asked for. -/
def isV (v : V) (v' : V) (_ : List Res) : Prop :=
  match eqP v' v with
  | some l => allP l
  | none => False

/-- The same value, however it is written. -/
def isE (x v : V) (_ : List Res) : Prop := ∀ ρ K, Same ρ K v x
theorem isV_isE {x v : V} {r : List Res} (h : isV x v r) : isE x v r := by
  unfold isV at h
  split at h
  · rename_i l hl
    exact fun ρ K => eqP_spec ρ K _ _ l hl h
  · exact h.elim
theorem CallTo.mono {P : Program} {f : Nat} {args : List V} {res : List Res} {K K' KP KP' : V → List Res → Prop} (h : CallTo P f args res K KP) (hK : ∀ v r, K v r → K' v r) (hP : ∀ v r, KP v r → KP' v r) :
    CallTo P f args res K' KP' := by
  intro ρ fps w0 F0 w hH ha
  refine (h ρ fps w0 F0 w hH ha).mono fun e w' ⟨x, ρ', fps', res', g1, g2, g3, g4⟩ => ⟨x, ρ', fps', res', g1, g2, g3, ?_⟩
  rcases g4 with ⟨e1, e2⟩ | ⟨e1, e2⟩
  · exact .inl ⟨e1, hK _ _ e2⟩
  · exact .inr ⟨e1, hP _ _ e2⟩

/-- Two ways to write arguments. -/
def SameA (l m : List V) : Prop := (∀ ρ, denL ρ l = denL ρ m) ∧ ∀ K, okL K l → okL (fun _ => False) m

/-- A contract of values alone. -/
theorem ct_pure {P : Program} {f : Nat} {g : Ct} (h : ∀ res nid args q x new, g res nid args = some (q, x, new) → new = [] ∧ idf x = true ∧
    ∃ args', SameA args args' ∧ (holdsO q → okL (fun _ => False) args' → CallTo P f args' [] (isE x) (fun _ _ => False))) : CtOK P f g := by
  intro ρ fps res K w0 F0 w nid args q x new hH hargs hg hq hfr
  obtain ⟨rfl, hid, args', ⟨s1, s2⟩, hc⟩ := h res nid args q x new hg
  refine ⟨?_, fun k hk => by simp at hk⟩
  have hok := s2 K hargs
  have hrep : HRep ρ (fun _ _ => False) [] (known []) w (fun _ => False) w :=
    ⟨fun i hi => hi, Nat.le_refl _, rfl, rfl, rfl, fun i hi => by simp [known, rget] at hi, fun i b hi => by simp [known, rget] at hi, fun i j b hi => by simp [known, rget] at hi, fun i b hi => by simp [known, rget] at hi, fun _ _ _ => rfl⟩
  have hcall := hc hq hok ρ (fun _ _ => False) w (fun _ => False) w hrep (by rw [okL_iff] at hok ⊢; exact fun z hz => ok_empty (hok z hz))
  rw [s1 ρ]
  refine hcall.mono fun e w' ⟨y, ρ', fps', res', g1, g2, g3, g4⟩ => ?_
  rcases g4 with ⟨rfl, hK⟩ | ⟨_, hK⟩
  · refine ⟨_, rfl, ρ, ?_, ?_, ?_⟩
    · have hb : Below w.heap.size w w' := by
        refine ⟨g1.os, g1.tape, g1.output, g1.old, fun b hb => g1.same b hb (fun h => h)⟩
      exact ⟨hb, Env.agree.refl _ _, fun _ _ => False, fun k hk => by simp at hk, fun k l b hk => by simp at hk⟩
    · obtain ⟨e1, e2, _⟩ := hK ρ' (known res')
      rw [e1]
      exact idf_den hid (e2 g3) ρ ρ'
    · obtain ⟨e1, e2, _⟩ := hK ρ' (known res')
      exact idf_ok x hid (e2 g3)
  · exact hK.elim

/-- How an argument is read. -/
def RdOK {α : Type} (r : V → Option α) (m : α → V) : Prop := ∀ v x, r v = some x → (∀ ρ, den ρ v = den ρ (m x)) ∧ ∀ K, ok K v → ok (fun _ => False) (m x)

def rI (k : IntKind) (v : V) : Option Int :=
  match toInt v with
  | some (k', n) => if k == k' then some n else none
  | none => none
def rK : V → Option Key
  | .key k => some k
  | _ => none
def rO : V → Option Obj
  | .ob o => some o
  | _ => none

theorem rB_ok : RdOK toBool V.bo := by
  intro v x h
  cases v <;> simp [toBool] at h <;> subst h <;> exact ⟨fun _ => rfl, fun _ _ => trivial⟩
theorem rI_ok (k : IntKind) : RdOK (rI k) (V.it k) := by
  intro v x h
  unfold rI at h
  cases v <;> simp [toInt] at h <;> obtain ⟨rfl, rfl⟩ := h
  · exact ⟨fun _ => rfl, fun _ hk => hk⟩
  · exact ⟨fun _ => rfl, fun _ hk => hk⟩
  · rename_i b
    refine ⟨fun _ => rfl, fun _ _ => ?_⟩
    have := b.toNat_lt
    simp only [ok, inR, b2i]
    omega
theorem rK_ok : RdOK rK V.key := by
  intro v x h
  cases v <;> simp [rK] at h <;> subst h <;> exact ⟨fun _ => rfl, fun _ hk => hk⟩
theorem rO_ok : RdOK rO V.ob := by
  intro v x h
  cases v <;> simp [rO] at h <;> subst h <;> exact ⟨fun _ => rfl, fun _ hk => hk⟩

def mk0 (F : V) : Ct := fun _ _ xs => match xs with
  | [] => some (none, F, [])
  | _ => none
def mk1 {α : Type} (r : V → Option α) (F : α → V) : Ct := fun _ _ xs => match xs with
  | [a] => match r a with
    | some x => some (none, F x, [])
    | none => none
  | _ => none
def mk2 {α β : Type} (r : V → Option α) (s : V → Option β) (F : α → β → V) : Ct := fun _ _ xs => match xs with
  | [a, b] => match r a, s b with
    | some x, some y => some (none, F x y, [])
    | _, _ => none
  | _ => none
def mk3 {α β γ : Type} (r : V → Option α) (s : V → Option β) (t : V → Option γ) (F : α → β → γ → V) : Ct := fun _ _ xs => match xs with
  | [a, b, c] => match r a, s b, t c with
    | some x, some y, some z => some (none, F x y z, [])
    | _, _, _ => none
  | _ => none

theorem mk0_ok {P : Program} {f : Nat} {F : V} (hF : idf F = true) (h : CallTo P f [] [] (isV F) (fun _ _ => False)) : CtOK P f (mk0 F) := by
  refine ct_pure fun res nid args q x new hg => ?_
  unfold mk0 at hg
  split at hg <;> simp only [Option.some.injEq, Prod.mk.injEq, reduceCtorEq] at hg
  obtain ⟨rfl, rfl, rfl⟩ := hg
  exact ⟨rfl, hF, [], ⟨fun _ => rfl, fun _ _ => trivial⟩, fun _ _ => h.mono (fun _ _ => isV_isE) fun _ _ h => h⟩
theorem mk0_eq {P : Program} {f : Nat} {F : V} (hF : idf F = true) (h : CallTo P f [] [] (fun v _ => v = F) (fun _ _ => False)) : CtOK P f (mk0 F) := by
  refine ct_pure fun res nid args q x new hg => ?_
  unfold mk0 at hg
  split at hg <;> simp only [Option.some.injEq, Prod.mk.injEq, reduceCtorEq] at hg
  obtain ⟨rfl, rfl, rfl⟩ := hg
  exact ⟨rfl, hF, [], ⟨fun _ => rfl, fun _ _ => trivial⟩, fun _ _ => h.mono (fun v _ e => by subst e; exact fun ρ K => Same.refl ρ K v) fun _ _ h => h⟩
theorem mk1_ok {P : Program} {f : Nat} {α : Type} {r : V → Option α} {m : α → V} {F : α → V} (hr : RdOK r m) (hF : ∀ x, idf (F x) = true)
    (h : ∀ x, ok (fun _ => False) (m x) → CallTo P f [m x] [] (isV (F x)) (fun _ _ => False)) : CtOK P f (mk1 r F) := by
  refine ct_pure fun res nid args q x new hg => ?_
  unfold mk1 at hg
  split at hg <;> (try split at hg) <;> simp only [Option.some.injEq, Prod.mk.injEq, reduceCtorEq] at hg
  rename_i a x h1
  obtain ⟨rfl, rfl, rfl⟩ := hg
  obtain ⟨a1, a2⟩ := hr _ x h1
  exact ⟨rfl, hF x, [m x], ⟨fun ρ => by simp [denL, a1 ρ], fun K hK => ⟨a2 K hK.1, trivial⟩⟩, fun _ hok => (h x hok.1).mono (fun _ _ => isV_isE) fun _ _ h => h⟩
theorem mk2_ok {P : Program} {f : Nat} {α β : Type} {r : V → Option α} {s : V → Option β} {m : α → V} {n : β → V} {F : α → β → V} (hr : RdOK r m) (hs : RdOK s n) (hF : ∀ x y, idf (F x y) = true)
    (h : ∀ x y, ok (fun _ => False) (m x) → ok (fun _ => False) (n y) → CallTo P f [m x, n y] [] (isV (F x y)) (fun _ _ => False)) : CtOK P f (mk2 r s F) := by
  refine ct_pure fun res nid args q x new hg => ?_
  unfold mk2 at hg
  split at hg <;> (try split at hg) <;> simp only [Option.some.injEq, Prod.mk.injEq, reduceCtorEq] at hg
  rename_i a b x y h1 h2
  obtain ⟨rfl, rfl, rfl⟩ := hg
  obtain ⟨a1, a2⟩ := hr _ x h1
  obtain ⟨b1, b2⟩ := hs _ y h2
  exact ⟨rfl, hF x y, [m x, n y], ⟨fun ρ => by simp [denL, a1 ρ, b1 ρ], fun K hK => ⟨a2 K hK.1, b2 K hK.2.1, trivial⟩⟩, fun _ hok => (h x y hok.1 hok.2.1).mono (fun _ _ => isV_isE) fun _ _ h => h⟩
theorem mk3_ok {P : Program} {f : Nat} {α β γ : Type} {r : V → Option α} {s : V → Option β} {t : V → Option γ} {m : α → V} {n : β → V} {o : γ → V} {F : α → β → γ → V} (hr : RdOK r m) (hs : RdOK s n) (ht : RdOK t o)
    (hF : ∀ x y z, idf (F x y z) = true)
    (h : ∀ x y z, ok (fun _ => False) (m x) → ok (fun _ => False) (n y) → ok (fun _ => False) (o z) → CallTo P f [m x, n y, o z] [] (isV (F x y z)) (fun _ _ => False)) : CtOK P f (mk3 r s t F) := by
  refine ct_pure fun res nid args q x new hg => ?_
  unfold mk3 at hg
  split at hg <;> (try split at hg) <;> simp only [Option.some.injEq, Prod.mk.injEq, reduceCtorEq] at hg
  rename_i a b c x y z h1 h2 h3
  obtain ⟨rfl, rfl, rfl⟩ := hg
  obtain ⟨a1, a2⟩ := hr _ x h1
  obtain ⟨b1, b2⟩ := hs _ y h2
  obtain ⟨c1, c2⟩ := ht _ z h3
  exact ⟨rfl, hF x y z, [m x, n y, o z], ⟨fun ρ => by simp [denL, a1 ρ, b1 ρ, c1 ρ], fun K hK => ⟨a2 K hK.1, b2 K hK.2.1, c2 K hK.2.2.1, trivial⟩⟩, fun _ hok => (h x y z hok.1 hok.2.1 hok.2.2.1).mono (fun _ _ => isV_isE) fun _ _ h => h⟩

/-- What is known at a loop's head: slots that are kept, slots that are set. -/
def inL : List Nat → Nat → Bool
  | [], _ => false
  | x :: l, i => x == i || inL l i
def setL : List (Nat × V) → Nat → Option V
  | [], _ => none
  | (j, v) :: l, i => if j == i then some v else setL l i
def hdS (keep : List Nat) (set : List (Nat × V)) : Nat → List S → List S
  | _, [] => []
  | i, s :: l => (match setL set i with
    | some v => .v v
    | none => if inL keep i then s else .und) :: hdS keep set (i + 1) l
def lpI (keep : List Nat) (t : Nat) (inv : Int → Prop) (m : Int) : LoopAnn :=
  { γ := Int, head := fun σ g => { σ with slots := hdS keep [(t, .it .i64 g)] 0 σ.slots }, inv := inv, μ := fun g => i2n (isub m g) }
def lpG (keep : List Nat) (set : Int → List (Nat × V)) (inv : Int → Prop) (m : Int) : LoopAnn :=
  { γ := Int, head := fun σ g => { σ with slots := hdS keep (set g) 0 σ.slots }, inv := inv, μ := fun g => i2n (isub m g) }
def annL : List (Nat × Nat × LoopAnn) → Nat → Nat → Option LoopAnn
  | [], _, _ => none
  | (f, r, A) :: l, f', r' => if f == f' && r == r' then some A else annL l f' r'
def noAnn (_ _ : Nat) : Option LoopAnn := none
def noInl (_ : Nat) : Bool := false
def noH : Handler := fun _ _ _ _ _ => False
end Go.Sx
namespace Go.Proofs.Ytjpcaplhblomcaa
open Go.Sx
/-- The seat's configuration over contracts. -/
noncomputable def cf (l : List (Nat × Ct)) (inl : Nat → Bool) (ann : Nat → Nat → Option LoopAnn) : Cfg := { P := Try.prog, Z := zeroOf, Γ := gamLook l, H0 := noH, inl := inl, ann := ann }
theorem cf_sound {l : List (Nat × Ct)} {inl : Nat → Bool} {ann : Nat → Nat → Option LoopAnn} (hl : ∀ p ∈ l, CtOK Try.prog p.1 p.2) : (cf l inl ann).toCtx.Sound :=
  ⟨zok_of zeroOf_ok, Try.checked.mixed, fun f g hg => gamLook_spec hl f g hg, fun f ts te h => by simp [cf] at h⟩
/-- The obligation of a function. -/
abbrev vc (l : List (Nat × Ct)) (inl : Nat → Bool) (ann : Nat → Nat → Option LoopAnn) (f : Nat) (args : List V) (res : List Res) (K KP : V → List Res → Prop) : Prop :=
  enter (cf l inl ann).toCtx (exec (cf l inl ann) 100 ⟨false, none⟩ f) f args res K KP
theorem vc_call {l : List (Nat × Ct)} {inl : Nat → Bool} {ann : Nat → Nat → Option LoopAnn} (hl : ∀ p ∈ l, CtOK Try.prog p.1 p.2) {f : Nat} {args : List V} {res : List Res} {K KP : V → List Res → Prop}
    {G : Prop} (hG : G) (h : G = vc l inl ann f args res K KP) : CallTo Try.prog f args res K KP :=
  fn_spec (cf_sound hl) (fun _ _ _ _ _ hh => hh.elim) (Eq.mp h hG)
end Go.Proofs.Ytjpcaplhblomcaa
namespace Go.Sx
theorem oks_nil {P : Program} : ∀ p ∈ ([] : List (Nat × Ct)), CtOK P p.1 p.2 := by simp
theorem oks_cons {P : Program} {f : Nat} {g : Ct} {l : List (Nat × Ct)} (h : CtOK P f g) (t : ∀ p ∈ l, CtOK P p.1 p.2) : ∀ p ∈ (f, g) :: l, CtOK P p.1 p.2 := by
  intro p hp
  rcases List.mem_cons.1 hp with rfl | hp
  · exact h
  · exact t p hp
end Go.Sx
