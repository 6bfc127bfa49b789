/- The executor: when one state of knowledge says no more than another. No condition. -/
import Derived.Test.YtjpcaplhblomcaaSx11
set_option linter.unusedVariables false
set_option linter.unusedSimpArgs false
namespace Go.Sx
open Go.RowKit (Below)

def allP : List Prop → Prop
  | [] => True
  | [p] => p
  | p :: l => p ∧ allP l

theorem allP_iff : ∀ l : List Prop, allP l ↔ ∀ p ∈ l, p
  | [] => by simp [allP]
  | [p] => by simp only [allP, List.mem_singleton]; exact ⟨fun h q hq => hq ▸ h, fun h => h p rfl⟩
  | p :: q :: l => by
    have := allP_iff (q :: l)
    simp only [allP, List.mem_cons, forall_eq_or_imp] at this ⊢
    rw [this]

def bind2 (a b : Option (List Prop)) : Option (List Prop) :=
  match a, b with
  | some x, some y => some (x ++ y)
  | _, _ => none

def sameB (b : Bool) (l : List Prop) : Option (List Prop) := if b then some l else none

mutual
/-- What makes two values the same. -/
def eqP : V → V → Option (List Prop)
  | .cb a, .cb b => some [a = b]
  | .cb a, .bo b => some [a = b]
  | .bo a, .cb b => some [a = b]
  | .bo a, .bo b => some [a = b]
  | .ci k a, .ci k' b => sameB (k == k' && decide (a = b)) []
  | .ci k a, .it k' b => sameB (k == k') [a = b]
  | .it k a, .ci k' b => sameB (k == k') [a = b]
  | .it k a, .it k' b => sameB (k == k') [a = b]
  | .bt a, .bt b => some [a = b]
  | .st a, .st b => some [a = b]
  | .nl a, .nl b => some [a = b]
  | .lp i o, .lp i' o' => sameB (i == i' && o == o') []
  | .lx a b c d i e, .lx a' b' c' d' i' e' => sameB (a == a' && b == b' && c == c' && e == e') [d = d', i = i']
  | .sc i n c, .sc i' n' c' => sameB (i == i') [n = n', c = c']
  | .so i n, .so i' n' => sameB (i == i') [n = n']
  | .ap i e j o, .ap i' e' j' o' => sameB (i == i' && e == e' && o == o') [j = j']
  | .sa i, .sa i' => sameB (i == i') []
  | .op i n, .op i' n' => sameB (i == i') [n = n']
  | .yl i, .yl i' => sameB (i == i') []
  | .fn f l, .fn g m => if f == g then eqPL l m else none
  | .ic t x, .ic u y => if t == u then eqP x y else none
  | .ag l, .ag m => eqPL l m
  | .tp l, .tp m => eqPL l m
  | .key a, .key b => some [a = b]
  | .sl a, .sl b => some [a = b]
  | .by a, .by b => some [a = b]
  | .ob a, .ob b => some [a = b]
  | _, _ => none
def eqPL : List V → List V → Option (List Prop)
  | [], [] => some []
  | x :: l, y :: m => bind2 (eqP x y) (eqPL l m)
  | _, _ => none
end

def Same (ρ : Env) (K : Nat → Prop) (x y : V) : Prop := den ρ x = den ρ y ∧ (ok K x → ok K y) ∧ isTp x = isTp y
def SameL (ρ : Env) (K : Nat → Prop) (x y : List V) : Prop := denL ρ x = denL ρ y ∧ cellsL ρ x = cellsL ρ y ∧ (okL K x → okL K y) ∧ (okC x → okC y)

theorem Same.refl (ρ : Env) (K : Nat → Prop) (x : V) : Same ρ K x x := ⟨rfl, id, rfl⟩

theorem bind2_spec {a b : Option (List Prop)} {l : List Prop} (h : bind2 a b = some l) (hl : allP l) : ∃ x y, a = some x ∧ b = some y ∧ allP x ∧ allP y := by
  unfold bind2 at h
  split at h <;> simp only [Option.some.injEq, reduceCtorEq] at h
  rename_i x y
  subst h
  rw [allP_iff] at hl
  exact ⟨x, y, rfl, rfl, (allP_iff x).2 fun p hp => hl p (List.mem_append.2 (.inl hp)), (allP_iff y).2 fun p hp => hl p (List.mem_append.2 (.inr hp))⟩

theorem sameB_spec {b : Bool} {l m : List Prop} (h : sameB b l = some m) : b = true ∧ m = l := by
  unfold sameB at h
  split at h <;> simp_all

mutual
theorem eqP_spec (ρ : Env) (K : Nat → Prop) : ∀ (x y : V) (l : List Prop), eqP x y = some l → allP l → Same ρ K x y
  | .fn f l, y, m, h, hl => by
    cases y <;> simp only [eqP, reduceCtorEq] at h
    split at h
    · rename_i he
      have he := beq_iff_eq.1 he
      subst he
      obtain ⟨a, _, c, _⟩ := eqPL_spec ρ K _ _ _ h hl
      exact ⟨by simp only [den, a], c, rfl⟩
    · simp at h
  | .ic t x, y, m, h, hl => by
    cases y <;> simp only [eqP, reduceCtorEq] at h
    split at h
    · rename_i he
      have he := beq_iff_eq.1 he
      subst he
      obtain ⟨a, c, _⟩ := eqP_spec ρ K _ _ _ h hl
      exact ⟨by simp only [den, a], c, rfl⟩
    · simp at h
  | .ag l, y, m, h, hl => by
    cases y <;> simp only [eqP, reduceCtorEq] at h
    obtain ⟨_, b, c, d⟩ := eqPL_spec ρ K _ _ _ h hl
    exact ⟨by simp only [den, b], fun hh => ⟨c hh.1, d hh.2⟩, rfl⟩
  | .tp l, y, m, h, hl => by
    cases y <;> simp only [eqP, reduceCtorEq] at h
    obtain ⟨a, _, c, _⟩ := eqPL_spec ρ K _ _ _ h hl
    exact ⟨by simp only [den, a], c, rfl⟩
  | .lp i o, y, m, h, hl => by
    cases y <;> simp only [eqP, reduceCtorEq] at h
    obtain ⟨hb, rfl⟩ := sameB_spec h
    simp only [Bool.and_eq_true, beq_iff_eq] at hb
    obtain ⟨rfl, rfl⟩ := hb
    exact Same.refl _ _ _
  | .ax _ _ _ _ _ _ _ _, y, m, h, hl => by cases y <;> simp [eqP] at h
  | .sa i, y, m, h, hl => by
    cases y <;> simp only [eqP, reduceCtorEq] at h
    obtain ⟨hb, rfl⟩ := sameB_spec h
    have hb := beq_iff_eq.1 hb
    subst hb
    exact Same.refl _ _ _
  | .yl i, y, m, h, hl => by
    cases y <;> simp only [eqP, reduceCtorEq] at h
    obtain ⟨hb, rfl⟩ := sameB_spec h
    have hb := beq_iff_eq.1 hb
    subst hb
    exact Same.refl _ _ _
  | .lx a b c d i e, y, m, h, hl => by
    cases y <;> simp only [eqP, reduceCtorEq] at h
    obtain ⟨hb, rfl⟩ := sameB_spec h
    simp only [Bool.and_eq_true, beq_iff_eq] at hb
    obtain ⟨⟨⟨rfl, rfl⟩, rfl⟩, rfl⟩ := hb
    simp only [allP] at hl
    obtain ⟨rfl, rfl⟩ := hl
    exact Same.refl _ _ _
  | .sc i n c, y, m, h, hl => by
    cases y <;> simp only [eqP, reduceCtorEq] at h
    obtain ⟨hb, rfl⟩ := sameB_spec h
    have hb := beq_iff_eq.1 hb
    subst hb
    simp only [allP] at hl
    obtain ⟨rfl, rfl⟩ := hl
    exact Same.refl _ _ _
  | .op i n, y, m, h, hl => by
    cases y <;> simp only [eqP, reduceCtorEq] at h
    obtain ⟨hb, rfl⟩ := sameB_spec h
    have hb := beq_iff_eq.1 hb
    subst hb
    simp only [allP] at hl
    subst hl
    exact Same.refl _ _ _
  | .so i n, y, m, h, hl => by
    cases y <;> simp only [eqP, reduceCtorEq] at h
    obtain ⟨hb, rfl⟩ := sameB_spec h
    have hb := beq_iff_eq.1 hb
    subst hb
    simp only [allP] at hl
    subst hl
    exact Same.refl _ _ _
  | .ap i e j o, y, m, h, hl => by
    cases y <;> simp only [eqP, reduceCtorEq] at h
    obtain ⟨hb, rfl⟩ := sameB_spec h
    simp only [Bool.and_eq_true, beq_iff_eq] at hb
    obtain ⟨⟨rfl, rfl⟩, rfl⟩ := hb
    simp only [allP] at hl
    subst hl
    exact Same.refl _ _ _
  | .ci k a, y, m, h, hl => by
    cases y <;> simp only [eqP, reduceCtorEq] at h <;> obtain ⟨hb, rfl⟩ := sameB_spec h
    · simp only [Bool.and_eq_true, beq_iff_eq, decide_eq_true_eq] at hb
      obtain ⟨rfl, rfl⟩ := hb
      exact ⟨rfl, id, rfl⟩
    · have hb := beq_iff_eq.1 hb
      subst hb; simp only [allP] at hl; subst hl; exact ⟨rfl, id, rfl⟩
  | .it k a, y, m, h, hl => by
    cases y <;> simp only [eqP, reduceCtorEq] at h <;> obtain ⟨hb, rfl⟩ := sameB_spec h <;> have hb := beq_iff_eq.1 hb <;> subst hb <;> simp only [allP] at hl <;> subst hl <;> exact ⟨rfl, id, rfl⟩
  | .cb a, y, m, h, hl | .bo a, y, m, h, hl | .bt a, y, m, h, hl | .st a, y, m, h, hl | .nl a, y, m, h, hl | .key a, y, m, h, hl | .sl a, y, m, h, hl | .by a, y, m, h, hl | .ob a, y, m, h, hl => by
    cases y <;> simp only [eqP, reduceCtorEq, Option.some.injEq] at h <;> subst h <;> simp only [allP] at hl <;> subst hl <;> exact ⟨rfl, id, rfl⟩
theorem eqPL_spec (ρ : Env) (K : Nat → Prop) : ∀ (x y : List V) (l : List Prop), eqPL x y = some l → allP l → SameL ρ K x y
  | [], [], _, _, _ => ⟨rfl, rfl, id, id⟩
  | [], _ :: _, _, h, _ => by simp [eqPL] at h
  | _ :: _, [], _, h, _ => by simp [eqPL] at h
  | x :: l, y :: m, p, h, hp => by
    simp only [eqPL] at h
    obtain ⟨a, b, h1, h2, h3, h4⟩ := bind2_spec h hp
    obtain ⟨e1, e2, e3⟩ := eqP_spec ρ K x y a h1 h3
    obtain ⟨f1, f2, f3, f4⟩ := eqPL_spec ρ K l m b h2 h4
    refine ⟨by simp only [denL, e1, f1], by simp only [cellsL, e1, f2], fun hh => ⟨e2 hh.1, f3 hh.2⟩, fun hh => ?_⟩
    rw [okC_iff] at hh ⊢
    intro z hz
    rcases List.mem_cons.1 hz with rfl | hz
    · rw [← e3]; exact hh x (by simp)
    · exact (okC_iff _).1 (f4 ((okC_iff _).2 fun q hq => hh q (by simp [hq]))) z hz
end

def knownB (res : List Res) (i : Nat) : Bool :=
  match rget res i with
  | .yet => false
  | _ => true

theorem knownB_iff {res : List Res} {i : Nat} : knownB res i = true ↔ known res i := by
  unfold knownB known
  cases rget res i <;> simp

mutual
/-- Does a value name known places alone? -/
def within (res : List Res) : V → Bool
  | .lp i _ => knownB res i
  | .lx i _ _ _ _ _ => knownB res i
  | .sc i _ _ => knownB res i
  | .so i _ => knownB res i
  | .ap i _ _ _ => knownB res i
  | .ax i _ _ _ _ _ _ _ => knownB res i
  | .sa i => knownB res i
  | .op i _ => knownB res i
  | .yl i => knownB res i
  | .mp i => knownB res i
  | .ch _ _ l y => withinL res l && within res y
  | .fn _ l => withinL res l
  | .ic _ x => within res x
  | .ag l => withinL res l
  | .tp l => withinL res l
  | _ => true
def withinL (res : List Res) : List V → Bool
  | [] => true
  | x :: l => within res x && withinL res l
end

mutual
theorem within_spec {res : List Res} {K : Nat → Prop} : ∀ v, within res v = true → ok K v → ok (known res) v
  | .lp i _, h, _ | .sc i _ _, h, _ | .so i _, h, _ | .ap i _ _ _, h, _ | .sa i, h, _ | .op i _, h, _ | .yl i, h, _ | .mp i, h, _ => knownB_iff.1 (by simpa [within] using h)
  | .ch _ _ l y, h, hk => by
    simp only [within, Bool.and_eq_true] at h
    exact ⟨withinL_spec l h.1 hk.1, within_spec y h.2 hk.2.1, hk.2.2⟩
  | .lx i _ _ _ _ _, h, hk => ⟨knownB_iff.1 (by simpa [within] using h), hk.2⟩
  | .ax i _ _ _ _ _ _ _, h, hk => ⟨knownB_iff.1 (by simpa [within] using h), hk.2⟩
  | .fn _ l, h, hk => withinL_spec l (by simpa [within] using h) hk
  | .tp l, h, hk => withinL_spec l (by simpa [within] using h) hk
  | .ag l, h, hk => ⟨withinL_spec l (by simpa [within] using h) hk.1, hk.2⟩
  | .ic _ x, h, hk => within_spec x (by simpa [within] using h) hk
  | .cb _, _, h | .bo _, _, h | .ci _ _, _, h | .it _ _, _, h | .bt _, _, h | .st _, _, h | .nl _, _, h | .key _, _, h | .sl _, _, h | .by _, _, h | .ob _, _, h => h
theorem withinL_spec {res : List Res} {K : Nat → Prop} : ∀ l, withinL res l = true → okL K l → okL (known res) l
  | [], _, _ => trivial
  | x :: l, h, hk => by
    simp only [withinL, Bool.and_eq_true] at h
    exact ⟨within_spec x h.1 hk.1, withinL_spec l h.2 hk.2⟩
end

def subSlots (res : List Res) : List S → List S → Option (List Prop)
  | [], [] => some []
  | x :: l, y :: m => match y with
    | .und => subSlots res l m
    | .v b => match x with
      | .v a => if within res b then bind2 (eqP a b) (subSlots res l m) else none
      | _ => none
    | _ => none
  | _, _ => none

def eqTL : TL → TL → Option (List Prop)
  | .fn n g, .fn n' g' => some [n = n', g = g']
  | .ob a, .ob b => some [a = b]
  | .key a, .key b => some [a = b]
  | .it k a, .it k' b => sameB (k == k') [a = b]
  | .bo a, .bo b => some [a = b]
  | .st a, .st b => some [a = b]
  | _, _ => none

theorem eqTL_spec {a b : TL} {p : List Prop} (h : eqTL a b = some p) (hp : allP p) : a = b := by
  cases a <;> cases b <;> simp only [eqTL, Option.some.injEq, reduceCtorEq] at h
  · subst h; simp only [allP] at hp; obtain ⟨rfl, rfl⟩ := hp; rfl
  · subst h; simp only [allP] at hp; subst hp; rfl
  · subst h; simp only [allP] at hp; subst hp; rfl
  · obtain ⟨hb, rfl⟩ := sameB_spec h
    have hb := beq_iff_eq.1 hb
    simp only [allP] at hp; subst hp; subst hb; rfl
  · subst h; simp only [allP] at hp; subst hp; rfl
  · subst h; simp only [allP] at hp; subst hp; rfl

def ownLe (o' o : Option Nat) : Bool := match o with
  | none => true
  | some e => match o' with
    | some e' => e == e'
    | none => false

def lsEq : LoopState → LoopState → Bool
  | .ready, .ready => true
  | .busy, .busy => true
  | .done, .done => true
  | .exhausted, .exhausted => true
  | _, _ => false
theorem lsEq_spec {a b : LoopState} (h : lsEq a b = true) : a = b := by cases a <;> cases b <;> first | rfl | simp [lsEq] at h

/-- Does a place say no more than another? -/
def subR (all : List Res) : Res → Res → Option (List Prop)
  | x, .yet => some []
  | x, .gone => match x with
    | .yet => none
    | _ => some []
  | x, .blk t c => match x with
    | .blk t' c' => if t == t' && within all c then eqP c' c else none
    | _ => none
  | x, .arr o e g => match x with
    | .arr o' e' g' => if e == e' && ownLe o' o then eqTL g' g else none
    | _ => none
  | x, .obs t q L => match x with
    | .obs t' q' L' => if t == t' && q == q' && knownB all q then some [L' = L] else none
    | _ => none
  | x, .gen j => match x with
    | .gen j' => if j == j' then some [] else none
    | _ => none
  | x, .store t e L => match x with
    | .store t' e' L' => if t == t' && e == e' then some [L' = L] else none
    | _ => none
  | x, .lop r s j => match x with
    | .lop r' s' j' => match j with
      | none => match j' with
        | none => if lsEq s' s then some [r' = r] else none
        | some _ => none
      | some _ => none
    | _ => none
  | x, .dfr => match x with
    | .dfr => some []
    | _ => none
  | _, .mp _ _ _ => none
  | x, .ro y => match x with
    | .ro x => match y with
      | .yet => none
      | _ => subR all x y
    | _ => none

def subRes (all : List Res) : List Res → List Res → Option (List Prop)
  | _, [] => some []
  | x :: l, y :: m => match y with
    | .yet => subRes all l m
    | _ => bind2 (subR all x y) (subRes all l m)
  | [], y :: m => match y with
    | .yet => subRes all [] m
    | _ => none

def subDefs (res : List Res) : List (Nat × List V × List V) → List (Nat × List V × List V) → Option (List Prop)
  | [], [] => some []
  | (f, a, b) :: l, (g, c, d) :: m => if f == g && withinL res c && withinL res d then bind2 (bind2 (eqPL a c) (eqPL b d)) (subDefs res l m) else none
  | _, _ => none

/-- One state of knowledge says no more than another one. -/
def subP (σ τ : St) : Option (List Prop) :=
  bind2 (subSlots τ.res σ.slots τ.slots) (bind2 (subRes τ.res σ.res τ.res) (subDefs τ.res σ.defs τ.defs))

def Sub (σ τ : St) : Prop :=
  match subP σ τ with
  | some l => allP l
  | none => False

section
variable {ρ : Env} {fps : Nat → Nat → Prop} {w0 w : World} {F0 : Nat → Prop} {a : Act}

/-- What is known of a slot, without guards. -/
def SlotV (ρ : Env) (K : Nat → Prop) (x : Value) : S → Prop
  | .und => True
  | .v b => x = den ρ b ∧ ok K b
  | _ => False

theorem SlotV.ok {K : Nat → Prop} {sl : List S} {x : Value} {s : S} (h : SlotV ρ K x s) : SlotOK ρ K sl x s := by
  cases s with
  | und => trivial
  | v b => exact h
  | ud => exact h.elim
  | gv ch b => exact h.elim

theorem subSlots_spec {K : Nat → Prop} {res : List Res} {sl0 : List S} : ∀ (l m : List S) (p : List Prop), subSlots res l m = some p → allP p → l.length = m.length ∧
    ∀ t x, SlotOK ρ K sl0 x (sget l t) → SlotV ρ (known res) x (sget m t)
  | [], [], _, _, _ => ⟨rfl, fun t x _ => by simp [sget, SlotV]⟩
  | [], _ :: _, _, h, _ => by simp [subSlots] at h
  | _ :: _, [], _, h, _ => by simp [subSlots] at h
  | x :: l, y :: m, p, h, hp => by
    have key : ∀ (q : List Prop), subSlots res l m = some q → allP q → (∀ z, SlotOK ρ K sl0 z x → SlotV ρ (known res) z y) →
        (x :: l).length = (y :: m).length ∧ ∀ t z, SlotOK ρ K sl0 z (sget (x :: l) t) → SlotV ρ (known res) z (sget (y :: m) t) := by
      intro q hq hq' hz
      obtain ⟨e1, e2⟩ := subSlots_spec l m q hq hq'
      refine ⟨by simp [e1], fun t z hh => ?_⟩
      cases t with
      | zero => exact hz z hh
      | succ t => exact e2 t z hh
    simp only [subSlots] at h
    split at h
    · exact key p h hp fun _ _ => trivial
    · rename_i b
      split at h
      · rename_i a'
        split at h
        · rename_i hw
          obtain ⟨u, v, h1, h2, h3, h4⟩ := bind2_spec h hp
          refine key v h2 h4 fun z hz => ?_
          obtain ⟨e1, e2, _⟩ := eqP_spec ρ K a' b u h1 h3
          exact ⟨hz.1.trans e1, within_spec b hw (e2 hz.2)⟩
        · simp at h
      · simp at h
    · simp at h

theorem subR_spec {K : Nat → Prop} {all : List Res} : ∀ (x y : Res) (p : List Prop), subR all x y = some p → allP p → y ≠ .yet → x ≠ .yet ∧ ∀ j fp w0 F0 w, x.holds K ρ j fp w0 F0 w → y.holds (known all) ρ j fp w0 F0 w
  | x, .yet, p, h, hp, hy => absurd rfl hy
  | x, .gone, p, h, hp, hy => by
    unfold subR at h
    split at h
    · simp at h
    · rename_i hx
      exact ⟨hx, fun _ _ _ _ _ _ => trivial⟩
  | x, .blk t c, p, h, hp, hy => by
    unfold subR at h
    split at h
    · rename_i t' c'
      split at h
      · rename_i hc
        simp only [Bool.and_eq_true, beq_iff_eq] at hc
        obtain ⟨rfl, hw⟩ := hc
        refine ⟨by simp, fun j fp w0 F0 w hh => ?_⟩
        obtain ⟨e1, e2, e3⟩ := eqP_spec ρ K c' c p h hp
        obtain ⟨g1, g2, g3, g4⟩ := hh
        exact ⟨within_spec c hw (e2 g1), by rw [← e3]; exact g2, g3, by rw [g4]; simp only [cells, e1]⟩
      · simp at h
    · simp at h
  | x, .arr o e g, p, h, hp, hy => by
    unfold subR at h
    split at h
    · rename_i o' e' g'
      split at h
      · rename_i hc
        simp only [Bool.and_eq_true, beq_iff_eq] at hc
        obtain ⟨rfl, hc2⟩ := hc
        have := eqTL_spec h hp
        subst this
        refine ⟨by simp, fun j fp w0 F0 w hh => ?_⟩
        obtain ⟨a1, a2, a3, a4, a5, a6, a7⟩ := hh
        refine ⟨a1, a2, a3, a4, a5, a6, ?_⟩
        rcases a7 with ⟨b1, b2⟩ | ⟨x, b1, b2⟩
        · refine .inl ⟨?_, b2⟩
          subst b1
          cases o with
          | none => rfl
          | some z => simp [ownLe] at hc2
        · refine .inr ⟨x, fun z hz => ?_, b2⟩
          subst hz
          cases o' with
          | none => simp [ownLe] at hc2
          | some y =>
            have := b1 y rfl
            simp only [ownLe, beq_iff_eq] at hc2
            omega
      · simp at h
    · simp at h
  | x, .obs t q L, p, h, hp, hy => by
    unfold subR at h
    split at h
    · split at h
      · rename_i hc
        simp only [Bool.and_eq_true, beq_iff_eq] at hc
        obtain ⟨⟨rfl, rfl⟩, hkq⟩ := hc
        simp only [Option.some.injEq] at h
        subst h
        simp only [allP] at hp
        subst hp
        exact ⟨by simp, fun j fp w0 F0 w hh => ⟨knownB_iff.1 hkq, hh.2⟩⟩
      · simp at h
    · simp at h
  | x, .gen j, p, h, hp, hy => by
    unfold subR at h
    split at h
    · exact ⟨by simp, fun _ _ _ _ _ _ => trivial⟩
    · simp at h
  | x, .store t e L, p, h, hp, hy => by
    unfold subR at h
    split at h
    · split at h
      · rename_i hc
        simp only [Bool.and_eq_true, beq_iff_eq] at hc
        obtain ⟨rfl, rfl⟩ := hc
        simp only [Option.some.injEq] at h
        subst h
        simp only [allP] at hp
        subst hp
        exact ⟨by simp, fun j fp w0 F0 w hh => hh⟩
      · simp at h
    · simp at h
  | x, .lop r s j, p, h, hp, hy => by
    unfold subR at h
    split at h
    · split at h
      · split at h
        · split at h
          · rename_i hs
            have := lsEq_spec hs
            subst this
            simp only [Option.some.injEq] at h
            subst h
            simp only [allP] at hp
            subst hp
            exact ⟨by simp, fun j fp w0 F0 w hh => hh⟩
          · simp at h
        · simp at h
      · simp at h
    · simp at h
  | x, .dfr, p, h, hp, hy => by
    unfold subR at h
    split at h
    · exact ⟨by simp, fun j fp w0 F0 w hh => hh⟩
    · simp at h
  | x, .mp _ _ _, p, h, hp, hy => by simp [subR] at h
  | x, .ro y, p, h, hp, hy => by
    unfold subR at h
    split at h
    · rename_i x'
      split at h
      · simp at h
      · rename_i hyy
        obtain ⟨e1, e2⟩ := subR_spec x' y p h hp hyy
        refine ⟨by simp, fun j fp w0 F0 w hh => ?_⟩
        obtain ⟨fp', g1, g2⟩ := hh
        exact ⟨fp', e2 j fp' w0 F0 w0 g1, g2⟩
    · simp at h

theorem subRes_spec {K : Nat → Prop} {all : List Res} : ∀ (l m : List Res) (p : List Prop), subRes all l m = some p → allP p → ∀ i, known m i → known l i ∧
    ∀ j fp w0 F0 w, (rget l i).holds K ρ j fp w0 F0 w → (rget m i).holds (known all) ρ j fp w0 F0 w
  | _, [], _, _, _, i, hi => by simp [known, rget] at hi
  | [], y :: m, p, h, hp, i, hi => by
    simp only [subRes] at h
    split at h
    · cases i with
      | zero => simp [known, rget] at hi
      | succ i =>
        obtain ⟨h1, h2⟩ := subRes_spec (K := K) [] m p h hp i hi
        simp [known, rget] at h1
    · simp at h
  | x :: l, y :: m, p, h, hp, i, hi => by
    have key : ∀ (q : List Prop), subRes all l m = some q → allP q → (y ≠ .yet → x ≠ .yet ∧ ∀ j fp w0 F0 w, x.holds K ρ j fp w0 F0 w → y.holds (known all) ρ j fp w0 F0 w) →
        known (x :: l) i ∧ ∀ j fp w0 F0 w, (rget (x :: l) i).holds K ρ j fp w0 F0 w → (rget (y :: m) i).holds (known all) ρ j fp w0 F0 w := by
      intro q hq hq' hz
      cases i with
      | zero => exact hz hi
      | succ i => exact subRes_spec l m q hq hq' i hi
    simp only [subRes] at h
    split at h
    · exact key p h hp fun hh => absurd rfl hh
    · rename_i hy
      obtain ⟨u, v, h1, h2, h3, h4⟩ := bind2_spec h hp
      exact key v h2 h4 fun hy' => subR_spec x y u h1 h3 hy'

theorem eqPL_mrk {a c : List V} {l : List Prop} (h : eqPL a c = some l) : mrk a = mrk c := by
  match a, c with
  | [], [] => rfl
  | [], _ :: _ => simp [eqPL] at h
  | _ :: _, [] => simp [eqPL] at h
  | [x], [y] =>
    simp only [eqPL] at h
    unfold bind2 at h
    split at h <;> simp only [Option.some.injEq, reduceCtorEq] at h
    rename_i hx _
    unfold mrk
    cases x <;> cases y <;> simp only [eqP, reduceCtorEq] at hx <;> first
      | rfl
      | (have hb := beq_iff_eq.1 (sameB_spec hx).1; subst hb; rfl)
  | [x], y :: z :: m =>
    simp only [eqPL, bind2] at h
    split at h <;> simp_all
  | x :: z :: m, [y] =>
    simp only [eqPL, bind2] at h
    split at h <;> simp_all
  | _ :: _ :: _, _ :: _ :: _ => rfl

theorem subDefs_spec {K : Nat → Prop} {res : List Res} : ∀ (l m : List (Nat × List V × List V)) (p : List Prop), subDefs res l m = some p → allP p → (∀ d ∈ l, okL K d.2.1 ∧ okL K d.2.2) →
    l.map (dDen ρ) = m.map (dDen ρ) ∧ ∀ d ∈ m, okL (known res) d.2.1 ∧ okL (known res) d.2.2
  | [], [], _, _, _, _ => ⟨rfl, by simp⟩
  | [], _ :: _, _, h, _, _ => by simp [subDefs] at h
  | _ :: _, [], _, h, _, _ => by simp [subDefs] at h
  | (f, a, b) :: l, (g, c, d) :: m, p, h, hp, hk => by
    simp only [subDefs] at h
    split at h
    · rename_i hc
      simp only [Bool.and_eq_true, beq_iff_eq] at hc
      obtain ⟨⟨rfl, w1⟩, w2⟩ := hc
      obtain ⟨u, v, h1, h2, h3, h4⟩ := bind2_spec h hp
      obtain ⟨u1, u2, i1, i2, i3, i4⟩ := bind2_spec h1 h3
      obtain ⟨e1, _, e2, _⟩ := eqPL_spec ρ K a c u1 i1 i3
      obtain ⟨f1, _, f2, _⟩ := eqPL_spec ρ K b d u2 i2 i4
      obtain ⟨g1, g2⟩ := subDefs_spec l m v h2 h4 fun d hd => hk d (by simp [hd])
      have hk0 := hk (f, a, b) (by simp)
      have hde : dDen ρ (f, a, b) = dDen ρ (f, c, d) := by
        have hm := eqPL_mrk i1
        unfold dDen
        simp only [← hm]
        cases mrk a <;> simp [e1, f1]
      refine ⟨by rw [List.map_cons, List.map_cons, hde, g1], fun d' hd' => ?_⟩
      rcases List.mem_cons.1 hd' with rfl | hd'
      · exact ⟨withinL_spec _ w1 (e2 hk0.1), withinL_spec _ w2 (f2 hk0.2)⟩
      · exact g2 d' hd'
    · simp at h

theorem Sub.rep {σ τ : St} (h : Sub σ τ) (hr : Rep ρ fps σ w0 F0 a w) : Rep ρ fps τ w0 F0 a w ∧ ∀ i, known τ.res i → known σ.res i := by
  unfold Sub at h
  split at h
  · rename_i l hl
    obtain ⟨u, v, h1, h2, h3, h4⟩ := bind2_spec hl h
    obtain ⟨v1, v2, i1, i2, i3, i4⟩ := bind2_spec h2 h4
    obtain ⟨r1, r2, r3, r4⟩ := hr
    obtain ⟨s1, s2⟩ := subSlots_spec (ρ := ρ) (K := known σ.res) (sl0 := σ.slots) _ _ u h1 h3
    have hres := fun i hi => subRes_spec (ρ := ρ) (K := known σ.res) _ _ v1 i1 i3 i hi
    obtain ⟨d1, d2⟩ := subDefs_spec (ρ := ρ) (K := known σ.res) _ _ v2 i2 i4 r4
    refine ⟨⟨⟨by rw [← s1]; exact r1.1, fun t => (s2 t _ (r1.2 t)).ok⟩, ?_, by rw [r3, d1], d2⟩, fun i hi => (hres i hi).1⟩
    have hk : ∀ i, known τ.res i → known σ.res i := fun i hi => (hres i hi).1
    exact ⟨fun i hi => hi, r2.old, r2.os, r2.tape, r2.output, fun i hi => (hres i hi).2 _ _ _ _ _ (r2.holds i (hk i hi)), fun i b hi => r2.lt i b (hk i hi),
      fun i j b hi hj => r2.disj i j b (hk i hi) (hk j hj), fun i b hi => r2.inF i b (hk i hi), r2.same⟩
  · exact h.elim

end
end Go.Sx
