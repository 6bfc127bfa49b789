/- The executor: places under other names. No condition. -/
import Derived.Test.YtjpcaplhblomcaaSx12
set_option linter.unusedVariables false
set_option linter.unusedSimpArgs false
namespace Go.Sx
open Go.RowKit (Below)

mutual
/-- A value with its places under other names. -/
def renO (κ : Nat → Option Nat) : V → Option V
  | .lp i off => match κ i with
    | some j => some (.lp j off)
    | none => none
  | .lx i off esz n k inner => match κ i with
    | some j => some (.lx j off esz n k inner)
    | none => none
  | .sc i len cap => match κ i with
    | some j => some (.sc j len cap)
    | none => none
  | .so i len => match κ i with
    | some j => some (.so j len)
    | none => none
  | .ap i esz k off => match κ i with
    | some j => some (.ap j esz k off)
    | none => none
  | .sa i => match κ i with
    | some j => some (.sa j)
    | none => none
  | .op i k => match κ i with
    | some j => some (.op j k)
    | none => none
  | .yl i => match κ i with
    | some j => some (.yl j)
    | none => none
  | .mp i => match κ i with
    | some j => some (.mp j)
    | none => none
  | .ch _ _ _ _ => none
  | .ax _ _ _ _ _ _ _ _ => none
  | .fn f l => match renOL κ l with
    | some m => some (.fn f m)
    | none => none
  | .ic t x => match renO κ x with
    | some y => some (.ic t y)
    | none => none
  | .ag l => match renOL κ l with
    | some m => some (.ag m)
    | none => none
  | .tp l => match renOL κ l with
    | some m => some (.tp m)
    | none => none
  | .cb b => some (.cb b)
  | .bo b => some (.bo b)
  | .ci k n => some (.ci k n)
  | .it k n => some (.it k n)
  | .bt b => some (.bt b)
  | .st s => some (.st s)
  | .nl v => some (.nl v)
  | .key k => some (.key k)
  | .sl s => some (.sl s)
  | .by b => some (.by b)
  | .ob o => some (.ob o)
def renOL (κ : Nat → Option Nat) : List V → Option (List V)
  | [] => some []
  | x :: l => match renO κ x with
    | some y => match renOL κ l with
      | some m => some (y :: m)
      | none => none
    | none => none
end

/-- One environment says of the new names what the other says of the old ones. -/
def Env.via (κ : Nat → Option Nat) (ρ ρ' : Env) : Prop := ∀ p i, κ p = some i → ρ'.num i = ρ.num p ∧ ρ'.cap i = ρ.cap p ∧ ρ'.adr i = ρ.adr p ∧ ρ'.sa i = ρ.sa p ∧ ρ'.sn i = ρ.sn p ∧ ρ'.ob i = ρ.ob p

section
variable {κ : Nat → Option Nat} {ρ ρ' : Env} {N N' : Nat → Prop}

mutual
theorem renO_spec (hv : Env.via κ ρ ρ') (hN : ∀ p i, κ p = some i → N p → N' i) : ∀ v v', renO κ v = some v' → den ρ' v' = den ρ v ∧ (ok N v → ok N' v') ∧ isTp v' = isTp v
  | .lp i off, v', h => by
    simp only [renO] at h
    split at h <;> simp only [Option.some.injEq, reduceCtorEq] at h
    rename_i j hj; subst h
    exact ⟨by simp only [den, (hv i j hj).1], fun hk => hN i j hj hk, rfl⟩
  | .lx i off esz n k inner, v', h => by
    simp only [renO] at h
    split at h <;> simp only [Option.some.injEq, reduceCtorEq] at h
    rename_i j hj; subst h
    exact ⟨by simp only [den, (hv i j hj).1], fun hk => ⟨hN i j hj hk.1, hk.2⟩, rfl⟩
  | .sc i len cap, v', h => by
    simp only [renO] at h
    split at h <;> simp only [Option.some.injEq, reduceCtorEq] at h
    rename_i j hj; subst h
    exact ⟨by simp only [den, (hv i j hj).1], fun hk => hN i j hj hk, rfl⟩
  | .so i len, v', h => by
    simp only [renO] at h
    split at h <;> simp only [Option.some.injEq, reduceCtorEq] at h
    rename_i j hj; subst h
    exact ⟨by simp only [den, (hv i j hj).1, (hv i j hj).2.1], fun hk => hN i j hj hk, rfl⟩
  | .ap i esz k off, v', h => by
    simp only [renO] at h
    split at h <;> simp only [Option.some.injEq, reduceCtorEq] at h
    rename_i j hj; subst h
    exact ⟨by simp only [den, (hv i j hj).2.2.1], fun hk => hN i j hj hk, rfl⟩
  | .sa i, v', h => by
    simp only [renO] at h
    split at h <;> simp only [Option.some.injEq, reduceCtorEq] at h
    rename_i j hj; subst h
    exact ⟨by simp only [den, (hv i j hj).2.1, (hv i j hj).2.2.2.1, (hv i j hj).2.2.2.2.1], fun hk => hN i j hj hk, rfl⟩
  | .yl i, v', h => by
    simp only [renO] at h
    split at h <;> simp only [Option.some.injEq, reduceCtorEq] at h
    rename_i j hj; subst h
    exact ⟨by simp only [den, (hv i j hj).1], fun hk => hN i j hj hk, rfl⟩
  | .mp i, v', h => by
    simp only [renO] at h
    split at h <;> simp only [Option.some.injEq, reduceCtorEq] at h
    rename_i j hj; subst h
    exact ⟨by simp only [den, (hv i j hj).1], fun hk => hN i j hj hk, rfl⟩
  | .ch b f l y, v', h => by simp [renO] at h
  | .ax _ _ _ _ _ _ _ _, v', h => by simp [renO] at h
  | .op i k, v', h => by
    simp only [renO] at h
    split at h <;> simp only [Option.some.injEq, reduceCtorEq] at h
    rename_i j hj; subst h
    exact ⟨by simp only [den, (hv i j hj).2.2.2.2.2], fun hk => hN i j hj hk, rfl⟩
  | .fn f l, v', h => by
    simp only [renO] at h
    split at h <;> simp only [Option.some.injEq, reduceCtorEq] at h
    rename_i m hm; subst h
    obtain ⟨a, _, c, _⟩ := renOL_spec hv hN l m hm
    exact ⟨by simp only [den, a], c, rfl⟩
  | .ic t x, v', h => by
    simp only [renO] at h
    split at h <;> simp only [Option.some.injEq, reduceCtorEq] at h
    rename_i m hm; subst h
    obtain ⟨a, c, _⟩ := renO_spec hv hN x m hm
    exact ⟨by simp only [den, a], c, rfl⟩
  | .ag l, v', h => by
    simp only [renO] at h
    split at h <;> simp only [Option.some.injEq, reduceCtorEq] at h
    rename_i m hm; subst h
    obtain ⟨_, b, c, d⟩ := renOL_spec hv hN l m hm
    exact ⟨by simp only [den, b], fun hk => ⟨c hk.1, d hk.2⟩, rfl⟩
  | .tp l, v', h => by
    simp only [renO] at h
    split at h <;> simp only [Option.some.injEq, reduceCtorEq] at h
    rename_i m hm; subst h
    obtain ⟨a, _, c, _⟩ := renOL_spec hv hN l m hm
    exact ⟨by simp only [den, a], c, rfl⟩
  | .cb b, v', h | .bo b, v', h | .ci _ b, v', h | .it _ b, v', h | .bt b, v', h | .st b, v', h | .nl b, v', h | .key b, v', h | .sl b, v', h | .by b, v', h | .ob b, v', h => by
    simp only [renO, Option.some.injEq] at h; subst h; exact ⟨rfl, id, rfl⟩
theorem renOL_spec (hv : Env.via κ ρ ρ') (hN : ∀ p i, κ p = some i → N p → N' i) : ∀ l l', renOL κ l = some l' → denL ρ' l' = denL ρ l ∧ cellsL ρ' l' = cellsL ρ l ∧ (okL N l → okL N' l') ∧ (okC l → okC l')
  | [], l', h => by simp only [renOL, Option.some.injEq] at h; subst h; exact ⟨rfl, rfl, id, id⟩
  | x :: l, l', h => by
    simp only [renOL] at h
    split at h
    · rename_i y hy
      split at h <;> simp only [Option.some.injEq, reduceCtorEq] at h
      rename_i m hm; subst h
      obtain ⟨a1, a2, a3⟩ := renO_spec hv hN x y hy
      obtain ⟨b1, b2, b3, b4⟩ := renOL_spec hv hN l m hm
      refine ⟨by simp only [denL, a1, b1], by simp only [cellsL, a1, b2], fun hk => ⟨a2 hk.1, b3 hk.2⟩, fun hk => ?_⟩
      rw [okC_iff] at hk ⊢
      intro z hz
      rcases List.mem_cons.1 hz with rfl | hz
      · rw [a3]; exact hk x (by simp)
      · exact (okC_iff _).1 (b4 ((okC_iff _).2 fun q hq => hk q (by simp [hq]))) z hz
    · simp at h
end

theorem renOL_length {κ : Nat → Option Nat} : ∀ {l l' : List V}, renOL κ l = some l' → l'.length = l.length
  | [], l', h => by simp only [renOL, Option.some.injEq] at h; subst h; rfl
  | x :: l, l', h => by
    simp only [renOL] at h
    split at h
    · split at h <;> simp only [Option.some.injEq, reduceCtorEq] at h
      rename_i m hm
      subst h
      simp [renOL_length hm]
    · simp at h

/-- A place with the places that it names under other names; what cannot be said any more is let go. -/
def renR (κ : Nat → Option Nat) : Res → Res
  | .yet => .yet
  | .gone => .gone
  | .blk ty c => match renO κ c with
    | some c' => .blk ty c'
    | none => .gone
  | .arr o e l => .arr o e l
  | .obs ty q L => match κ q with
    | some q' => .obs ty q' L
    | none => .gone
  | .gen j => match κ j with
    | some j' => .gen j'
    | none => .gone
  | .store ty e L => .store ty e L
  | .lop r s j => .lop r s j
  | .dfr => .dfr
  | .mp k ks vs => match renOL κ vs with
    | some vs' => .mp k ks vs'
    | none => .gone
  | .ro r => .ro (renR κ r)

theorem renR_yet {r : Res} : renR κ r = .yet ↔ r = .yet := by
  cases r <;> simp only [renR] <;> (try split) <;> simp

theorem renR_spec (hv : Env.via κ ρ ρ') (hN : ∀ p i, κ p = some i → N p → N' i) {p i : Nat} (hp : κ p = some i) {w0 : World} {F0 : Nat → Prop} : ∀ (r : Res) (fp : Nat → Prop) (w : World), r.holds N ρ p fp w0 F0 w → (renR κ r).holds N' ρ' i fp w0 F0 w
  | .yet, fp, w, h => trivial
  | .gone, fp, w, h => trivial
  | .gen j, fp, w, h => by simp only [renR]; split <;> trivial
  | .blk ty c, fp, w, h => by
    simp only [renR]
    split
    · rename_i c' hc
      obtain ⟨h1, h2, h3, h4⟩ := h
      obtain ⟨a, b, d⟩ := renO_spec hv hN c c' hc
      have e := (hv p i hp).1
      exact ⟨b h1, by rw [d]; exact h2, by rw [e]; exact h3, by rw [e]; simp only [cells, a]; exact h4⟩
    · trivial
  | .arr o e l, fp, w, h => by
    obtain ⟨e1, e2, e3, e4, e5, e6⟩ := hv p i hp
    obtain ⟨h1, h2, h3, h4, h5, h6, h7⟩ := h
    have hsl : ρ'.sl i = ρ.sl p := by simp only [Env.sl, e2, e4, e5]
    refine ⟨h1, by rw [e5]; exact h2, h3, by rw [e4, e3]; exact h4, by rw [e4]; exact h5, by rw [e3]; exact h6, ?_⟩
    rcases h7 with ⟨g1, g2, g3⟩ | ⟨x, g1, g2, g3⟩
    · refine .inl ⟨g1, by rw [e3]; exact g2, fun j hj k hk => ?_⟩
      rw [e3, g3 j hj k hk, cells_agree (N := fun _ => False) (ρ := ρ) (ρ' := ρ') (fun _ h => h.elim) _ (h1 j hj).1]
    · exact .inr ⟨x, g1, by rw [hsl]; exact g2, by rw [e4]; exact g3⟩
  | .obs ty q L, fp, w, h => by
    simp only [renR]
    split
    · rename_i q' hq
      obtain ⟨e1, e2, e3, e4, e5, e6⟩ := hv p i hp
      obtain ⟨h0, h1, h2, h3, h4, h5, h6, h7⟩ := h
      have hsl : ρ'.sl i = ρ.sl p := by simp only [Env.sl, e2, e4, e5]
      have eq6 := (hv q q' hq).2.2.2.2.2
      exact ⟨hN q q' hq h0, h1, by rw [e5]; exact h2, h3, by rw [e4, e3]; exact h4, by rw [e4]; exact h5, by rw [hsl, eq6]; exact h6, by rw [eq6]; exact h7⟩
    · trivial
  | .store ty e L, fp, w, h => by
    have e := (hv p i hp).1
    obtain ⟨h0, h1, h2, sl, ob, h3, h5, h6, h7⟩ := h
    exact ⟨by rw [e]; exact h0, h1, h2, sl, ob, by rw [e]; exact h3, h5, by rw [e]; exact h6, by rw [e]; exact h7⟩
  | .lop r s j, fp, w, h => by
    have e := (hv p i hp).1
    exact ⟨by rw [e]; exact h.1, by rw [e]; exact h.2⟩
  | .dfr, fp, w, h => by
    have e := (hv p i hp).1
    exact ⟨by rw [e]; exact h.1, by rw [e]; exact h.2⟩
  | .mp k ks vs, fp, w, h => by
    simp only [renR]
    split
    · rename_i vs' hvs
      obtain ⟨h0, h1, h2, h3, h4, es, cl, h5, h6, h7⟩ := h
      obtain ⟨a, _, c, d⟩ := renOL_spec hv hN vs vs' hvs
      have e := (hv p i hp).1
      exact ⟨by rw [e]; exact h0, c h1, d h2, h3, by rw [renOL_length hvs]; exact h4, es, cl, by rw [e]; exact h5, h6, by rw [a]; exact h7⟩
    · trivial
  | .ro r, fp, w, h => by
    obtain ⟨fp', h1, h2⟩ := h
    exact ⟨fp', renR_spec hv hN hp r fp' w0 h1, h2⟩

end

/-- Which new name a place has: the first n keep theirs, those of the list follow. -/
def idxOf : List Nat → Nat → Nat → Option Nat
  | [], _, _ => none
  | x :: l, n, p => if x == p then some n else idxOf l (n + 1) p
def kap (n : Nat) (l : List Nat) (p : Nat) : Option Nat := if Nat.blt p n then some p else idxOf l n p
/-- Which place has a new name. -/
def src (n : Nat) (l : List Nat) (i : Nat) : Nat := if i < n then i else l.getD (i - n) i

theorem idxOf_spec : ∀ {l : List Nat} {n p i : Nat}, idxOf l n p = some i → n ≤ i ∧ i < n + l.length ∧ l[i - n]? = some p
  | [], n, p, i, h => by simp [idxOf] at h
  | x :: l, n, p, i, h => by
    simp only [idxOf] at h
    split at h
    · rename_i e
      have e := beq_iff_eq.1 e
      simp only [Option.some.injEq] at h
      subst h; subst e
      simp
    · obtain ⟨h1, h2, h3⟩ := idxOf_spec h
      refine ⟨by omega, by simp; omega, ?_⟩
      rw [show i - n = (i - (n + 1)) + 1 by omega]
      simpa using h3

theorem kap_src {n : Nat} {l : List Nat} {p i : Nat} (h : kap n l p = some i) : src n l i = p := by
  unfold kap at h
  unfold src
  split at h
  · rename_i hp
    simp only [Option.some.injEq] at h
    subst h
    rw [if_pos (by simpa using hp)]
  · obtain ⟨h1, h2, h3⟩ := idxOf_spec h
    rw [if_neg (by omega), List.getD_eq_getElem?_getD, h3]; rfl

def Env.pull (π : Nat → Nat) (ρ : Env) : Env := { num := fun i => ρ.num (π i), cap := fun i => ρ.cap (π i), adr := fun i => ρ.adr (π i), sa := fun i => ρ.sa (π i), sn := fun i => ρ.sn (π i), ob := fun i => ρ.ob (π i) }

theorem pull_via {π : Nat → Nat} {κ : Nat → Option Nat} {ρ : Env} (h : ∀ p i, κ p = some i → π i = p) : Env.via κ ρ (ρ.pull π) := fun p i hp => by
  have := h p i hp
  simp [Env.pull, this]

/-- The places under new names. -/
def reRes1 (κ : Nat → Option Nat) (all : List Res) : Nat → List Res → List Res
  | 0, _ => []
  | _ + 1, [] => []
  | n + 1, r :: l => renR κ r :: reRes1 κ all n l
def reRes2 (κ : Nat → Option Nat) (all : List Res) : List Nat → List Res
  | [] => []
  | p :: l => renR κ (rget all p) :: reRes2 κ all l
def reSlots (κ : Nat → Option Nat) : List S → List S
  | [] => []
  | s :: l => (match s with
    | .v x => match renO κ x with
      | some y => .v y
      | none => .und
    | _ => .und) :: reSlots κ l
def reDefs (κ : Nat → Option Nat) : List (Nat × List V × List V) → Option (List (Nat × List V × List V))
  | [] => some []
  | (f, a, b) :: l => match renOL κ a, renOL κ b, reDefs κ l with
    | some a', some b', some m => some ((f, a', b') :: m)
    | _, _, _ => none
def inNl : List Nat → Nat → Bool
  | [], _ => false
  | x :: l, p => x == p || inNl l p
def okExt (n m : Nat) : List Nat → Bool
  | [] => true
  | p :: l => Nat.ble n p && Nat.blt p m && !inNl l p && okExt n m l

/-- A state under new names. -/
def reSt (n : Nat) (ext : List Nat) (σ : St) : Option St :=
  if Nat.ble n σ.res.length && okExt n σ.res.length ext then
    match reDefs (kap n ext) σ.defs with
    | some ds => some { slots := reSlots (kap n ext) σ.slots, res := reRes1 (kap n ext) σ.res n σ.res ++ reRes2 (kap n ext) σ.res ext, defs := ds }
    | none => none
  else none

theorem rget_reRes1 (κ : Nat → Option Nat) (all : List Res) : ∀ (n : Nat) (l : List Res) (i : Nat), n ≤ l.length → i < n → rget (reRes1 κ all n l) i = renR κ (rget l i)
  | 0, _, i, _, h => by omega
  | n + 1, [], i, h, _ => by simp at h
  | n + 1, r :: l, 0, h, _ => rfl
  | n + 1, r :: l, i + 1, h, hi => by
    simp only [reRes1, rget]
    exact rget_reRes1 κ all n l i (by simpa using h) (by omega)

theorem reRes1_length (κ : Nat → Option Nat) (all : List Res) : ∀ (n : Nat) (l : List Res), n ≤ l.length → (reRes1 κ all n l).length = n
  | 0, _, _ => rfl
  | n + 1, [], h => by simp at h
  | n + 1, r :: l, h => by simp [reRes1, reRes1_length κ all n l (by simpa using h)]

theorem rget_reRes2 (κ : Nat → Option Nat) (all : List Res) : ∀ (l : List Nat) (k : Nat), rget (reRes2 κ all l) k = match l[k]? with | some p => renR κ (rget all p) | none => .yet
  | [], k => by simp [reRes2, rget]
  | p :: l, 0 => by simp [reRes2, rget]
  | p :: l, k + 1 => by simp [reRes2, rget, rget_reRes2 κ all l k]

theorem inN_iff : ∀ {l : List Nat} {p : Nat}, inNl l p = true ↔ p ∈ l
  | [], p => by simp [inNl]
  | x :: l, p => by
    simp only [inNl, Bool.or_eq_true, beq_iff_eq, inN_iff (l := l), List.mem_cons]
    exact or_congr_left eq_comm

theorem okExt_spec {n m : Nat} : ∀ {l : List Nat}, okExt n m l = true → (∀ p ∈ l, n ≤ p ∧ p < m) ∧ l.Nodup
  | [], _ => by simp
  | p :: l, h => by
    simp only [okExt, Bool.and_eq_true, Nat.ble_eq, Nat.blt_eq, Bool.not_eq_true'] at h
    obtain ⟨⟨⟨h1, h2⟩, h3⟩, h4⟩ := h
    obtain ⟨a, b⟩ := okExt_spec h4
    refine ⟨fun q hq => ?_, List.nodup_cons.2 ⟨fun hp => ?_, b⟩⟩
    · rcases List.mem_cons.1 hq with rfl | hq
      · exact ⟨h1, h2⟩
      · exact a q hq
    · rw [← inN_iff] at hp; rw [hp] at h3; simp at h3

theorem reSlots_length (κ : Nat → Option Nat) : ∀ l : List S, (reSlots κ l).length = l.length
  | [] => rfl
  | s :: l => by simp [reSlots, reSlots_length κ l]

theorem sget_reSlots (κ : Nat → Option Nat) : ∀ (l : List S) (t : Nat), sget (reSlots κ l) t = match sget l t with
    | .v x => (match renO κ x with | some y => .v y | none => .und)
    | _ => .und
  | [], t => by simp [reSlots, sget]
  | s :: l, 0 => by cases s <;> rfl
  | s :: l, t + 1 => by simp only [reSlots, sget]; exact sget_reSlots κ l t

theorem renOL_mrk {κ : Nat → Option Nat} {a a' : List V} (h : renOL κ a = some a') : (mrk a = none ∧ mrk a' = none) ∨ ∃ k k', mrk a = some k ∧ κ k = some k' ∧ mrk a' = some k' := by
  match a with
  | [] => simp only [renOL, Option.some.injEq] at h; subst h; exact .inl ⟨rfl, rfl⟩
  | [x] =>
    simp only [renOL] at h
    split at h <;> simp only [Option.some.injEq, reduceCtorEq] at h
    rename_i y hy
    subst h
    cases x <;> simp only [renO] at hy <;> (try split at hy) <;> simp only [Option.some.injEq, reduceCtorEq] at hy <;> subst hy <;> first
      | exact .inl ⟨rfl, rfl⟩
      | (rename_i k _ k' hk; exact .inr ⟨k, k', rfl, hk, rfl⟩)
  | x :: z :: m =>
    have hl := renOL_length h
    match a', hl with
    | [], hl => simp at hl
    | [_], hl => simp at hl
    | _ :: _ :: _, _ => exact .inl ⟨rfl, rfl⟩

theorem reDefs_spec {κ : Nat → Option Nat} {ρ ρ' : Env} {N N' : Nat → Prop} (hv : Env.via κ ρ ρ') (hN : ∀ p i, κ p = some i → N p → N' i) : ∀ (l m : List (Nat × List V × List V)), reDefs κ l = some m →
    m.map (dDen ρ') = l.map (dDen ρ) ∧ ((∀ d ∈ l, okL N d.2.1 ∧ okL N d.2.2) → ∀ d ∈ m, okL N' d.2.1 ∧ okL N' d.2.2)
  | [], m, h => by simp only [reDefs, Option.some.injEq] at h; subst h; exact ⟨rfl, fun _ => by simp⟩
  | (f, a, b) :: l, m, h => by
    simp only [reDefs] at h
    split at h <;> simp only [Option.some.injEq, reduceCtorEq] at h
    rename_i a' b' m' ha hb hm
    subst h
    obtain ⟨a1, _, a3, _⟩ := renOL_spec hv hN a a' ha
    obtain ⟨b1, _, b3, _⟩ := renOL_spec hv hN b b' hb
    obtain ⟨c1, c2⟩ := reDefs_spec hv hN l m' hm
    have hde : dDen ρ' (f, a', b') = dDen ρ (f, a, b) := by
      unfold dDen
      rcases renOL_mrk ha with ⟨h1, h2⟩ | ⟨k, k', h1, h2, h3⟩
      · simp only [h1, h2, a1, b1]
      · simp only [h1, h3, (hv k k' h2).1]
    refine ⟨by rw [List.map_cons, List.map_cons, hde, c1], fun hk d hd => ?_⟩
    rcases List.mem_cons.1 hd with rfl | hd
    · have h0 := hk (f, a, b) (by simp)
      exact ⟨a3 h0.1, b3 h0.2⟩
    · exact c2 (fun d hd => hk d (by simp [hd])) d hd

theorem reSt_rep {ρ : Env} {fps : Nat → Nat → Prop} {w0 w : World} {F0 : Nat → Prop} {a : Act} {n : Nat} {ext : List Nat} {σ σ' : St} (h : reSt n ext σ = some σ') (hr : Rep ρ fps σ w0 F0 a w) :
    ∃ ρ' fps', Rep ρ' fps' σ' w0 F0 a w ∧ ∀ i, i < n → ρ'.num i = ρ.num i ∧ ρ'.cap i = ρ.cap i ∧ ρ'.adr i = ρ.adr i ∧ ρ'.sa i = ρ.sa i ∧ ρ'.sn i = ρ.sn i ∧ ρ'.ob i = ρ.ob i := by
  unfold reSt at h
  split at h
  · rename_i hc
    simp only [Bool.and_eq_true, Nat.ble_eq] at hc
    obtain ⟨hn, he⟩ := hc
    obtain ⟨e1, e2⟩ := okExt_spec he
    split at h <;> simp only [Option.some.injEq, reduceCtorEq] at h
    rename_i ds hds
    subst h
    obtain ⟨r1, r2, r3, r4⟩ := hr
    generalize hκ : kap n ext = κ at *
    have hπ : ∀ p i, κ p = some i → src n ext i = p := fun p i hp => by subst hκ; exact kap_src hp
    have hv : Env.via κ ρ (ρ.pull (src n ext)) := pull_via hπ
    -- the new places
    have hget : ∀ i, rget (reRes1 κ σ.res n σ.res ++ reRes2 κ σ.res ext) i = if i < n then renR κ (rget σ.res i) else match ext[i - n]? with | some p => renR κ (rget σ.res p) | none => .yet := fun i => by
      rw [rget_append, reRes1_length κ _ n _ hn]
      by_cases hi : i < n
      · rw [if_pos hi, if_pos hi, rget_reRes1 κ _ n _ i hn hi]
      · rw [if_neg hi, if_neg hi, rget_reRes2]
    have hkn : ∀ i, known (reRes1 κ σ.res n σ.res ++ reRes2 κ σ.res ext) i → known σ.res (src n ext i) ∧ κ (src n ext i) = some i ∧ rget (reRes1 κ σ.res n σ.res ++ reRes2 κ σ.res ext) i = renR κ (rget σ.res (src n ext i)) := fun i hi => by
      unfold known at hi
      rw [hget] at hi ⊢
      unfold src
      by_cases hin : i < n
      · rw [if_pos hin] at hi ⊢
        rw [if_pos hin]
        refine ⟨fun e => hi (renR_yet.2 e), ?_, rfl⟩
        subst hκ; unfold kap; rw [if_pos (by simpa using hin)]
      · rw [if_neg hin] at hi ⊢
        rw [if_neg hin, List.getD_eq_getElem?_getD]
        cases hx : ext[i - n]? with
        | none => rw [hx] at hi; exact absurd rfl hi
        | some p =>
          rw [hx] at hi
          simp only [Option.getD_some]
          refine ⟨fun e => hi (renR_yet.2 e), ?_, trivial⟩
          subst hκ
          unfold kap
          have hp := e1 p (List.mem_of_getElem? hx)
          rw [if_neg (by simp; omega)]
          -- the index
          have : ∀ (l : List Nat) (m k : Nat), l.Nodup → l[k]? = some p → idxOf l m p = some (m + k) := by
            intro l
            induction l with
            | nil => intro m k _ h; simp at h
            | cons x l ih =>
              intro m k hnd h
              simp only [idxOf]
              cases k with
              | zero => simp at h; subst h; simp
              | succ k =>
                simp at h
                have hne : (x == p) = false := by
                  rw [beq_eq_false_iff_ne]
                  rintro rfl
                  exact (List.nodup_cons.1 hnd).1 (List.mem_of_getElem? h)
                rw [hne]
                simp only [Bool.false_eq_true, if_false]
                rw [ih (m + 1) k (List.nodup_cons.1 hnd).2 h]
                congr 1; omega
          rw [this ext n (i - n) e2 hx]
          congr 1; omega
    have hN : ∀ p i, κ p = some i → known σ.res p → known (reRes1 κ σ.res n σ.res ++ reRes2 κ σ.res ext) i := fun p i hp hk => by
      unfold known
      rw [hget]
      have hs := hπ p i hp
      unfold src at hs
      by_cases hin : i < n
      · rw [if_pos hin] at hs ⊢
        subst hs
        exact fun e => hk (renR_yet.1 e)
      · rw [if_neg hin] at hs ⊢
        subst hκ
        unfold kap at hp
        split at hp
        · simp only [Option.some.injEq] at hp; rename_i hb; simp at hb; omega
        · obtain ⟨_, _, h3⟩ := idxOf_spec hp
          rw [h3]
          exact fun e => hk (renR_yet.1 e)
    refine ⟨ρ.pull (src n ext), fun i => fps (src n ext i), ⟨⟨by simpa [reSlots_length] using r1.1, fun t => ?_⟩, ?_, ?_, ?_⟩, fun i hi => ?_⟩
    · rw [sget_reSlots]
      have := r1.2 t
      split
      · rename_i x hx
        rw [hx] at this
        split
        · rename_i y hy
          obtain ⟨a1, a2, _⟩ := renO_spec hv hN x y hy
          exact ⟨this.1.trans a1.symm, a2 this.2⟩
        · trivial
      · trivial
    · refine ⟨fun i hi => hi, r2.old, r2.os, r2.tape, r2.output, fun i hi => ?_, fun i b hi => r2.lt _ b (hkn i hi).1, fun i j b hi hj hne => r2.disj _ _ b (hkn i hi).1 (hkn j hj).1 fun e => hne ?_, fun i b hi => r2.inF _ b (hkn i hi).1, r2.same⟩
      · obtain ⟨a1, a2, a3⟩ := hkn i hi
        rw [a3]
        exact renR_spec hv hN a2 _ _ _ (r2.holds _ a1)
      · have a := (hkn i hi).2.1
        rw [e, (hkn j hj).2.1] at a
        simpa using a.symm
    · obtain ⟨a1, _⟩ := reDefs_spec hv hN _ _ hds
      rw [r3]; exact a1.symm
    · exact (reDefs_spec hv hN _ _ hds).2 r4
    · simp [Env.pull, src, hi]
  · simp at h

/-- Nothing yet is a list that is empty: such a place beside. -/
inductive Gh where
  | bl (c ty : Nat)
  | bv (c e esz : Nat) (l : TL)
  | sl (t e esz : Nat) (l : TL)
  | al (t : Nat)

def isE0 : TL → Bool
  | .ob l => match l with | [] => true | _ => false
  | .key l => match l with | [] => true | _ => false
  | .it _ l => match l with | [] => true | _ => false
  | .bo l => match l with | [] => true | _ => false
  | .st l => match l with | [] => true | _ => false
  | .fn _ _ => false

theorem isE0_len {l : TL} (h : isE0 l = true) : l.len = 0 ∧ l.cells = [] := by
  cases l with
  | fn n g => simp [isE0] at h
  | ob l => cases l <;> first | exact ⟨rfl, rfl⟩ | simp [isE0] at h
  | key l => cases l <;> first | exact ⟨rfl, rfl⟩ | simp [isE0] at h
  | it k l => cases l <;> first | exact ⟨rfl, rfl⟩ | simp [isE0] at h
  | bo l => cases l <;> first | exact ⟨rfl, rfl⟩ | simp [isE0] at h
  | st l => cases l <;> first | exact ⟨rfl, rfl⟩ | simp [isE0] at h

def ghost1 (σ : St) : Gh → Option St
  | .bl c ty => match rget σ.res c with
    | .blk t (.ag [.nl (.slice none 0 0)]) => some { σ with res := rset σ.res c (.blk t (.ag [.sa σ.res.length])) ++ [.obs ty (σ.res.length + 1) [], .gen σ.res.length] }
    | _ => none
  | .bv c e esz l => match rget σ.res c with
    | .blk t (.nl (.slice none 0 0)) => if isE0 l then some { σ with res := rset σ.res c (.blk t (.sa σ.res.length)) ++ [.arr (some e) esz l] } else none
    | _ => none
  | .sl t e esz l => match sget σ.slots t with
    | .v (.nl (.slice none 0 0)) => if isE0 l then some { σ with slots := sset (clean σ.slots) t (.v (.sa σ.res.length)), res := σ.res ++ [.arr (some e) esz l] } else none
    | _ => none
  | .al t => match sget σ.slots t with
    | .v (.sa k) => match rget σ.res k with
      | .ro r => match r with
        | .arr _ esz l => some { σ with slots := sset (clean σ.slots) t (.v (.sa σ.res.length)), res := σ.res ++ [.arr none esz l] }
        | _ => none
      | _ => none
    | _ => none

def ghosts : List Gh → St → Option St
  | [], σ => some σ
  | g :: l, σ => match ghost1 σ g with
    | some σ' => ghosts l σ'
    | none => none

def Env.setNil (ρ : Env) (i : Nat) : Env := { ρ with cap := fun j => if j = i then 0 else ρ.cap j, sa := fun j => if j = i then none else ρ.sa j, sn := fun j => if j = i then 0 else ρ.sn j }

theorem setNil_agree {N : Nat → Prop} {ρ : Env} {i : Nat} (h : ¬ N i) : Env.agree N ρ (ρ.setNil i) := fun j hj => by
  have : j ≠ i := fun e => h (e ▸ hj)
  simp [Env.setNil, this]

def Env.setAs (ρ : Env) (i k : Nat) : Env := { ρ with cap := fun j => if j = i then ρ.cap k else ρ.cap j, adr := fun j => if j = i then ρ.adr k else ρ.adr j, sa := fun j => if j = i then ρ.sa k else ρ.sa j, sn := fun j => if j = i then ρ.sn k else ρ.sn j }

theorem setAs_agree {N : Nat → Prop} {ρ : Env} {i k : Nat} (h : ¬ N i) : Env.agree N ρ (ρ.setAs i k) := fun j hj => by
  have : j ≠ i := fun e => h (e ▸ hj)
  simp [Env.setAs, this]

/-- A list that is only read is one that lies before. -/
theorem ro_arr {K K' : Nat → Prop} {ρ : Env} {i : Nat} {fp fp2 : Nat → Prop} {w0 w : World} {F0 : Nat → Prop} {own : Option Nat} {esz : Nat} {l : TL} (h : (Res.ro (.arr own esz l)).holds K ρ i fp w0 F0 w) : (Res.arr none esz l).holds K' ρ i fp2 w0 F0 w := by
  obtain ⟨fp', ⟨h1, h2, h3, h4, h5, h6, h7⟩, hf⟩ := h
  refine ⟨h1, h2, h3, h4, h5, h6, .inl ⟨rfl, ?_⟩⟩
  rcases h7 with ⟨_, h7⟩ | ⟨e, _, e2, e3⟩
  · exact h7
  · refine ⟨fun hl => ?_, fun j hj k hk => ?_⟩
    · obtain ⟨g, f1, f2, f3, f4⟩ := owns_form e2 hl
      have ha := h4 _ f1
      rw [← ha]
      have := hf _ (e3 _ f1)
      exact ⟨this.2, this.1⟩
    · obtain ⟨g, f1, f2, f3, f4⟩ := owns_form e2 (by omega)
      have ha := h4 _ f1
      rw [← ha]
      simp only [Nat.zero_add]
      have hlt : j * esz + k < l.len * esz := by
        have : (j + 1) * esz ≤ l.len * esz := Nat.mul_le_mul_right _ hj
        rw [Nat.succ_mul] at this; omega
      rw [f4 _ hlt]
      unfold TL.cells
      rw [flat_idx (esz := esz) (fun j hj => by rw [cells_length Env.zero _ (h1 j hj).1]; exact (h1 j hj).2.2) hj hk]
      rw [cells_agree (N := fun _ => False) (ρ := ρ) (ρ' := Env.zero) (fun _ h => h.elim) _ (h1 j hj).1]

theorem setNil_den {ρ : Env} {i : Nat} : den (ρ.setNil i) (.sa i) = .slice none 0 0 := by simp [den, Env.setNil]

section
variable {ρ : Env} {fps : Nat → Nat → Prop} {w0 w : World} {F0 : Nat → Prop} {a : Act}

theorem Good.of_eq {ρ ρ' : Env} {r r' : List Res} (h1 : Env.agree (known r) ρ ρ') (h2 : ∀ i, known r i → known r' i) : Good ρ r ρ' r' := ⟨h1, h2⟩

/-- Places with no blocks beside, and a block that is written otherwise. -/
theorem HRep.beside {res : List Res} (h : HRep ρ fps res (known res) w0 F0 w) {ρ' : Env} (hag : Env.agree (known res) ρ ρ') (res1 new : List Res) (hl : res1.length = res.length)
    (h1 : ∀ i, i < res.length → rget res1 i = rget res i ∨ (known res i ∧ known res1 i ∧ (rget res1 i).holds (known (res1 ++ new)) ρ' i (fps i) w0 F0 w))
    (h2 : ∀ k, k < new.length → (rget new k).holds (known (res1 ++ new)) ρ' (res.length + k) (fun _ => False) w0 F0 w) :
    ∃ fps', HRep ρ' fps' (res1 ++ new) (known (res1 ++ new)) w0 F0 w ∧ Env.agree (known res) ρ ρ' ∧ ∀ i, known res i → known (res1 ++ new) i := by
  have hget : ∀ i, rget (res1 ++ new) i = if i < res.length then rget res1 i else rget new (i - res.length) := fun i => by rw [rget_append, hl]
  have hmono : ∀ i, known res i → known (res1 ++ new) i := fun i hi => by
    have hlt := rget_lt hi
    unfold known
    rw [hget, if_pos hlt]
    rcases h1 i hlt with e | ⟨_, e, _⟩
    · rw [e]; exact hi
    · exact e
  obtain ⟨fps', g⟩ := h.turn (res' := res1 ++ new) (K' := known (res1 ++ new)) (fun i => known res i ∧ known res1 i ∧ (rget res1 i).holds (known (res1 ++ new)) ρ' i (fps i) w0 F0 w)
    (fun i => (known res i ∧ known res1 i ∧ (rget res1 i).holds (known (res1 ++ new)) ρ' i (fps i) w0 F0 w) ∨ res.length ≤ i) (fun i b => i < res.length ∧ fps i b ∧ known res i) (fun i hi => hi) hmono hag
    (fun i hi hb => by
      have hlt : i < res.length := by
        rcases Nat.lt_or_ge i res.length with h | h
        · exact h
        · exact absurd (.inr h) hb
      have hno := fun h => hb (.inl h)
      rcases h1 i hlt with e | e
      · have e2 : rget (res1 ++ new) i = rget res i := by rw [hget, if_pos hlt, e]
        exact ⟨by unfold known at hi ⊢; rw [e2] at hi; exact hi, hno, e2⟩
      · exact absurd e hno)
    (fun i hi hb => by
      by_cases hlt : i < res.length
      · rcases hb with ⟨b1, b2, b3⟩ | hb
        · refine ⟨?_, fun b hf => .inl ⟨i, ⟨b1, b2, b3⟩, b1, hf.2.1⟩⟩
          rw [hget, if_pos hlt]
          have : (fun b => i < res.length ∧ fps i b ∧ known res i) = fps i := by funext b; simp [hlt, b1]
          rw [this]; exact b3
        · omega
      · refine ⟨?_, fun b hf => absurd hf.1 hlt⟩
        rw [hget, if_neg hlt]
        have : (fun b => i < res.length ∧ fps i b ∧ known res i) = fun _ => False := by funext b; simp [hlt]
        rw [this]
        have hk : i - res.length < new.length := by
          unfold known at hi
          rw [hget, if_neg hlt] at hi
          exact rget_lt hi
        have := h2 (i - res.length) hk
        rw [show res.length + (i - res.length) = i by omega] at this
        exact this)
    (fun i j b _ _ hne hf hf' => h.disj i j b hf.2.2 hf'.2.2 hne hf.2.1 hf'.2.1) rfl rfl rfl (Nat.le_refl _) (fun _ _ _ => rfl)
  exact ⟨fps', g, hag, hmono⟩

theorem ghost1_rep {σ σ' : St} {g : Gh} (h : ghost1 σ g = some σ') (hr : Rep ρ fps σ w0 F0 a w) : ∃ ρ' fps', Rep ρ' fps' σ' w0 F0 a w ∧ Good ρ σ.res ρ' σ'.res := by
  have hnk : ¬ known σ.res σ.res.length := fun hk => by have := rget_lt hk; omega
  have hag : Env.agree (known σ.res) ρ (ρ.setNil σ.res.length) := setNil_agree hnk
  have hr0 := hr
  obtain ⟨r1, r2, r3, r4⟩ := hr
  have cell1 : ∀ (l : List V), cellsL (ρ.setNil σ.res.length) l = cellsL (ρ.setNil σ.res.length) l := fun _ => rfl
  unfold ghost1 at h
  split at h
  · rename_i c ty
    split at h <;> simp only [Option.some.injEq, reduceCtorEq] at h
    rename_i t hc
    subst h
    have hkc : known σ.res c := by unfold known; rw [hc]; simp
    have hlt := rget_lt hkc
    have hh := r2.holds c hkc
    rw [hc] at hh
    obtain ⟨_, _, h3, h4⟩ := hh
    have hkn : known (rset σ.res c (.blk t (.ag [.sa σ.res.length])) ++ [.obs ty (σ.res.length + 1) [], .gen σ.res.length]) σ.res.length := by
      unfold known; rw [rget_append, rset_length, if_neg (by omega)]; simp [rget]
    have hkn' : known (rset σ.res c (.blk t (.ag [.sa σ.res.length])) ++ [.obs ty (σ.res.length + 1) [], .gen σ.res.length]) (σ.res.length + 1) := by
      unfold known; rw [rget_append, rset_length, if_neg (by omega), show σ.res.length + 1 - σ.res.length = 1 by omega]; simp [rget]
    obtain ⟨fps', g1, g2, g3⟩ := r2.beside hag (rset σ.res c (.blk t (.ag [.sa σ.res.length]))) [.obs ty (σ.res.length + 1) [], .gen σ.res.length] (rset_length _ _ _)
      (fun i hi => by
        rw [rget_rset _ _ _ _ hlt]
        by_cases e : i = c
        · subst e
          refine .inr ⟨hkc, by unfold known; rw [rget_rset _ _ _ _ hlt]; simp, ?_⟩
          simp only [if_true]
          refine ⟨⟨⟨hkn, trivial⟩, trivial, trivial⟩, rfl, by rw [(hag i hkc).1]; exact h3, ?_⟩
          rw [(hag i hkc).1, h4]
          rw [cells_ag, cells_ag]
          simp only [cellsL, setNil_den]
          rfl
        · exact .inl (by rw [if_neg e]))
      (fun k hk => by
        have : k = 0 ∨ k = 1 := by simp at hk; omega
        rcases this with rfl | rfl
        · simp only [Nat.add_zero]
          refine ⟨hkn', by simp, by simp [Env.setNil], by simp, by simp [Env.setNil], by simp, ?_, by simp⟩
          have : (ρ.setNil σ.res.length).sl σ.res.length = .slice none 0 0 := by simp [Env.sl, Env.setNil]
          rw [this]
          exact World.ownsRow_nil w 0 ty 1
        · trivial)
    obtain ⟨d1, d2⟩ := defs_env r4 g2 g3
    exact ⟨_, fps', ⟨r1.env g3 g2, g1, by rw [r3]; exact d1.symm, d2⟩, g2, g3⟩
  · rename_i c e esz l
    split at h
    · rename_i t hc
      split at h <;> simp only [Option.some.injEq, reduceCtorEq] at h
      rename_i hl
      obtain ⟨l1, l2⟩ := isE0_len hl
      subst h
      have hkc : known σ.res c := by unfold known; rw [hc]; simp
      have hlt := rget_lt hkc
      have hh := r2.holds c hkc
      rw [hc] at hh
      obtain ⟨_, _, h3, h4⟩ := hh
      have hkn : known (rset σ.res c (.blk t (.sa σ.res.length)) ++ [.arr (some e) esz l]) σ.res.length := by
        unfold known; rw [rget_append, rset_length, if_neg (by omega)]; simp [rget]
      obtain ⟨fps', g1, g2, g3⟩ := r2.beside hag (rset σ.res c (.blk t (.sa σ.res.length))) [.arr (some e) esz l] (rset_length _ _ _)
        (fun i hi => by
          rw [rget_rset _ _ _ _ hlt]
          by_cases e : i = c
          · subst e
            refine .inr ⟨hkc, by unfold known; rw [rget_rset _ _ _ _ hlt]; simp, ?_⟩
            simp only [if_true]
            refine ⟨hkn, rfl, by rw [(hag i hkc).1]; exact h3, ?_⟩
            rw [(hag i hkc).1, h4]
            simp only [cells, setNil_den]
            rfl
          · exact .inl (by rw [if_neg e]))
        (fun k hk => by
          have : k = 0 := by simp at hk; omega
          subst this
          simp only [Nat.add_zero]
          have hs : (ρ.setNil σ.res.length).sl σ.res.length = .slice none 0 0 := by simp [Env.sl, Env.setNil]
          refine ⟨fun j hj => by omega, by simp [Env.setNil, l1], by omega, by simp [Env.setNil], fun hj => by omega, fun hj => by omega, .inr ⟨e, by simp, ?_, by simp [Env.setNil]⟩⟩
          rw [hs, l1, l2]
          exact World.ownsRow_nil w 0 e esz)
      obtain ⟨d1, d2⟩ := defs_env r4 g2 g3
      exact ⟨_, fps', ⟨r1.env g3 g2, g1, by rw [r3]; exact d1.symm, d2⟩, g2, g3⟩
    · simp at h
  · rename_i t e esz l
    split at h
    · rename_i ht
      split at h <;> simp only [Option.some.injEq, reduceCtorEq] at h
      rename_i hl
      obtain ⟨l1, l2⟩ := isE0_len hl
      subst h
      have hkn : known (σ.res ++ [.arr (some e) esz l]) σ.res.length := by
        unfold known; rw [rget_append, if_neg (by omega)]; simp [rget]
      obtain ⟨fps', g1, g2, g3⟩ := r2.beside hag σ.res [.arr (some e) esz l] rfl (fun i _ => .inl rfl)
        (fun k hk => by
          have : k = 0 := by simp at hk; omega
          subst this
          simp only [Nat.add_zero]
          have hs : (ρ.setNil σ.res.length).sl σ.res.length = .slice none 0 0 := by simp [Env.sl, Env.setNil]
          refine ⟨fun j hj => by omega, by simp [Env.setNil, l1], by omega, by simp [Env.setNil], fun hj => by omega, fun hj => by omega, .inr ⟨e, by simp, ?_, by simp [Env.setNil]⟩⟩
          rw [hs, l1, l2]
          exact World.ownsRow_nil w 0 e esz)
      obtain ⟨d1, d2⟩ := defs_env r4 g2 g3
      refine ⟨_, fps', ⟨⟨by rw [sset_length, clean_length]; exact r1.1, fun u => ?_⟩, g1, by rw [r3]; exact d1.symm, d2⟩, g2, g3⟩
      have hc := (r1.clean.env g3 g2).2 u
      rw [sget_sset]
      by_cases e : u = t ∧ t < (clean σ.slots).length
      · rw [if_pos e]
        obtain ⟨rfl, _⟩ := e
        have := r1.2 u
        rw [ht] at this
        refine ⟨?_, hkn⟩
        rw [this.1, setNil_den]; rfl
      · rw [if_neg e]
        rw [sget_clean] at hc ⊢
        cases hs : sget σ.slots u <;> rw [hs] at hc <;> exact hc
    · simp at h
  · rename_i t
    split at h
    case h_2 => simp at h
    rename_i k ht
    split at h
    case h_2 => simp at h
    rename_i r hrk
    split at h
    case h_2 => simp at h
    rename_i own esz l
    simp only [Option.some.injEq] at h
    subst h
    have hkk : known σ.res k := by unfold known; rw [hrk]; simp
    have hkl := rget_lt hkk
    have hne : k ≠ σ.res.length := by omega
    have hag : Env.agree (known σ.res) ρ (ρ.setAs σ.res.length k) := setAs_agree hnk
    have hkn : known (σ.res ++ [.arr none esz l]) σ.res.length := by
      unfold known; rw [rget_append, if_neg (by omega)]; simp [rget]
    have hro := r2.holds k hkk
    rw [hrk] at hro
    obtain ⟨a1, a2, a3, a4, a5, a6, a7⟩ := ro_arr (K' := fun _ => True) (fp2 := fun _ => False) hro
    obtain ⟨fps', g1, g2, g3⟩ := r2.beside hag σ.res [.arr none esz l] rfl (fun i _ => .inl rfl)
      (fun m hm => by
        have : m = 0 := by simp at hm; omega
        subst this
        simp only [Nat.add_zero]
        have e1 : (ρ.setAs σ.res.length k).adr σ.res.length = ρ.adr k := by simp [Env.setAs]
        have e2 : (ρ.setAs σ.res.length k).sa σ.res.length = ρ.sa k := by simp [Env.setAs]
        have e3 : (ρ.setAs σ.res.length k).sn σ.res.length = ρ.sn k := by simp [Env.setAs]
        refine ⟨a1, by rw [e3]; exact a2, a3, by rw [e1, e2]; exact a4, by rw [e2]; exact a5, by rw [e1]; exact a6, ?_⟩
        rcases a7 with ⟨_, b1, b2⟩ | ⟨e, _, _, b3⟩
        · refine .inl ⟨rfl, by rw [e1]; exact b1, fun j hj x hx => ?_⟩
          rw [e1, b2 j hj x hx, cells_agree (N := fun _ => False) (ρ := ρ) (ρ' := ρ.setAs σ.res.length k) (fun _ h => h.elim) _ (a1 j hj).1]
        · by_cases hl : 0 < l.len
          · have := a5 hl
            cases hs : ρ.sa k with
            | none => rw [hs] at this; simp at this
            | some x => exact (b3 x hs).elim
          · exact .inl ⟨rfl, fun h => absurd h hl, fun j hj => absurd (Nat.lt_of_le_of_lt (Nat.zero_le _) hj) hl⟩)
    obtain ⟨d1, d2⟩ := defs_env r4 g2 g3
    refine ⟨_, fps', ⟨⟨by rw [sset_length, clean_length]; exact r1.1, fun u => ?_⟩, g1, by rw [r3]; exact d1.symm, d2⟩, g2, g3⟩
    have hc := (r1.clean.env g3 g2).2 u
    rw [sget_sset]
    by_cases e : u = t ∧ t < (clean σ.slots).length
    · rw [if_pos e]
      obtain ⟨rfl, _⟩ := e
      have := r1.2 u
      rw [ht] at this
      refine ⟨?_, hkn⟩
      rw [this.1]
      simp [den, Env.setAs]
    · rw [if_neg e]
      rw [sget_clean] at hc ⊢
      cases hs : sget σ.slots u <;> rw [hs] at hc <;> exact hc

theorem ghosts_rep : ∀ {l : List Gh} {σ σ' : St} {ρ : Env} {fps : Nat → Nat → Prop}, ghosts l σ = some σ' → Rep ρ fps σ w0 F0 a w → ∃ ρ' fps', Rep ρ' fps' σ' w0 F0 a w ∧ Good ρ σ.res ρ' σ'.res
  | [], σ, σ', ρ, fps, h, hr => by simp only [ghosts, Option.some.injEq] at h; subst h; exact ⟨ρ, fps, hr, Good.refl _ _⟩
  | g :: l, σ, σ', ρ, fps, h, hr => by
    simp only [ghosts] at h
    split at h
    · rename_i σ1 h1
      obtain ⟨ρ1, fps1, g1, g2⟩ := ghost1_rep h1 hr
      obtain ⟨ρ2, fps2, g3, g4⟩ := ghosts_rep h g1
      exact ⟨ρ2, fps2, g3, g2.trans g4⟩
    · simp at h

end
end Go.Sx
