/- Contracts of functions over stores and lists. No condition. -/
import Derived.Test.YtjpcaplhblomcaaSx15
set_option linter.unusedVariables false
set_option linter.unusedSimpArgs false
namespace Go.Sx
open Go.RowKit (Below)

section
variable {P : Program}

/-- What is known of a store, beside. -/
theorem CallTo.fact {f : Nat} {args : List V} {res : List Res} {K KP : V → List Res → Prop} {k t e : Nat} {L : List Obj} (hr : rlook res k = .store t e L)
    (h : (∀ o ∈ L, o.wf) → L.length ≤ 9223372036854775807 → CallTo P f args res K KP) : CallTo P f args res K KP := by
  intro ρ fps w0 F0 w hH hargs
  obtain ⟨fp, hh, _⟩ := hH.look hr (by simp)
  obtain ⟨_, h1, h2, _⟩ := hh
  exact h h1 h2 ρ fps w0 F0 w hH hargs

theorem CallTo.factA {f : Nat} {args : List V} {res : List Res} {K KP : V → List Res → Prop} {k esz : Nat} {own : Option Nat} {L : List Obj} (hr : rlook res k = .arr own esz (.ob L))
    (h : (∀ o ∈ L, o.wf) → L.length ≤ 9223372036854775807 → CallTo P f args res K KP) : CallTo P f args res K KP := by
  intro ρ fps w0 F0 w hH hargs
  obtain ⟨fp, hh, _⟩ := hH.look hr (by simp)
  obtain ⟨h1, _, h2, _⟩ := hh
  refine h (fun o ho => ?_) h2 ρ fps w0 F0 w hH hargs
  obtain ⟨i, hi, rfl⟩ := List.getElem_of_mem ho
  have := (h1 i hi).1
  simpa [TL.get, lget, List.getD_eq_getElem?_getD, hi, ok] using this

theorem CallTo.factL {f : Nat} {args : List V} {res : List Res} {K KP : V → List Res → Prop} {k esz : Nat} {own : Option Nat} {l : TL} (hr : rlook res k = .arr own esz l)
    (h : l.len ≤ 9223372036854775807 → CallTo P f args res K KP) : CallTo P f args res K KP := by
  intro ρ fps w0 F0 w hH hargs
  obtain ⟨fp, hh, _⟩ := hH.look hr (by simp)
  exact h hh.2.2.1 ρ fps w0 F0 w hH hargs

/-- An open store is seen as a store. -/
theorem Sees.open {res : List Res} {p j t e q : Nat} {L : List Obj} (hp : rlook res p = .blk t (.ag [.sa j])) (hj : rlook res j = .obs e q L) (hte : t ≠ e) : Sees res p (.store t e L) := by
  have hkp := rlook_known hp (by simp)
  have hkj := rlook_known hj (by simp)
  refine ⟨hkp, fun ρ fps K w0 F0 w hH => ?_⟩
  obtain ⟨fp1, ⟨_, _, b3, b4⟩, g1⟩ := hH.look' hp hkp
  obtain ⟨fp2, ⟨_, c1, c2, c3, c4, c5, c6, c7⟩, g2⟩ := hH.look' hj hkj
  have b4' : w.heap[ρ.num p]? = some (.cells #[ρ.sl j] t (0, 0)) := by
    rw [b4]
    have : den ρ (.sa j) = ρ.sl j := rfl
    simp [cells_ag, cellsL, this, Env.sl, Value.cells]
  refine ⟨fun b => fp1 b ∨ fp2 b, ⟨.inl b3, c1, c3, ρ.sl j, ρ.ob q, b4', c6, fun b hb => ?_, fun x hx => ?_⟩, fun b hb => ?_⟩
  · have hb' := hb
    cases ha : ρ.sa j with
    | none => simp [Env.sl, ha, Value.ownBlock] at hb
    | some a =>
      simp only [Env.sl, ha, Value.ownBlock, Option.some.injEq] at hb
      subst hb
      refine ⟨.inr (c4 a ha).2, fun e' => ?_⟩
      rcases c6.2 with ⟨hh, _⟩ | ⟨g, cap, cur, hh, _, h3, _⟩
      · simp [Env.sl, ha] at hh
      · rw [hh] at hb'
        simp only [Value.ownBlock, Option.some.injEq] at hb'
        rw [hb', e', b4'] at h3
        simp only [Option.some.injEq, Go.Obj.cells.injEq] at h3
        exact hte h3.2.1
  · obtain ⟨d1, t', d2⟩ := c7 x hx
    refine ⟨.inr d1, fun e' => ?_, t', d2⟩
    rw [e', b4'] at d2
    simp only [Option.some.injEq, Go.Obj.cells.injEq] at d2
    have := congrArg Array.size d2.1
    simp [obCells_length] at this
  · rcases hb with hb | hb
    · exact (g1 b hb).elim (fun h => .inl ⟨p, hkp, h⟩) .inr
    · exact (g2 b hb).elim (fun h => .inl ⟨j, hkj, h⟩) .inr

theorem Sees.zero {res : List Res} {p t e : Nat} (hp : rlook res p = .blk t (.ag [.nl (.slice none 0 0)])) : Sees res p (.store t e []) := by
  have hkp := rlook_known hp (by simp)
  refine ⟨hkp, fun ρ fps K w0 F0 w hH => ?_⟩
  obtain ⟨fp1, ⟨_, _, b3, b4⟩, g1⟩ := hH.look' hp hkp
  refine ⟨fp1, ⟨b3, by simp, by simp, .slice none 0 0, fun _ => 0, ?_, World.ownsRow_nil w 0 e 1, fun b hb => by simp [Value.ownBlock] at hb, fun x hx => by simp at hx⟩, fun b hb => (g1 b hb).elim (fun h => .inl ⟨p, hkp, h⟩) .inr⟩
  rw [b4]
  simp [cells_ag, cellsL, den, Value.cells]

/-- A store that is pointed to: nil is none. -/
def rS (t e : Nat) (res : List Res) (v : V) : Option (Option Nat × List Obj) :=
  match v with
  | .nl v => match v with
    | .pointer p => match p with
      | none => some (none, [])
      | some _ => none
    | _ => none
  | .lp k off => if off == 0 then match rlook res k with
    | .store t' e' L => if t' == t && e' == e then some (some k, L) else none
    | .blk t' c => if t' == t && !(t == e) then match c with
      | .ag l => match l with
        | [x] => match x with
          | .sa j => match rlook res j with
            | .obs e' _ L => if e' == e then some (some k, L) else none
            | _ => none
          | .nl v => match v with
            | .slice none 0 0 => some (some k, [])
            | _ => none
          | _ => none
        | _ => none
      | _ => none
      else none
    | _ => none
    else none
  | _ => none

theorem rS_spec {t e : Nat} {res : List Res} {v : V} {o : Option Nat} {L : List Obj} (h : rS t e res v = some (o, L)) : (o = none ∧ L = [] ∧ v = .nl (.pointer none)) ∨ ∃ k, o = some k ∧ v = .lp k 0 ∧ Sees res k (.store t e L) := by
  unfold rS at h
  split at h
  · split at h
    · split at h
      · simp only [Option.some.injEq, Prod.mk.injEq] at h
        exact .inl ⟨h.1.symm, h.2.symm, rfl⟩
      · simp at h
    · simp at h
  · rename_i k off
    split at h
    · rename_i ho
      have ho := beq_iff_eq.1 ho
      subst ho
      split at h
      · rename_i t' e' L' hl
        split at h
        · rename_i hc
          simp only [Bool.and_eq_true, beq_iff_eq] at hc
          obtain ⟨rfl, rfl⟩ := hc
          simp only [Option.some.injEq, Prod.mk.injEq] at h
          obtain ⟨rfl, rfl⟩ := h
          exact .inr ⟨k, rfl, rfl, Sees.look hl (by simp)⟩
        · simp at h
      · rename_i t' c hl
        split at h
        · rename_i hc
          simp only [Bool.and_eq_true, beq_iff_eq, Bool.not_eq_true', beq_eq_false_iff_ne] at hc
          obtain ⟨rfl, hte⟩ := hc
          split at h
          · split at h
            · split at h
              · split at h
                · rename_i hj
                  split at h
                  · rename_i hc
                    have hc := beq_iff_eq.1 hc
                    subst hc
                    simp only [Option.some.injEq, Prod.mk.injEq] at h
                    obtain ⟨rfl, rfl⟩ := h
                    exact .inr ⟨k, rfl, rfl, Sees.open hl hj hte⟩
                  · simp at h
                · simp at h
              · split at h
                · simp only [Option.some.injEq, Prod.mk.injEq] at h
                  obtain ⟨rfl, rfl⟩ := h
                  exact .inr ⟨k, rfl, rfl, Sees.zero hl⟩
                · simp at h
              · simp at h
            · simp at h
          · simp at h
        · simp at h
      · simp at h
    · simp at h
  · simp at h

def nilp : V := .nl (.pointer none)
def mkS (t e : Nat) (F : List Obj → V) : Ct := fun res _ xs => match xs with
  | [a] => match rS t e res a with
    | some (_, L) => some (none, F L, [])
    | none => none
  | _ => none
def mkS1 {α : Type} (t e : Nat) (r : V → Option α) (F : List Obj → α → V) : Ct := fun res _ xs => match xs with
  | [a, b] => match rS t e res a with
    | some (_, L) => match r b with
      | some x => some (none, F L x, [])
      | none => none
    | none => none
  | _ => none
def mkSS (t e : Nat) (Q : List Obj → List Obj → Prop) (F : List Obj → List Obj → V) : Ct := fun res _ xs => match xs with
  | [a, b] => match rS t e res a with
    | some (_, L) => match rS t e res b with
      | some (_, M) => some (some (Q L M), F L M, [])
      | none => none
    | none => none
  | _ => none

theorem mkS_ok {f t e : Nat} {F : List Obj → V} (hF : ∀ L, idf (F L) = true) (h0 : CallTo P f [nilp] [] (isV (F [])) (fun _ _ => False))
    (h1 : ∀ L, (∀ o ∈ L, o.wf) → L.length ≤ 9223372036854775807 → CallTo P f [.lp 0 0] [.ro (.blk t (.ag [.sa 1])), .ro (.obs e 2 L), .gen 1] (isV (F L)) (fun _ _ => False)) : CtOK P f (mkS t e F) := by
  refine ct_read fun res nid args q x new hg => ?_
  unfold mkS at hg
  split at hg <;> (try split at hg) <;> simp only [Option.some.injEq, Prod.mk.injEq, reduceCtorEq] at hg
  rename_i a o L hr
  obtain ⟨rfl, rfl, rfl⟩ := hg
  rcases rS_spec hr with ⟨rfl, rfl, rfl⟩ | ⟨k, rfl, rfl, hs⟩
  · exact ⟨rfl, hF [], [], [nilp], by simp, fun ρ _ _ => rfl, fun K hK => ⟨hK.1, trivial⟩, fun _ _ => h0.mono (fun _ _ => isV_isE) fun _ _ h => h⟩
  · refine ⟨rfl, hF L, [(k, .store t e L)], [.lp 0 0], by simpa using ⟨hs, rfl⟩, fun ρ _ _ => rfl, fun K hK => ⟨by simp [ok, known, ros, rget], trivial⟩, fun _ _ => ?_⟩
    exact CallTo.fact (k := 0) rfl fun w1 w2 => (CallTo.openRS (res := ros [(k, .store t e L)]) (k := 0) rfl (h1 L w1 w2)).mono (fun _ _ => isV_isE) fun _ _ h => h

theorem mkS1_ok {f t e : Nat} {α : Type} {r : V → Option α} {m : α → V} {F : List Obj → α → V} (hr : RdOK r m) (hF : ∀ L x, idf (F L x) = true)
    (h0 : ∀ x, ok (fun _ => False) (m x) → CallTo P f [nilp, m x] [] (isV (F [] x)) (fun _ _ => False))
    (h1 : ∀ L x, (∀ o ∈ L, o.wf) → L.length ≤ 9223372036854775807 → ok (fun _ => False) (m x) → CallTo P f [.lp 0 0, m x] [.ro (.blk t (.ag [.sa 1])), .ro (.obs e 2 L), .gen 1] (isV (F L x)) (fun _ _ => False))
    (hid : ∀ x, idf (m x) = true) : CtOK P f (mkS1 t e r F) := by
  refine ct_read fun res nid args q x new hg => ?_
  unfold mkS1 at hg
  split at hg <;> (try split at hg) <;> (try split at hg) <;> simp only [Option.some.injEq, Prod.mk.injEq, reduceCtorEq] at hg
  rename_i a b _ o L hs _ x hb
  obtain ⟨rfl, rfl, rfl⟩ := hg
  obtain ⟨b1, b2⟩ := hr _ x hb
  have hde : ∀ ρ ρ' : Env, ∀ K, ok K b → den ρ' (m x) = den ρ b := fun ρ ρ' K hk => by rw [b1 ρ]; exact idf_den (hid x) (b2 K hk) ρ ρ'
  rcases rS_spec hs with ⟨rfl, rfl, rfl⟩ | ⟨k, rfl, rfl, hse⟩
  · refine ⟨rfl, hF [] x, [], [nilp, m x], by simp, fun ρ K hK => ?_, fun K hK => ⟨hK.1, ok_empty (b2 K hK.2.1), trivial⟩, fun _ hok => ?_⟩
    · simp only [denL, hde ρ (ρ.pull (fstR [])) K hK.2.1]; rfl
    · exact (h0 x (idf_ok _ (hid x) hok.2.1)).mono (fun _ _ => isV_isE) fun _ _ h => h
  · refine ⟨rfl, hF L x, [(k, .store t e L)], [.lp 0 0, m x], by simpa using ⟨hse, rfl⟩, fun ρ K hK => ?_, fun K hK => ⟨by simp [ok, known, ros, rget], ok_empty (b2 K hK.2.1), trivial⟩, fun _ hok => ?_⟩
    · simp only [denL, hde ρ (ρ.pull (fstR [(k, .store t e L)])) K hK.2.1]; rfl
    · exact CallTo.fact (k := 0) rfl fun w1 w2 => (CallTo.openRS (res := ros [(k, .store t e L)]) (k := 0) rfl (h1 L x w1 w2 (idf_ok _ (hid x) hok.2.1))).mono (fun _ _ => isV_isE) fun _ _ h => h

theorem mkSS_ok {f t e : Nat} {Q : List Obj → List Obj → Prop} {F : List Obj → List Obj → V} (hF : ∀ L M, idf (F L M) = true) (h00 : CallTo P f [nilp, nilp] [] (isV (F [] [])) (fun _ _ => False))
    (h01 : ∀ M, (∀ o ∈ M, o.wf) → M.length ≤ 9223372036854775807 → CallTo P f [nilp, .lp 0 0] [.ro (.blk t (.ag [.sa 1])), .ro (.obs e 2 M), .gen 1] (isV (F [] M)) (fun _ _ => False))
    (h10 : ∀ L, (∀ o ∈ L, o.wf) → L.length ≤ 9223372036854775807 → CallTo P f [.lp 0 0, nilp] [.ro (.blk t (.ag [.sa 1])), .ro (.obs e 2 L), .gen 1] (isV (F L [])) (fun _ _ => False))
    (h11 : ∀ L M, Q L M → (∀ o ∈ L, o.wf) → L.length ≤ 9223372036854775807 → (∀ o ∈ M, o.wf) → M.length ≤ 9223372036854775807 →
      CallTo P f [.lp 0 0, .lp 1 0] [.ro (.blk t (.ag [.sa 2])), .ro (.blk t (.ag [.sa 4])), .ro (.obs e 3 L), .gen 2, .ro (.obs e 5 M), .gen 4] (isV (F L M)) (fun _ _ => False)) : CtOK P f (mkSS t e Q F) := by
  refine ct_read fun res nid args q x new hg => ?_
  unfold mkSS at hg
  split at hg <;> (try split at hg) <;> (try split at hg) <;> simp only [Option.some.injEq, Prod.mk.injEq, reduceCtorEq] at hg
  rename_i a b _ o L hs _ p M hb
  obtain ⟨rfl, rfl, rfl⟩ := hg
  rcases rS_spec hs with ⟨rfl, rfl, rfl⟩ | ⟨k, rfl, rfl, hse⟩ <;> rcases rS_spec hb with ⟨rfl, rfl, rfl⟩ | ⟨j, rfl, rfl, hbe⟩
  · exact ⟨rfl, hF [] [], [], [nilp, nilp], by simp, fun ρ _ _ => rfl, fun K hK => ⟨hK.1, hK.2.1, trivial⟩, fun _ _ => h00.mono (fun _ _ => isV_isE) fun _ _ h => h⟩
  · refine ⟨rfl, hF [] M, [(j, .store t e M)], [nilp, .lp 0 0], by simpa using ⟨hbe, rfl⟩, fun ρ _ _ => rfl, fun K hK => ⟨hK.1, by simp [ok, known, ros, rget], trivial⟩, fun _ _ => ?_⟩
    exact CallTo.fact (k := 0) rfl fun w1 w2 => (CallTo.openRS (res := ros [(j, .store t e M)]) (k := 0) rfl (h01 M w1 w2)).mono (fun _ _ => isV_isE) fun _ _ h => h
  · refine ⟨rfl, hF L [], [(k, .store t e L)], [.lp 0 0, nilp], by simpa using ⟨hse, rfl⟩, fun ρ _ _ => rfl, fun K hK => ⟨by simp [ok, known, ros, rget], hK.2.1, trivial⟩, fun _ _ => ?_⟩
    exact CallTo.fact (k := 0) rfl fun w1 w2 => (CallTo.openRS (res := ros [(k, .store t e L)]) (k := 0) rfl (h10 L w1 w2)).mono (fun _ _ => isV_isE) fun _ _ h => h
  · refine ⟨rfl, hF L M, [(k, .store t e L), (j, .store t e M)], [.lp 0 0, .lp 1 0], by simpa using ⟨⟨hse, rfl⟩, hbe, rfl⟩, fun ρ _ _ => rfl, fun K hK => ⟨by simp [ok, known, ros, rget], by simp [ok, known, ros, rget], trivial⟩, fun hQ _ => ?_⟩
    exact CallTo.fact (k := 0) rfl fun w1 w2 => CallTo.fact (k := 1) rfl fun w3 w4 =>
      (CallTo.openRS (res := ros [(k, .store t e L), (j, .store t e M)]) (k := 0) rfl (CallTo.openRS (k := 1) rfl (h11 L M hQ w1 w2 w3 w4))).mono (fun _ _ => isV_isE) fun _ _ h => h

/-- A list of objects is seen. -/
theorem Sees.arr {res : List Res} {p esz : Nat} {own : Option Nat} {l : TL} (h : rlook res p = .arr own esz l) : Sees res p (.arr none esz l) := by
  have hk := rlook_known h (by simp)
  refine ⟨hk, fun ρ fps K w0 F0 w hH => ?_⟩
  obtain ⟨fp, ⟨h1, h2, h3, h4, h5, h6, h7⟩, g2⟩ := hH.look' h hk
  refine ⟨fp, ⟨h1, h2, h3, h4, h5, h6, ?_⟩, fun b hb => (g2 b hb).elim (fun h => .inl ⟨p, hk, h⟩) .inr⟩
  rcases h7 with ⟨e, h7⟩ | ⟨e, e1, e2⟩
  · exact .inl ⟨rfl, h7⟩
  · exact .inr ⟨e, by simp, e2⟩

def rA (res : List Res) (v : V) : Option (Nat × List Obj) :=
  match v with
  | .sa k => match rlook res k with
    | .arr _ e l => if e == 163 then match l with
      | .ob l => some (k, l)
      | _ => none
      else none
    | _ => none
  | _ => none

theorem rA_spec {res : List Res} {v : V} {k : Nat} {l : List Obj} (h : rA res v = some (k, l)) : v = .sa k ∧ Sees res k (.arr none 163 (.ob l)) ∧ ∃ own, rlook res k = .arr own 163 (.ob l) := by
  unfold rA at h
  split at h
  · split at h
    · rename_i own e l' hl
      split at h
      · rename_i he
        have he := beq_iff_eq.1 he
        subst he
        split at h
        · simp only [Option.some.injEq, Prod.mk.injEq] at h
          obtain ⟨rfl, rfl⟩ := h
          exact ⟨rfl, Sees.arr hl, _, hl⟩
        · simp at h
      · simp at h
    · simp at h
  · simp at h

def mkA (F : List Obj → V) : Ct := fun res _ xs => match xs with
  | [a] => match rA res a with
    | some (_, L) => some (none, F L, [])
    | none => none
  | _ => none
def mkA1 {α : Type} (r : V → Option α) (F : List Obj → α → V) : Ct := fun res _ xs => match xs with
  | [a, b] => match rA res a with
    | some (_, L) => match r b with
      | some x => some (none, F L x, [])
      | none => none
    | none => none
  | _ => none
def mkAA (F : List Obj → List Obj → V) : Ct := fun res _ xs => match xs with
  | [a, b] => match rA res a with
    | some (_, L) => match rA res b with
      | some (_, M) => some (none, F L M, [])
      | none => none
    | none => none
  | _ => none

theorem pull_sa {ρ : Env} {i k : Nat} {pls : List (Nat × Res)} (h : fstR pls i = k) : den (ρ.pull (fstR pls)) (.sa i) = den ρ (.sa k) := by
  simp only [den, Env.pull, h]

theorem mkA_ok {f : Nat} {F : List Obj → V} (hF : ∀ L, idf (F L) = true)
    (h1 : ∀ L, (∀ o ∈ L, o.wf) → L.length ≤ 9223372036854775807 → CallTo P f [.sa 0] [.ro (.arr none 163 (.ob L))] (isV (F L)) (fun _ _ => False)) : CtOK P f (mkA F) := by
  refine ct_read fun res nid args q x new hg => ?_
  unfold mkA at hg
  split at hg <;> (try split at hg) <;> simp only [Option.some.injEq, Prod.mk.injEq, reduceCtorEq] at hg
  rename_i a k L hr
  obtain ⟨rfl, rfl, rfl⟩ := hg
  obtain ⟨rfl, hs, _⟩ := rA_spec hr
  exact ⟨rfl, hF L, [(k, .arr none 163 (.ob L))], [.sa 0], by simpa using ⟨hs, rfl⟩, fun ρ _ _ => by simp only [denL, pull_sa (pls := [(k, .arr none 163 (.ob L))]) (i := 0) (k := k) rfl], fun K hK => ⟨by simp [ok, known, ros, rget], trivial⟩,
    fun _ _ => CallTo.factA (k := 0) rfl fun w1 w2 => (h1 L w1 w2).mono (fun _ _ => isV_isE) fun _ _ h => h⟩

theorem mkA1_ok {f : Nat} {α : Type} {r : V → Option α} {m : α → V} {F : List Obj → α → V} (hr : RdOK r m) (hF : ∀ L x, idf (F L x) = true)
    (h1 : ∀ L x, (∀ o ∈ L, o.wf) → L.length ≤ 9223372036854775807 → ok (fun _ => False) (m x) → CallTo P f [.sa 0, m x] [.ro (.arr none 163 (.ob L))] (isV (F L x)) (fun _ _ => False)) (hid : ∀ x, idf (m x) = true) : CtOK P f (mkA1 r F) := by
  refine ct_read fun res nid args q x new hg => ?_
  unfold mkA1 at hg
  split at hg <;> (try split at hg) <;> (try split at hg) <;> simp only [Option.some.injEq, Prod.mk.injEq, reduceCtorEq] at hg
  rename_i a b _ k L hs _ x hb
  obtain ⟨rfl, rfl, rfl⟩ := hg
  obtain ⟨rfl, hse, _⟩ := rA_spec hs
  obtain ⟨b1, b2⟩ := hr _ x hb
  have hde : ∀ ρ ρ' : Env, ∀ K, ok K b → den ρ' (m x) = den ρ b := fun ρ ρ' K hk => by rw [b1 ρ]; exact idf_den (hid x) (b2 K hk) ρ ρ'
  refine ⟨rfl, hF L x, [(k, .arr none 163 (.ob L))], [.sa 0, m x], by simpa using ⟨hse, rfl⟩, fun ρ K hK => ?_, fun K hK => ⟨by simp [ok, known, ros, rget], ok_empty (b2 K hK.2.1), trivial⟩, fun _ hok => ?_⟩
  · simp only [denL, hde ρ (ρ.pull (fstR [(k, .arr none 163 (.ob L))])) K hK.2.1, pull_sa (pls := [(k, .arr none 163 (.ob L))]) (i := 0) (k := k) rfl]
  · exact CallTo.factA (k := 0) rfl fun w1 w2 => (h1 L x w1 w2 (idf_ok _ (hid x) hok.2.1)).mono (fun _ _ => isV_isE) fun _ _ h => h

theorem mkAA_ok {f : Nat} {F : List Obj → List Obj → V} (hF : ∀ L M, idf (F L M) = true)
    (h1 : ∀ L M, (∀ o ∈ L, o.wf) → L.length ≤ 9223372036854775807 → (∀ o ∈ M, o.wf) → M.length ≤ 9223372036854775807 → CallTo P f [.sa 0, .sa 1] [.ro (.arr none 163 (.ob L)), .ro (.arr none 163 (.ob M))] (isV (F L M)) (fun _ _ => False)) : CtOK P f (mkAA F) := by
  refine ct_read fun res nid args q x new hg => ?_
  unfold mkAA at hg
  split at hg <;> (try split at hg) <;> (try split at hg) <;> simp only [Option.some.injEq, Prod.mk.injEq, reduceCtorEq] at hg
  rename_i a b _ k L hs _ j M hb
  obtain ⟨rfl, rfl, rfl⟩ := hg
  obtain ⟨rfl, hse, _⟩ := rA_spec hs
  obtain ⟨rfl, hbe, _⟩ := rA_spec hb
  refine ⟨rfl, hF L M, [(k, .arr none 163 (.ob L)), (j, .arr none 163 (.ob M))], [.sa 0, .sa 1], by simpa using ⟨⟨hse, rfl⟩, hbe, rfl⟩, fun ρ K hK => ?_, fun K hK => ⟨by simp [ok, known, ros, rget], by simp [ok, known, ros, rget], trivial⟩, fun _ hok => ?_⟩
  · simp only [denL, pull_sa (pls := [(k, .arr none 163 (.ob L)), (j, .arr none 163 (.ob M))]) (i := 0) (k := k) rfl, pull_sa (pls := [(k, .arr none 163 (.ob L)), (j, .arr none 163 (.ob M))]) (i := 1) (k := j) rfl]
  · exact CallTo.factA (k := 0) rfl fun w1 w2 => CallTo.factA (k := 1) rfl fun w3 w4 => (h1 L M w1 w2 w3 w4).mono (fun _ _ => isV_isE) fun _ _ h => h

def mkSA (t e : Nat) (F : List Obj → List Obj → V) : Ct := fun res _ xs => match xs with
  | [a, b] => match rS t e res a with
    | some (_, L) => match rA res b with
      | some (_, M) => some (none, F L M, [])
      | none => none
    | none => none
  | _ => none

theorem mkSA_ok {f t e : Nat} {F : List Obj → List Obj → V} (hF : ∀ L M, idf (F L M) = true)
    (h0 : ∀ M, (∀ o ∈ M, o.wf) → M.length ≤ 9223372036854775807 → CallTo P f [nilp, .sa 0] [.ro (.arr none 163 (.ob M))] (isV (F [] M)) (fun _ _ => False))
    (h1 : ∀ L M, (∀ o ∈ L, o.wf) → L.length ≤ 9223372036854775807 → (∀ o ∈ M, o.wf) → M.length ≤ 9223372036854775807 →
      CallTo P f [.lp 0 0, .sa 1] [.ro (.blk t (.ag [.sa 2])), .ro (.arr none 163 (.ob M)), .ro (.obs e 3 L), .gen 2] (isV (F L M)) (fun _ _ => False)) : CtOK P f (mkSA t e F) := by
  refine ct_read fun res nid args q x new hg => ?_
  unfold mkSA at hg
  split at hg <;> (try split at hg) <;> (try split at hg) <;> simp only [Option.some.injEq, Prod.mk.injEq, reduceCtorEq] at hg
  rename_i a b _ o L hs _ j M hb
  obtain ⟨rfl, rfl, rfl⟩ := hg
  obtain ⟨rfl, hbe, _⟩ := rA_spec hb
  rcases rS_spec hs with ⟨rfl, rfl, rfl⟩ | ⟨k, rfl, rfl, hse⟩
  · refine ⟨rfl, hF [] M, [(j, .arr none 163 (.ob M))], [nilp, .sa 0], by simpa using ⟨hbe, rfl⟩, fun ρ K hK => ?_, fun K hK => ⟨hK.1, by simp [ok, known, ros, rget], trivial⟩, fun _ hok => ?_⟩
    · simp only [denL, pull_sa (pls := [(j, .arr none 163 (.ob M))]) (i := 0) (k := j) rfl]; rfl
    · exact CallTo.factA (k := 0) rfl fun w1 w2 => (h0 M w1 w2).mono (fun _ _ => isV_isE) fun _ _ h => h
  · refine ⟨rfl, hF L M, [(k, .store t e L), (j, .arr none 163 (.ob M))], [.lp 0 0, .sa 1], by simpa using ⟨⟨hse, rfl⟩, hbe, rfl⟩, fun ρ K hK => ?_, fun K hK => ⟨by simp [ok, known, ros, rget], by simp [ok, known, ros, rget], trivial⟩, fun _ hok => ?_⟩
    · simp only [denL, pull_sa (pls := [(k, .store t e L), (j, .arr none 163 (.ob M))]) (i := 1) (k := j) rfl]; rfl
    · exact CallTo.fact (k := 0) rfl fun w1 w2 => CallTo.factA (k := 1) rfl fun w3 w4 =>
        (CallTo.openRS (res := ros [(k, .store t e L), (j, .arr none 163 (.ob M))]) (k := 0) rfl (h1 L M w1 w2 w3 w4)).mono (fun _ _ => isV_isE) fun _ _ h => h

end
end Go.Sx
