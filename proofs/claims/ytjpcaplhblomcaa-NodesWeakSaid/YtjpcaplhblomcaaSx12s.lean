/- Stores opened and shut. No condition. -/
import Derived.Test.YtjpcaplhblomcaaSx12e
set_option linter.unusedVariables false
set_option linter.unusedSimpArgs false
namespace Go.Sx
open Go.RowKit (Below)

/-- An environment in which a store is open. -/
def Env.setSt (ρ : Env) (n : Nat) (sa : Option Addr) (sn cap : Nat) (ob : Nat → Nat) : Env :=
  { num := ρ.num, cap := fun j => if j = n then cap else ρ.cap j, adr := fun j => if j = n then sa.getD ⟨0, 0, none⟩ else ρ.adr j, sa := fun j => if j = n then sa else ρ.sa j, sn := fun j => if j = n then sn else ρ.sn j,
    ob := fun j => if j = n + 1 then ob else ρ.ob j }

theorem setSt_agree {N : Nat → Prop} {ρ : Env} {i : Nat} {a : Option Addr} {n cap : Nat} {ob : Nat → Nat} (h : ¬ N i) (h' : ¬ N (i + 1)) : Env.agree N ρ (ρ.setSt i a n cap ob) := fun j hj => by
  have e1 : j ≠ i := fun e => h (e ▸ hj)
  have e2 : j ≠ i + 1 := fun e => h' (e ▸ hj)
  simp [Env.setSt, e1, e2]

theorem ownsRow_slice {w : World} {e size n : Nat} {v : Value} {xs : List Value} (h : w.ownsRow 0 e size v n xs) : ∃ a cap, v = .slice a n cap := by
  rcases h.2 with ⟨rfl, rfl⟩ | ⟨g, cap, cur, rfl, _⟩
  · exact ⟨_, _, rfl⟩
  · exact ⟨_, _, rfl⟩

/-- What a store is, open. -/
theorem store_open {K : Nat → Prop} {ρ : Env} {k t e : Nat} {L : List Obj} {fp : Nat → Prop} {w0 w : World} {F0 : Nat → Prop} (h : (Res.store t e L).holds K ρ k fp w0 F0 w) :
    ∃ (sa : Option Addr) (cap : Nat) (ob : Nat → Nat), ∀ (n : Nat) (K' : Nat → Prop) (w1 : World) (F1 : Nat → Prop), K' n → K' (n + 1) →
      (Res.blk t (.ag [.sa n])).holds K' (ρ.setSt n sa L.length cap ob) k (fun b => b = ρ.num k) w1 F1 w ∧ (Res.obs e (n + 1) L).holds K' (ρ.setSt n sa L.length cap ob) n (fun b => fp b ∧ b ≠ ρ.num k) w1 F1 w := by
  obtain ⟨h0, h1, h2, sl, ob, h3, h5, h6, h7⟩ := h
  obtain ⟨a, cap, rfl⟩ := ownsRow_slice h5
  refine ⟨a, cap, ob, fun n K' w1 F1 hn hn' => ⟨⟨⟨⟨hn, trivial⟩, trivial, trivial⟩, rfl, by simp [Env.setSt], ?_⟩, ?_⟩⟩
  · simp only [Env.setSt, cells_ag, cellsL, den, Value.cells, if_true]
    exact h3
  · refine ⟨hn', h1, by simp [Env.setSt], h2, fun x hx => ?_, fun hl => ?_, ?_, fun j hj => ?_⟩
    · simp only [Env.setSt, if_true] at hx ⊢
      subst hx
      exact ⟨rfl, h6 _ rfl⟩
    · simp only [Env.setSt, if_true]
      rcases h5.2 with ⟨hh, h0⟩ | ⟨g, cap', cur, hh, _⟩
      · omega
      · simp only [Value.slice.injEq] at hh
        rw [hh.1]; rfl
    · have : (ρ.setSt n a L.length cap ob).sl n = .slice a L.length cap := by simp [Env.sl, Env.setSt]
      rw [this]
      simpa [Env.setSt] using h5
    · obtain ⟨g1, g2, g3⟩ := h7 j hj
      simp only [Env.setSt, if_true]
      exact ⟨⟨g1, g2⟩, g3⟩

/-- The places with a store open. -/
def openS (res : List Res) (k t e : Nat) (L : List Obj) : List Res := rset res k (.blk t (.ag [.sa res.length])) ++ [.obs e (res.length + 1) L, .gen res.length]
def openRS (res : List Res) (k t e : Nat) (L : List Obj) : List Res := rset res k (.ro (.blk t (.ag [.sa res.length]))) ++ [.ro (.obs e (res.length + 1) L), .gen res.length]

theorem open3 {A B C : Res} {res : List Res} {k : Nat} (hk : k < res.length) (i : Nat) : rget (rset res k A ++ [B, C]) i = if i < res.length then (if i = k then A else rget res i) else if i = res.length then B else if i = res.length + 1 then C else .yet := by
  rw [rget_append, rset_length]
  by_cases hi : i < res.length
  · rw [if_pos hi, if_pos hi, rget_rset _ _ _ _ hk]
  · rw [if_neg hi, if_neg hi]
    by_cases e : i = res.length
    · subst e; simp [rget]
    · rw [if_neg e]
      by_cases e1 : i = res.length + 1
      · subst e1
        rw [if_pos rfl, show res.length + 1 - res.length = 1 by omega]; simp [rget]
      · rw [if_neg e1]
        obtain ⟨m, hm⟩ : ∃ m, i - res.length = m + 2 := ⟨i - res.length - 2, by omega⟩
        rw [hm]; simp [rget]

theorem openS_rep {ρ : Env} {fps : Nat → Nat → Prop} {w0 w : World} {F0 : Nat → Prop} {res : List Res} {k t e : Nat} {L : List Obj} (hr : rget res k = .store t e L) (hH : HRep ρ fps res (known res) w0 F0 w) :
    ∃ ρ' fps', HRep ρ' fps' (Sx.openS res k t e L) (known (Sx.openS res k t e L)) w0 F0 w ∧ Good ρ res ρ' (Sx.openS res k t e L) := by
  have hk : known res k := by unfold known; rw [hr]; simp
  have hlt := rget_lt hk
  have hh := hH.holds k hk
  rw [hr] at hh
  obtain ⟨sa, cap, ob, hop⟩ := store_open hh
  have hnk : ¬ known res res.length := fun hk => by have := rget_lt hk; omega
  have hnk' : ¬ known res (res.length + 1) := fun hk => by have := rget_lt hk; omega
  have hget := open3 (A := .blk t (.ag [.sa res.length])) (B := .obs e (res.length + 1) L) (C := .gen res.length) hlt
  have k1 : known (Sx.openS res k t e L) res.length := by unfold known Sx.openS; rw [hget, if_neg (by omega), if_pos rfl]; simp
  have k2 : known (Sx.openS res k t e L) (res.length + 1) := by unfold known Sx.openS; rw [hget, if_neg (by omega), if_neg (by omega), if_pos rfl]; simp
  have hmono : ∀ i, known res i → known (Sx.openS res k t e L) i := fun i hi => by
    unfold known Sx.openS
    rw [hget, if_pos (rget_lt hi)]
    split
    · simp
    · exact hi
  obtain ⟨o1, o2⟩ := hop res.length (known (Sx.openS res k t e L)) w0 F0 k1 k2
  have hag := setSt_agree (ρ := ρ) (a := sa) (n := L.length) (cap := cap) (ob := ob) hnk hnk'
  obtain ⟨fps', g⟩ := hH.turn (res' := Sx.openS res k t e L) (K' := known (Sx.openS res k t e L)) (fun i => i = k) (fun i => i = k ∨ res.length ≤ i) (fun i b => (i = k ∧ b = ρ.num k) ∨ (i = res.length ∧ fps k b ∧ b ≠ ρ.num k))
    (fun i hi => hi) hmono hag
    (fun i hi hb => by
      have h1 : i ≠ k := fun e => hb (.inl e)
      have h2 : i < res.length := by
        rcases Nat.lt_or_ge i res.length with h | h
        · exact h
        · exact absurd (.inr h) hb
      have e : rget (Sx.openS res k t e L) i = rget res i := by unfold Sx.openS; rw [hget, if_pos h2, if_neg h1]
      exact ⟨by unfold known at hi ⊢; rw [e] at hi; exact hi, h1, e⟩)
    (fun i hi hb => by
      by_cases e1 : i = k
      · subst e1
        have : (fun b => (i = i ∧ b = ρ.num i) ∨ (i = res.length ∧ fps i b ∧ b ≠ ρ.num i)) = fun b => b = ρ.num i := by
          funext b; apply propext
          exact ⟨fun h => h.elim (fun h => h.2) fun h => by omega, fun h => .inl ⟨rfl, h⟩⟩
        refine ⟨?_, fun b hf => .inl ⟨i, rfl, hk, ?_⟩⟩
        · rw [this]; unfold Sx.openS; rw [hget, if_pos hlt, if_pos rfl]; exact o1
        · rcases hf with ⟨_, rfl⟩ | ⟨e, _⟩
          · exact hh.1
          · omega
      · by_cases e2 : i = res.length
        · subst e2
          have : (fun b => (res.length = k ∧ b = ρ.num k) ∨ (res.length = res.length ∧ fps k b ∧ b ≠ ρ.num k)) = fun b => fps k b ∧ b ≠ ρ.num k := by
            funext b; apply propext
            exact ⟨fun h => h.elim (fun h => absurd h.1 e1) fun h => h.2, fun h => .inr ⟨rfl, h⟩⟩
          refine ⟨?_, fun b hf => .inl ⟨k, rfl, hk, ?_⟩⟩
          · rw [this]; unfold Sx.openS; rw [hget, if_neg (by omega), if_pos rfl]; exact o2
          · rcases hf with ⟨e, _⟩ | ⟨_, hf, _⟩
            · exact absurd e e1
            · exact hf
        · refine ⟨?_, fun b hf => by rcases hf with ⟨e, _⟩ | ⟨e, _⟩ <;> contradiction⟩
          unfold Sx.openS
          rw [hget, if_neg (by have := hb.resolve_left e1; omega), if_neg e2]
          split <;> trivial)
    (fun i j b _ _ hne hf hf' => by
      rcases hf with ⟨rfl, rfl⟩ | ⟨rfl, h1, h2⟩ <;> rcases hf' with ⟨rfl, h3⟩ | ⟨rfl, h3, h4⟩
      · exact hne rfl
      · exact h4 rfl
      · exact h2 h3
      · exact hne rfl)
    rfl rfl rfl (Nat.le_refl _) (fun _ _ _ => rfl)
  exact ⟨_, fps', g, hag, hmono⟩

theorem openRS_rep {ρ : Env} {fps : Nat → Nat → Prop} {w0 w : World} {F0 : Nat → Prop} {res : List Res} {k t e : Nat} {L : List Obj} (hr : rget res k = .ro (.store t e L)) (hH : HRep ρ fps res (known res) w0 F0 w) :
    ∃ ρ' fps', HRep ρ' fps' (Sx.openRS res k t e L) (known (Sx.openRS res k t e L)) w0 F0 w ∧ Good ρ res ρ' (Sx.openRS res k t e L) := by
  have hk : known res k := by unfold known; rw [hr]; simp
  have hlt := rget_lt hk
  have hh := hH.holds k hk
  rw [hr] at hh
  obtain ⟨fp, hh, hfp⟩ := hh
  obtain ⟨sa, cap, ob, hop⟩ := store_open hh
  have hnk : ¬ known res res.length := fun hk => by have := rget_lt hk; omega
  have hnk' : ¬ known res (res.length + 1) := fun hk => by have := rget_lt hk; omega
  have hget := open3 (A := .ro (.blk t (.ag [.sa res.length]))) (B := .ro (.obs e (res.length + 1) L)) (C := .gen res.length) hlt
  have k1 : known (Sx.openRS res k t e L) res.length := by unfold known Sx.openRS; rw [hget, if_neg (by omega), if_pos rfl]; simp
  have k2 : known (Sx.openRS res k t e L) (res.length + 1) := by unfold known Sx.openRS; rw [hget, if_neg (by omega), if_neg (by omega), if_pos rfl]; simp
  have hmono : ∀ i, known res i → known (Sx.openRS res k t e L) i := fun i hi => by
    unfold known Sx.openRS
    rw [hget, if_pos (rget_lt hi)]
    split
    · simp
    · exact hi
  obtain ⟨o1, o2⟩ := hop res.length (known (Sx.openRS res k t e L)) w0 F0 k1 k2
  have hag := setSt_agree (ρ := ρ) (a := sa) (n := L.length) (cap := cap) (ob := ob) hnk hnk'
  obtain ⟨fps', g⟩ := hH.turn (res' := Sx.openRS res k t e L) (K' := known (Sx.openRS res k t e L)) (fun i => i = k) (fun i => i = k ∨ res.length ≤ i) (fun i b => False)
    (fun i hi => hi) hmono hag
    (fun i hi hb => by
      have h1 : i ≠ k := fun e => hb (.inl e)
      have h2 : i < res.length := by
        rcases Nat.lt_or_ge i res.length with h | h
        · exact h
        · exact absurd (.inr h) hb
      have e : rget (Sx.openRS res k t e L) i = rget res i := by unfold Sx.openRS; rw [hget, if_pos h2, if_neg h1]
      exact ⟨by unfold known at hi ⊢; rw [e] at hi; exact hi, h1, e⟩)
    (fun i hi hb => by
      refine ⟨?_, fun b hf => hf.elim⟩
      by_cases e1 : i = k
      · subst e1
        unfold Sx.openRS
        rw [hget, if_pos hlt, if_pos rfl]
        exact ⟨fun b => b = ρ.num i, by obtain ⟨p, _⟩ := hop res.length (known (Sx.openRS res i t e L)) w0 F0 k1 k2; exact p, fun b hb => by subst hb; exact hfp _ hh.1⟩
      · unfold Sx.openRS
        by_cases e2 : i = res.length
        · subst e2
          rw [hget, if_neg (by omega), if_pos rfl]
          exact ⟨_, o2, fun b hb => hfp b hb.1⟩
        · rw [hget, if_neg (by have := hb.resolve_left e1; omega), if_neg e2]
          split <;> trivial)
    (fun i j b _ _ _ hf _ => hf.elim)
    rfl rfl rfl (Nat.le_refl _) (fun _ _ _ => rfl)
  exact ⟨_, fps', g, hag, hmono⟩

/-- What a store's objects are, where it lies open. -/
def stOf (r : List Res) (k : Nat) : Option (Nat × Nat × Nat × List Obj) :=
  match rget r k with
  | .blk t c => match c with
    | .ag l => match l with
      | [x] => match x with
        | .sa j => match rget r j with
          | .obs e _ L => some (t, e, j, L)
          | _ => none
        | _ => none
      | _ => none
    | _ => none
  | _ => none

/-- The places with a store shut. -/
def shutS (r : List Res) (k : Nat) : Option (List Res) :=
  match stOf r k with
  | some (t, e, j, L) => some (rset (rset r j .gone) k (.store t e L))
  | none => none

theorem shutS_rep {ρ : Env} {fps : Nat → Nat → Prop} {r r' : List Res} {w0 w : World} {F0 : Nat → Prop} {k : Nat} (hs : shutS r k = some r') (h : HRep ρ fps r (known r) w0 F0 w) :
    ∃ fps', HRep ρ fps' r' (known r') w0 F0 w ∧ ∀ i, known r i → known r' i := by
  unfold shutS at hs
  split at hs
  · rename_i t e j L hst
    simp only [Option.some.injEq] at hs
    unfold stOf at hst
    split at hst
    · rename_i t' c hrk
      split at hst
      · split at hst
        · split at hst
          · rename_i j'
            split at hst
            · rename_i e' q L' hrj
              simp only [Option.some.injEq, Prod.mk.injEq] at hst
              obtain ⟨rfl, rfl, rfl, rfl⟩ := hst
              have hkk : known r k := by unfold known; rw [hrk]; simp
              have hkj : known r j' := by unfold known; rw [hrj]; simp
              have hne : j' ≠ k := fun e => by rw [e, hrk] at hrj; simp at hrj
              have hlk := rget_lt hkk
              have hlj := rget_lt hkj
              have hget : ∀ i, rget r' i = if i = k then .store t' e' L' else if i = j' then .gone else rget r i := fun i => by
                subst hs
                rw [rget_rset _ _ _ _ (by rw [rset_length]; exact hlk)]
                by_cases e : i = k
                · rw [if_pos e, if_pos e]
                · rw [if_neg e, if_neg e, rget_rset _ _ _ _ hlj]
              have hmono : ∀ i, known r i → known r' i := fun i hi => by
                unfold known
                rw [hget]
                split
                · simp
                · split
                  · simp
                  · exact hi
              have hk1 := h.holds k hkk
              rw [hrk] at hk1
              obtain ⟨_, _, b3, b4⟩ := hk1
              have hj1 := h.holds j' hkj
              rw [hrj] at hj1
              obtain ⟨_, c1, c2, c3, c4, c5, c6, c7⟩ := hj1
              obtain ⟨fps', g⟩ := h.turn (res' := r') (K' := known r') (fun i => i = k ∨ i = j') (fun i => i = k ∨ i = j') (fun i b => i = k ∧ (fps k b ∨ fps j' b)) (fun i hi => hi) hmono (Env.agree.refl _ _)
                (fun i hi hb => by
                  have h1 : i ≠ k := fun e => hb (.inl e)
                  have h2 : i ≠ j' := fun e => hb (.inr e)
                  have e : rget r' i = rget r i := by rw [hget, if_neg h1, if_neg h2]
                  exact ⟨by unfold known at hi ⊢; rw [e] at hi; exact hi, hb, e⟩)
                (fun i hi hb => by
                  rcases hb with rfl | rfl
                  · refine ⟨?_, fun b hf => hf.2.elim (fun hf => .inl ⟨i, .inl rfl, hkk, hf⟩) fun hf => .inl ⟨j', .inr rfl, hkj, hf⟩⟩
                    rw [hget, if_pos rfl]
                    refine ⟨⟨rfl, .inl b3⟩, c1, c3, ρ.sl j', ρ.ob q, ?_, c6, fun b hb => ?_, fun x hx => ?_⟩
                    · rw [b4]
                      have : den ρ (.sa j') = ρ.sl j' := rfl
                      simp [cells_ag, cellsL, this, Env.sl, Value.cells]
                    · cases ha : ρ.sa j' with
                      | none => simp [Env.sl, ha, Value.ownBlock] at hb
                      | some a =>
                        simp only [Env.sl, ha, Value.ownBlock, Option.some.injEq] at hb
                        subst hb
                        have := (c4 a ha).2
                        exact ⟨⟨rfl, .inr this⟩, fun e => h.disj j' i a.block hkj hkk hne this (e ▸ b3)⟩
                    · obtain ⟨d1, d2⟩ := c7 x hx
                      exact ⟨⟨rfl, .inr d1⟩, fun e => h.disj j' i _ hkj hkk hne d1 (e ▸ b3), d2⟩
                  · refine ⟨?_, fun b hf => absurd hf.1 hne⟩
                    rw [hget, if_neg hne, if_pos rfl]
                    trivial)
                (fun i j b _ _ hne' hf hf' => hne' (hf.1.trans hf'.1.symm))
                rfl rfl rfl (Nat.le_refl _) (fun _ _ _ => rfl)
              exact ⟨fps', g, hmono⟩
            · simp at hst
          · simp at hst
        · simp at hst
      · simp at hst
    · simp at hst
  · simp at hs


/-- All stores are opened, from a place on. -/
def openL : Nat → List Res → List Res
  | 0, res => res
  | k + 1, res => match rget res k with
    | .store t e L => openL k (openS res k t e L)
    | .ro r => match r with
      | .store t e L => openL k (openRS res k t e L)
      | _ => openL k res
    | _ => openL k res

theorem openL_rep {w0 w : World} {F0 : Nat → Prop} : ∀ (k : Nat) (res : List Res) (ρ : Env) (fps : Nat → Nat → Prop), HRep ρ fps res (known res) w0 F0 w → ∃ ρ' fps', HRep ρ' fps' (openL k res) (known (openL k res)) w0 F0 w ∧ Good ρ res ρ' (openL k res)
  | 0, res, ρ, fps, h => ⟨ρ, fps, h, Good.refl _ _⟩
  | k + 1, res, ρ, fps, h => by
    simp only [openL]
    split
    · rename_i hr
      obtain ⟨ρ1, fps1, g1, g2⟩ := openS_rep hr h
      obtain ⟨ρ2, fps2, g3, g4⟩ := openL_rep k _ ρ1 fps1 g1
      exact ⟨ρ2, fps2, g3, g2.trans g4⟩
    · rename_i hr
      split
      · obtain ⟨ρ1, fps1, g1, g2⟩ := openRS_rep hr h
        obtain ⟨ρ2, fps2, g3, g4⟩ := openL_rep k _ ρ1 fps1 g1
        exact ⟨ρ2, fps2, g3, g2.trans g4⟩
      · exact openL_rep k res ρ fps h
    · exact openL_rep k res ρ fps h

/-- What was shut is shut again. -/
def shutL (old : List Res) : Nat → List Res → List Res
  | 0, res => res
  | k + 1, res => match rget old k with
    | .store _ _ _ => match shutS res k with
      | some r => shutL old k r
      | none => shutL old k res
    | _ => shutL old k res

theorem shutL_rep {ρ : Env} {w0 w : World} {F0 : Nat → Prop} {old : List Res} : ∀ (k : Nat) (res : List Res) (fps : Nat → Nat → Prop), HRep ρ fps res (known res) w0 F0 w → ∃ fps', HRep ρ fps' (shutL old k res) (known (shutL old k res)) w0 F0 w ∧ ∀ i, known res i → known (shutL old k res) i
  | 0, res, fps, h => ⟨fps, h, fun i hi => hi⟩
  | k + 1, res, fps, h => by
    simp only [shutL]
    split
    · split
      · rename_i hs
        obtain ⟨fps1, g1, g2⟩ := shutS_rep hs h
        obtain ⟨fps2, g3, g4⟩ := shutL_rep k _ fps1 g1
        exact ⟨fps2, g3, fun i hi => g4 i (g2 i hi)⟩
      · exact shutL_rep k res fps h
    · exact shutL_rep k res fps h
end Go.Sx
