/- Contracts: slices that are written out, seen as lists; a store and a list at once. No condition. -/
import Derived.Test.YtjpcaplhblomcaaSx19
set_option linter.unusedVariables false
set_option linter.unusedSimpArgs false
namespace Go.Sx
open Go.RowKit (Below)

def obsV : List V → Option (List Obj)
  | [] => some []
  | v :: l => match v with
    | .ob o => match obsV l with
      | some m => some (o :: m)
      | none => none
    | _ => none

theorem obsV_spec : ∀ {l : List V} {L : List Obj}, obsV l = some L → l = L.map V.ob
  | [], L, h => by simp only [obsV, Option.some.injEq] at h; subst h; rfl
  | v :: l, L, h => by
    simp only [obsV] at h
    split at h
    · split at h <;> simp only [Option.some.injEq, reduceCtorEq] at h
      rename_i o m hm
      subst h
      rw [obsV_spec hm]; rfl
    · simp at h

theorem cellsL_obs (ρ : Env) (L : List Obj) : cellsL ρ (L.map V.ob) = (TL.ob L).cells := by
  unfold TL.cells
  rw [cellsL_eq]
  have h : ∀ M : List Obj, (M.map V.ob).flatMap (cells ρ) = (List.range M.length).flatMap fun j => cells Env.zero (.ob (lget M j free)) := by
    intro M
    induction M with
    | nil => rfl
    | cons o M ih =>
      rw [List.map_cons, List.flatMap_cons, ih, List.length_cons, List.range_succ_eq_map, List.flatMap_cons, List.flatMap_map]
      congr 1
  exact h L

def obsX (x : V) : Option (List Obj) :=
  match x with
  | .ag l => obsV l
  | .ob o => some [o]
  | _ => none

theorem obsX_spec {x : V} {L : List Obj} {N : Nat → Prop} (h : obsX x = some L) (hx : ok N x) : (∀ ρ, cells ρ x = (TL.ob L).cells) ∧ ∀ j, j < L.length → (lget L j free).wf := by
  unfold obsX at h
  split at h
  · have := obsV_spec h
    subst this
    refine ⟨fun ρ => by rw [cells_ag, cellsL_obs], fun j hj => ?_⟩
    have := (okL_iff _).1 hx.1 (.ob (L[j])) (by simp)
    have this : (L[j]).wf := this
    simpa [lget, List.getD_eq_getElem?_getD, hj] using this
  · rename_i o
    simp only [Option.some.injEq] at h
    subst h
    refine ⟨fun ρ => ?_, fun j hj => ?_⟩
    · have := cellsL_obs ρ [o]
      rw [← this]
      simp [cellsL, cells]
    · have : j = 0 := by simp at hj; omega
      subst this
      exact hx
  · simp at h

theorem CallTo.scArg {P : Program} {f : Nat} {rest : List V} {res : List Res} {K KP : V → List Res → Prop} {k n e : Nat} {x : V} {L : List Obj} (hr : rget res k = .blk e x) (hl : obsX x = some L) (hn : n = L.length) (hs : n ≤ 1000)
    (h : CallTo P f (.sa res.length :: rest) (rset res k .gone ++ [.arr (some e) 163 (.ob L)]) K KP) : CallTo P f (.sc k n n :: rest) res K KP := by
  intro ρ fps w0 F0 w hH hargs
  have hk : known res k := by unfold known; rw [hr]; simp
  have hh := hH.holds k hk
  rw [hr] at hh
  obtain ⟨h1, _, h3, h4⟩ := hh
  obtain ⟨hcells, hwf⟩ := obsX_spec hl h1
  have hcells := hcells ρ
  have hnk : ¬ known res res.length := fun hk => by have := rget_lt hk; omega
  have hlen : (TL.ob L).cells.length = n * 163 := by
    unfold TL.cells
    rw [hn]
    exact flat_len fun j hj => by
      rw [show (TL.ob L).get j = V.ob (lget L j free) from rfl, cells_ob]; exact obCells_length _
  have hag := setSlO_agree (N := known res) ρ (i := res.length) (a := some ⟨ρ.num k, 0, none⟩) (n := n) (cap := n) hnk
  obtain ⟨fps', g1, g2, g3, g4⟩ := hH.newres (ρ' := ρ.setSlO res.length (some ⟨ρ.num k, 0, none⟩) n n) (w' := w) [k] (.arr (some e) 163 (.ob L)) [] (fun x => x = ρ.num k) (by simp) (by simpa using hk) (by simp) hag
    (by
      refine ⟨fun j hj => ⟨hwf j hj, rfl, rfl⟩, by simp [Env.setSlO, TL.len, hn, llen], by simp only [TL.len, llen]; omega, fun a ha => by simp [Env.setSlO] at ha ⊢; exact ha.symm, fun _ => by simp [Env.setSlO], fun _ => by simp [Env.setSlO], .inr ⟨e, fun e' he => by simpa using he.symm, ?_, fun a ha => by simp [Env.setSlO] at ha; rw [← ha]⟩⟩
      rw [show (ρ.setSlO res.length (some ⟨ρ.num k, 0, none⟩) n n).sl res.length = .slice (some ⟨ρ.num k, 0, none⟩) n n by simp [Env.sl, Env.setSlO]]
      rw [hcells] at h4
      refine ⟨by rw [hlen, hn]; rfl, .inr ⟨_, _, _, by rw [hn]; rfl, Nat.zero_le _, h4, by rw [show (TL.ob L).len = L.length from rfl]; exact Nat.le_refl _, by simp only [maxLen]; rw [← hn]; omega, by rw [← hn]; simpa using hlen, ?_⟩⟩
      have hh : (TL.ob L).len * 163 = n * 163 := by rw [hn]; rfl
      rw [hh]
      exact List.take_of_length_le (by simpa using Nat.le_of_eq hlen))
    (fun x hx => .inl ⟨k, by simp, by rw [hx]; exact h3⟩) rfl rfl rfl (Nat.le_refl _) (fun _ _ _ => rfl)
  have hargs' : okL (known (goneL [k] res ++ [.arr (some e) 163 (.ob L)])) (.sa res.length :: rest) := ⟨g4, okL_mono g3 _ hargs.2⟩
  have hd : denL (ρ.setSlO res.length (some ⟨ρ.num k, 0, none⟩) n n) (.sa res.length :: rest) = denL ρ (.sc k n n :: rest) := by
    simp only [denL, denL_agree hag rest hargs.2]
    simp [den, Env.setSlO]
  have := h _ fps' w0 F0 w g1 hargs'
  rw [hd] at this
  refine this.mono fun en w' ⟨x, ρ'', fps'', res'', a1, a2, a3, a4⟩ => ⟨x, ρ'', fps'', res'', a1, ⟨g2.trans (a2.1.mono fun i hi => g3 i hi) (fun _ h => h), fun i hi => a2.2 i (g3 i hi)⟩, a3, a4⟩

/-- A contract whose first argument may be a slice that is written out. -/
def hLit (h : HCt) : HCt := fun args res K =>
  match args with
  | a :: rest => match a with
    | .sc k n c => match rget res k with
      | .blk e x => match obsX x with
          | some L => if n == L.length && c == n && Nat.ble n 1000 then h (.sa res.length :: rest) (rset res k .gone ++ [.arr (some e) 163 (.ob L)]) K else False
          | none => False
      | _ => False
    | a => h (a :: rest) res K
  | [] => h [] res K

theorem hLit_ok {P : Program} {f : Nat} {h : HCt} (hh : HOK P f h) : HOK P f (hLit h) := by
  intro args res K KP hc
  unfold hLit at hc
  split at hc
  · split at hc
    · split at hc
      case h_2 => exact hc.elim
      rename_i e x hr
      split at hc
      case h_2 => exact hc.elim
      rename_i L hL
      split at hc
      case isFalse => exact hc.elim
      rename_i hb
      simp only [Bool.and_eq_true, beq_iff_eq, Nat.ble_eq] at hb
      obtain ⟨⟨h1, rfl⟩, h2⟩ := hb
      exact CallTo.scArg hr hL h1 h2 (hh _ _ _ _ hc)
    · exact hh _ _ _ _ hc
  · exact hh _ _ _ _ hc
end Go.Sx
