/- The executor: functions that make places and give them. No condition. -/
import Derived.Test.YtjpcaplhblomcaaSx17
set_option linter.unusedVariables false
set_option linter.unusedSimpArgs false
namespace Go.Sx
open Go.RowKit (Below)

def newL (κ : Nat → Option Nat) (r : List Res) : List Nat → Option (List Res)
  | [] => some []
  | p :: l => if knownB r p && ownR (rget r p) then match newL κ r l with
      | some m => some (renR κ (rget r p) :: m)
      | none => none
    else none

/-- A value over new places, named from a number on. -/
def NewAs (π : List Nat) (x : Nat → V) (new : Nat → List Res) (v : V) (r : List Res) : Prop :=
  ∀ nid, renO (idxOf π nid) v = some (x nid) ∧ newL (idxOf π nid) r π = some (new nid)

def mkNew (x : Nat → V) (new : Nat → List Res) : Ct := fun _ nid args => match args with
  | [] => some (none, x nid, new nid)
  | _ => none

def yfr : List Res → Bool
  | [] => true
  | r :: l => match r with
    | .yet => false
    | _ => yfr l

theorem yfr_spec : ∀ {l : List Res}, yfr l = true → ∀ k, k < l.length → rget l k ≠ .yet
  | [], _, k, hk => by simp at hk
  | r :: l, h, k, hk => by
    simp only [yfr] at h
    split at h
    · simp at h
    · rename_i hr
      cases k with
      | zero => exact hr
      | succ k => exact yfr_spec h k (by simpa using hk)

theorem newL_spec {κ : Nat → Option Nat} {r : List Res} : ∀ {π : List Nat} {new : List Res}, newL κ r π = some new → new.length = π.length ∧
    ∀ (k p : Nat), π[k]? = some p → known r p ∧ ownR (rget r p) = true ∧ rget new k = renR κ (rget r p)
  | [], new, h => by simp only [newL, Option.some.injEq] at h; subst h; exact ⟨rfl, fun k p h => by simp at h⟩
  | q :: π, new, h => by
    simp only [newL] at h
    split at h
    · rename_i hc
      simp only [Bool.and_eq_true] at hc
      split at h <;> simp only [Option.some.injEq, reduceCtorEq] at h
      rename_i m hm
      subst h
      obtain ⟨a, b⟩ := newL_spec hm
      refine ⟨by simp [a], fun k p hk => ?_⟩
      cases k with
      | zero => simp at hk; subst hk; exact ⟨knownB_iff.1 hc.1, hc.2, rfl⟩
      | succ k => exact b k p (by simpa using hk)
    · simp at h

theorem mkNew_ok {P : Program} {f : Nat} {π : List Nat} {x : Nat → V} {new : Nat → List Res} (hnd : π.Nodup) (hy : ∀ nid, yfr (new nid) = true) (h : CallTo P f [] [] (NewAs π x new) (fun _ _ => False)) : CtOK P f (mkNew x new) := by
  intro ρ fps res K w0 F0 w nid args q y new' hH hargs hg hq hfr
  unfold mkNew at hg
  split at hg <;> simp only [Option.some.injEq, Prod.mk.injEq, reduceCtorEq] at hg
  obtain ⟨_, rfl, rfl⟩ := hg
  have hE : HRep ρ (fun _ _ => False) [] (known []) w (fun _ => False) w :=
    ⟨fun i hi => hi, Nat.le_refl _, rfl, rfl, rfl, fun i hi => by simp [known, rget] at hi, fun i b hi => by simp [known, rget] at hi, fun i j b hi => by simp [known, rget] at hi, fun i b hi => by simp [known, rget] at hi, fun _ _ _ => rfl⟩
  have hc := h ρ _ w (fun _ => False) w hE trivial
  refine ⟨?_, ?_⟩
  · refine hc.mono fun e w' ⟨v, ρ1, fps1, r, g1, g2, g3, g4⟩ => ?_
    rcases g4 with ⟨rfl, hN⟩ | ⟨_, hF⟩
    · obtain ⟨n1, n2⟩ := hN nid
      obtain ⟨l1, l2⟩ := newL_spec n2
      refine ⟨_, rfl, ?_⟩
      let ρ' : Env := ⟨fun i => if i < nid then ρ.num i else if i < nid + π.length then ρ1.num (π.getD (i - nid) 0) else ρ.num i, fun i => if i < nid then ρ.cap i else if i < nid + π.length then ρ1.cap (π.getD (i - nid) 0) else ρ.cap i,
        fun i => if i < nid then ρ.adr i else if i < nid + π.length then ρ1.adr (π.getD (i - nid) 0) else ρ.adr i, fun i => if i < nid then ρ.sa i else if i < nid + π.length then ρ1.sa (π.getD (i - nid) 0) else ρ.sa i,
        fun i => if i < nid then ρ.sn i else if i < nid + π.length then ρ1.sn (π.getD (i - nid) 0) else ρ.sn i, fun i => if i < nid then ρ.ob i else if i < nid + π.length then ρ1.ob (π.getD (i - nid) 0) else ρ.ob i⟩
      have hvia : Env.via (idxOf π nid) ρ1 ρ' := by
        intro p i hp
        obtain ⟨a1, a2, a3⟩ := idxOf_spec hp
        have : π.getD (i - nid) 0 = p := by simp [List.getD_eq_getElem?_getD, a3]
        simp [ρ', if_neg (show ¬ i < nid by omega), if_pos a2, a3]
      have hat : ∀ k, k < (new nid).length → ∃ p, π[k]? = some p ∧ idxOf π nid p = some (nid + k) := fun k hk => by
        have hk' : k < π.length := by omega
        exact ⟨π[k], by simp [hk'], idxOf_of π nid k hnd (by simp [hk'])⟩
      have hNN : ∀ p i, idxOf π nid p = some i → known r p → K i ∨ fresh nid (new nid).length i := fun p i hp _ => by
        obtain ⟨a1, a2, a3⟩ := idxOf_spec hp
        exact .inr ⟨a1, by omega⟩
      refine ⟨ρ', ⟨⟨g1.os, g1.tape, g1.output, g1.old, fun b hb => g1.same b hb (by simp)⟩, fun i hi => ?_, fun k => fps1 (π.getD k 0), fun k hk => ?_, fun k l b hk hl hne => ?_⟩, ?_, ?_⟩
      · have : ¬ (nid ≤ i ∧ i < nid + π.length) := fun ⟨a, b⟩ => hi ⟨a, by omega⟩
        by_cases hlt : i < nid
        · simp [ρ', if_pos hlt]
        · simp [ρ', if_neg hlt, if_neg (show ¬ i < nid + π.length by omega)]
      · obtain ⟨p, p1, p2⟩ := hat k hk
        obtain ⟨m1, m2, m3⟩ := l2 k p p1
        have hgd : π.getD k 0 = p := by simp [List.getD_eq_getElem?_getD, p1]
        simp only [hgd]
        refine ⟨?_, fun b hb => ⟨?_, g1.lt p b m1 hb⟩⟩
        · rw [m3]
          exact renR_spec hvia hNN p2 _ _ _ (ownR_holds m2 (g1.holds p m1))
        · refine Nat.le_of_not_lt fun hlt => ?_
          exact g1.inF p b m1 hb hlt
      · obtain ⟨p, p1, p2⟩ := hat k hk
        obtain ⟨p', p1', p2'⟩ := hat l hl
        have hgd : π.getD k 0 = p := by simp [List.getD_eq_getElem?_getD, p1]
        have hgd' : π.getD l 0 = p' := by simp [List.getD_eq_getElem?_getD, p1']
        simp only [hgd, hgd']
        have hpp : p ≠ p' := by
          rintro rfl
          rw [p2] at p2'
          simp at p2'
          omega
        exact g1.disj p p' b (l2 k p p1).1 (l2 l p' p1').1 hpp
      · exact (renO_spec hvia hNN _ _ n1).1.symm
      · exact (renO_spec hvia hNN _ _ n1).2.1 g3
    · exact hF.elim
  · intro k hk
    exact yfr_spec (hy nid) k hk
end Go.Sx
