/- Calls with few places, among many; stores opened and shut. No condition. -/
import Derived.Test.YtjpcaplhblomcaaSx14
set_option linter.unusedVariables false
set_option linter.unusedSimpArgs false
namespace Go.Sx
open Go.RowKit (Below)

def allOwn (r' : List Res) : Nat → List (Nat × Bool) → Bool
  | _, [] => true
  | i, (_, o) :: l => (if o then ownR (rget r' i) else true) && allOwn r' (i + 1) l

theorem allOwn_spec {r' : List Res} : ∀ {l : List (Nat × Bool)} {i : Nat}, allOwn r' i l = true → ∀ k p : Nat, l[k]? = some (p, true) → ownR (rget r' (i + k)) = true
  | [], i, _, k, p, h => by simp at h
  | (x, o) :: l, i, ha, k, p, h => by
    simp only [allOwn, Bool.and_eq_true] at ha
    cases k with
    | zero => simp at h; obtain ⟨_, rfl⟩ := h; simpa using ha.1
    | succ k =>
      have := allOwn_spec ha.2 k p (by simpa using h)
      rwa [show i + (k + 1) = i + 1 + k by omega]

def allOwnE (r' : List Res) : List Nat → Bool
  | [] => true
  | j :: l => ownR (rget r' j) && allOwnE r' l

theorem allOwnE_spec {r' : List Res} : ∀ {l : List Nat}, allOwnE r' l = true → ∀ j ∈ l, ownR (rget r' j) = true
  | [], _, j, h => by simp at h
  | x :: l, ha, j, h => by
    simp only [allOwnE, Bool.and_eq_true] at ha
    rcases List.mem_cons.1 h with rfl | h
    · exact ha.1
    · exact allOwnE_spec ha.2 j h

/-- A value under other names. -/
def Turns (κ : Nat → Option Nat) (v v3 : V) : Prop := ∀ (ρ2 ρ3 : Env) (N N' : Nat → Prop), Env.via κ ρ2 ρ3 → (∀ j i, κ j = some i → N j → N' i) → ok N v → den ρ3 v3 = den ρ2 v ∧ ok N' v3

theorem Turns.idf {κ : Nat → Option Nat} {v x : V} (h : isE x v []) (hx : Sx.idf x = true) : Turns κ v x := fun ρ2 ρ3 N N' _ _ hv => by
  obtain ⟨s1, s2, _⟩ := h ρ2 N
  exact ⟨by rw [s1]; exact idf_den hx (s2 hv) ρ2 ρ3, idf_ok x hx (s2 hv)⟩

theorem Turns.ren {κ : Nat → Option Nat} {v v2 v3 : V} (h : renO κ v = some v2) (hs : ∀ ρ N, Same ρ N v2 v3) : Turns κ v v3 := fun ρ2 ρ3 N N' h1 h2 hv => by
  obtain ⟨c1, c2, _⟩ := renO_spec h1 h2 v v2 h
  obtain ⟨s1, s2, _⟩ := hs ρ3 N'
  exact ⟨s1.symm.trans c1, s2 (c2 hv)⟩

/-- What a call with few places gives, among many. -/
def Back (pl : List (Nat × Bool)) (res : List Res) (v : V) (r' : List Res) (K : V → List Res → Prop) : Prop :=
  ∃ (ext : List Nat) (v3 : V), okExt pl.length r'.length ext = true ∧ allOwn r' 0 pl = true ∧ allOwnE r' ext = true ∧ Turns (back pl ext res.length) v v3 ∧ K v3 (merge pl ext r' res)

section
variable {P : Program}

theorem CallTo.frame {f : Nat} {args args0 : List V} {res : List Res} {pl : List (Nat × Bool)} {K0 KP0 K KP : V → List Res → Prop} (hk : knownAll res pl = true) (hnd : okExt 0 res.length (fsts pl) = true)
    (ha : renOL (kap 0 (fsts pl)) args = some args0) (hc : CallTo P f args0 (restr (kap 0 (fsts pl)) res pl) K0 KP0)
    (hK : ∀ v r', K0 v r' → Back pl res v r' K) (hKP : ∀ v r', KP0 v r' → Back pl res v r' KP) : CallTo P f args res K KP := by
  intro ρ fps w0 F0 w hH hargs
  have hnd := (okExt_spec hnd).2
  obtain ⟨g1, g2, g3, g4⟩ := hH.restr hk hnd
  obtain ⟨a1, _, a3, _⟩ := renOL_spec g3 g4 _ _ ha
  rw [← a1]
  refine (hc _ _ _ _ _ g1 (a3 hargs)).mono fun e w' ⟨x, ρ2, fps2, r', h1, h2, h3, h4⟩ => ?_
  have fin : ∀ {K : V → List Res → Prop}, Back pl res x r' K → ∃ x' ρ' fps' res', HRep ρ' fps' res' (known res') w0 F0 w' ∧ Good ρ res ρ' res' ∧ ok (known res') x' ∧ den ρ' x' = den ρ2 x ∧ K x' res' := by
    rintro K ⟨ext, v3, b1, b2, b3, b4, b5⟩
    obtain ⟨ρ3, fps3, m1, m2, m3, m4⟩ := hH.merge hk hnd h1 h2 b1 (fun i p hp => by have := allOwn_spec b2 i p hp; rwa [Nat.zero_add] at this) (allOwnE_spec b3)
    obtain ⟨c1, c2⟩ := b4 ρ2 ρ3 _ _ m3 m4 h3
    exact ⟨v3, ρ3, fps3, _, m1, m2, c2, c1, b5⟩
  rcases h4 with ⟨rfl, h4⟩ | ⟨rfl, h4⟩
  · obtain ⟨x', ρ', fps', res', f1, f2, f3, f4, f5⟩ := fin (hK _ _ h4)
    exact ⟨x', ρ', fps', res', f1, f2, f3, .inl ⟨by rw [f4], f5⟩⟩
  · obtain ⟨x', ρ', fps', res', f1, f2, f3, f4, f5⟩ := fin (hKP _ _ h4)
    exact ⟨x', ρ', fps', res', f1, f2, f3, .inr ⟨by rw [f4], f5⟩⟩

/-- Does a place name no other? -/
def closedR : Res → Bool
  | .store _ _ _ => true
  | .arr _ _ _ => true
  | _ => false

theorem closedR_renR {κ : Nat → Option Nat} {r : Res} (h : closedR r = true) : renR κ r = r := by
  cases r <;> first | rfl | simp [closedR] at h

/-- What is seen at a place, whatever it is written as. -/
def Sees (res : List Res) (p : Nat) (r : Res) : Prop := known res p ∧ ∀ ρ fps K w0 F0 w, HRep ρ fps res K w0 F0 w →
  ∃ fp : Nat → Prop, r.holds K ρ p fp w0 F0 w ∧ ∀ b, fp b → (∃ i, known res i ∧ fps i b) ∨ (b < w0.heap.size ∧ ¬ F0 b)

theorem Sees.look {res : List Res} {p : Nat} {r : Res} (h : rlook res p = r) (hne : r ≠ .yet) : Sees res p r := by
  have hk := rlook_known h hne
  refine ⟨hk, fun ρ fps K w0 F0 w hH => ?_⟩
  obtain ⟨fp, g1, g2⟩ := hH.look' h hk
  exact ⟨fp, g1, fun b hb => (g2 b hb).elim (fun h => .inl ⟨p, hk, h⟩) .inr⟩

/-- Places that are only read. -/
def ros : List (Nat × Res) → List Res
  | [] => []
  | (_, r) :: l => .ro r :: ros l

theorem ros_get : ∀ (l : List (Nat × Res)) (i : Nat), rget (ros l) i = match l[i]? with | some p => .ro p.2 | none => .yet
  | [], i => by simp [ros, rget]
  | (p, r) :: l, 0 => by simp [ros, rget]
  | (p, r) :: l, i + 1 => by simp [ros, rget, ros_get l i]

theorem ros_length : ∀ l : List (Nat × Res), (ros l).length = l.length
  | [] => rfl
  | (p, r) :: l => by simp [ros, ros_length l]

def fstR : List (Nat × Res) → Nat → Nat
  | [], _ => 0
  | (p, _) :: _, 0 => p
  | _ :: l, i + 1 => fstR l i

theorem fstR_get : ∀ (l : List (Nat × Res)) (i : Nat) (p : Nat × Res), l[i]? = some p → fstR l i = p.1
  | [], i, p, h => by simp at h
  | (x, r) :: l, 0, p, h => by simp at h; subst h; rfl
  | (x, r) :: l, i + 1, p, h => by simp only [fstR]; exact fstR_get l i p (by simpa using h)

/-- A contract of a function that reads places. -/
theorem ct_read {f : Nat} {g : Ct} (h : ∀ res nid args q x new, g res nid args = some (q, x, new) → new = [] ∧ idf x = true ∧
    ∃ (pls : List (Nat × Res)) (args0 : List V), (∀ p ∈ pls, Sees res p.1 p.2 ∧ closedR p.2 = true) ∧ (∀ (ρ : Env) K, okL K args → denL (ρ.pull (fstR pls)) args0 = denL ρ args) ∧ (∀ K, okL K args → okL (known (ros pls)) args0) ∧
      (holdsO q → okL (known (ros pls)) args0 → CallTo P f args0 (ros pls) (isE x) (fun _ _ => False))) : CtOK P f g := by
  intro ρ fps res K w0 F0 w nid args q x new hH hargs hg hq hfr
  obtain ⟨rfl, hid, pls, args0, hcl, hden, hok, hc⟩ := h res nid args q x new hg
  refine ⟨?_, fun k hk => by simp at hk⟩
  have hfr : ∀ b, b < w0.heap.size → ¬ F0 b → w.heap[b]? = w0.heap[b]? ∧ ¬ (fun _ : Nat => False) b := fun b hb hF => ⟨hH.same b hb hF, fun h => h⟩
  have hrep : HRep (ρ.pull (fstR pls)) (fun _ _ => False) (ros pls) (known (ros pls)) w (fun _ => False) w := by
    refine ⟨fun i hi => hi, Nat.le_refl _, rfl, rfl, rfl, fun i hi => ?_, fun i b hi h => h.elim, fun i j b hi hj hne h => h.elim, fun i b hi h => h.elim, fun _ _ _ => rfl⟩
    have hlt := rget_lt hi
    rw [ros_length] at hlt
    have hp : pls[i]? = some pls[i] := List.getElem?_eq_getElem hlt
    generalize pls[i] = p at hp
    rw [ros_get, hp]
    simp only
    obtain ⟨hs, hcl⟩ := hcl p (List.mem_of_getElem? hp)
    obtain ⟨fp, g1, g2⟩ := hs.2 ρ fps K w0 F0 w hH
    have hv : Env.via (fun x => if x = p.1 then some i else none) ρ (ρ.pull (fstR pls)) := pull_via fun x j hx => by
      split at hx
      · simp only [Option.some.injEq] at hx; subst hx; rename_i e; subst e
        exact fstR_get pls i p hp
      · simp at hx
    have := renR_spec (N' := known (ros pls)) hv (fun x j hx _ => by
      split at hx
      · simp only [Option.some.injEq] at hx; subst hx; exact hi
      · simp at hx) (p := p.1) (i := i) (by simp) _ _ _ (Res.rebase hH.old hfr _ _ g1)
    rw [closedR_renR hcl] at this
    refine ⟨fp, this, fun b hb => ⟨?_, fun h => h⟩⟩
    rcases g2 b hb with ⟨j, hj, hf⟩ | ⟨hl, _⟩
    · exact hH.lt j b hj hf
    · exact Nat.lt_of_lt_of_le hl hH.old
  have hok0 := hok K hargs
  rw [← hden ρ K hargs]
  refine (hc hq hok0 _ _ _ _ _ hrep hok0).mono fun e w' ⟨y, ρ', fps', res', g1, g2, g3, g4⟩ => ?_
  rcases g4 with ⟨rfl, hK⟩ | ⟨_, hK⟩
  · refine ⟨_, rfl, ρ, ?_, ?_, ?_⟩
    · exact ⟨⟨g1.os, g1.tape, g1.output, g1.old, fun b hb => g1.same b hb (fun h => h)⟩, Env.agree.refl _ _, fun _ _ => False, fun k hk => by simp at hk, fun k l b hk => by simp at hk⟩
    · obtain ⟨e1, e2, _⟩ := hK ρ' (known res')
      rw [e1]
      exact idf_den hid (e2 g3) ρ ρ'
    · obtain ⟨e1, e2, _⟩ := hK ρ' (known res')
      exact idf_ok x hid (e2 g3)
  · exact hK.elim

theorem CallTo.good {f : Nat} {args : List V} {res res1 : List Res} {K KP : V → List Res → Prop} (h : CallTo P f args res1 K KP)
    (ho : ∀ ρ fps w0 F0 w, HRep ρ fps res (known res) w0 F0 w → ∃ ρ' fps', HRep ρ' fps' res1 (known res1) w0 F0 w ∧ Good ρ res ρ' res1) : CallTo P f args res K KP := by
  intro ρ fps w0 F0 w hH hargs
  obtain ⟨ρ', fps', h1, h2⟩ := ho ρ fps w0 F0 w hH
  rw [← denL_agree h2.1 args hargs]
  refine (h ρ' fps' w0 F0 w h1 (okL_mono h2.2 _ hargs)).mono fun e w' ⟨x, ρ2, fps2, r', g1, g2, g3, g4⟩ => ⟨x, ρ2, fps2, r', g1, h2.trans g2, g3, g4⟩

theorem CallTo.openS {f : Nat} {args : List V} {res : List Res} {k t e : Nat} {L : List Obj} {K KP : V → List Res → Prop} (hr : rget res k = .store t e L) (h : CallTo P f args (openS res k t e L) K KP) : CallTo P f args res K KP :=
  h.good fun _ _ _ _ _ hH => openS_rep hr hH

theorem CallTo.openRS {f : Nat} {args : List V} {res : List Res} {k t e : Nat} {L : List Obj} {K KP : V → List Res → Prop} (hr : rget res k = .ro (.store t e L)) (h : CallTo P f args (openRS res k t e L) K KP) : CallTo P f args res K KP :=
  h.good fun _ _ _ _ _ hH => openRS_rep hr hH

/-- Behind a call a store is shut. -/
theorem CallTo.shut {f : Nat} {args : List V} {res : List Res} {K0 KP K : V → List Res → Prop} (h : CallTo P f args res K0 KP) (hK : ∀ v r, K0 v r → K v r ∨ ∃ k r', shutS r k = some r' ∧ K v r') : CallTo P f args res K KP := by
  intro ρ fps w0 F0 w hH hargs
  refine (h ρ fps w0 F0 w hH hargs).mono fun e w' ⟨x, ρ2, fps2, r', g1, g2, g3, g4⟩ => ?_
  rcases g4 with ⟨rfl, hk⟩ | g4
  · rcases hK _ _ hk with hk | ⟨k, r2, s1, s2⟩
    · exact ⟨x, ρ2, fps2, r', g1, g2, g3, .inl ⟨rfl, hk⟩⟩
    · obtain ⟨fps3, m1, m2⟩ := shutS_rep s1 g1
      exact ⟨x, ρ2, fps3, r2, m1, ⟨g2.1, fun i hi => m2 i (g2.2 i hi)⟩, ok_mono m2 _ g3, .inl ⟨rfl, s2⟩⟩
  · exact ⟨x, ρ2, fps2, r', g1, g2, g3, .inr g4⟩

end
end Go.Sx
