/- Calls with few places, among many; stores opened and shut. No condition. -/
import Derived.Test.YtccgpnoiageklaaSx14
namespace Go.Sx
open Go.RowKit (Below)

def allOwn (r' : List Res) : Nat → List (Nat × Bool) → Bool
  | _, [] => true
  | i, (_, o) :: l => (if o then ownR (rget r' i) else true) && allOwn r' (i + 1) l

theorem allOwn_spec {r' : List Res} : ∀ {l : List (Nat × Bool)} {i : Nat}, allOwn r' i l = true → ∀ k p : Nat, l[k]? = some (p, true) → ownR (rget r' (i + k)) = true
  | [], i, _, k, p, h => by simp at h
  | (x, o) :: l, i, ha, k, p, h => by
    simp only [allOwn, Bool.and_eq_true] at ha
    cases k with
    | zero => simp at h; obtain ⟨_, rfl⟩ := h; simpa using ha.1
    | succ k =>
      have := allOwn_spec ha.2 k p (by simpa using h)
      rwa [show i + (k + 1) = i + 1 + k by omega]

def allOwnE (r' : List Res) : List Nat → Bool
  | [] => true
  | j :: l => ownR (rget r' j) && allOwnE r' l

theorem allOwnE_spec {r' : List Res} : ∀ {l : List Nat}, allOwnE r' l = true → ∀ j ∈ l, ownR (rget r' j) = true
  | [], _, j, h => by simp at h
  | x :: l, ha, j, h => by
    simp only [allOwnE, Bool.and_eq_true] at ha
    rcases List.mem_cons.1 h with rfl | h
    · exact ha.1
    · exact allOwnE_spec ha.2 j h

/-- A value under other names. -/
def Turns (κ : Nat → Option Nat) (v v3 : V) : Prop := ∀ (ρ2 ρ3 : Env) (N N' : Nat → Prop), Env.via κ ρ2 ρ3 → (∀ j i, κ j = some i → N j → N' i) → ok N v → den ρ3 v3 = den ρ2 v ∧ ok N' v3

theorem Turns.idf {κ : Nat → Option Nat} {v x : V} (h : isE x v []) (hx : Sx.idf x = true) : Turns κ v x := fun ρ2 ρ3 N N' _ _ hv => by
  obtain ⟨s1, s2, _⟩ := h ρ2 N
  exact ⟨by rw [s1]; exact idf_den hx (s2 hv) ρ2 ρ3, idf_ok x hx (s2 hv)⟩

theorem Turns.ren {κ : Nat → Option Nat} {v v2 v3 : V} (h : renO κ v = some v2) (hs : ∀ ρ N, Same ρ N v2 v3) : Turns κ v v3 := fun ρ2 ρ3 N N' h1 h2 hv => by
  obtain ⟨c1, c2, _⟩ := renO_spec h1 h2 v v2 h
  obtain ⟨s1, s2, _⟩ := hs ρ3 N'
  exact ⟨s1.symm.trans c1, s2 (c2 hv)⟩

/-- What a call with few places gives, among many. -/
def Back (pl : List (Nat × Bool)) (res : List Res) (v : V) (r' : List Res) (K : V → List Res → Prop) : Prop :=
  ∃ (ext : List Nat) (v3 : V), okExt pl.length r'.length ext = true ∧ allOwn r' 0 pl = true ∧ allOwnE r' ext = true ∧ Turns (back pl ext res.length) v v3 ∧ K v3 (merge pl ext r' res)

section
variable {P : Program}

theorem CallTo.frame {f : Nat} {args args0 : List V} {res : List Res} {pl : List (Nat × Bool)} {K0 KP0 K KP : V → List Res → Prop} (hk : knownAll res pl = true) (hnd : okExt 0 res.length (fsts pl) = true)
    (ha : renOL (kap 0 (fsts pl)) args = some args0) (hc : CallTo P f args0 (restr (kap 0 (fsts pl)) res pl) K0 KP0)
    (hK : ∀ v r', K0 v r' → Back pl res v r' K) (hKP : ∀ v r', KP0 v r' → Back pl res v r' KP) : CallTo P f args res K KP := by
  intro ρ fps w0 F0 w hH hargs
  have hnd := (okExt_spec hnd).2
  obtain ⟨g1, g2, g3, g4⟩ := hH.restr hk hnd
  obtain ⟨a1, _, a3, _⟩ := renOL_spec g3 g4 _ _ ha
  rw [← a1]
  refine (hc _ _ _ _ _ g1 (a3 hargs)).mono fun e w' ⟨x, ρ2, fps2, r', h1, h2, h3, h4⟩ => ?_
  have fin : ∀ {K : V → List Res → Prop}, Back pl res x r' K → ∃ x' ρ' fps' res', HRep ρ' fps' res' (known res') w0 F0 w' ∧ Good ρ res ρ' res' ∧ ok (known res') x' ∧ den ρ' x' = den ρ2 x ∧ K x' res' := by
    rintro K ⟨ext, v3, b1, b2, b3, b4, b5⟩
    obtain ⟨ρ3, fps3, m1, m2, m3, m4⟩ := hH.merge hk hnd h1 h2 b1 (fun i p hp => by have := allOwn_spec b2 i p hp; rwa [Nat.zero_add] at this) (allOwnE_spec b3)
    obtain ⟨c1, c2⟩ := b4 ρ2 ρ3 _ _ m3 m4 h3
    exact ⟨v3, ρ3, fps3, _, m1, m2, c2, c1, b5⟩
  rcases h4 with ⟨rfl, h4⟩ | ⟨rfl, h4⟩
  · obtain ⟨x', ρ', fps', res', f1, f2, f3, f4, f5⟩ := fin (hK _ _ h4)
    exact ⟨x', ρ', fps', res', f1, f2, f3, .inl ⟨by rw [f4], f5⟩⟩
  · obtain ⟨x', ρ', fps', res', f1, f2, f3, f4, f5⟩ := fin (hKP _ _ h4)
    exact ⟨x', ρ', fps', res', f1, f2, f3, .inr ⟨by rw [f4], f5⟩⟩

/-- Does a place name no other? -/
def closedR : Res → Bool
  | .store _ _ _ => true
  | .arr _ _ _ => true
  | _ => false

theorem closedR_renR {κ : Nat → Option Nat} {r : Res} (h : closedR r = true) : renR κ r = r := by
  cases r <;> first | rfl | simp [closedR] at h

/-- What is seen at a place, whatever it is written as. -/
def Sees (res : List Res) (p : Nat) (r : Res) : Prop := known res p ∧ ∀ ρ fps K w0 F0 w, HRep ρ fps res K w0 F0 w →
  ∃ fp : Nat → Prop, r.holds K ρ p fp w0 F0 w ∧ ∀ b, fp b → (∃ i, known res i ∧ fps i b) ∨ (b < w0.heap.size ∧ ¬ F0 b)

theorem Sees.look {res : List Res} {p : Nat} {r : Res} (h : rlook res p = r) (hne : r ≠ .yet) : Sees res p r := by
  have hk := rlook_known h hne
  refine ⟨hk, fun ρ fps K w0 F0 w hH => ?_⟩
  obtain ⟨fp, g1, g2⟩ := hH.look' h hk
  exact ⟨fp, g1, fun b hb => (g2 b hb).elim (fun h => .inl ⟨p, hk, h⟩) .inr⟩

/-- Places that are only read. -/
def ros : List (Nat × Res) → List Res
  | [] => []
  | (_, r) :: l => .ro r :: ros l

theorem ros_get : ∀ (l : List (Nat × Res)) (i : Nat), rget (ros l) i = match l[i]? with | some p => .ro p.2 | none => .yet
  | [], i => by simp [ros, rget]
  | (p, r) :: l, 0 => by simp [ros, rget]
  | (p, r) :: l, i + 1 => by simp [ros, rget, ros_get l i]

theorem ros_length : ∀ l : List (Nat × Res), (ros l).length = l.length
  | [] => rfl
  | (p, r) :: l => by simp [ros, ros_length l]

def fstR : List (Nat × Res) → Nat → Nat
  | [], _ => 0
  | (p, _) :: _, 0 => p
  | _ :: l, i + 1 => fstR l i

theorem fstR_get : ∀ (l : List (Nat × Res)) (i : Nat) (p : Nat × Res), l[i]? = some p → fstR l i = p.1
  | [], i, p, h => by simp at h
  | (x, r) :: l, 0, p, h => by simp at h; subst h; rfl
  | (x, r) :: l, i + 1, p, h => by simp only [fstR]; exact fstR_get l i p (by simpa using h)

/-- A contract of a function that reads places. -/
theorem ct_read {f : Nat} {g : Ct} (h : ∀ res nid args q x new, g res nid args = some (q, x, new) → new = [] ∧ idf x = true ∧
    ∃ (pls : List (Nat × Res)) (args0 : List V), (∀ p ∈ pls, Sees res p.1 p.2 ∧ closedR p.2 = true) ∧ (∀ (ρ : Env) K, okL K args → denL (ρ.pull (fstR pls)) args0 = denL ρ args) ∧ (∀ K, okL K args → okL (known (ros pls)) args0) ∧
      (holdsO q → okL (known (ros pls)) args0 → CallTo P f args0 (ros pls) (isE x) (fun _ _ => False))) : CtOK P f g := by
  intro ρ fps res K w0 F0 w nid args q x new hH hargs hg hq hfr
  obtain ⟨rfl, hid, pls, args0, hcl, hden, hok, hc⟩ := h res nid args q x new hg
  refine ⟨?_, fun k hk => by simp at hk⟩
  have hfr : ∀ b, b < w0.heap.size → ¬ F0 b → w.heap[b]? = w0.heap[b]? ∧ ¬ (fun _ : Nat => False) b := fun b hb hF => ⟨hH.same b hb hF, fun h => h⟩
  have hrep : HRep (ρ.pull (fstR pls)) (fun _ _ => False) (ros pls) (known (ros pls)) w (fun _ => False) w := by
    refine ⟨fun i hi => hi, Nat.le_refl _, rfl, rfl, rfl, fun i hi => ?_, fun i b hi h => h.elim, fun i j b hi hj hne h => h.elim, fun i b hi h => h.elim, fun _ _ _ => rfl⟩
    have hlt := rget_lt hi
    rw [ros_length] at hlt
    have hp : pls[i]? = some pls[i] := List.getElem?_eq_getElem hlt
    generalize pls[i] = p at hp
    rw [ros_get, hp]
    simp only
    obtain ⟨hs, hcl⟩ := hcl p (List.mem_of_getElem? hp)
    obtain ⟨fp, g1, g2⟩ := hs.2 ρ fps K w0 F0 w hH
    have hv : Env.via (fun x => if x = p.1 then some i else none) ρ (ρ.pull (fstR pls)) := pull_via fun x j hx => by
      split at hx
      · simp only [Option.some.injEq] at hx; subst hx; rename_i e; subst e
        exact fstR_get pls i p hp
      · simp at hx
    have := renR_spec (N' := known (ros pls)) hv (fun x j hx _ => by
      split at hx
      · simp only [Option.some.injEq] at hx; subst hx; exact hi
      · simp at hx) (p := p.1) (i := i) (by simp) _ _ _ (Res.rebase hH.old hfr _ _ g1)
    rw [closedR_renR hcl] at this
    refine ⟨fp, this, fun b hb => ⟨?_, fun h => h⟩⟩
    rcases g2 b hb with ⟨j, hj, hf⟩ | ⟨hl, _⟩
    · exact hH.lt j b hj hf
    · exact Nat.lt_of_lt_of_le hl hH.old
  have hok0 := hok K hargs
  rw [← hden ρ K hargs]
  refine (hc hq hok0 _ _ _ _ _ hrep hok0).mono fun e w' ⟨y, ρ', fps', res', g1, g2, g3, g4⟩ => ?_
  rcases g4 with ⟨rfl, hK⟩ | ⟨_, hK⟩
  · refine ⟨_, rfl, ρ, ?_, ?_, ?_⟩
    · exact ⟨⟨g1.os, g1.tape, g1.output, g1.old, fun b hb => g1.same b hb (fun h => h)⟩, Env.agree.refl _ _, fun _ _ => False, fun k hk => by simp at hk, fun k l b hk => by simp at hk⟩
    · obtain ⟨e1, e2, _⟩ := hK ρ' (known res')
      rw [e1]
      exact idf_den hid (e2 g3) ρ ρ'
    · obtain ⟨e1, e2, _⟩ := hK ρ' (known res')
      exact idf_ok x hid (e2 g3)
  · exact hK.elim

/-- An environment in which a store is open. -/
def Env.setSt (ρ : Env) (n : Nat) (sa : Option Addr) (sn cap : Nat) (ob : Nat → Nat) : Env :=
  { num := ρ.num, cap := fun j => if j = n then cap else ρ.cap j, adr := fun j => if j = n then sa.getD ⟨0, 0, none⟩ else ρ.adr j, sa := fun j => if j = n then sa else ρ.sa j, sn := fun j => if j = n then sn else ρ.sn j,
    ob := fun j => if j = n + 1 then ob else ρ.ob j }

theorem setSt_agree {N : Nat → Prop} {ρ : Env} {i : Nat} {a : Option Addr} {n cap : Nat} {ob : Nat → Nat} (h : ¬ N i) (h' : ¬ N (i + 1)) : Env.agree N ρ (ρ.setSt i a n cap ob) := fun j hj => by
  have e1 : j ≠ i := fun e => h (e ▸ hj)
  have e2 : j ≠ i + 1 := fun e => h' (e ▸ hj)
  simp [Env.setSt, e1, e2]

theorem ownsRow_slice {w : World} {e size n : Nat} {v : Value} {xs : List Value} (h : w.ownsRow 0 e size v n xs) : ∃ a cap, v = .slice a n cap := by
  rcases h.2 with ⟨rfl, rfl⟩ | ⟨g, cap, cur, rfl, _⟩
  · exact ⟨_, _, rfl⟩
  · exact ⟨_, _, rfl⟩

/-- What a store is, open. -/
theorem store_open {K : Nat → Prop} {ρ : Env} {k t e : Nat} {L : List Obj} {fp : Nat → Prop} {w0 w : World} {F0 : Nat → Prop} (h : (Res.store t e L).holds K ρ k fp w0 F0 w) :
    ∃ (sa : Option Addr) (cap : Nat) (ob : Nat → Nat), ∀ (n : Nat) (K' : Nat → Prop) (w1 : World) (F1 : Nat → Prop), K' n → K' (n + 1) →
      (Res.blk t (.ag [.sa n])).holds K' (ρ.setSt n sa L.length cap ob) k (fun b => b = ρ.num k) w1 F1 w ∧ (Res.obs e (n + 1) L).holds K' (ρ.setSt n sa L.length cap ob) n (fun b => fp b ∧ b ≠ ρ.num k) w1 F1 w := by
  obtain ⟨h0, h1, h2, sl, ob, h3, h5, h6, h7⟩ := h
  obtain ⟨a, cap, rfl⟩ := ownsRow_slice h5
  refine ⟨a, cap, ob, fun n K' w1 F1 hn hn' => ⟨⟨⟨⟨hn, trivial⟩, trivial, trivial⟩, rfl, by simp [Env.setSt], ?_⟩, ?_⟩⟩
  · simp only [Env.setSt, cells_ag, cellsL, den, Value.cells, if_true]
    exact h3
  · refine ⟨hn', h1, by simp [Env.setSt], h2, fun x hx => ?_, fun hl => ?_, ?_, fun j hj => ?_⟩
    · simp only [Env.setSt, if_true] at hx ⊢
      subst hx
      exact ⟨rfl, h6 _ rfl⟩
    · simp only [Env.setSt, if_true]
      rcases h5.2 with ⟨hh, h0⟩ | ⟨g, cap', cur, hh, _⟩
      · omega
      · simp only [Value.slice.injEq] at hh
        rw [hh.1]; rfl
    · have : (ρ.setSt n a L.length cap ob).sl n = .slice a L.length cap := by simp [Env.sl, Env.setSt]
      rw [this]
      simpa [Env.setSt] using h5
    · obtain ⟨g1, g2, g3⟩ := h7 j hj
      simp only [Env.setSt, if_true]
      exact ⟨⟨g1, g2⟩, g3⟩

/-- The places with a store open. -/
def openS (res : List Res) (k t e : Nat) (L : List Obj) : List Res := rset res k (.blk t (.ag [.sa res.length])) ++ [.obs e (res.length + 1) L, .gen res.length]
def openRS (res : List Res) (k t e : Nat) (L : List Obj) : List Res := rset res k (.ro (.blk t (.ag [.sa res.length]))) ++ [.ro (.obs e (res.length + 1) L), .gen res.length]

theorem CallTo.good {f : Nat} {args : List V} {res res1 : List Res} {K KP : V → List Res → Prop} (h : CallTo P f args res1 K KP)
    (ho : ∀ ρ fps w0 F0 w, HRep ρ fps res (known res) w0 F0 w → ∃ ρ' fps', HRep ρ' fps' res1 (known res1) w0 F0 w ∧ Good ρ res ρ' res1) : CallTo P f args res K KP := by
  intro ρ fps w0 F0 w hH hargs
  obtain ⟨ρ', fps', h1, h2⟩ := ho ρ fps w0 F0 w hH
  rw [← denL_agree h2.1 args hargs]
  refine (h ρ' fps' w0 F0 w h1 (okL_mono h2.2 _ hargs)).mono fun e w' ⟨x, ρ2, fps2, r', g1, g2, g3, g4⟩ => ⟨x, ρ2, fps2, r', g1, h2.trans g2, g3, g4⟩

theorem open3 {A B C : Res} {res : List Res} {k : Nat} (hk : k < res.length) (i : Nat) : rget (rset res k A ++ [B, C]) i = if i < res.length then (if i = k then A else rget res i) else if i = res.length then B else if i = res.length + 1 then C else .yet := by
  rw [rget_append, rset_length]
  by_cases hi : i < res.length
  · rw [if_pos hi, if_pos hi, rget_rset _ _ _ _ hk]
  · rw [if_neg hi, if_neg hi]
    by_cases e : i = res.length
    · subst e; simp [rget]
    · rw [if_neg e]
      by_cases e1 : i = res.length + 1
      · subst e1
        rw [if_pos rfl, show res.length + 1 - res.length = 1 by omega]; simp [rget]
      · rw [if_neg e1]
        obtain ⟨m, hm⟩ : ∃ m, i - res.length = m + 2 := ⟨i - res.length - 2, by omega⟩
        rw [hm]; simp [rget]

theorem CallTo.openS {f : Nat} {args : List V} {res : List Res} {k t e : Nat} {L : List Obj} {K KP : V → List Res → Prop} (hr : rget res k = .store t e L) (h : CallTo P f args (openS res k t e L) K KP) : CallTo P f args res K KP := by
  refine h.good fun ρ fps w0 F0 w hH => ?_
  have hk : known res k := by unfold known; rw [hr]; simp
  have hlt := rget_lt hk
  have hh := hH.holds k hk
  rw [hr] at hh
  obtain ⟨sa, cap, ob, hop⟩ := store_open hh
  have hnk : ¬ known res res.length := fun hk => by have := rget_lt hk; omega
  have hnk' : ¬ known res (res.length + 1) := fun hk => by have := rget_lt hk; omega
  have hget := open3 (A := .blk t (.ag [.sa res.length])) (B := .obs e (res.length + 1) L) (C := .gen res.length) hlt
  have k1 : known (Sx.openS res k t e L) res.length := by unfold known Sx.openS; rw [hget, if_neg (by omega), if_pos rfl]; simp
  have k2 : known (Sx.openS res k t e L) (res.length + 1) := by unfold known Sx.openS; rw [hget, if_neg (by omega), if_neg (by omega), if_pos rfl]; simp
  have hmono : ∀ i, known res i → known (Sx.openS res k t e L) i := fun i hi => by
    unfold known Sx.openS
    rw [hget, if_pos (rget_lt hi)]
    split
    · simp
    · exact hi
  obtain ⟨o1, o2⟩ := hop res.length (known (Sx.openS res k t e L)) w0 F0 k1 k2
  have hag := setSt_agree (ρ := ρ) (a := sa) (n := L.length) (cap := cap) (ob := ob) hnk hnk'
  obtain ⟨fps', g⟩ := hH.turn (res' := Sx.openS res k t e L) (K' := known (Sx.openS res k t e L)) (fun i => i = k) (fun i => i = k ∨ res.length ≤ i) (fun i b => (i = k ∧ b = ρ.num k) ∨ (i = res.length ∧ fps k b ∧ b ≠ ρ.num k))
    (fun i hi => hi) hmono hag
    (fun i hi hb => by
      have h1 : i ≠ k := fun e => hb (.inl e)
      have h2 : i < res.length := by
        rcases Nat.lt_or_ge i res.length with h | h
        · exact h
        · exact absurd (.inr h) hb
      have e : rget (Sx.openS res k t e L) i = rget res i := by unfold Sx.openS; rw [hget, if_pos h2, if_neg h1]
      exact ⟨by unfold known at hi ⊢; rw [e] at hi; exact hi, h1, e⟩)
    (fun i hi hb => by
      by_cases e1 : i = k
      · subst e1
        have : (fun b => (i = i ∧ b = ρ.num i) ∨ (i = res.length ∧ fps i b ∧ b ≠ ρ.num i)) = fun b => b = ρ.num i := by
          funext b; apply propext
          exact ⟨fun h => h.elim (fun h => h.2) fun h => by omega, fun h => .inl ⟨rfl, h⟩⟩
        refine ⟨?_, fun b hf => .inl ⟨i, rfl, hk, ?_⟩⟩
        · rw [this]; unfold Sx.openS; rw [hget, if_pos hlt, if_pos rfl]; exact o1
        · rcases hf with ⟨_, rfl⟩ | ⟨e, _⟩
          · exact hh.1
          · omega
      · by_cases e2 : i = res.length
        · subst e2
          have : (fun b => (res.length = k ∧ b = ρ.num k) ∨ (res.length = res.length ∧ fps k b ∧ b ≠ ρ.num k)) = fun b => fps k b ∧ b ≠ ρ.num k := by
            funext b; apply propext
            exact ⟨fun h => h.elim (fun h => absurd h.1 e1) fun h => h.2, fun h => .inr ⟨rfl, h⟩⟩
          refine ⟨?_, fun b hf => .inl ⟨k, rfl, hk, ?_⟩⟩
          · rw [this]; unfold Sx.openS; rw [hget, if_neg (by omega), if_pos rfl]; exact o2
          · rcases hf with ⟨e, _⟩ | ⟨_, hf, _⟩
            · exact absurd e e1
            · exact hf
        · refine ⟨?_, fun b hf => by rcases hf with ⟨e, _⟩ | ⟨e, _⟩ <;> contradiction⟩
          unfold Sx.openS
          rw [hget, if_neg (by have := hb.resolve_left e1; omega), if_neg e2]
          split <;> trivial)
    (fun i j b _ _ hne hf hf' => by
      rcases hf with ⟨rfl, rfl⟩ | ⟨rfl, h1, h2⟩ <;> rcases hf' with ⟨rfl, h3⟩ | ⟨rfl, h3, h4⟩
      · exact hne rfl
      · exact h4 rfl
      · exact h2 h3
      · exact hne rfl)
    rfl rfl rfl (Nat.le_refl _) (fun _ _ _ => rfl)
  exact ⟨_, fps', g, hag, hmono⟩

theorem CallTo.openRS {f : Nat} {args : List V} {res : List Res} {k t e : Nat} {L : List Obj} {K KP : V → List Res → Prop} (hr : rget res k = .ro (.store t e L)) (h : CallTo P f args (openRS res k t e L) K KP) : CallTo P f args res K KP := by
  refine h.good fun ρ fps w0 F0 w hH => ?_
  have hk : known res k := by unfold known; rw [hr]; simp
  have hlt := rget_lt hk
  have hh := hH.holds k hk
  rw [hr] at hh
  obtain ⟨fp, hh, hfp⟩ := hh
  obtain ⟨sa, cap, ob, hop⟩ := store_open hh
  have hnk : ¬ known res res.length := fun hk => by have := rget_lt hk; omega
  have hnk' : ¬ known res (res.length + 1) := fun hk => by have := rget_lt hk; omega
  have hget := open3 (A := .ro (.blk t (.ag [.sa res.length]))) (B := .ro (.obs e (res.length + 1) L)) (C := .gen res.length) hlt
  have k1 : known (Sx.openRS res k t e L) res.length := by unfold known Sx.openRS; rw [hget, if_neg (by omega), if_pos rfl]; simp
  have k2 : known (Sx.openRS res k t e L) (res.length + 1) := by unfold known Sx.openRS; rw [hget, if_neg (by omega), if_neg (by omega), if_pos rfl]; simp
  have hmono : ∀ i, known res i → known (Sx.openRS res k t e L) i := fun i hi => by
    unfold known Sx.openRS
    rw [hget, if_pos (rget_lt hi)]
    split
    · simp
    · exact hi
  obtain ⟨o1, o2⟩ := hop res.length (known (Sx.openRS res k t e L)) w0 F0 k1 k2
  have hag := setSt_agree (ρ := ρ) (a := sa) (n := L.length) (cap := cap) (ob := ob) hnk hnk'
  obtain ⟨fps', g⟩ := hH.turn (res' := Sx.openRS res k t e L) (K' := known (Sx.openRS res k t e L)) (fun i => i = k) (fun i => i = k ∨ res.length ≤ i) (fun i b => False)
    (fun i hi => hi) hmono hag
    (fun i hi hb => by
      have h1 : i ≠ k := fun e => hb (.inl e)
      have h2 : i < res.length := by
        rcases Nat.lt_or_ge i res.length with h | h
        · exact h
        · exact absurd (.inr h) hb
      have e : rget (Sx.openRS res k t e L) i = rget res i := by unfold Sx.openRS; rw [hget, if_pos h2, if_neg h1]
      exact ⟨by unfold known at hi ⊢; rw [e] at hi; exact hi, h1, e⟩)
    (fun i hi hb => by
      refine ⟨?_, fun b hf => hf.elim⟩
      by_cases e1 : i = k
      · subst e1
        unfold Sx.openRS
        rw [hget, if_pos hlt, if_pos rfl]
        exact ⟨fun b => b = ρ.num i, by obtain ⟨p, _⟩ := hop res.length (known (Sx.openRS res i t e L)) w0 F0 k1 k2; exact p, fun b hb => by subst hb; exact hfp _ hh.1⟩
      · unfold Sx.openRS
        by_cases e2 : i = res.length
        · subst e2
          rw [hget, if_neg (by omega), if_pos rfl]
          exact ⟨_, o2, fun b hb => hfp b hb.1⟩
        · rw [hget, if_neg (by have := hb.resolve_left e1; omega), if_neg e2]
          split <;> trivial)
    (fun i j b _ _ _ hf _ => hf.elim)
    rfl rfl rfl (Nat.le_refl _) (fun _ _ _ => rfl)
  exact ⟨_, fps', g, hag, hmono⟩

/-- What a store's objects are, where it lies open. -/
def stOf (r : List Res) (k : Nat) : Option (Nat × Nat × Nat × List Obj) :=
  match rget r k with
  | .blk t c => match c with
    | .ag l => match l with
      | [x] => match x with
        | .sa j => match rget r j with
          | .obs e _ L => some (t, e, j, L)
          | _ => none
        | _ => none
      | _ => none
    | _ => none
  | _ => none

/-- The places with a store shut. -/
def shutS (r : List Res) (k : Nat) : Option (List Res) :=
  match stOf r k with
  | some (t, e, j, L) => some (rset (rset r j .gone) k (.store t e L))
  | none => none

theorem shutS_rep {ρ : Env} {fps : Nat → Nat → Prop} {r r' : List Res} {w0 w : World} {F0 : Nat → Prop} {k : Nat} (hs : shutS r k = some r') (h : HRep ρ fps r (known r) w0 F0 w) :
    ∃ fps', HRep ρ fps' r' (known r') w0 F0 w ∧ ∀ i, known r i → known r' i := by
  unfold shutS at hs
  split at hs
  · rename_i t e j L hst
    simp only [Option.some.injEq] at hs
    unfold stOf at hst
    split at hst
    · rename_i t' c hrk
      split at hst
      · split at hst
        · split at hst
          · rename_i j'
            split at hst
            · rename_i e' q L' hrj
              simp only [Option.some.injEq, Prod.mk.injEq] at hst
              obtain ⟨rfl, rfl, rfl, rfl⟩ := hst
              have hkk : known r k := by unfold known; rw [hrk]; simp
              have hkj : known r j' := by unfold known; rw [hrj]; simp
              have hne : j' ≠ k := fun e => by rw [e, hrk] at hrj; simp at hrj
              have hlk := rget_lt hkk
              have hlj := rget_lt hkj
              have hget : ∀ i, rget r' i = if i = k then .store t' e' L' else if i = j' then .gone else rget r i := fun i => by
                subst hs
                rw [rget_rset _ _ _ _ (by rw [rset_length]; exact hlk)]
                by_cases e : i = k
                · rw [if_pos e, if_pos e]
                · rw [if_neg e, if_neg e, rget_rset _ _ _ _ hlj]
              have hmono : ∀ i, known r i → known r' i := fun i hi => by
                unfold known
                rw [hget]
                split
                · simp
                · split
                  · simp
                  · exact hi
              have hk1 := h.holds k hkk
              rw [hrk] at hk1
              obtain ⟨_, _, b3, b4⟩ := hk1
              have hj1 := h.holds j' hkj
              rw [hrj] at hj1
              obtain ⟨_, c1, c2, c3, c4, c5, c6, c7⟩ := hj1
              obtain ⟨fps', g⟩ := h.turn (res' := r') (K' := known r') (fun i => i = k ∨ i = j') (fun i => i = k ∨ i = j') (fun i b => i = k ∧ (fps k b ∨ fps j' b)) (fun i hi => hi) hmono (Env.agree.refl _ _)
                (fun i hi hb => by
                  have h1 : i ≠ k := fun e => hb (.inl e)
                  have h2 : i ≠ j' := fun e => hb (.inr e)
                  have e : rget r' i = rget r i := by rw [hget, if_neg h1, if_neg h2]
                  exact ⟨by unfold known at hi ⊢; rw [e] at hi; exact hi, hb, e⟩)
                (fun i hi hb => by
                  rcases hb with rfl | rfl
                  · refine ⟨?_, fun b hf => hf.2.elim (fun hf => .inl ⟨i, .inl rfl, hkk, hf⟩) fun hf => .inl ⟨j', .inr rfl, hkj, hf⟩⟩
                    rw [hget, if_pos rfl]
                    refine ⟨⟨rfl, .inl b3⟩, c1, c3, ρ.sl j', ρ.ob q, ?_, c6, fun b hb => ?_, fun x hx => ?_⟩
                    · rw [b4]
                      have : den ρ (.sa j') = ρ.sl j' := rfl
                      simp [cells_ag, cellsL, this, Env.sl, Value.cells]
                    · cases ha : ρ.sa j' with
                      | none => simp [Env.sl, ha, Value.ownBlock] at hb
                      | some a =>
                        simp only [Env.sl, ha, Value.ownBlock, Option.some.injEq] at hb
                        subst hb
                        have := (c4 a ha).2
                        exact ⟨⟨rfl, .inr this⟩, fun e => h.disj j' i a.block hkj hkk hne this (e ▸ b3)⟩
                    · obtain ⟨d1, d2⟩ := c7 x hx
                      exact ⟨⟨rfl, .inr d1⟩, fun e => h.disj j' i _ hkj hkk hne d1 (e ▸ b3), d2⟩
                  · refine ⟨?_, fun b hf => absurd hf.1 hne⟩
                    rw [hget, if_neg hne, if_pos rfl]
                    trivial)
                (fun i j b _ _ hne' hf hf' => hne' (hf.1.trans hf'.1.symm))
                rfl rfl rfl (Nat.le_refl _) (fun _ _ _ => rfl)
              exact ⟨fps', g, hmono⟩
            · simp at hst
          · simp at hst
        · simp at hst
      · simp at hst
    · simp at hst
  · simp at hs

/-- Behind a call a store is shut. -/
theorem CallTo.shut {f : Nat} {args : List V} {res : List Res} {K0 KP K : V → List Res → Prop} (h : CallTo P f args res K0 KP) (hK : ∀ v r, K0 v r → K v r ∨ ∃ k r', shutS r k = some r' ∧ K v r') : CallTo P f args res K KP := by
  intro ρ fps w0 F0 w hH hargs
  refine (h ρ fps w0 F0 w hH hargs).mono fun e w' ⟨x, ρ2, fps2, r', g1, g2, g3, g4⟩ => ?_
  rcases g4 with ⟨rfl, hk⟩ | g4
  · rcases hK _ _ hk with hk | ⟨k, r2, s1, s2⟩
    · exact ⟨x, ρ2, fps2, r', g1, g2, g3, .inl ⟨rfl, hk⟩⟩
    · obtain ⟨fps3, m1, m2⟩ := shutS_rep s1 g1
      exact ⟨x, ρ2, fps3, r2, m1, ⟨g2.1, fun i hi => m2 i (g2.2 i hi)⟩, ok_mono m2 _ g3, .inl ⟨rfl, s2⟩⟩
  · exact ⟨x, ρ2, fps2, r', g1, g2, g3, .inr g4⟩

end
end Go.Sx
