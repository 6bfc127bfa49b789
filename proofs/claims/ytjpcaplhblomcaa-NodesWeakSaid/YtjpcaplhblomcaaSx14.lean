/- The frame: a call that was looked at with few places, among many. No condition. -/
import Derived.Test.YtjpcaplhblomcaaCt0
set_option linter.unusedVariables false
set_option linter.unusedSimpArgs false
namespace Go.Sx
open Go.RowKit (Below)

theorem HRep.look' {ρ : Env} {fps : Nat → Nat → Prop} {res : List Res} {K : Nat → Prop} {w0 : World} {F0 : Nat → Prop} {w : World} (h : HRep ρ fps res K w0 F0 w) {i : Nat} {r : Res}
    (hr : rlook res i = r) (hk : known res i) : ∃ fp : Nat → Prop, r.holds K ρ i fp w0 F0 w ∧ ∀ b, fp b → fps i b ∨ (b < w0.heap.size ∧ ¬ F0 b) := by
  have hh := h.holds i hk
  unfold rlook at hr
  split at hr
  · rename_i r' he
    rw [he] at hh
    subst hr
    obtain ⟨fp', h1, h2⟩ := hh
    exact ⟨fp', Res.holds_keep _ h1 fun b hb => h.same b (h2 b hb).1 (h2 b hb).2, fun b hb => .inr (h2 b hb)⟩
  · subst hr
    exact ⟨fps i, hh, fun b hb => .inl hb⟩

/-- The same, from a later beginning. -/
theorem Res.rebase {K : Nat → Prop} {ρ : Env} {i : Nat} {w0 w : World} {F0 F1 : Nat → Prop} (hs : w0.heap.size ≤ w.heap.size) (hf : ∀ b, b < w0.heap.size → ¬ F0 b → w.heap[b]? = w0.heap[b]? ∧ ¬ F1 b) :
    ∀ (r : Res) (fp : Nat → Prop), r.holds K ρ i fp w0 F0 w → r.holds K ρ i fp w F1 w
  | .yet, _, h | .gone, _, h | .blk _ _, _, h | .obs _ _ _, _, h | .gen _, _, h | .store _ _ _, _, h | .lop _ _ _, _, h | .dfr, _, h | .mp _ _ _, _, h => h
  | .arr own esz l, fp, h => by
    obtain ⟨h1, h2, h3, h4, h5, h6, h7⟩ := h
    refine ⟨h1, h2, h3, h4, h5, h6, ?_⟩
    rcases h7 with ⟨g1, g2, g3⟩ | h7
    · refine .inl ⟨g1, fun hl => ⟨(hf _ (g2 hl).2 (g2 hl).1).2, Nat.lt_of_lt_of_le (g2 hl).2 hs⟩, fun j hj k hk => ?_⟩
      rw [← g3 j hj k hk]
      have := g2 (by omega)
      exact World.cell?_of_block (w := w0) (hf _ this.2 this.1).1
    · exact .inr h7
  | .ro r, fp, h => by
    obtain ⟨fp', h1, h2⟩ := h
    exact ⟨fp', Res.rebase hs hf r fp' (Res.holds_keep _ h1 fun b hb => (hf b (h2 b hb).1 (h2 b hb).2).1), fun b hb => ⟨Nat.lt_of_lt_of_le (h2 b hb).1 hs, (hf b (h2 b hb).1 (h2 b hb).2).2⟩⟩

/-- Is a place free of what is only read? -/
def ownR : Res → Bool
  | .arr own _ _ => own.isSome
  | .ro _ => false
  | _ => true

theorem ownR_holds {K : Nat → Prop} {ρ : Env} {i : Nat} {fp : Nat → Prop} {w0 w1 w : World} {F0 F1 : Nat → Prop} {r : Res} (h : ownR r = true) (hr : r.holds K ρ i fp w1 F1 w) : r.holds K ρ i fp w0 F0 w := by
  cases r with
  | ro r => simp [ownR] at h
  | arr own e l =>
    obtain ⟨h1, h2, h3, h4, h5, h6, h7⟩ := hr
    refine ⟨h1, h2, h3, h4, h5, h6, ?_⟩
    rcases h7 with ⟨g1, _⟩ | h7
    · subst g1; simp [ownR] at h
    · exact .inr h7
  | _ => exact hr

/-- Some of the places, under new names: those that may be turned, those that are only read. -/
def restr (κ : Nat → Option Nat) (res : List Res) : List (Nat × Bool) → List Res
  | [] => []
  | (p, o) :: l => (if o then renR κ (rget res p) else .ro (renR κ (rlook res p))) :: restr κ res l

def fsts : List (Nat × Bool) → List Nat
  | [] => []
  | (p, _) :: l => p :: fsts l

def knownAll (res : List Res) : List (Nat × Bool) → Bool
  | [] => true
  | (p, _) :: l => knownB res p && knownAll res l

theorem fsts_get : ∀ (l : List (Nat × Bool)) (i : Nat), (fsts l)[i]? = (l[i]?).map (·.1)
  | [], i => by simp [fsts]
  | (p, o) :: l, 0 => by simp [fsts]
  | (p, o) :: l, i + 1 => by simp [fsts, fsts_get l i]

theorem restr_get (κ : Nat → Option Nat) (res : List Res) : ∀ (l : List (Nat × Bool)) (i : Nat), rget (restr κ res l) i = match l[i]? with
    | some (p, o) => if o then renR κ (rget res p) else .ro (renR κ (rlook res p))
    | none => .yet
  | [], i => by simp [restr, rget]
  | (p, o) :: l, 0 => by simp [restr, rget]
  | (p, o) :: l, i + 1 => by simp [restr, rget, restr_get κ res l i]

theorem restr_length (κ : Nat → Option Nat) (res : List Res) : ∀ (l : List (Nat × Bool)), (restr κ res l).length = l.length
  | [] => rfl
  | (p, o) :: l => by simp [restr, restr_length κ res l]

theorem knownAll_spec {res : List Res} : ∀ {l : List (Nat × Bool)}, knownAll res l = true → ∀ (i : Nat) (p : Nat) (o : Bool), l[i]? = some (p, o) → known res p
  | [], _, i, p, o, h => by simp at h
  | (x, y) :: l, hk, i, p, o, h => by
    simp only [knownAll, Bool.and_eq_true] at hk
    cases i with
    | zero => simp at h; obtain ⟨rfl, _⟩ := h; exact knownB_iff.1 hk.1
    | succ i => exact knownAll_spec hk.2 i p o (by simpa using h)

theorem idxOf_of {p : Nat} : ∀ (l : List Nat) (m k : Nat), l.Nodup → l[k]? = some p → idxOf l m p = some (m + k)
  | [], m, k, _, h => by simp at h
  | x :: l, m, k, hnd, h => by
    simp only [idxOf]
    cases k with
    | zero => simp at h; subst h; simp
    | succ k =>
      simp at h
      have hne : (x == p) = false := by
        rw [beq_eq_false_iff_ne]
        rintro rfl
        exact (List.nodup_cons.1 hnd).1 (List.mem_of_getElem? h)
      rw [hne]
      simp only [Bool.false_eq_true, if_false]
      rw [idxOf_of l (m + 1) k (List.nodup_cons.1 hnd).2 h]
      congr 1; omega

theorem kap0_some {l : List Nat} {p i : Nat} (h : kap 0 l p = some i) : l[i]? = some p := by
  unfold kap at h
  split at h
  · rename_i hb; simp at hb
  · have := idxOf_spec h
    simpa using this.2.2

theorem kap0_of {l : List Nat} {p i : Nat} (hnd : l.Nodup) (h : l[i]? = some p) : kap 0 l p = some i := by
  unfold kap
  rw [if_neg (by simp), idxOf_of l 0 i hnd h]; simp

/-- What the small memory is. -/
def Frame (ρ : Env) (fps : Nat → Nat → Prop) (pl : List (Nat × Bool)) (b : Nat) : Prop := ∃ (i p : Nat), pl[i]? = some (p, true) ∧ fps p b

section
variable {ρ : Env} {fps : Nat → Nat → Prop} {res : List Res} {w0 w : World} {F0 : Nat → Prop}

theorem HRep.restr {K : Nat → Prop} (h : HRep ρ fps res K w0 F0 w) {pl : List (Nat × Bool)} (hk : knownAll res pl = true) (hnd : (fsts pl).Nodup) :
    HRep (ρ.pull (src 0 (fsts pl))) (fun i b => ∃ p : Nat, pl[i]? = some (p, true) ∧ fps p b) (restr (kap 0 (fsts pl)) res pl) (known (restr (kap 0 (fsts pl)) res pl)) w (Frame ρ fps pl) w ∧
      (∀ i, i < pl.length → known (restr (kap 0 (fsts pl)) res pl) i) ∧ Env.via (kap 0 (fsts pl)) ρ (ρ.pull (src 0 (fsts pl))) ∧ ∀ p i, kap 0 (fsts pl) p = some i → K p → known (Sx.restr (kap 0 (fsts pl)) res pl) i := by
  generalize hκ : kap 0 (fsts pl) = κ
  have hπ : ∀ p i, κ p = some i → src 0 (fsts pl) i = p := fun p i hp => by subst hκ; exact kap_src hp
  have hv : Env.via κ ρ (ρ.pull (src 0 (fsts pl))) := pull_via hπ
  have hsome : ∀ i p o, pl[i]? = some (p, o) → κ p = some i := fun i p o hi => by
    subst hκ
    exact kap0_of hnd (by rw [fsts_get, hi]; rfl)
  have hkn : ∀ i p o, pl[i]? = some (p, o) → known (Sx.restr κ res pl) i := fun i p o hi => by
    unfold known
    rw [restr_get, hi]
    simp only
    split
    · exact fun e => knownAll_spec hk i p o hi (renR_yet.1 e)
    · simp
  have hget : ∀ i, known (Sx.restr κ res pl) i → ∃ p o, pl[i]? = some (p, o) := fun i hi => by
    have := rget_lt hi
    rw [restr_length] at this
    exact ⟨pl[i].1, pl[i].2, by rw [List.getElem?_eq_getElem this]⟩
  have hN : ∀ p i, κ p = some i → K p → known (Sx.restr κ res pl) i := fun p i hp _ => by
    subst hκ
    have := kap0_some hp
    rw [fsts_get] at this
    cases hi : pl[i]? with
    | none => rw [hi] at this; simp at this
    | some po => exact hkn i po.1 po.2 hi
  have huniq : ∀ i j p o o', pl[i]? = some (p, o) → pl[j]? = some (p, o') → i = j := fun i j p o o' hi hj => by
    have a := hsome i p o hi
    rw [hsome j p o' hj] at a
    simpa using a.symm
  have hfr : ∀ b, b < w0.heap.size → ¬ F0 b → w.heap[b]? = w0.heap[b]? ∧ ¬ Frame ρ fps pl b := fun b hb hF => by
    refine ⟨h.same b hb hF, ?_⟩
    rintro ⟨i, p, hi, hf⟩
    exact hF (h.inF p b (knownAll_spec hk i p true hi) hf hb)
  refine ⟨⟨fun i hi => hi, Nat.le_refl _, rfl, rfl, rfl, fun i hi => ?_, ?_, ?_, ?_, fun _ _ _ => rfl⟩, fun i hi => hkn i pl[i].1 pl[i].2 (by rw [List.getElem?_eq_getElem hi]), hv, hN⟩
  · obtain ⟨p, o, hp⟩ := hget i hi
    have hkp := knownAll_spec hk i p o hp
    rw [restr_get, hp]
    simp only
    cases o with
    | true =>
      simp only [if_true]
      have := Res.rebase h.old hfr _ _ (h.holds p hkp)
      have := renR_spec hv hN (hsome i p true hp) _ _ _ this
      have e : (fun b => ∃ p' : Nat, some (p, true) = some (p', true) ∧ fps p' b) = fps p := by
        funext b; simp
      rw [e]; exact this
    | false =>
      simp only [Bool.false_eq_true, if_false]
      obtain ⟨fp, g1, g2⟩ := h.look' rfl hkp
      refine ⟨fp, renR_spec hv hN (hsome i p false hp) _ _ _ (Res.rebase h.old hfr _ _ g1), fun b hb => ?_⟩
      rcases g2 b hb with hf | ⟨hl, hF⟩
      · refine ⟨h.lt p b hkp hf, ?_⟩
        rintro ⟨j, p', hj, hf'⟩
        have hkp' := knownAll_spec hk j p' true hj
        refine h.disj p p' b hkp hkp' (fun e => ?_) hf hf'
        subst e
        have := huniq i j p false true hp hj
        subst this
        rw [hp] at hj
        simp at hj
      · exact ⟨Nat.lt_of_lt_of_le hl h.old, (hfr b hl hF).2⟩
  · rintro i b hi ⟨p, hp, hf⟩
    exact h.lt p b (knownAll_spec hk i p true hp) hf
  · rintro i j b hi hj hne ⟨p, hp, hf⟩ ⟨p', hp', hf'⟩
    refine h.disj p p' b (knownAll_spec hk i p true hp) (knownAll_spec hk j p' true hp') (fun e => hne ?_) hf hf'
    subst e
    exact huniq i j p true true hp hp'
  · rintro i b hi ⟨p, hp, hf⟩ _
    exact ⟨i, p, hp, hf⟩

/-- The places behind, put back among all. -/
def putBack (κ2 : Nat → Option Nat) (r' : List Res) : Nat → List (Nat × Bool) → List Res → List Res
  | _, [], res => res
  | i, (p, o) :: l, res => if o then putBack κ2 r' (i + 1) l (rset res p (renR κ2 (rget r' i))) else putBack κ2 r' (i + 1) l res

def getP : List (Nat × Bool) → Nat → Option Nat
  | [], _ => none
  | (p, _) :: _, 0 => some p
  | _ :: l, i + 1 => getP l i

/-- The names of the places behind. -/
def back (pl : List (Nat × Bool)) (ext : List Nat) (n j : Nat) : Option Nat :=
  match getP pl j with
  | some p => some p
  | none => idxOf ext n j

def merge (pl : List (Nat × Bool)) (ext : List Nat) (r' res : List Res) : List Res :=
  putBack (back pl ext res.length) r' 0 pl res ++ reRes2 (back pl ext res.length) r' ext

theorem getP_eq : ∀ (l : List (Nat × Bool)) (i : Nat), getP l i = (l[i]?).map (·.1)
  | [], i => by simp [getP]
  | (p, o) :: l, 0 => by simp [getP]
  | (p, o) :: l, i + 1 => by simp [getP, getP_eq l i]

theorem putBack_length (κ2 : Nat → Option Nat) (r' : List Res) : ∀ (l : List (Nat × Bool)) (i : Nat) (res : List Res), (putBack κ2 r' i l res).length = res.length
  | [], _, _ => rfl
  | (p, o) :: l, i, res => by
    simp only [putBack]
    split
    · rw [putBack_length κ2 r' l, rset_length]
    · exact putBack_length κ2 r' l _ _

theorem putBack_other (κ2 : Nat → Option Nat) (r' : List Res) : ∀ (l : List (Nat × Bool)) (i : Nat) (res : List Res) (x : Nat), (∀ k : Nat, l[k]? ≠ some (x, true)) → (∀ (k p : Nat) (o : Bool), l[k]? = some (p, o) → p < res.length) → rget (putBack κ2 r' i l res) x = rget res x
  | [], _, _, _, _, _ => rfl
  | (p, o) :: l, i, res, x, h, hb => by
    have hl : ∀ k : Nat, l[k]? ≠ some (x, true) := fun k => by have := h (k + 1); simpa using this
    have hb' : ∀ (k p : Nat) (o : Bool), l[k]? = some (p, o) → p < res.length := fun k p o hk => hb (k + 1) p o (by simpa using hk)
    simp only [putBack]
    split
    · rename_i ho
      subst ho
      have hne : x ≠ p := fun e => h 0 (by simp [e])
      rw [putBack_other κ2 r' l _ _ x hl (fun k p o hk => by rw [rset_length]; exact hb' k p o hk), rget_rset _ _ _ _ (hb 0 p true (by simp)), if_neg hne]
    · exact putBack_other κ2 r' l _ _ x hl hb'

theorem putBack_own (κ2 : Nat → Option Nat) (r' : List Res) : ∀ (l : List (Nat × Bool)) (i : Nat) (res : List Res) (x k : Nat), l[k]? = some (x, true) → (fsts l).Nodup → (∀ (k p : Nat) (o : Bool), l[k]? = some (p, o) → p < res.length) →
    rget (putBack κ2 r' i l res) x = renR κ2 (rget r' (i + k))
  | [], _, _, _, _, h, _, _ => by simp at h
  | (p, o) :: l, i, res, x, k, h, hnd, hb => by
    have hb' : ∀ (k p : Nat) (o : Bool), l[k]? = some (p, o) → p < res.length := fun k p o hk => hb (k + 1) p o (by simpa using hk)
    have hnd' := List.nodup_cons.1 (show (p :: fsts l).Nodup from hnd)
    simp only [putBack]
    cases k with
    | zero =>
      simp at h
      obtain ⟨rfl, rfl⟩ := h
      simp only [if_true, Nat.add_zero]
      rw [putBack_other κ2 r' l _ _ p (fun k hk => hnd'.1 (List.mem_of_getElem? (i := k) (by rw [fsts_get, hk]; rfl))) (fun k p o hk => by rw [rset_length]; exact hb' k p o hk), rget_rset _ _ _ _ (hb 0 p true (by simp)), if_pos rfl]
    | succ k =>
      have h : l[k]? = some (x, true) := by simpa using h
      split
      · rw [putBack_own κ2 r' l _ _ x k h hnd'.2 (fun k p o hk => by rw [rset_length]; exact hb' k p o hk)]
        congr 2; omega
      · rw [putBack_own κ2 r' l _ _ x k h hnd'.2 hb']
        congr 2; omega

theorem ownR_renR {κ : Nat → Option Nat} {r : Res} (h : ownR r = true) : ownR (renR κ r) = true := by
  cases r <;> simp only [renR] <;> (try split) <;> simp_all [ownR]

/-- Two environments, one behind the other. -/
def Env.join (n : Nat) (ext : List Nat) (ρ ρ2 : Env) : Env :=
  { num := fun i => if i < n then ρ.num i else ρ2.num (ext.getD (i - n) 0), cap := fun i => if i < n then ρ.cap i else ρ2.cap (ext.getD (i - n) 0), adr := fun i => if i < n then ρ.adr i else ρ2.adr (ext.getD (i - n) 0),
    sa := fun i => if i < n then ρ.sa i else ρ2.sa (ext.getD (i - n) 0), sn := fun i => if i < n then ρ.sn i else ρ2.sn (ext.getD (i - n) 0), ob := fun i => if i < n then ρ.ob i else ρ2.ob (ext.getD (i - n) 0) }

section
variable {ρ : Env} {fps : Nat → Nat → Prop} {res : List Res} {w0 w : World} {F0 : Nat → Prop}

theorem HRep.merge (h : HRep ρ fps res (known res) w0 F0 w) {pl : List (Nat × Bool)} (hk : knownAll res pl = true) (hnd : (fsts pl).Nodup) {ρ2 : Env} {fps2 : Nat → Nat → Prop} {r' : List Res} {w' : World}
    (h2 : HRep ρ2 fps2 r' (known r') w (Frame ρ fps pl) w') (hg : Good (ρ.pull (src 0 (fsts pl))) (Sx.restr (kap 0 (fsts pl)) res pl) ρ2 r') {ext : List Nat} (he : okExt pl.length r'.length ext = true)
    (ho1 : ∀ (i p : Nat), pl[i]? = some (p, true) → ownR (rget r' i) = true) (ho2 : ∀ j, j ∈ ext → ownR (rget r' j) = true) :
    ∃ ρ3 fps3, HRep ρ3 fps3 (Sx.merge pl ext r' res) (known (Sx.merge pl ext r' res)) w0 F0 w' ∧ Good ρ res ρ3 (Sx.merge pl ext r' res) ∧ Env.via (back pl ext res.length) ρ2 ρ3 ∧
      ∀ j i, back pl ext res.length j = some i → known r' j → known (Sx.merge pl ext r' res) i := by
  obtain ⟨_, hkr, _, _⟩ := h.restr hk hnd
  obtain ⟨e1, e2⟩ := okExt_spec he
  have hlt : ∀ (k p : Nat) (o : Bool), pl[k]? = some (p, o) → p < res.length := fun k p o hp => rget_lt (knownAll_spec hk k p o hp)
  have hpll : ∀ (k p : Nat) (o : Bool), pl[k]? = some (p, o) → k < pl.length := fun k p o hp => (List.getElem?_eq_some_iff.1 hp).1
  have huniq : ∀ i j p o o', pl[i]? = some (p, o) → pl[j]? = some (p, o') → i = j := fun i j p o o' hi hj => by
    have a := kap0_of hnd (show (fsts pl)[i]? = some p by rw [fsts_get, hi]; rfl)
    rw [kap0_of hnd (show (fsts pl)[j]? = some p by rw [fsts_get, hj]; rfl)] at a
    simpa using a.symm
  have huniqE : ∀ (a b j : Nat), ext[a]? = some j → ext[b]? = some j → a = b := fun a b j ha hb => by
    have x := idxOf_of ext 0 a e2 ha
    rw [idxOf_of ext 0 b e2 hb] at x
    simpa using x.symm
  -- the names
  have hback1 : ∀ k p o, pl[k]? = some (p, o) → back pl ext res.length k = some p := fun k p o hp => by
    unfold back; rw [getP_eq, hp]; rfl
  have hback2 : ∀ a j, ext[a]? = some j → back pl ext res.length j = some (res.length + a) := fun a j ha => by
    unfold back
    have := (e1 j (List.mem_of_getElem? ha)).1
    rw [getP_eq, List.getElem?_eq_none this]
    exact idxOf_of ext _ a e2 ha
  have hbackS : ∀ j i, back pl ext res.length j = some i → (∃ o, pl[j]? = some (i, o)) ∨ (∃ a, ext[a]? = some j ∧ i = res.length + a) := fun j i hj => by
    unfold back at hj
    rw [getP_eq] at hj
    cases hp : pl[j]? with
    | some po => rw [hp] at hj; simp at hj; exact .inl ⟨po.2, by rw [← hj]⟩
    | none =>
      rw [hp] at hj
      simp at hj
      obtain ⟨a1, a2, a3⟩ := idxOf_spec hj
      exact .inr ⟨i - res.length, a3, by omega⟩
  have hget : ∀ i, rget (Sx.merge pl ext r' res) i = if i < res.length then rget (putBack (back pl ext res.length) r' 0 pl res) i else match ext[i - res.length]? with | some j => renR (back pl ext res.length) (rget r' j) | none => .yet := fun i => by
    unfold Sx.merge
    rw [rget_append, putBack_length]
    by_cases hi : i < res.length
    · rw [if_pos hi, if_pos hi]
    · rw [if_neg hi, if_neg hi, rget_reRes2]
      cases ext[i - res.length]? <;> rfl
  have hown : ∀ k p, pl[k]? = some (p, true) → rget (Sx.merge pl ext r' res) p = renR (back pl ext res.length) (rget r' k) := fun k p hp => by
    rw [hget, if_pos (hlt k p true hp), putBack_own _ r' pl 0 res p k hp hnd hlt, Nat.zero_add]
  have hother : ∀ i, i < res.length → (∀ k, pl[k]? ≠ some (i, true)) → rget (Sx.merge pl ext r' res) i = rget res i := fun i hi hno => by
    rw [hget, if_pos hi, putBack_other _ r' pl 0 res i hno hlt]
  have hext : ∀ a j, ext[a]? = some j → rget (Sx.merge pl ext r' res) (res.length + a) = renR (back pl ext res.length) (rget r' j) := fun a j ha => by
    rw [hget, if_neg (by omega), show res.length + a - res.length = a by omega, ha]
  have hkr' : ∀ k p o, pl[k]? = some (p, o) → known r' k := fun k p o hp => hg.2 k (hkr k (hpll k p o hp))
  have hN : ∀ j i, back pl ext res.length j = some i → known r' j → known (Sx.merge pl ext r' res) i := fun j i hj hkj => by
    rcases hbackS j i hj with ⟨o, hp⟩ | ⟨a, ha, rfl⟩
    · by_cases hT : ∃ k : Nat, pl[k]? = some (i, true)
      · obtain ⟨k, hk'⟩ := hT
        unfold known
        rw [hown k i hk']
        exact fun e => hkr' k i true hk' (renR_yet.1 e)
      · unfold known
        rw [hother i (hlt j i o hp) fun k hk' => hT ⟨k, hk'⟩]
        exact knownAll_spec hk j i o hp
    · unfold known
      rw [hext a j ha]
      exact fun e => hkj (renR_yet.1 e)
  have hmono : ∀ i, known res i → known (Sx.merge pl ext r' res) i := fun i hi => by
    by_cases hT : ∃ k : Nat, pl[k]? = some (i, true)
    · obtain ⟨k, hk'⟩ := hT
      exact hN k i (hback1 k i true hk') (hkr' k i true hk')
    · unfold known
      rw [hother i (rget_lt hi) fun k hk' => hT ⟨k, hk'⟩]
      exact hi
  have hag : Env.agree (known res) ρ (Env.join res.length ext ρ ρ2) := fun i hi => by
    have := rget_lt hi
    simp [Env.join, this]
  have hvia : Env.via (back pl ext res.length) ρ2 (Env.join res.length ext ρ ρ2) := fun j i hj => by
    rcases hbackS j i hj with ⟨o, hp⟩ | ⟨a, ha, rfl⟩
    · have hil := hlt j i o hp
      have hj' := hg.1 j (hkr j (hpll j i o hp))
      have hsrc : src 0 (fsts pl) j = i := by
        unfold src
        rw [if_neg (by omega), Nat.sub_zero, List.getD_eq_getElem?_getD, fsts_get, hp]; rfl
      simp only [Env.pull, hsrc] at hj'
      obtain ⟨a1, a2, a3, a4, a5, a6⟩ := hj'
      simp [Env.join, hil, a1, a2, a3, a4, a5, a6]
    · have hng : ¬ res.length + a < res.length := by omega
      have : ext.getD (res.length + a - res.length) 0 = j := by
        rw [show res.length + a - res.length = a by omega, List.getD_eq_getElem?_getD, ha]; rfl
      simp only [Env.join, if_neg hng, this]
      simp
  obtain ⟨fps3, g⟩ := h.turn (res' := Sx.merge pl ext r' res) (K' := known (Sx.merge pl ext r' res)) (fun i => ∃ k : Nat, pl[k]? = some (i, true)) (fun i => (∃ k : Nat, pl[k]? = some (i, true)) ∨ res.length ≤ i)
    (fun i b => (∃ k : Nat, pl[k]? = some (i, true) ∧ fps2 k b) ∨ (res.length ≤ i ∧ ∃ j, ext[i - res.length]? = some j ∧ known r' j ∧ fps2 j b))
    (fun i hi => hi) hmono hag
    (fun i hi hb => by
      have hlt' : i < res.length := by
        rcases Nat.lt_or_ge i res.length with h | h
        · exact h
        · exact absurd (.inr h) hb
      have e := hother i hlt' fun k hk' => hb (.inl ⟨k, hk'⟩)
      exact ⟨by unfold known at hi ⊢; rw [e] at hi; exact hi, fun hT => hb (.inl hT), e⟩)
    (fun i hi hb => by
      have hfoot : ∀ k b, known r' k → fps2 k b → (∃ t, (∃ k : Nat, pl[k]? = some (t, true)) ∧ known res t ∧ fps t b) ∨ (w.heap.size ≤ b ∧ b < w'.heap.size) := fun k b hk' hf => by
        by_cases hbw : b < w.heap.size
        · obtain ⟨x, p, hp, hfp⟩ := h2.inF k b hk' hf hbw
          exact .inl ⟨p, ⟨x, hp⟩, knownAll_spec hk x p true hp, hfp⟩
        · exact .inr ⟨by omega, h2.lt k b hk' hf⟩
      by_cases hT : ∃ k : Nat, pl[k]? = some (i, true)
      · obtain ⟨k, hp⟩ := hT
        have hkk := hkr' k i true hp
        have hil := hlt k i true hp
        have e : (fun b => (∃ k : Nat, pl[k]? = some (i, true) ∧ fps2 k b) ∨ (res.length ≤ i ∧ ∃ j, ext[i - res.length]? = some j ∧ known r' j ∧ fps2 j b)) = fps2 k := by
          funext b
          apply propext
          constructor
          · rintro (⟨k', hp', hf⟩ | ⟨hge, _⟩)
            · rw [huniq k k' i true true hp hp']; exact hf
            · omega
          · exact fun hf => .inl ⟨k, hp, hf⟩
        refine ⟨?_, fun b hf => hfoot k b hkk (by rw [← e]; exact hf)⟩
        rw [e, hown k i hp]
        exact renR_spec hvia hN (hback1 k i true hp) _ _ _ (ownR_holds (ho1 k i hp) (h2.holds k hkk))
      · have hge : res.length ≤ i := hb.resolve_left hT
        have hj : ∃ j, ext[i - res.length]? = some j := by
          unfold known at hi
          rw [hget, if_neg (by omega)] at hi
          cases hx : ext[i - res.length]? with
          | none => rw [hx] at hi; exact absurd rfl hi
          | some j => exact ⟨j, rfl⟩
        obtain ⟨j, hj⟩ := hj
        have hkj : known r' j := by
          unfold known at hi
          rw [hget, if_neg (by omega), hj] at hi
          exact fun e => hi (renR_yet.2 e)
        have e : (fun b => (∃ k : Nat, pl[k]? = some (i, true) ∧ fps2 k b) ∨ (res.length ≤ i ∧ ∃ j, ext[i - res.length]? = some j ∧ known r' j ∧ fps2 j b)) = fps2 j := by
          funext b
          apply propext
          constructor
          · rintro (⟨k', hp', hf⟩ | ⟨_, j', hj', _, hf⟩)
            · exact absurd ⟨k', hp'⟩ hT
            · rw [hj] at hj'; simp at hj'; subst hj'; exact hf
          · exact fun hf => .inr ⟨hge, j, hj, hkj, hf⟩
        refine ⟨?_, fun b hf => hfoot j b hkj (by rw [← e]; exact hf)⟩
        have hie : i = res.length + (i - res.length) := by omega
        have hb2 := hback2 _ j hj
        rw [← hie] at hb2
        have hx := hext _ j hj
        rw [← hie] at hx
        rw [e, hx]
        exact renR_spec hvia hN hb2 _ _ _ (ownR_holds (ho2 j (List.mem_of_getElem? hj)) (h2.holds j hkj)))
    (fun i j b hbi hbj hne hf hf' => by
      have sel : ∀ x, ((∃ k : Nat, pl[k]? = some (x, true) ∧ fps2 k b) ∨ (res.length ≤ x ∧ ∃ j, ext[x - res.length]? = some j ∧ known r' j ∧ fps2 j b)) → ∃ k, known r' k ∧ fps2 k b ∧ ((pl[k]? = some (x, true)) ∨ (res.length ≤ x ∧ ext[x - res.length]? = some k)) := by
        rintro x (⟨k, hp, hf⟩ | ⟨hge, j, hj, hkj, hf⟩)
        · exact ⟨k, hkr' k x true hp, hf, .inl hp⟩
        · exact ⟨j, hkj, hf, .inr ⟨hge, hj⟩⟩
      obtain ⟨k, k1, k2, k3⟩ := sel i hf
      obtain ⟨l, l1, l2, l3⟩ := sel j hf'
      refine h2.disj k l b k1 l1 (fun e => hne ?_) k2 l2
      subst e
      rcases k3 with k3 | ⟨k3, k4⟩ <;> rcases l3 with l3 | ⟨l3, l4⟩
      · rw [k3] at l3; simp at l3; exact l3
      · have := (e1 k (List.mem_of_getElem? l4)).1
        have := hpll k i true k3
        omega
      · have := (e1 k (List.mem_of_getElem? k4)).1
        have := hpll k j true l3
        omega
      · have := huniqE _ _ _ k4 l4
        omega)
    h2.os h2.tape h2.output h2.old
    (fun b hb hno => h2.same b hb fun ⟨i, p, hp, hf⟩ => hno p ⟨i, hp⟩ (knownAll_spec hk i p true hp) hf)
  exact ⟨_, fps3, g, ⟨hag, hmono⟩, hvia, hN⟩

end
end
end Go.Sx
