/- Layer 12: a bank that is full. No condition. -/
import Derived.Test.YtfalhknkaebfoaaSpBl
set_option linter.unusedVariables false
set_option linter.unusedSimpArgs false
namespace Go.Sx
theorem brzL_ok {L : List Obj} {k : Key} (hL : q_okL L) : q_okL (q_brzL L k) := by
  unfold q_brzL
  split
  · exact mapO_ok hL fun o ho => desO_ok ho
  · exact hL
theorem ex_min {P : Nat → Prop} : ∀ {n : Nat}, P n → ∃ m, m ≤ n ∧ P m ∧ ∀ i, i < m → ¬ P i := by
  intro n
  induction n using Nat.strongRecOn with
  | _ n ih =>
    intro h
    by_cases hx : ∃ i, i < n ∧ P i
    · obtain ⟨i, hi, hp⟩ := hx
      obtain ⟨m, h1, h2, h3⟩ := ih i hi hp
      exact ⟨m, by omega, h2, h3⟩
    · exact ⟨n, Nat.le_refl _, h, fun i hi hp => hx ⟨i, hi, hp⟩⟩
theorem fuM_succ {x : List Int} {g : Int} (h : 0 ≤ g) : q_fuM x (g + 1) = q_fuM x g + (if fuC x g.toNat < 4294967295 then 1 else 0) := by
  unfold q_fuM
  rw [show (g + 1).toNat = g.toNat + 1 by omega, List.range_succ, List.filter_append, List.length_append]
  by_cases hc : fuC x g.toNat < 4294967295
  · simp [hc]
  · simp [hc]
theorem fuM_zero {x : List Int} : q_fuM x 0 = 0 := rfl
theorem fuM_same {x : List Int} {a : Int} (h0 : 0 ≤ a) : ∀ d : Nat, (∀ i : Nat, a ≤ (i : Int) → (i : Int) < a + d → ¬ fuC x i < 4294967295) → q_fuM x (a + d) = q_fuM x a
  | 0, _ => by simp
  | d + 1, h => by
    have := fuM_same h0 d fun i h1 h2 => h i h1 (by omega)
    rw [show a + ((d + 1 : Nat) : Int) = a + d + 1 by omega, fuM_succ (by omega), this, if_neg (h (a + d).toNat (by omega) (by omega))]
    omega
theorem fuM_mono {x : List Int} {a : Int} (h0 : 0 ≤ a) : ∀ d : Nat, q_fuM x a ≤ q_fuM x (a + d)
  | 0 => by simp
  | d + 1 => by
    have := fuM_mono (x := x) h0 d
    rw [show a + ((d + 1 : Nat) : Int) = a + d + 1 by omega, fuM_succ (by omega)]
    split <;> omega
theorem fuM_le {x : List Int} : ∀ d : Nat, 0 ≤ q_fuM x d ∧ q_fuM x d ≤ d
  | 0 => ⟨Int.le_refl _, Int.le_refl _⟩
  | d + 1 => by
    have := fuM_le (x := x) d
    rw [show ((d + 1 : Nat) : Int) = (d : Int) + 1 by omega, fuM_succ (by omega)]
    split <;> omega
theorem mkI_no {L : List Obj} {f l : Int} (h : q_mkI L f l = -1) {j : Nat} (hj : j < L.length) (h1 : f ≤ (j : Int)) (h2 : (j : Int) ≤ l) : q_isNew (lget L j free) = false := by
  unfold q_mkI at h
  split at h
  · omega
  · rename_i hn
    have := List.find?_eq_none.1 hn j (List.mem_range.2 hj)
    cases hw : q_isNew (lget L j free) with
    | false => rfl
    | true => exact absurd (by simp [h1, h2, hw]) this
section
variable {n : Int} {x : List Int}
theorem fuL_len {g : Int} : (q_fuL n x g).length = g.toNat + 1 := by simp [q_fuL]
theorem fuL_zero {g : Int} : lget (q_fuL n x g) 0 free = q_fuB n := rfl
theorem fuL_at {g : Int} {j : Nat} (h : j < g.toNat) : lget (q_fuL n x g) (j + 1) free = fuO x j := by
  unfold q_fuL lget
  simp [List.getD_eq_getElem?_getD, h]
theorem fuL_app {g : Int} (h : 0 ≤ g) : lapp (q_fuL n x g) (fuO x g.toNat) = q_fuL n x (g + 1) := by
  unfold lapp q_fuL
  rw [show (g + 1).toNat = g.toNat + 1 by omega, List.range_succ, List.map_append]
  rfl
theorem fuO_kind (i : Nat) : (fuO x i).kind = 0 ∧ (fuO x i).count = fuC x i := ⟨rfl, rfl⟩
theorem fuO_new (i : Nat) : q_isNew (fuO x i) = decide (fuC x i < 4294967295) := by unfold q_isNew fuO; simp
theorem fuO_ret (i : Nat) : q_isRet (fuO x i) = !decide (fuC x i < 4294967295) := by
  unfold q_isRet fuO
  by_cases h : fuC x i < 4294967295
  · have : ¬ (4294967295 ≤ fuC x i) := by omega
    simp [h, this]
  · have : 4294967295 ≤ fuC x i := by omega
    simp [h, this]
variable (hn1 : 1 ≤ n) (hn2 : n ≤ 18) (hc : ∀ i : Nat, (i : Int) < n → 0 ≤ fuC x i ∧ fuC x i ≤ 4294967295)
include hn1 hn2
/-- The bank, at the beginning of a list. -/
theorem fu_bank {V : List Obj} (hl : (V.length : Int) = n + 1) (h0 : lget V 0 free = q_fuB n) : q_bnkE V q_fuK = 0 ∧ q_bnkA V q_fuK = 1 ∧ q_bnkB V q_fuK = n := by
  have s : (q_fuB n).slots.at 0 = q_num 1 ∧ (q_fuB n).slots.at 1 = q_num n := by
    unfold q_fuB
    simp only
    rw [Slots.at_put _ _ _ _ (by omega), Slots.at_put _ _ _ _ (by omega), Slots.at_put _ _ _ _ (by omega)]
    exact ⟨rfl, rfl⟩
  have hobj : lget V q_fuK.oid.toNat free = q_fuB n := h0
  have his : q_is V q_fuK = true := by
    unfold q_is
    rw [hobj, has_ok.2 ⟨by show (0 : Int) ≤ 0; omega, by show (0 : Int) < _; omega⟩]
    rfl
  have hask : q_asked V q_fuK 4 false = 0 := by
    unfold q_asked llen
    rw [if_neg (by omega), if_neg (by rw [his]; decide), if_neg (by decide)]
  refine ⟨(bnkE_yes hask ?_).1, ?_, ?_⟩
  · rw [hobj]
    unfold q_bnkOk llen
    rw [s.1, s.2]
    simp only [q_num, Bool.and_eq_true, decide_eq_true_eq]
    refine ⟨⟨⟨⟨?_, ?_⟩, ?_⟩, ?_⟩, ?_⟩
    · trivial
    · trivial
    · exact decide_eq_true (by omega)
    · exact decide_eq_true (by omega)
    · exact decide_eq_true (by omega)
  · unfold q_bnkA; rw [hobj, s.1]; rfl
  · have : q_bnkB V q_fuK = ((q_fuB n).slots.at 1).value := by rw [← hobj]; rfl
    rw [this, s.2]; rfl
include hc
theorem fuL_ok : q_okL (q_fuL n x n) := by
  unfold q_okL
  rw [right_iff, fuL_len]
  refine ⟨by omega, by omega, fun i hi => ?_⟩
  cases i with
  | zero =>
    rw [fuL_zero]
    exact bsO1_ok (o := ⟨1, 1, 0, noSlots, noBytes⟩) (a := 1) (b := n) (bare_ok (by omega) (by omega) (by omega) (by omega) (by omega) (by omega)) rfl
  | succ i =>
    rw [fuL_at (by omega)]
    have := hc i (by omega)
    exact bare_ok (by omega) (by omega) (by omega) (by omega) this.1 this.2
theorem fuL_made : q_made (q_fuL n x n) = true := by
  unfold q_made
  have := fuL_ok hn1 hn2 hc
  unfold q_okL at this
  rw [this]
  have hl := fuL_len (n := n) (x := x) (g := n)
  unfold llen
  rw [hl]
  simp; omega
theorem fuS_ok {p : Int} : q_okL (q_fuS (q_fuL n x n) p) := by
  refine mapO_ok (fuL_ok hn1 hn2 hc) fun o ho => ?_
  split
  · rename_i h; exact newO_ok ho h (.inr rfl)
  · exact retO_ok ho
omit hc hn1 hn2
theorem fuS_len {p : Int} : (q_fuS (q_fuL n x n) p).length = n.toNat + 1 := by unfold q_fuS; rw [mapO_len, fuL_len]
theorem fuS_zero {p : Int} : lget (q_fuS (q_fuL n x n) p) 0 free = q_fuB n := by
  unfold q_fuS
  rw [mapO_get (by rw [fuL_len]; omega)]
  simp [fuL_zero]
theorem fuS_at {p : Int} {j : Nat} (h : j < n.toNat) : lget (q_fuS (q_fuL n x n) p) (j + 1) free = if ((j : Int) + 1 ≤ p) then (if fuC x j < 4294967295 then q_newO (fuO x j) 2 else q_retO (fuO x j)) else fuO x j := by
  unfold q_fuS
  rw [mapO_get (by rw [fuL_len]; omega), fuL_at h, fuO_new]
  by_cases h1 : (j : Int) + 1 ≤ p
  · rw [if_pos (by simp; omega), if_pos h1]
    by_cases h2 : fuC x j < 4294967295
    · simp [h2]
    · simp [h2]
  · rw [if_neg (by simp; omega), if_neg h1]
theorem fuS_none : q_fuL n x n = q_fuS (q_fuL n x n) 0 := by
  unfold q_fuS
  refine (mapO_nil fun j hj => ?_).symm
  simp; omega
/-- What is retired ahead of a number. -/
theorem fuG_at {p g : Int} {j : Nat} (h : j < n.toNat) (hp : 0 ≤ p) (hnew : ∀ i : Nat, p ≤ (i : Int) → (i : Int) + 1 < g → ¬ fuC x i < 4294967295) :
    lget (q_mkG (q_fuS (q_fuL n x n) p) 1 g) (j + 1) free = if (j : Int) + 1 < g then lget (q_fuS (q_fuL n x n) (if p < g - 1 then g - 1 else p)) (j + 1) free else lget (q_fuS (q_fuL n x n) p) (j + 1) free := by
  unfold q_mkG
  rw [mapO_get (by rw [fuS_len]; omega), fuS_at h, fuS_at h]
  by_cases hg : (j : Int) + 1 < g
  · rw [if_pos hg]
    have e : (decide ((1 : Int) ≤ ((j + 1 : Nat) : Int)) && decide (((j + 1 : Nat) : Int) < g)) = true := by simp; omega
    rw [e, Bool.true_and]
    by_cases hjp : (j : Int) + 1 ≤ p
    · rw [if_pos hjp, if_pos (show (j : Int) + 1 ≤ (if p < g - 1 then g - 1 else p) by split <;> omega)]
      by_cases h2 : fuC x j < 4294967295
      · rw [if_pos h2, if_neg (by simp [q_isRet, q_newO])]
      · rw [if_neg h2, if_neg (by simp [q_isRet, q_retO])]
    · rw [if_neg hjp, if_pos (show (j : Int) + 1 ≤ (if p < g - 1 then g - 1 else p) by split <;> omega)]
      have h2 := hnew j (by omega) hg
      rw [if_neg h2, if_pos (by rw [fuO_ret]; simp [h2])]
  · rw [if_neg hg, if_neg]
    simp; omega
theorem fuG_zero {p g : Int} : lget (q_mkG (q_fuS (q_fuL n x n) p) 1 g) 0 free = q_fuB n := by
  unfold q_mkG
  rw [mapO_get (by rw [fuS_len]; omega), fuS_zero]
  simp
theorem fuS_new {p : Int} {j : Nat} (h : j < n.toNat) : q_isNew (lget (q_fuS (q_fuL n x n) p) (j + 1) free) = (!decide ((j : Int) + 1 ≤ p) && decide (fuC x j < 4294967295)) := by
  rw [fuS_at h]
  by_cases h1 : (j : Int) + 1 ≤ p
  · rw [if_pos h1]
    split <;> simp [q_isNew, q_newO, q_retO, h1]
  · rw [if_neg h1, fuO_new]
    simp [h1]
include hn1 hn2
/-- No more can be made. -/
theorem fu_full {p : Int} (hp : 0 ≤ p) (hpn : p ≤ n) (h : ¬ q_fuM x p < q_fuM x n) : q_bmkE (q_fuS (q_fuL n x n) p) q_fuK 1 = 221 ∧ q_bmkL (q_fuS (q_fuL n x n) p) q_fuK 1 = q_fuS (q_fuL n x n) n := by
  have hl : ((q_fuS (q_fuL n x n) p).length : Int) = n + 1 := by rw [fuS_len]; omega
  obtain ⟨b1, b2, b3⟩ := fu_bank hn1 hn2 hl fuS_zero
  have hno : ∀ i : Nat, p ≤ (i : Int) → (i : Int) < n → ¬ fuC x i < 4294967295 := fun i h1 h2 h3 => by
    have m1 := fuM_mono (x := x) hp ((i : Int) - p).toNat
    have m2 := fuM_mono (x := x) (a := (i : Int) + 1) (by omega) (n - (i + 1)).toNat
    have m3 := fuM_succ (x := x) (g := (i : Int)) (by omega)
    rw [show p + (((i : Int) - p).toNat : Int) = i by omega] at m1
    rw [show (i : Int) + 1 + ((n - (i + 1)).toNat : Int) = n by omega] at m2
    rw [if_pos (by simpa using h3)] at m3
    omega
  have hnn : q_noNew (q_fuS (q_fuL n x n) p) 1 (n + 1) := fun j h1 h2 => by
    cases j with
    | zero => omega
    | succ j =>
      rw [fuS_new (by omega)]
      by_cases h3 : (j : Int) + 1 ≤ p
      · simp [h3]
      · simp [hno j (by omega) (by omega)]
  obtain ⟨m1, m2, m3⟩ := mk_end (L := q_fuS (q_fuL n x n) p) (f := 1) (l := n) 1 hnn
  obtain ⟨_, _, e3, e4⟩ := bmk_full (kind := 1) b1 (.inl rfl) (by rw [b2, b3]; exact m1)
  refine ⟨e3.symm, ?_⟩
  rw [← e4, b2, b3, m2]
  refine list_ext (by rw [mkG_len, fuS_len, fuS_len]) fun j hj => ?_
  rw [mkG_len, fuS_len] at hj
  cases j with
  | zero => rw [fuG_zero, fuS_zero]
  | succ j =>
    rw [fuG_at (by omega) hp fun i h1 h2 => hno i h1 (by omega), if_pos (by omega)]
    congr 1
    split
    · congr 1; omega
    · congr 1; omega
/-- One more is made. -/
theorem fu_more {p : Int} (hp : 0 ≤ p) (hpn : p ≤ n) (h : q_fuM x p < q_fuM x n) : ∃ q : Int, p < q ∧ q ≤ n ∧ q_fuM x q = q_fuM x p + 1 ∧ q_bmkE (q_fuS (q_fuL n x n) p) q_fuK 2 = 0 ∧ (q_bmkK (q_fuS (q_fuL n x n) p) q_fuK 2).oid = q ∧
    (q_bmkK (q_fuS (q_fuL n x n) p) q_fuK 2).count = (lget (q_fuL n x n) q.toNat free).count + 1 ∧ q_bmkL (q_fuS (q_fuL n x n) p) q_fuK 2 = q_fuS (q_fuL n x n) q := by
  have hl : ((q_fuS (q_fuL n x n) p).length : Int) = n + 1 := by rw [fuS_len]; omega
  obtain ⟨b1, b2, b3⟩ := fu_bank hn1 hn2 hl fuS_zero
  have hex : ∃ i : Nat, p ≤ (i : Int) ∧ (i : Int) < n ∧ fuC x i < 4294967295 := Classical.byContradiction fun hno => by
    have := fuM_same (x := x) hp (n - p).toNat fun i h1 h2 h3 => hno ⟨i, h1, by omega, h3⟩
    rw [show p + ((n - p).toNat : Int) = n by omega] at this
    omega
  obtain ⟨i0, hi0⟩ := hex
  obtain ⟨i, _, ⟨i1, i2, i3⟩, hmin⟩ := ex_min (P := fun i => p ≤ (i : Int) ∧ (i : Int) < n ∧ fuC x i < 4294967295) hi0
  have hmin' : ∀ k : Nat, p ≤ (k : Int) → (k : Int) < i → ¬ fuC x k < 4294967295 := fun k h1 h2 h3 => hmin k (by omega) ⟨h1, by omega, h3⟩
  have hw : q_isNew (lget (q_fuS (q_fuL n x n) p) (i + 1) free) = true := by
    rw [fuS_new (by omega)]
    simp [i3]; omega
  have hnn : q_noNew (q_fuS (q_fuL n x n) p) 1 ((i : Int) + 1) := fun j h1 h2 => by
    cases j with
    | zero => omega
    | succ j =>
      rw [fuS_new (by omega)]
      by_cases h3 : (j : Int) + 1 ≤ p
      · simp [h3]
      · simp [hmin' j (by omega) (by omega)]
  have ht : ((i : Int) + 1).toNat = i + 1 := by omega
  obtain ⟨m1, m2, m3⟩ := mk_made (L := q_fuS (q_fuL n x n) p) (f := 1) (l := n) (g := (i : Int) + 1) 2 (by omega) (by omega) (by omega) (by omega) hnn (by rw [ht]; exact hw)
  obtain ⟨y1, y2, y3, y4⟩ := bmk_yes (kind := 2) b1 (.inr rfl) (by rw [b2, b3, m1]; omega)
  have hobj : lget (q_fuS (q_fuL n x n) p) (i + 1) free = fuO x i := by rw [fuS_at (by omega), if_neg (by omega)]
  have hK := bmkE_in (L := q_fuS (q_fuL n x n) p) (k := q_fuK) (kind := 2) y3.symm
  obtain ⟨_, _, k1, k2, k3, k4, k5, k6⟩ := hK
  rw [b2, b3, m1] at k4
  refine ⟨(i : Int) + 1, by omega, by omega, ?_, y3.symm, k4.symm, ?_, ?_⟩
  · rw [fuM_succ (by omega), if_pos (by simpa using i3)]
    have := fuM_same (x := x) hp ((i : Int) - p).toNat fun k h1 h2 => hmin' k h1 (by omega)
    rw [show p + (((i : Int) - p).toNat : Int) = i by omega] at this
    omega
  · rw [k6, ← k4, ht, hobj, fuL_at (by omega)]
  · rw [← y4, b2, b3, m3, ht, hobj]
    refine list_ext (by rw [lset_len, mkG_len, fuS_len, fuS_len]) fun j hj => ?_
    rw [lset_len, mkG_len, fuS_len] at hj
    rw [lget_lset (by rw [mkG_len, fuS_len]; omega)]
    cases j with
    | zero => rw [if_neg (by omega), fuG_zero, fuS_zero]
    | succ j =>
      by_cases hji : j + 1 = i + 1
      · rw [if_pos hji]
        have : j = i := by omega
        subst this
        rw [fuS_at (by omega), if_pos (Int.le_refl _), if_pos i3]
      · rw [if_neg hji, fuG_at (by omega) hp fun k h1 h2 => hmin' k h1 (by omega)]
        by_cases hlt : (j : Int) + 1 < (i : Int) + 1
        · rw [if_pos hlt, fuS_at (by omega), fuS_at (by omega), if_pos (show (j : Int) + 1 ≤ (i : Int) + 1 by omega), if_pos (show (j : Int) + 1 ≤ (if p < (i : Int) + 1 - 1 then (i : Int) + 1 - 1 else p) by split <;> omega)]
        · rw [if_neg hlt, fuS_at (by omega), fuS_at (by omega), if_neg (show ¬ (j : Int) + 1 ≤ p by omega), if_neg (show ¬ (j : Int) + 1 ≤ (i : Int) + 1 by omega)]
/-- How many are destroyed. -/
theorem fu_raze : ∀ g : Nat, (g : Int) ≤ n → q_rzN (q_fuS (q_fuL n x n) n) 1 ((g : Int) + 1) 0 = q_fuM x g
  | 0, _ => rzN_zero
  | g + 1, hg => by
    have ih := fu_raze g (by omega)
    have ht : ((g : Int) + 1).toNat = g + 1 := by omega
    have hobj : lget (q_fuS (q_fuL n x n) n) (g + 1) free = if fuC x g < 4294967295 then q_newO (fuO x g) 2 else q_retO (fuO x g) := by rw [fuS_at (by omega), if_pos (by omega)]
    have hhit : q_rzHit (q_fuS (q_fuL n x n) n) ((g : Int) + 1) 0 = decide (fuC x g < 4294967295) := by
      unfold q_rzHit
      rw [ht, hobj]
      by_cases h : fuC x g < 4294967295
      · have : ¬ ((g : Int) + 1 = 0) := by omega
        simp [h, q_busy, q_newO, this]
      · simp [h, q_busy, q_retO]
    rw [show ((g + 1 : Nat) : Int) + 1 = (g : Int) + 1 + 1 by omega, show ((g + 1 : Nat) : Int) = (g : Int) + 1 by omega, fuM_succ (by omega)]
    by_cases h : fuC x g < 4294967295
    · rw [rzN_succ (by omega) (by rw [fuS_len]; omega) (by omega) (by rw [hhit]; simpa using h), ih, if_pos (by simpa using h)]
    · rw [rzN_same (by omega) (by omega) (by rw [hhit]; simpa using h), ih, if_neg (by simpa using h)]
      omega
/-- All behind it. -/
theorem fu_end {p : Int} (hp : 0 ≤ p) (hpn : p ≤ n) (h : ¬ q_fuM x p < q_fuM x n) : fuV n x p = fuV n x n ∧ q_bnkE (fuT n x p) q_fuK = 0 ∧ q_brzN (fuT n x p) q_fuK = q_fuM x n ∧ (q_bmkE (fuU n x p) q_fuK 1 ≠ 0 → ∀ j : Nat, j < n.toNat + 1 → q_isNew (lget (fuV n x n) j free) = false) ∧ (fuV n x n).length = n.toNat + 1 := by
  obtain ⟨f1, f2⟩ := fu_full hn1 hn2 (x := x) hp hpn h
  obtain ⟨f1', f2'⟩ := fu_full hn1 hn2 (x := x) (p := n) (by omega) (Int.le_refl _) (by omega)
  have hT : fuT n x p = q_fuS (q_fuL n x n) n := f2
  have hT' : fuT n x n = q_fuS (q_fuL n x n) n := f2'
  have hU : fuU n x p = fuU n x n := by unfold fuU; rw [hT, hT']
  have hV : fuV n x p = fuV n x n := by unfold fuV; rw [hU]
  have hl : ((q_fuS (q_fuL n x n) n).length : Int) = n + 1 := by rw [fuS_len]; omega
  obtain ⟨b1, b2, b3⟩ := fu_bank hn1 hn2 hl fuS_zero
  have hUe : fuU n x n = q_rzG (q_fuS (q_fuL n x n) n) 1 (n + 1) 0 := by
    unfold fuU q_brzL
    rw [hT', if_pos b1, b2, b3]; rfl
  have hUl : (fuU n x n).length = n.toNat + 1 := by rw [hUe, rzG_len, fuS_len]
  have hU0 : lget (fuU n x n) 0 free = q_fuB n := by
    rw [hUe]
    unfold q_rzG
    rw [mapO_get (by rw [fuS_len]; omega), fuS_zero, if_neg]
    simp [q_rzP]
  obtain ⟨u1, u2, u3⟩ := fu_bank hn1 hn2 (V := fuU n x n) (by rw [hUl]; omega) hU0
  refine ⟨hV, by rw [hT]; exact b1, ?_, fun hne j hj => ?_, by unfold fuV; rw [bmkL_len, hUl]⟩
  · unfold q_brzN
    rw [hT, if_pos b1, b2, b3]
    have := fu_raze hn1 hn2 (x := x) n.toNat (by omega)
    rw [show ((n.toNat : Nat) : Int) = n by omega] at this
    exact this
  · rw [hU] at hne
    have hI : q_mkI (fuU n x n) 1 n = -1 := Classical.byContradiction fun hi => by
      obtain ⟨_, _, e3, _⟩ := bmk_yes (kind := 1) u1 (.inl rfl) (by rw [u2, u3]; exact hi)
      exact hne e3.symm
    have hVe : fuV n x n = q_mkG (fuU n x n) 1 (n + 1) := by
      unfold fuV
      obtain ⟨_, _, _, e4⟩ := bmk_full (kind := 1) u1 (.inl rfl) (by rw [u2, u3]; exact hI)
      rw [← e4, u2, u3]
      unfold q_mkL
      rw [if_pos hI]
    rw [hVe]
    have hj : j < (fuU n x n).length := by rw [hUl]; exact hj
    unfold q_mkG
    rw [mapO_get hj]
    split
    · simp [q_isNew, q_retO]
    · rename_i hr
      cases hw : q_isNew (lget (fuU n x n) j free) with
      | false => rfl
      | true =>
        exfalso
        have hj0 : j ≠ 0 := fun e => by rw [e, hU0] at hw; simp [q_isNew, q_fuB] at hw
        have h' := mkI_no hI hj (by omega) (by rw [hUl] at hj; omega)
        rw [hw] at h'; simp at h'
omit hn1 hn2
theorem fuF_succ {V : List Obj} {g : Int} (h : 0 ≤ g) : q_fuF V (g + 1) = q_fuF V g + (if q_isNew (lget V g.toNat free) = true then 1 else 0) := by
  unfold q_fuF
  rw [show (g + 1).toNat = g.toNat + 1 by omega, List.range_succ, List.filter_append, List.length_append]
  by_cases hc : q_isNew (lget V g.toNat free) = true
  · simp [hc]
  · simp [hc]
theorem fuF_in {V : List Obj} {g : Int} (h : 0 ≤ g) : 0 ≤ q_fuF V g ∧ q_fuF V g ≤ g := by
  unfold q_fuF
  have := List.length_filter_le (fun j => q_isNew (lget V j free)) (List.range g.toNat)
  rw [List.length_range] at this
  omega
theorem fuF_none {V : List Obj} {g : Int} (h : ∀ j : Nat, j < g.toNat → q_isNew (lget V j free) = false) : q_fuF V g = 0 := by
  unfold q_fuF
  rw [List.filter_eq_nil_iff.2 fun j hj => by rw [h j (List.mem_range.1 hj)]; simp]
  rfl
end
end Go.Sx
