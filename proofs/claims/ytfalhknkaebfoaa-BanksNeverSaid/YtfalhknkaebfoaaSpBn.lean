/- Layer 12: what never counts again. No condition. -/
import Derived.Test.YtfalhknkaebfoaaSpBl
set_option linter.unusedVariables false
set_option linter.unusedSimpArgs false
namespace Go.Sx
def nvA (acts : List Acb) (g : Int) : Acb := lget acts g.toNat (Acb.mk 0 0 void void 0)
def nvF (acts : List Acb) : Nat → V := fun i => V.ag [V.it IntKind.i64 (lget acts i (Acb.mk 0 0 void void 0)).kind, V.it IntKind.i64 (lget acts i (Acb.mk 0 0 void void 0)).num, V.key (lget acts i (Acb.mk 0 0 void void 0)).bank, V.key (lget acts i (Acb.mk 0 0 void void 0)).key, V.it IntKind.i64 (lget acts i (Acb.mk 0 0 void void 0)).obj]
theorem stpO_refl (o : Obj) : stpO o o := .inl ⟨rfl, rfl, rfl⟩
theorem stpO_like {o o' o'' : Obj} (h : stpO o o') (h1 : o''.kind = o'.kind) (h2 : o''.count = o'.count) (h3 : o''.calls = o'.calls) : stpO o o'' := by
  unfold stpO at h ⊢
  rw [h1, h2, h3]; exact h
theorem stpO_cnt {o o' : Obj} (h : stpO o o') : o.count ≤ o'.count ∧ o'.count ≤ o.count + 1 := by unfold stpO at h; omega
theorem stpL_refl (L : List Obj) : stpL L L := ⟨rfl, fun j _ => stpO_refl _⟩
theorem stpG {L : List Obj} {f g : Int} {j : Nat} (hj : j < L.length) : stpO (lget L j free) (lget (q_mkG L f g) j free) := by
  unfold q_mkG
  rw [mapO_get hj]
  split
  · rename_i h
    simp only [q_isRet, Bool.and_eq_true, decide_eq_true_eq] at h
    exact .inr (.inl ⟨h.2.1, rfl, rfl⟩)
  · exact stpO_refl _
theorem stpL_mk {L : List Obj} {f l kind : Int} (h0 : 0 ≤ f) (hk : kind = 1 ∨ kind = 2) : stpL L (q_mkL L f l kind) := by
  refine ⟨mkL_len, fun j hj => ?_⟩
  unfold q_mkL
  split
  · exact stpG hj
  · rename_i hi
    rcases mkI_in (L := L) (l := l) h0 with e | ⟨a, b, c, d⟩
    · exact absurd e hi
    · rw [lget_lset (by rw [mkG_len]; omega)]
      split
      · rename_i e
        rw [← e] at d
        unfold q_isNew at d
        simp only [Bool.and_eq_true, decide_eq_true_eq] at d
        refine .inr (.inr (.inl ⟨d.1, hk, ?_⟩))
        rw [← e]; rfl
      · exact stpG hj
theorem bmkE0_in {L : List Obj} {k : Key} {kind : Int} (h : q_bmkE0 L k kind = 0) : q_bnkE L k = 0 ∧ (kind = 1 ∨ kind = 2) := by
  have he : q_bnkE L k = 0 := by
    unfold q_bmkE0 at h
    split at h
    · assumption
    · rename_i h'; exact absurd h h'
  refine ⟨he, ?_⟩
  unfold q_bmkE0 at h
  rw [if_pos he] at h
  split at h
  · assumption
  · omega
theorem stpL_bmk {L : List Obj} {k : Key} {kind : Int} : stpL L (q_bmkL L k kind) := by
  unfold q_bmkL
  split
  · rename_i h
    obtain ⟨he, hk⟩ := bmkE0_in h
    exact stpL_mk (bnk_ok he).2.1 hk
  · exact stpL_refl _
theorem stpL_brz {L : List Obj} {k : Key} : stpL L (q_brzL L k) := by
  unfold q_brzL
  split
  · refine ⟨rzG_len, fun j hj => ?_⟩
    unfold q_rzG
    rw [mapO_get hj]
    split
    · rename_i h
      simp only [q_rzP, q_busy, Bool.and_eq_true, Bool.or_eq_true, decide_eq_true_eq] at h
      exact .inr (.inr (.inr ⟨h.1.2, rfl, rfl⟩))
    · exact stpO_refl _
  · exact stpL_refl _
theorem thing_kind {L : List Obj} {v : Key} (h : q_thing L v = true) : 0 ≤ v.oid ∧ v.oid < (L.length : Int) ∧ ((lget L v.oid.toNat free).kind = 1 ∨ (lget L v.oid.toNat free).kind = 2) := by
  have hi := thing_is h
  obtain ⟨_, h0, h1, _, hk⟩ := is_all hi
  refine ⟨h0, h1, ?_⟩
  rw [hk]
  unfold q_thing at h
  simp only [Bool.and_eq_true, Bool.or_eq_true, decide_eq_true_eq] at h
  have hnm : q_named v = true := by unfold q_is at hi; simp only [Bool.and_eq_true] at hi; exact hi.1.1
  have hn : 0 ≤ q_names v := by
    rcases names_named v with ⟨_, e, h'⟩ | ⟨e, _⟩
    · omega
    · rw [e] at hnm; simp at hnm
  unfold q_wants
  rw [if_neg (by omega)]
  split
  · exact .inr rfl
  · exact .inl rfl
theorem stpL_bds {L : List Obj} {k v : Key} : stpL L (q_bdsL L k v) := by
  unfold q_bdsL
  split
  · rename_i h
    have ht : q_thing L v = true := by
      unfold q_bdsE at h
      split at h
      · split at h
        · rename_i h'; exact h'
        · omega
      · rename_i h'; exact absurd h h'
    obtain ⟨h0, h1, h2⟩ := thing_kind ht
    refine ⟨lset_len, fun j hj => ?_⟩
    rw [lget_lset (by omega)]
    split
    · rename_i e
      rw [e]
      exact .inr (.inr (.inr ⟨h2, rfl, rfl⟩))
    · exact stpO_refl _
  · exact stpL_refl _
theorem bsE_in {L : List Obj} {k : Key} {n : Int} (h : q_bsE L k n = 0) : q_bnkE L k = 0 ∧ 0 ≤ q_bsI L k := by
  have he : q_bnkE L k = 0 := Decidable.byContradiction fun he => by
    rw [bsE_bank he] at h; exact he h
  refine ⟨he, ?_⟩
  unfold q_bsE at h
  split at h
  · split at h
    · omega
    · rename_i h'; omega
  · rename_i h'; exact absurd h h'
theorem stpL_bs {L : List Obj} {k : Key} {n : Int} : stpL L (q_bsL L k n) := by
  unfold q_bsL
  split
  · rename_i h
    obtain ⟨he, hI⟩ := bsE_in h
    obtain ⟨_, a0, a1, a2, a3, a4⟩ := bnk_ok he
    have hM : stpL L (q_bsM L k) := stpL_mk a0 (.inl rfl)
    have hl : (q_bsM L k).length = L.length := hM.1
    rcases mkI_in (L := L) (l := q_bnkB L k) a0 with e | ⟨i1, i2, i3, i4⟩
    · have : q_bsI L k = -1 := e
      omega
    have i3 : q_bsI L k < (L.length : Int) := i3
    refine ⟨by rw [lset_len, lset_len]; exact hl, fun j hj => ?_⟩
    rw [lget_lset (by rw [lset_len]; omega)]
    split
    · rename_i e
      rw [e]
      exact stpO_like (hM.2 k.oid.toNat (by omega)) rfl rfl rfl
    · rw [lget_lset (by omega)]
      split
      · rename_i e
        rw [e]
        exact stpO_like (hM.2 (q_bsI L k).toNat (by omega)) rfl rfl rfl
      · exact hM.2 j hj
  · exact stpL_refl _
/-- A key that is, names a node or a page of its Count. -/
theorem is_obj {L : List Obj} {k : Key} (h : q_is L k = true) : k.oid.toNat < L.length ∧ (lget L k.oid.toNat free).count = k.count ∧ ((lget L k.oid.toNat free).kind = 1 ∨ (lget L k.oid.toNat free).kind = 2) := by
  obtain ⟨_, h0, h1, _, hk⟩ := is_all h
  have h' := h
  unfold q_is at h'
  simp only [Bool.and_eq_true] at h'
  have hn : 0 ≤ q_names k := by
    rcases names_named k with ⟨_, e, h'⟩ | ⟨e, _⟩
    · omega
    · rw [e] at h'; simp at h'
  have hc := h'.2
  unfold q_counts at hc
  simp only [Bool.and_eq_true, Bool.or_eq_true, decide_eq_true_eq] at hc
  refine ⟨by omega, ?_, ?_⟩
  · rcases hc.2 with h | h
    · omega
    · exact h.1.2
  · rw [hk]
    unfold q_wants
    rw [if_neg (by omega)]
    split
    · exact .inr rfl
    · exact .inl rfl
theorem dead_not {L : List Obj} {k : Key} (h : deadK L k) : q_is L k = false := by
  cases hi : q_is L k with
  | false => rfl
  | true =>
    obtain ⟨_, h1, h2⟩ := is_obj hi
    unfold deadK at h
    omega
theorem dead_stp {L L' : List Obj} {k : Key} (hs : stpL L L') (hk : k.oid.toNat < L.length) (h : deadK L k) : deadK L' k := by
  have := hs.2 _ hk
  unfold deadK at h ⊢
  unfold stpO at this
  omega
theorem dead_out {L L' : List Obj} {k : Key} (hs : stpL L L') (hk : ¬ k.oid.toNat < L.length) (h : deadK L k) : deadK L' k := by
  have e : ∀ M : List Obj, M.length = L.length → lget M k.oid.toNat free = free := fun M hM => by
    unfold lget
    rw [List.getD_eq_getElem?_getD, List.getElem?_eq_none (by omega)]; rfl
  unfold deadK at h ⊢
  rw [e L' hs.1]
  rw [e L rfl] at h
  exact h
theorem dead_go {L L' : List Obj} {k : Key} (hs : stpL L L') (h : deadK L k) : deadK L' k := by
  by_cases hk : k.oid.toNat < L.length
  · exact dead_stp hs hk h
  · exact dead_out hs hk h
theorem is_dies {L L' : List Obj} {k : Key} (hs : stpL L L') (h : q_is L k = true) (h' : q_is L' k = false) : deadK L' k := by
  obtain ⟨h1, h2, h3⟩ := is_obj h
  rcases hs.2 _ h1 with ⟨a, b, c⟩ | ⟨a, b, c⟩ | ⟨a, b, c⟩ | ⟨a, b, c⟩
  · exfalso
    have : q_is L' k = q_is L k := by
      unfold q_is q_has q_counts llen
      rw [hs.1, a, b, c]
    rw [this, h] at h'; simp at h'
  · omega
  · omega
  · exact .inr ⟨by omega, .inl b⟩
theorem bget_set {D : List Bool} {n : Nat} {v : Bool} (hn : n < D.length) (j : Nat) : lget (lset D n v) j false = if j = n then v else lget D j false := by
  unfold lget lset
  by_cases e : j = n
  · subst e; simp [List.getD_eq_getElem?_getD, hn]
  · rw [if_neg e, List.getD_eq_getElem?_getD, List.getD_eq_getElem?_getD, List.getElem?_set_ne (Ne.symm e)]
theorem nk_step {ks : List Key} {t : Int × List Bool × List Obj × List Obj} (ht : q_invNk ks t) (hlt : t.1 < (ks.length : Int)) :
    (lget (lset t.2.1 t.1.toNat (lget t.2.1 t.1.toNat false || q_is t.2.2.1 (lget ks t.1.toNat void) && !q_is t.2.2.2 (lget ks t.1.toNat void))) t.1.toNat false && q_is t.2.2.2 (lget ks t.1.toNat void)) = false ∧
    q_invNk ks (t.1 + 1, lset t.2.1 t.1.toNat (lget t.2.1 t.1.toNat false || q_is t.2.2.1 (lget ks t.1.toNat void) && !q_is t.2.2.2 (lget ks t.1.toNat void)), t.2.2.1, t.2.2.2) := by
  obtain ⟨t0, t1, t2, t3, t4, t5, t6⟩ := ht
  have hn : t.1.toNat < ks.length := by omega
  have key : (lget t.2.1 t.1.toNat false || q_is t.2.2.1 (lget ks t.1.toNat void) && !q_is t.2.2.2 (lget ks t.1.toNat void)) = true → deadK t.2.2.2 (lget ks t.1.toNat void) := fun h => by
    rw [Bool.or_eq_true, Bool.and_eq_true, Bool.not_eq_true'] at h
    rcases h with h | ⟨h, h'⟩
    · have := t6 _ hn h
      rw [if_neg (by omega)] at this
      exact dead_go t5 this
    · exact is_dies t5 h h'
  refine ⟨?_, by simp only; omega, by simp only [llen]; omega, ?_, t3, t4, t5, fun i hi hd => ?_⟩
  · rw [bget_set (by omega), if_pos rfl]
    generalize hv : (lget t.2.1 t.1.toNat false || q_is t.2.2.1 (lget ks t.1.toNat void) && !q_is t.2.2.2 (lget ks t.1.toNat void)) = v at *
    cases v with
    | false => rfl
    | true => rw [dead_not (key rfl)]; rfl
  · simp only [lset, List.length_set]; exact t2
  · simp only at hd ⊢
    rw [bget_set (by omega)] at hd
    by_cases e : i = t.1.toNat
    · rw [if_pos e] at hd
      rw [if_pos (by omega), e]
      exact key hd
    · rw [if_neg e] at hd
      have := t6 i hi hd
      by_cases hlt' : (i : Int) < t.1
      · rw [if_pos hlt'] at this
        rw [if_pos (by omega)]; exact this
      · rw [if_neg hlt'] at this
        rw [if_neg (by omega)]; exact this
theorem prep_is {L : List Obj} {k : Key} (h : q_is L k = true) : q_prep L k = k := by
  obtain ⟨h1, h2, h3, _, _⟩ := is_all h
  unfold q_prep q_snone llen
  rw [h1, h, if_neg]
  simp; intro e; rw [e] at h3; simp at h3; omega
theorem mk_is {L : List Obj} {k : Key} {kind : Int} (hL : q_okL L) (h : q_bmkE L k kind = 0) : q_is (q_bmkL L k kind) (q_bmkK L k kind) = true := by
  have h' := h
  obtain ⟨he, hk, k1, k2, k3, k4, k5, k6⟩ := bmkE_in h
  obtain ⟨_, a0, a1, a2, a3, a4⟩ := bnk_ok he
  obtain ⟨x1, x2⟩ := okL_len hL
  have hE0 : q_bmkE0 L k kind = 0 := by
    unfold q_bmkE at h
    split at h
    · assumption
    · rename_i h2; exact absurd h h2
  have hne : q_mkI L (q_bnkA L k) (q_bnkB L k) ≠ -1 := by omega
  have hK : q_bmkK L k kind = q_bkey kind (q_mkI L (q_bnkA L k) (q_bnkB L k)) ((lget L (q_mkI L (q_bnkA L k) (q_bnkB L k)).toNat free).count + 1) := by unfold q_bmkK; rw [if_pos h']
  have hobj : lget (q_bmkL L k kind) (q_mkI L (q_bnkA L k) (q_bnkB L k)).toNat free = q_newO (lget L (q_mkI L (q_bnkA L k) (q_bnkB L k)).toNat free) kind := by
    unfold q_bmkL; rw [if_pos hE0]; exact mkL_at a0 hne
  rw [← k4] at k5 k3 k1
  unfold q_isNew at k5
  simp only [Bool.and_eq_true, decide_eq_true_eq] at k5
  have hcb := obj_cnt (okL_get hL (q_mkI L (q_bnkA L k) (q_bnkB L k)).toNat (by omega))
  rw [hK]
  generalize q_mkI L (q_bnkA L k) (q_bnkB L k) = I at *
  have hkey : q_keyOk (q_bkey kind I ((lget L I.toNat free).count + 1)) = true := by
    unfold q_keyOk q_within q_bkey
    rcases hk with rfl | rfl
    · simp [q_isO, q_isC, q_isV, q_most]; omega
    · simp [q_isO, q_isC, q_isV, q_most]; omega
  have hisO : q_isO (q_bkey kind I ((lget L I.toNat free).count + 1)).kind = true := by
    unfold q_bkey
    rcases hk with rfl | rfl <;> simp [q_isO]
  have hnames : q_names (q_bkey kind I ((lget L I.toNat free).count + 1)) = I := by unfold q_names; rw [hkey, hisO]; rfl
  have hnm : q_named (q_bkey kind I ((lget L I.toNat free).count + 1)) = true := by unfold q_named; rw [hkey, hisO]; rfl
  have hoid : (q_bkey kind I ((lget L I.toNat free).count + 1)).oid = I := rfl
  unfold q_is
  rw [hnm, hoid, has_ok.2 ⟨by omega, by rw [bmkL_len]; omega⟩, hobj]
  unfold q_counts q_wants
  rw [hkey, hnames, if_neg (by omega)]
  unfold q_bkey q_newO
  rcases hk with rfl | rfl <;> simp
theorem brzL_ok2 {L : List Obj} {k : Key} (hL : q_okL L) : q_okL (q_brzL L k) := by
  unfold q_brzL
  split
  · exact mapO_ok hL fun o ho => desO_ok ho
  · exact hL
theorem bdsL_ok {L : List Obj} {k v : Key} (hL : q_okL L) : q_okL (q_bdsL L k v) := by
  unfold q_bdsL
  split
  · by_cases h : v.oid.toNat < L.length
    · exact lset_ok hL (desO_ok (okL_get hL _ h))
    · have : lset L v.oid.toNat (q_desO (lget L v.oid.toNat free)) = L := by unfold lset; exact List.set_eq_of_length_le (by omega)
      rw [this]; exact hL
  · exact hL
theorem bsL_ok {L : List Obj} {k : Key} {n : Int} (hL : q_okL L) : q_okL (q_bsL L k n) := by
  by_cases h : q_bsE L k n = 0
  · exact (bs_facts hL (bsE_in h).1 h).1
  · unfold q_bsL; rw [if_neg h]; exact hL
theorem lrep_len {n : Nat} {b : Bool} : (lrep n b).length = n := by simp [lrep]
theorem lrep_no {n i : Nat} : lget (lrep n false) i false = false := by
  unfold lget lrep
  rw [List.getD_eq_getElem?_getD, List.getElem?_replicate]
  split <;> rfl
def nvM (acts : List Acb) (g : Int × List Obj × List Bool) : List Obj := q_bmkL g.2.1 (nvA acts g.1).bank (nvA acts g.1).obj
def nvD (acts : List Acb) (g : Int × List Obj × List Bool) : List Obj := q_bdsL g.2.1 (nvA acts g.1).bank (nvA acts g.1).key
def nvS (acts : List Acb) (g : Int × List Obj × List Bool) : List Obj := q_bsL g.2.1 (nvA acts g.1).bank (nvA acts g.1).num
def nvR (acts : List Acb) (g : Int × List Obj × List Bool) : List Obj := q_brzL g.2.1 (nvA acts g.1).bank
def nvK (acts : List Acb) (g : Int × List Obj × List Bool) : Key := q_bmkK g.2.1 (nvA acts g.1).bank (nvA acts g.1).obj
def nvQ (acts : List Acb) (g : Int × List Obj × List Bool) : Key := q_bsK g.2.1 (nvA acts g.1).bank (nvA acts g.1).num
def nvV (ks : List Key) (t : Int × List Bool × List Obj × List Obj) : Bool := lget t.2.1 t.1.toNat false || q_is t.2.2.1 (lget ks t.1.toNat void) && !q_is t.2.2.2 (lget ks t.1.toNat void)
def nvT (ks : List Key) (t : Int × List Bool × List Obj × List Obj) : List Bool := lset t.2.1 t.1.toNat (nvV ks t)
theorem nvT_len {ks : List Key} {t : Int × List Bool × List Obj × List Obj} : (nvT ks t).length = t.2.1.length := by simp [nvT, lset]
theorem nv_step {ks : List Key} {t : Int × List Bool × List Obj × List Obj} (ht : q_invNk ks t) (hlt : t.1 < (ks.length : Int)) :
    (lget (nvT ks t) t.1.toNat false && q_is t.2.2.2 (lget ks t.1.toNat void)) = false ∧ q_invNk ks (t.1 + 1, nvT ks t, t.2.2.1, t.2.2.2) := nk_step ht hlt
end Go.Sx
