/- Processes: what never counts again, and how many run. No condition. -/
import Derived.Test.YtfalhknkaebfoaaSpQl
set_option linter.unusedVariables false
set_option linter.unusedSimpArgs false
set_option maxRecDepth 100000
namespace Go.Sx
def qstL (L M : List Obj) : Prop := M.length = L.length ∧ ∀ j, j < L.length → (lget M j free).kind = (lget L j free).kind ∧ (lget M j free).count = (lget L j free).count ∧ (lget L j free).calls ≤ (lget M j free).calls
/-- A resume key that was used. -/
def deadQ (L : List Obj) (k : Key) : Prop := k.kind = 7 ∧ k.call < (lget L k.oid.toNat free).calls
def q_invOn (x : List Pac) (ks : List Key) (g : Int × List Obj × List Bool) : Prop := 0 ≤ g.1 ∧ g.1 ≤ (llen x : Int) ∧ q_okL g.2.1 ∧ g.2.2.length = ks.length ∧ ∀ i, i < ks.length → lget g.2.2 i false = true → deadQ g.2.1 (lget ks i void)
def q_muOn (x : List Pac) (g : Int × List Obj × List Bool) : Nat := llen x - g.1.toNat
def q_invOk (ks : List Key) (t : Int × List Bool × List Obj × List Obj) : Prop := 0 ≤ t.1 ∧ t.1 ≤ (llen ks : Int) ∧ t.2.1.length = ks.length ∧ q_okL t.2.2.1 ∧ q_okL t.2.2.2 ∧ qstL t.2.2.1 t.2.2.2 ∧
  ∀ i, i < ks.length → lget t.2.1 i false = true → if (i : Int) < t.1 then deadQ t.2.2.2 (lget ks i void) else deadQ t.2.2.1 (lget ks i void)
def q_muOk (ks : List Key) (t : Int × List Bool × List Obj × List Obj) : Nat := llen ks - t.1.toNat
def onA (x : List Pac) (g : Int × List Obj × List Bool) : Pac := lget x g.1.toNat pac0
def onL (x : List Pac) (g : Int × List Obj × List Bool) : List Obj := q_ivL g.2.1 (onA x g).oid (onA x g).key (onA x g).mode (onA x g).msg
def onE (x : List Pac) (g : Int × List Obj × List Bool) : Int := q_ivE g.2.1 (onA x g).oid (onA x g).key (onA x g).mode (onA x g).msg
def onV (ks : List Key) (t : Int × List Bool × List Obj × List Obj) : Bool := lget t.2.1 t.1.toNat false || q_is t.2.2.1 (lget ks t.1.toNat void) && !q_is t.2.2.2 (lget ks t.1.toNat void)
def onT (ks : List Key) (t : Int × List Bool × List Obj × List Obj) : List Bool := lset t.2.1 t.1.toNat (onV ks t)
theorem onT_len {ks : List Key} {t : Int × List Bool × List Obj × List Obj} : (onT ks t).length = t.2.1.length := by simp [onT, lset]
theorem qstL_refl (L : List Obj) : qstL L L := ⟨rfl, fun j _ => ⟨rfl, rfl, Int.le_refl _⟩⟩
theorem qstL_trans {L M N : List Obj} (h : qstL L M) (h' : qstL M N) : qstL L N := ⟨h'.1.trans h.1, fun j hj => by
  obtain ⟨a, b, c⟩ := h.2 j hj
  obtain ⟨d, e, f⟩ := h'.2 j (by rw [h.1]; exact hj)
  exact ⟨d.trans a, e.trans b, by omega⟩⟩
theorem qstL_set {L : List Obj} {i : Nat} {o : Obj} (hi : i < L.length) (h1 : o.kind = (lget L i free).kind) (h2 : o.count = (lget L i free).count) (h3 : (lget L i free).calls ≤ o.calls) : qstL L (lset L i o) :=
  ⟨by rw [lset_len], fun j hj => by
    rw [lget_lset hi]
    split
    · rename_i e; rw [e]; exact ⟨h1, h2, h3⟩
    · exact ⟨rfl, rfl, Int.le_refl _⟩⟩
theorem hdO_K {o : Obj} {m : Msg} {a : Key} : (q_hdO o m a).kind = o.kind ∧ (q_hdO o m a).count = o.count ∧ (q_hdO o m a).calls = o.calls := by simp only [q_hdO, and_self]
theorem bcO_K {o : Obj} {st : Int} : (q_bcO o st).kind = o.kind ∧ (q_bcO o st).count = o.count ∧ (q_bcO o st).calls = o.calls := by simp only [q_bcO, and_self]
section
variable {L : List Obj} {i : Int} {k : Key} {md : Int} {m : Msg}
theorem iv2_st (hL : q_okL L) (hE : q_ivE L i k md m = 0) : qstL L (q_iv2 L i k md) := by
  obtain ⟨⟨⟨i0, i1⟩, _, _⟩, ⟨⟨k0, k1⟩, _, _⟩, _, ⟨_, l1⟩, _⟩ := iv_facts hL hE
  have h1 : qstL L (q_iv1 L i md) := qstL_set (by omega) bcO_K.1 bcO_K.2.1 (by rw [bcO_K.2.2]; exact Int.le_refl _)
  unfold q_iv2
  split
  · exact qstL_trans h1 (qstL_set (by omega) (by simp only [q_clO]) (by simp only [q_clO]) (by simp only [q_clO]; omega))
  · exact h1
theorem ivL_eq (hE : q_ivE L i k md m = 0) : q_ivL L i k md m = lset (q_iv2 L i k md) k.oid.toNat (q_hdO (lget (q_iv2 L i k md) k.oid.toNat free) (q_cnt L m) (q_ivA L i md)) := by
  unfold q_ivL q_hdL; rw [if_pos hE]
theorem ivL_st (hL : q_okL L) : qstL L (q_ivL L i k md m) := by
  by_cases hE : q_ivE L i k md m = 0
  · obtain ⟨_, ⟨⟨k0, k1⟩, _, _⟩, _, _, ⟨_, l2⟩, _⟩ := iv_facts hL hE
    rw [ivL_eq hE]
    exact qstL_trans (iv2_st hL hE) (qstL_set (by omega) hdO_K.1 hdO_K.2.1 (by rw [hdO_K.2.2]; exact Int.le_refl _))
  · rw [← (iv_no rfl hE).2]; exact qstL_refl _
theorem ivL_calls (hL : q_okL L) (hE : q_ivE L i k md m = 0) (h7 : k.kind = 7) : (lget (q_ivL L i k md m) k.oid.toNat free).calls = (lget L k.oid.toNat free).calls + 1 := by
  obtain ⟨_, ⟨⟨k0, k1⟩, _, _⟩, _, ⟨_, l1⟩, ⟨_, l2⟩, ⟨_, g1c⟩, _⟩ := iv_facts hL hE
  rw [ivL_eq hE, lget_lset (by omega), if_pos rfl, hdO_K.2.2]
  unfold q_iv2
  rw [if_pos h7, lget_lset (by omega), if_pos rfl]
  simp only [q_clO]
  rw [g1c]
theorem counts7 {o : Obj} (h : q_counts k o = true) (hn : ¬ q_names k < 0) (h7 : k.kind = 7) : o.calls = k.call := by
  unfold q_counts at h
  simp only [Bool.and_eq_true, Bool.or_eq_true, decide_eq_true_eq, Bool.not_eq_true', decide_eq_false_iff_not] at h
  rcases h.2 with h | h
  · exact absurd h hn
  · rcases h.2 with h | h
    · exact absurd h7 h
    · exact h
theorem is_nn (h : q_is L k = true) : ¬ q_names k < 0 := by have := (is_names h).1; omega
theorem deadQ_not (h : deadQ L k) : q_is L k = false := by
  cases hi : q_is L k with
  | false => rfl
  | true =>
    have hn := is_nn hi
    have h' := hi
    unfold q_is at h'
    simp only [Bool.and_eq_true] at h'
    have := counts7 h'.2 hn h.1
    have := h.2
    omega
theorem deadQ_go {L' : List Obj} (hs : qstL L L') (h : deadQ L k) : deadQ L' k := by
  obtain ⟨h7, hc⟩ := h
  refine ⟨h7, ?_⟩
  by_cases hk : k.oid.toNat < L.length
  · have := (hs.2 _ hk).2.2; omega
  · have e : ∀ M : List Obj, M.length = L.length → lget M k.oid.toNat free = free := fun M hM => by
      unfold lget
      rw [List.getD_eq_getElem?_getD, List.getElem?_eq_none (by omega)]; rfl
    rw [e L' hs.1]
    rw [e L rfl] at hc
    exact hc
theorem isQ_dies {L' : List Obj} (hs : qstL L L') (h : q_is L k = true) (h' : q_is L' k = false) : deadQ L' k := by
  have hn := is_nn h
  obtain ⟨_, h0, h1, _, _⟩ := is_all h
  have hc := h
  unfold q_is at hc
  simp only [Bool.and_eq_true] at hc
  obtain ⟨a, b, c⟩ := hs.2 k.oid.toNat (by omega)
  have hL' : q_has L' k.oid = q_has L k.oid := by unfold q_has llen; rw [hs.1]
  by_cases hz : k.kind = 7 ∧ (lget L k.oid.toNat free).calls < (lget L' k.oid.toNat free).calls
  · exact ⟨hz.1, by rw [← counts7 hc.2 hn hz.1]; exact hz.2⟩
  · exfalso
    have hq : q_counts k (lget L' k.oid.toNat free) = true := by
      have := hc.2
      unfold q_counts at this ⊢
      rw [a, b]
      by_cases h7 : k.kind = 7
      · rw [show (lget L' k.oid.toNat free).calls = (lget L k.oid.toNat free).calls by omega]; exact this
      · simp only [Bool.and_eq_true, Bool.or_eq_true, decide_eq_true_eq, Bool.not_eq_true', decide_eq_false_iff_not] at this ⊢
        refine ⟨this.1, this.2.imp id fun x => ⟨x.1, .inl h7⟩⟩
    have : q_is L' k = true := by
      unfold q_is
      rw [hL', hq]
      simp only [Bool.and_true, Bool.and_eq_true]
      exact hc.1
    rw [this] at h'; simp at h'
theorem ivL_used (hL : q_okL L) (hE : q_ivE L i k md m = 0) (h7 : k.kind = 7) : q_prep (q_ivL L i k md m) k = void := by
  obtain ⟨_, _, _, d, _, _⟩ := iv_inv hE
  have hi : q_is L k = true := by
    cases h : q_is L k with
    | true => rfl
    | false => exact absurd (.inl h) d
  have hc := hi
  unfold q_is at hc
  simp only [Bool.and_eq_true] at hc
  have hd : deadQ (q_ivL L i k md m) k := ⟨h7, by rw [ivL_calls hL hE h7, counts7 hc.2 (is_nn hi) h7]; omega⟩
  unfold q_prep
  rw [deadQ_not hd, hc.1.1]
  simp
/-! How many run -/
theorem flip_len (f g : Nat → Bool) (a : Nat) (h : ∀ j, j ≠ a → f j = g j) : ∀ n, ((List.range n).filter g).length + (if a < n then (f a).toNat else 0) = ((List.range n).filter f).length + (if a < n then (g a).toNat else 0)
  | 0 => by simp
  | n + 1 => by
    have ih := flip_len f g a h n
    rw [List.range_succ, List.filter_append, List.filter_append, List.length_append, List.length_append]
    by_cases e : a = n
    · subst e
      rw [if_neg (by omega), if_neg (by omega)] at ih
      rw [if_pos (by omega), if_pos (by omega)]
      cases hf : f a <;> cases hg : g a <;> simp [hf, hg] at ih ⊢ <;> omega
    · have hn := h n (fun h => e h.symm)
      have e2 : (a < n + 1) = (a < n) := by apply propext; omega
      simp only [e2]
      cases hg : g n <;> simp [hn, hg] <;> omega
theorem get_set_ne {M : List Obj} {a : Nat} {o : Obj} (ha : a < M.length) {j : Nat} (h : j ≠ a) : q_get (lset M a o) (j : Int) = q_get M (j : Int) := by
  have e : lget (lset M a o) (j : Int).toNat free = lget M (j : Int).toNat free := by rw [lget_lset ha, if_neg (by simpa using h)]
  unfold q_get q_has llen
  rw [lset_len, e]
theorem pst_same {M N : List Obj} {j : Int} (h : q_get N j = q_get M j) : q_pst N j = q_pst M j := by unfold q_pst q_psB; rw [h]
def runF (L : List Obj) (j : Nat) : Bool := decide (q_pst L (j : Int) = 1)
theorem runG_cnt (L : List Obj) : llen (q_runG L (n2i (llen L))) = ((List.range (llen L)).filter (runF L)).length := by
  unfold q_runG llen n2i
  rw [List.length_map]; rfl
theorem psIs_like {o o' : Obj} (h1 : o'.kind = o.kind) (h2 : o'.slots = o.slots) : q_psIs o' = q_psIs o := by unfold q_psIs; rw [h1, h2]
theorem iv_run (hL : q_okL L) (hE : q_ivE L i k md m = 0) : llen (q_runG (q_ivL L i k md m) (n2i (llen (q_ivL L i k md m)))) ≤ llen (q_runG L (n2i (llen L))) + (if md = 2 then 1 else 0) := by
  obtain ⟨⟨⟨i0, i1⟩, ig, ik⟩, ⟨⟨k0, k1⟩, kg, kk⟩, _, ⟨o1, l1⟩, ⟨o2, l2⟩, g1, g2, _, _⟩ := iv_facts hL hE
  obtain ⟨_, b, c, _, _, _⟩ := iv_inv hE
  have b1 : 1 ≤ md ∧ md ≤ 3 := by
    by_cases h : 1 ≤ md ∧ md ≤ 3
    · exact h
    · exact absurd (.inl h) b
  have lN : (q_ivL L i k md m).length = L.length := (iv_end hL hE).2.1
  rw [runG_cnt, runG_cnt, show llen (q_ivL L i k md m) = llen L from lN]
  have ii : ((i.toNat : Nat) : Int) = i := by omega
  have kki : ((k.oid.toNat : Nat) : Int) = k.oid := by omega
  -- from L to iv1
  have f1 := flip_len (runF L) (runF (q_iv1 L i md)) i.toNat (fun j hj => by
    unfold runF q_iv1
    rw [pst_same (get_set_ne (by omega) hj)]) (llen L)
  have f2 := flip_len (runF (q_iv1 L i md)) (runF (q_ivL L i k md m)) k.oid.toNat (fun j hj => by
    unfold runF
    rw [ivL_eq hE, pst_same (get_set_ne (by omega) hj)]
    unfold q_iv2
    split
    · rw [pst_same (get_set_ne (by omega) hj)]
    · rfl) (llen L)
  have hlL : llen L = L.length := rfl
  rw [if_pos (by omega), if_pos (by omega)] at f1 f2
  have v1 : runF L i.toNat = true := by unfold runF; rw [ii, c]; rfl
  have v2 : runF (q_iv1 L i md) i.toNat = decide (md = 2) := by
    have hat : (q_bcO (lget L i.toNat free) (q_ivN md)).slots.at 2 = q_num (q_ivN md) := by
      unfold q_bcO
      simp only
      rw [Slots.at_put _ _ _ _ (by omega), if_pos rfl]
    have hg : q_get (q_iv1 L i md) i = q_bcO (lget L i.toNat free) (q_ivN md) := by
      rw [get_lget i0 (by omega)]
      unfold q_iv1
      rw [lget_lset (by omega), if_pos rfl]
    obtain ⟨n0, n1, _, _⟩ := ivN_in b1
    have hB : q_psB (q_iv1 L i md) i = true := by
      unfold q_psB
      rw [hg, psIs_iff, hat, bcO_K.1]
      exact ⟨ik, rfl, n0, n1⟩
    unfold runF
    rw [ii, (pst_yes hB).1, hg, hat]
    show decide (q_ivN md = 1) = decide (md = 2)
    have : md = 1 ∨ md = 2 ∨ md = 3 := by omega
    rcases this with rfl | rfl | rfl <;> rfl
  rw [v1, v2] at f1
  have hb : (runF (q_ivL L i k md m) k.oid.toNat).toNat ≤ 1 := Bool.toNat_le _
  have ht : (true : Bool).toNat = 1 := rfl
  rw [ht] at f1
  by_cases h2 : md = 2
  · rw [if_pos h2]
    rw [decide_eq_true h2, ht] at f1
    omega
  · rw [if_neg h2]
    rw [decide_eq_false h2] at f1
    have hf : (false : Bool).toNat = 0 := rfl
    rw [hf] at f1
    omega
end
theorem bget_set {D : List Bool} {n : Nat} {v : Bool} (hn : n < D.length) (j : Nat) : lget (lset D n v) j false = if j = n then v else lget D j false := by
  unfold lget lset
  by_cases e : j = n
  · subst e; simp [List.getD_eq_getElem?_getD, hn]
  · rw [if_neg e, List.getD_eq_getElem?_getD, List.getD_eq_getElem?_getD, List.getElem?_set_ne (Ne.symm e)]
theorem on_step {ks : List Key} {t : Int × List Bool × List Obj × List Obj} (ht : q_invOk ks t) (hlt : t.1 < (ks.length : Int)) :
    (lget (onT ks t) t.1.toNat false && q_is t.2.2.2 (lget ks t.1.toNat void)) = false ∧ q_invOk ks (t.1 + 1, onT ks t, t.2.2.1, t.2.2.2) := by
  obtain ⟨t0, t1, t2, t3, t4, t5, t6⟩ := ht
  have hn : t.1.toNat < ks.length := by omega
  have key : onV ks t = true → deadQ t.2.2.2 (lget ks t.1.toNat void) := fun h => by
    unfold onV at h
    rw [Bool.or_eq_true, Bool.and_eq_true, Bool.not_eq_true'] at h
    rcases h with h | ⟨h, h'⟩
    · have := t6 _ hn h
      rw [if_neg (by omega)] at this
      exact deadQ_go t5 this
    · exact isQ_dies t5 h h'
  refine ⟨?_, by simp only; omega, by simp only [llen]; omega, by simp only; rw [onT_len, t2], t3, t4, t5, fun i hi hd => ?_⟩
  · unfold onT
    rw [bget_set (by omega), if_pos rfl]
    cases hv : onV ks t with
    | false => rfl
    | true => rw [deadQ_not (key hv)]; rfl
  · simp only [onT] at hd ⊢
    rw [bget_set (by omega)] at hd
    by_cases e : i = t.1.toNat
    · rw [if_pos e] at hd
      rw [if_pos (by omega), e]
      exact key hd
    · rw [if_neg e] at hd
      have := t6 i hi hd
      by_cases hlt' : (i : Int) < t.1
      · rw [if_pos hlt'] at this
        rw [if_pos (by omega)]; exact this
      · rw [if_neg hlt'] at this
        rw [if_neg (by omega)]; exact this
theorem lrepB_len {n : Nat} {b : Bool} : (lrep n b).length = n := by simp [lrep]
theorem lrepB_no {n i : Nat} : lget (lrep n false) i false = false := by
  unfold lget lrep
  rw [List.getD_eq_getElem?_getD, List.getElem?_replicate]
  split <;> rfl
end Go.Sx
