/- Processes in plain Lean: what calls change. No condition. -/
import Derived.Test.YtfalhknkaebfoaaSpQm
set_option linter.unusedVariables false
set_option linter.unusedSimpArgs false
set_option maxRecDepth 100000
namespace Go.Sx
theorem get_in {L : List Obj} {i : Int} (h : (q_get L i).kind = 1) : 0 ≤ i ∧ i < (L.length : Int) ∧ q_get L i = lget L i.toNat free := by
  by_cases hr : i < 0 ∨ (L.length : Int) ≤ i
  · rw [has_no hr] at h; simp [free] at h
  · exact ⟨by omega, by omega, get_lget (by omega) (by omega)⟩
theorem psB_in {L : List Obj} {i : Int} (h : q_psB L i = true) : 0 ≤ i ∧ i < (L.length : Int) ∧ q_get L i = lget L i.toNat free ∧ (lget L i.toNat free).kind = 1 := by
  have hk := ((psIs_iff _).1 h).1
  obtain ⟨a, b, c⟩ := get_in hk
  rw [c] at hk
  exact ⟨a, b, c, hk⟩
theorem pst_B {L : List Obj} {i : Int} : (0 ≤ q_pst L i ↔ q_psB L i = true) ∧ (q_pst L i < 0 ↔ q_psB L i = false) := by
  cases h : q_psB L i with
  | false => rw [(pst_no h).1]; simp
  | true =>
    have h2 := (pst_yes h).1
    have h3 := ((psIs_iff _).1 h).2.2.1
    rw [← h2] at h3
    simp; exact h3
theorem pst_run {L : List Obj} {i : Int} : (q_psB L i && decide (q_psV L i = 1)) = decide (q_pst L i = 1) := by
  cases h : q_psB L i with
  | false => rw [(pst_no h).1]; simp
  | true => rw [(pst_yes h).1, (pst_yes h).2]; simp
theorem pst_V {L : List Obj} {i : Int} (h : q_psB L i = true) : q_psV L i = q_pst L i := by rw [(pst_yes h).1, (pst_yes h).2]
/-- What processes become may be. -/
theorem bcO_ok {o : Obj} {n st : Int} (h : q_objOk o n = true) (hk : o.kind = 1) : q_objOk (q_bcO o st) n = true := by
  have hn := (objOk_iff.1 h).1
  exact sls_ok h hk (put_fit (by omega) (slots_fit h hk) (num_fit (by omega) _))
theorem clO_ok {o : Obj} {n : Int} (h : q_objOk o n = true) (hk : o.kind = 1) (hc : o.calls < 4294967295) : q_objOk (q_clO o) n = true := by
  obtain ⟨a1, a2, a3, a4, a5, a6, a7, a8, a9, a10, a11⟩ := objOk_iff.1 h
  rw [objOk_iff]
  exact ⟨a1, a2, a3, a4, a5, a6, by show 0 ≤ o.calls + 1; omega, by show o.calls + 1 ≤ 4294967295; omega, .inl hk, a10, a11⟩
theorem bysls_ok {o : Obj} {n : Int} {s : Slots} {b : Bytes} (h : q_objOk o n = true) (hk : o.kind = 1) (hs : ∀ i, i < 16 → q_slFit n (s.at i)) : q_objOk (q_bys (q_sls o s) b) n = true := by
  have h' : q_objOk (q_sls o s) n = true := sls_ok h hk hs
  have hk' : (q_sls o s).kind = 1 := hk
  exact bys_ok h' (Or.inl hk')
theorem hdO_ok {o : Obj} {n : Int} {m : Msg} {a : Key} (h : q_objOk o n = true) (hk : o.kind = 1) (h0 : q_slFit n m.k0) (h1 : q_slFit n m.k1) (h2 : q_slFit n m.k2) (ha : q_slFit n a) : q_objOk (q_hdO o m a) n = true := by
  have hn := (objOk_iff.1 h).1
  have hs : ∀ i, i < 16 → q_slFit n ((q_hdS o.slots m a).at i) := fun i hi => by
    unfold q_hdS
    rw [Slots.at_put _ _ _ _ (by omega), Slots.at_put _ _ _ _ (by omega), Slots.at_put _ _ _ _ (by omega), Slots.at_put _ _ _ _ (by omega), Slots.at_put _ _ _ _ (by omega), Slots.at_put _ _ _ _ (by omega)]
    split
    · exact ha
    · split
      · exact h2
      · split
        · exact h1
        · split
          · exact h0
          · split
            · exact num_fit (by omega) _
            · split
              · exact num_fit (by omega) _
              · exact slots_fit h hk i hi
  have e : q_hdO o m a = q_bys (q_sls o (q_hdS o.slots m a)) (q_hdB m.data (szI m.data)) := by unfold q_hdO q_bys q_sls; rfl
  rw [e]
  exact bysls_ok h hk hs
theorem void_fit {n : Int} (hn : 0 ≤ n) : q_slFit n void := ⟨void_ok.1, by rw [void_ok.2]; omega⟩
theorem res_fit {n i c d : Int} (h0 : 0 ≤ i) (h1 : i < n) (h2 : n ≤ 64) (c0 : 0 ≤ c) (c1 : c ≤ 4294967295) (d0 : 0 ≤ d) (d1 : d ≤ 4294967295) : q_slFit n ⟨7, i, c, d, 0, 0⟩ := by
  have hk : q_keyOk ⟨7, i, c, d, 0, 0⟩ = true := by
    unfold q_keyOk q_isV q_isO q_isC q_within q_most
    simp; omega
  refine ⟨hk, ?_⟩
  unfold q_names
  rw [hk]
  simp [q_isO]; omega
theorem cnt_fit {L : List Obj} (hL : 0 < L.length) (m : Msg) : q_slFit (L.length : Int) (q_cnt L m).k0 ∧ q_slFit (L.length : Int) (q_cnt L m).k1 ∧ q_slFit (L.length : Int) (q_cnt L m).k2 := ⟨prep_fit hL _, prep_fit hL _, prep_fit hL _⟩
theorem hdB_cp {s : ByteArray} (h : szI s ≤ 32) : bcp (noBytes.put 0 (u8I (szI s))) (Int.toNat 1) (Int.toNat 64) s = q_hdB s (szI s) := by
  have hz : (s.size : Int) ≤ 32 := h
  have e : Nat.min s.size (64 - 1) = s.size := Nat.min_eq_left (by omega)
  show bput _ 1 (Nat.min s.size (64 - 1)) s = bput _ 1 (szI s).toNat s
  rw [e]; rfl
/-! A state that is given -/
theorem bcE_0 {L : List Obj} {i st : Int} (h : q_bcE L i st = 0) : (0 ≤ i ∧ i < (L.length : Int)) ∧ q_get L i = lget L i.toNat free ∧ (lget L i.toNat free).kind = 1 ∧ 0 ≤ st ∧ st ≤ 2 := by
  unfold q_bcE at h
  split at h
  · omega
  · split at h
    · omega
    · split at h
      · omega
      · rename_i h1 h2 h3
        have h2 : (q_get L i).kind = 1 := by omega
        obtain ⟨a, b, c⟩ := get_in h2
        exact ⟨⟨a, b⟩, c, by rw [← c]; exact h2, by omega, by omega⟩
theorem bcL_ok {L : List Obj} {i st : Int} (hL : q_okL L) : q_okL (q_bcL L i st) := by
  unfold q_bcL
  split
  · rename_i h
    obtain ⟨⟨a, b⟩, c, d, _⟩ := bcE_0 h
    rw [c]
    exact lset_ok hL (bcO_ok (okL_get hL _ (by omega)) d)
  · exact hL
theorem bcL_no {L : List Obj} {i st e : Int} (h : q_bcE L i st = e) (he : e ≠ 0) : e = q_bcE L i st ∧ L = q_bcL L i st := ⟨h.symm, by unfold q_bcL; rw [h, if_neg he]⟩
theorem bcE_1 {L : List Obj} {i st : Int} (h : llen L = 0) : q_bcE L i st = 1 := by unfold q_bcE; rw [if_pos h]
theorem bcE_230 {L : List Obj} {i st : Int} (h : llen L ≠ 0) (h2 : ¬ (q_get L i).kind = 1) : q_bcE L i st = 230 := by unfold q_bcE; rw [if_neg h, if_pos h2]
theorem bcE_2 {L : List Obj} {i st : Int} (h : llen L ≠ 0) (h2 : (q_get L i).kind = 1) (h3 : st < 0 ∨ 2 < st) : q_bcE L i st = 2 := by unfold q_bcE; rw [if_neg h, if_neg (by omega), if_pos h3]
theorem bcE_z {L : List Obj} {i st : Int} (h : llen L ≠ 0) (h2 : (q_get L i).kind = 1) (h3 : ¬ (st < 0 ∨ 2 < st)) : q_bcE L i st = 0 := by unfold q_bcE; rw [if_neg h, if_neg (by omega), if_neg h3]
theorem bc_put {L : List Obj} {i st : Int} (hL : q_okL L) (h : q_bcE L i st = 0) : q_put L i (q_bcO (q_get L i) st) = 0 ∧ q_putL L i (q_bcO (q_get L i) st) = q_bcL L i st := by
  obtain ⟨⟨a, b⟩, c, d, _⟩ := bcE_0 h
  obtain ⟨p1, p2⟩ := put_ok a b (bcO_ok (st := st) (okL_get hL _ (by omega)) d)
  rw [c, p1, p2]
  refine ⟨rfl, ?_⟩
  unfold q_bcL
  rw [if_pos h, c]
theorem rput_in {L : List Obj} {i : Int} (hL : q_okL L) (h0 : 0 ≤ i) (h1 : i < (L.length : Int)) : q_rputQ L i := ⟨h0, h1, by have := (okL_len hL).2; unfold llen; omega⟩
/-- What the list's call asks: is there such a node? -/
theorem bc_gone {L : List Obj} {i : Int} (h : (decide (i < 0) || decide (n2i (llen L) ≤ i) || !decide ((lget L i.toNat free).kind = 1)) = true) : ¬ (q_get L i).kind = 1 := fun hk => by
  obtain ⟨a, b, c⟩ := get_in hk
  rw [c] at hk
  have hb : ¬ n2i (llen L) ≤ i := by unfold n2i llen; omega
  rw [decide_eq_false (by omega : ¬ i < 0), decide_eq_false hb, decide_eq_true hk] at h
  simp at h
theorem bc_there {L : List Obj} {i : Int} (h : (decide (i < 0) || decide (n2i (llen L) ≤ i) || !decide ((lget L i.toNat free).kind = 1)) = false) : 0 ≤ i ∧ i < (L.length : Int) ∧ q_get L i = lget L i.toNat free ∧ (q_get L i).kind = 1 := by
  simp only [Bool.or_eq_false_iff, decide_eq_false_iff_not, Bool.not_eq_false', decide_eq_true_eq] at h
  obtain ⟨⟨h1, h2⟩, h3⟩ := h
  unfold n2i llen at h2
  have e := get_lget (L := L) (j := i) (by omega) (by omega)
  exact ⟨by omega, by omega, e, by rw [e]; exact h3⟩
theorem mOk_sz {L : List Obj} {m : Msg} (h : q_mOk L m = true) : szI m.data ≤ 32 := by
  unfold q_mOk at h
  simp only [Bool.and_eq_true, decide_eq_true_eq] at h
  exact h.1.1.1
/-! Invocations -/
section
variable {L : List Obj} {i : Int} {k : Key} {md : Int} {m : Msg}
theorem iv_1 (a : llen L = 0) : q_ivE L i k md m = 1 := by unfold q_ivE; rw [if_pos a]
theorem iv_2 (a : llen L ≠ 0) (b : ¬ (1 ≤ md ∧ md ≤ 3) ∨ q_may L k = false ∨ q_mOk L m = false) : q_ivE L i k md m = 2 := by unfold q_ivE; rw [if_neg a, if_pos b]
theorem iv_230 (a : llen L ≠ 0) (b : ¬ (¬ (1 ≤ md ∧ md ≤ 3) ∨ q_may L k = false ∨ q_mOk L m = false)) (c : q_pst L i ≠ 1) : q_ivE L i k md m = 230 := by unfold q_ivE; rw [if_neg a, if_neg b, if_pos c]
theorem iv_231 (a : llen L ≠ 0) (b : ¬ (¬ (1 ≤ md ∧ md ≤ 3) ∨ q_may L k = false ∨ q_mOk L m = false)) (c : q_pst L i = 1) (d : q_is L k = false ∨ ¬ (k.kind = 6 ∨ k.kind = 7) ∨ q_pst L k.oid < 0) : q_ivE L i k md m = 231 := by
  unfold q_ivE; rw [if_neg a, if_neg b, if_neg (by omega), if_pos d]
theorem iv_232 (a : llen L ≠ 0) (b : ¬ (¬ (1 ≤ md ∧ md ≤ 3) ∨ q_may L k = false ∨ q_mOk L m = false)) (c : q_pst L i = 1) (d : ¬ (q_is L k = false ∨ ¬ (k.kind = 6 ∨ k.kind = 7) ∨ q_pst L k.oid < 0))
    (e : (k.kind = 6 ∧ q_pst L k.oid ≠ 0 ∧ ¬ (md = 3 ∧ k.oid = i)) ∨ (k.kind = 7 ∧ q_pst L k.oid ≠ 2)) : q_ivE L i k md m = 232 := by
  unfold q_ivE; rw [if_neg a, if_neg b, if_neg (by omega), if_neg d, if_pos e]
theorem iv_233 (a : llen L ≠ 0) (b : ¬ (¬ (1 ≤ md ∧ md ≤ 3) ∨ q_may L k = false ∨ q_mOk L m = false)) (c : q_pst L i = 1) (d : ¬ (q_is L k = false ∨ ¬ (k.kind = 6 ∨ k.kind = 7) ∨ q_pst L k.oid < 0))
    (e : ¬ ((k.kind = 6 ∧ q_pst L k.oid ≠ 0 ∧ ¬ (md = 3 ∧ k.oid = i)) ∨ (k.kind = 7 ∧ q_pst L k.oid ≠ 2))) (f : (k.kind = 7 ∧ 4294967295 ≤ (lget L k.oid.toNat free).calls) ∨ (md = 1 ∧ 4294967295 ≤ (lget L i.toNat free).calls)) : q_ivE L i k md m = 233 := by
  unfold q_ivE; rw [if_neg a, if_neg b, if_neg (by omega), if_neg d, if_neg e, if_pos f]
theorem iv_0 (a : llen L ≠ 0) (b : ¬ (¬ (1 ≤ md ∧ md ≤ 3) ∨ q_may L k = false ∨ q_mOk L m = false)) (c : q_pst L i = 1) (d : ¬ (q_is L k = false ∨ ¬ (k.kind = 6 ∨ k.kind = 7) ∨ q_pst L k.oid < 0))
    (e : ¬ ((k.kind = 6 ∧ q_pst L k.oid ≠ 0 ∧ ¬ (md = 3 ∧ k.oid = i)) ∨ (k.kind = 7 ∧ q_pst L k.oid ≠ 2))) (f : ¬ ((k.kind = 7 ∧ 4294967295 ≤ (lget L k.oid.toNat free).calls) ∨ (md = 1 ∧ 4294967295 ≤ (lget L i.toNat free).calls))) : q_ivE L i k md m = 0 := by
  unfold q_ivE; rw [if_neg a, if_neg b, if_neg (by omega), if_neg d, if_neg e, if_neg f]
theorem iv_inv (h : q_ivE L i k md m = 0) : llen L ≠ 0 ∧ ¬ (¬ (1 ≤ md ∧ md ≤ 3) ∨ q_may L k = false ∨ q_mOk L m = false) ∧ q_pst L i = 1 ∧ ¬ (q_is L k = false ∨ ¬ (k.kind = 6 ∨ k.kind = 7) ∨ q_pst L k.oid < 0) ∧
    ¬ ((k.kind = 6 ∧ q_pst L k.oid ≠ 0 ∧ ¬ (md = 3 ∧ k.oid = i)) ∨ (k.kind = 7 ∧ q_pst L k.oid ≠ 2)) ∧ ¬ ((k.kind = 7 ∧ 4294967295 ≤ (lget L k.oid.toNat free).calls) ∨ (md = 1 ∧ 4294967295 ≤ (lget L i.toNat free).calls)) := by
  by_cases a : llen L = 0
  · rw [iv_1 a] at h; omega
  · by_cases b : ¬ (1 ≤ md ∧ md ≤ 3) ∨ q_may L k = false ∨ q_mOk L m = false
    · rw [iv_2 a b] at h; omega
    · by_cases c : q_pst L i = 1
      · by_cases d : q_is L k = false ∨ ¬ (k.kind = 6 ∨ k.kind = 7) ∨ q_pst L k.oid < 0
        · rw [iv_231 a b c d] at h; omega
        · by_cases e : (k.kind = 6 ∧ q_pst L k.oid ≠ 0 ∧ ¬ (md = 3 ∧ k.oid = i)) ∨ (k.kind = 7 ∧ q_pst L k.oid ≠ 2)
          · rw [iv_232 a b c d e] at h; omega
          · by_cases f : (k.kind = 7 ∧ 4294967295 ≤ (lget L k.oid.toNat free).calls) ∨ (md = 1 ∧ 4294967295 ≤ (lget L i.toNat free).calls)
            · rw [iv_233 a b c d e f] at h; omega
            · exact ⟨a, b, c, d, e, f⟩
      · rw [iv_230 a b c] at h; omega
theorem iv_no {e : Int} (h : q_ivE L i k md m = e) (he : e ≠ 0) : e = q_ivE L i k md m ∧ L = q_ivL L i k md m := ⟨h.symm, by unfold q_ivL; rw [h, if_neg he]⟩
theorem iv_noC {e : Int} (h : q_ivE L i k md m = e) (he : e ≠ 0) : q_ivC L i k md m = false ∧ e = q_ivE L i k md m := ⟨by unfold q_ivC; rw [h]; simpa using he, h.symm⟩
theorem iv_c2 : (decide (md < 1) || decide (3 < md) || !q_may L k || !q_mOk L m) = true ↔ (¬ (1 ≤ md ∧ md ≤ 3) ∨ q_may L k = false ∨ q_mOk L m = false) := by
  cases q_may L k <;> cases q_mOk L m <;> simp <;> omega
theorem iv_c4 : (!q_is L k || !decide (k.kind = 6) && !decide (k.kind = 7)) = true ↔ (q_is L k = false ∨ ¬ (k.kind = 6 ∨ k.kind = 7)) := by
  cases q_is L k <;> simp
theorem iv_c5 : (decide (k.kind = 6) && !decide (q_pst L k.oid = 0) && !(decide (md = 3) && decide (k.oid = i)) || decide (k.kind = 7) && !decide (q_pst L k.oid = 2)) = true ↔ ((k.kind = 6 ∧ q_pst L k.oid ≠ 0 ∧ ¬ (md = 3 ∧ k.oid = i)) ∨ (k.kind = 7 ∧ q_pst L k.oid ≠ 2)) := by
  simp [and_assoc, Classical.or_iff_not_imp_left (a := ¬ md = 3)]
theorem iv_c6 {x y : Int} : (decide (k.kind = 7) && decide (4294967295 ≤ x) || decide (md = 1) && decide (4294967295 ≤ y)) = true ↔ ((k.kind = 7 ∧ 4294967295 ≤ x) ∨ (md = 1 ∧ 4294967295 ≤ y)) := by simp
theorem ivN_in (h : 1 ≤ md ∧ md ≤ 3) : 0 ≤ q_ivN md ∧ q_ivN md ≤ 2 ∧ lget [0, 2, 1, 0] md.toNat 0 = q_ivN md ∧ iite (decide (md = 1)) 2 (iite (decide (md = 2)) 1 (iite (decide (md = 3)) 0 0)) = q_ivN md := by
  have : md = 1 ∨ md = 2 ∨ md = 3 := by omega
  rcases this with rfl | rfl | rfl <;> decide
/-- What an invocation that is done stands on. -/
theorem iv_facts (hL : q_okL L) (hE : q_ivE L i k md m = 0) :
    ((0 ≤ i ∧ i < (L.length : Int)) ∧ q_get L i = lget L i.toNat free ∧ (lget L i.toNat free).kind = 1) ∧ ((0 ≤ k.oid ∧ k.oid < (L.length : Int)) ∧ q_get L k.oid = lget L k.oid.toNat free ∧ (lget L k.oid.toNat free).kind = 1) ∧
    (q_bcE L i (q_ivN md) = 0 ∧ q_bcL L i (q_ivN md) = q_iv1 L i md) ∧ (q_okL (q_iv1 L i md) ∧ (q_iv1 L i md).length = L.length) ∧ (q_okL (q_iv2 L i k md) ∧ (q_iv2 L i k md).length = L.length) ∧
    ((lget (q_iv1 L i md) k.oid.toNat free).kind = 1 ∧ (lget (q_iv1 L i md) k.oid.toNat free).calls = (lget L k.oid.toNat free).calls) ∧ (lget (q_iv2 L i k md) k.oid.toNat free).kind = 1 ∧ szI m.data ≤ 32 ∧ q_slFit (L.length : Int) (q_ivA L i md) := by
  obtain ⟨a, b, c, d, e, f⟩ := iv_inv hE
  have b1 : 1 ≤ md ∧ md ≤ 3 := by
    by_cases h : 1 ≤ md ∧ md ≤ 3
    · exact h
    · exact absurd (.inl h) b
  have b3 : q_mOk L m = true := by
    cases h : q_mOk L m with
    | true => rfl
    | false => exact absurd (.inr (.inr h)) b
  have d3 : 0 ≤ q_pst L k.oid := by
    by_cases h : q_pst L k.oid < 0
    · exact absurd (.inr (.inr h)) d
    · omega
  obtain ⟨i0, i1, i2, i3⟩ := psB_in (pst_B.1.1 (by omega : 0 ≤ q_pst L i))
  obtain ⟨k0, k1, k2, k3⟩ := psB_in (pst_B.1.1 d3)
  obtain ⟨n0, n1, _, _⟩ := ivN_in b1
  have hb : q_bcE L i (q_ivN md) = 0 := bcE_z a (by rw [i2]; exact i3) (by omega)
  have h1 : q_bcL L i (q_ivN md) = q_iv1 L i md := by unfold q_bcL q_iv1; rw [if_pos hb, i2]
  have o1 : q_okL (q_iv1 L i md) := by rw [← h1]; exact bcL_ok hL
  have l1 : (q_iv1 L i md).length = L.length := by unfold q_iv1; rw [lset_len]
  have g1 : (lget (q_iv1 L i md) k.oid.toNat free).kind = 1 ∧ (lget (q_iv1 L i md) k.oid.toNat free).calls = (lget L k.oid.toNat free).calls := by
    unfold q_iv1
    rw [lget_lset (by omega)]
    split
    · rename_i e; rw [e]; exact ⟨i3, rfl⟩
    · exact ⟨k3, rfl⟩
  have l2 : (q_iv2 L i k md).length = L.length := by
    unfold q_iv2
    split
    · rw [lset_len, l1]
    · exact l1
  have o2 : q_okL (q_iv2 L i k md) := by
    unfold q_iv2
    split
    · rename_i h7
      have hc : ¬ 4294967295 ≤ (lget L k.oid.toNat free).calls := fun h => f (.inl ⟨h7, h⟩)
      exact lset_ok o1 (clO_ok (okL_get o1 _ (by rw [l1]; omega)) g1.1 (by rw [g1.2]; omega))
    · exact o1
  have g2 : (lget (q_iv2 L i k md) k.oid.toNat free).kind = 1 := by
    unfold q_iv2
    split
    · rw [lget_lset (by rw [l1]; omega), if_pos rfl]; exact g1.1
    · exact g1.1
  have ho := objOk_iff.1 (okL_get hL i.toNat (by omega))
  have hn := (okL_len hL)
  have hA : q_slFit (L.length : Int) (q_ivA L i md) := by
    unfold q_ivA
    split
    · exact res_fit i0 i1 (by omega) ho.2.2.2.2.1 ho.2.2.2.2.2.1 ho.2.2.2.2.2.2.1 ho.2.2.2.2.2.2.2.1
    · exact void_fit (by omega)
  exact ⟨⟨⟨i0, i1⟩, i2, i3⟩, ⟨⟨k0, k1⟩, k2, k3⟩, ⟨hb, h1⟩, ⟨o1, l1⟩, ⟨o2, l2⟩, g1, g2, mOk_sz b3, hA⟩
theorem iv_end (hL : q_okL L) (hE : q_ivE L i k md m = 0) : q_okL (q_ivL L i k md m) ∧ (q_ivL L i k md m).length = L.length ∧ q_putL (q_iv2 L i k md) k.oid (q_hdO (q_get (q_iv2 L i k md) k.oid) (q_cnt L m) (q_ivA L i md)) = q_ivL L i k md m := by
  obtain ⟨_, ⟨⟨k0, k1⟩, _, _⟩, _, _, ⟨o2, l2⟩, _, g2, _, hA⟩ := iv_facts hL hE
  obtain ⟨f0, f1, f2⟩ := cnt_fit (by have := okL_len hL; omega : 0 < L.length) m
  have ho := hdO_ok (m := q_cnt L m) (a := q_ivA L i md) (okL_get o2 k.oid.toNat (by omega)) g2 (by rw [l2]; exact f0) (by rw [l2]; exact f1) (by rw [l2]; exact f2) (by rw [l2]; exact hA)
  have hq : q_ivL L i k md m = lset (q_iv2 L i k md) k.oid.toNat (q_hdO (lget (q_iv2 L i k md) k.oid.toNat free) (q_cnt L m) (q_ivA L i md)) := by unfold q_ivL q_hdL; rw [if_pos hE]
  rw [hq, get_lget k0 (by omega)]
  exact ⟨lset_ok o2 ho, by rw [lset_len, l2], (put_ok k0 (by omega) ho).1⟩
theorem ivL_ok (hL : q_okL L) : q_okL (q_ivL L i k md m) := by
  by_cases hE : q_ivE L i k md m = 0
  · exact (iv_end hL hE).1
  · rw [← (iv_no rfl hE).2]; exact hL
end
/-! All that run -/
theorem runG_zero (L : List Obj) : q_runG L 0 = [] := rfl
theorem runG_succ (L : List Obj) {g : Int} (h : 0 ≤ g) : q_runG L (g + 1) = if q_pst L g = 1 then lapp (q_runG L g) g else q_runG L g := by
  unfold q_runG lapp
  rw [show (g + 1).toNat = g.toNat + 1 by omega, List.range_succ, List.filter_append, List.map_append]
  have e : ((g.toNat : Nat) : Int) = g := by omega
  by_cases hp : q_pst L g = 1
  · rw [if_pos hp]
    simp [e, hp]
  · rw [if_neg hp]
    simp [e, hp]
theorem runG_len (L : List Obj) (g : Int) : llen (q_runG L g) ≤ g.toNat := by
  unfold q_runG llen
  rw [List.length_map]
  exact Nat.le_trans (List.length_filter_le _ _) (by rw [List.length_range]; exact Nat.le_refl _)
theorem runG_fit {L : List Obj} {g : Int} (hl : q_shortL L) (h1 : g < (L.length : Int)) : pFit (llen (q_runG L g)) 8 := by
  have := runG_len L g
  unfold q_shortL at hl
  unfold pFit maxLen
  omega
theorem run_step {L : List Obj} {g : Int} (hl : q_shortL L) (h0 : q_invR1 L g) (h1 : g < (L.length : Int)) : inRo IntKind.i64 (g + 1) ∧ q_invR1 L (g + 1) ∧ (n2i (llen L) - (g + 1)).toNat < (n2i (llen L) - g).toNat := by
  unfold q_shortL at hl
  unfold q_invR1 n2i llen at *
  simp only [inRo, inR]
  omega
end Go.Sx
