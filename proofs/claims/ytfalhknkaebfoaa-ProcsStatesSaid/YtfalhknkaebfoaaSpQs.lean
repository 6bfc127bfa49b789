/- Two processes: calls and answers in plain Lean. No condition. -/
import Derived.Test.YtfalhknkaebfoaaSpQl
set_option linter.unusedVariables false
set_option linter.unusedSimpArgs false
set_option maxRecDepth 100000
namespace Go.Sx
def ps1 (a u : Int) : Obj := ⟨1, 1, a, free.slots.put 2 (q_num u), free.bytes⟩
theorem free_at (i : Nat) (hi : i < 16) : free.slots.at i = void := by
  show Slots.at noSlots i = void
  unfold noSlots Slots.at
  simp [hi]
theorem ps1_ok {a u : Int} (h0 : 0 ≤ a) (h1 : a ≤ 4294967295) : q_objOk (ps1 a u) 2 = true := by
  have h : q_objOk ⟨1, 1, a, free.slots, free.bytes⟩ 2 = true := by
    rw [objOk_iff]
    refine ⟨by omega, by omega, by simp only; omega, by simp only; omega, by simp only; omega, by simp only; omega, h0, h1, .inl rfl, fun i hi => ?_, fun i hi => .inl (.inl rfl)⟩
    simp only
    rw [slot1, free_at i hi]
    exact void_fit (by omega)
  exact sls_ok (o := ⟨1, 1, a, free.slots, free.bytes⟩) h rfl (fun i hi => put_fit (by omega) (slots_fit (o := ⟨1, 1, a, free.slots, free.bytes⟩) h rfl) (num_fit (by omega) u) i hi)
theorem psL_ok {a b u v : Int} (a0 : 0 ≤ a) (a1 : a ≤ 4294967295) (b0 : 0 ≤ b) (b1 : b ≤ 4294967295) : q_okL (q_psL a b u v) := by
  unfold q_okL
  rw [right_iff]
  refine ⟨by show 1 ≤ 2; omega, by show 2 ≤ 64; omega, fun j hj => ?_⟩
  have hj : j < 2 := hj
  have : j = 0 ∨ j = 1 := by omega
  rcases this with rfl | rfl
  · exact ps1_ok a0 a1
  · exact ps1_ok b0 b1
theorem psL_made {a b u v : Int} (a0 : 0 ≤ a) (a1 : a ≤ 4294967295) (b0 : 0 ≤ b) (b1 : b ≤ 4294967295) : q_made (q_psL a b u v) = true := by
  unfold q_made
  rw [show q_right (q_psL a b u v) = true from psL_ok a0 a1 b0 b1]
  rfl
/-! Messages whose keys are numbers -/
def numK (k : Key) : Prop := k.kind = 1 ∧ q_chk k = 0
theorem numK_key {k : Key} (h : numK k) : q_keyOk k = true ∧ q_named k = false ∧ q_names k < 0 := by
  have hk : q_keyOk k = true := by
    have := h.2
    unfold q_chk at this
    split at this
    · assumption
    · omega
  refine ⟨hk, ?_, ?_⟩
  · unfold q_named q_isO; rw [h.1]; simp
  · unfold q_names q_isO; rw [h.1]; simp
theorem numK_prep {L : List Obj} {k : Key} (hL : llen L ≠ 0) (h : numK k) : q_prep L k = k := by
  obtain ⟨a, b, _⟩ := numK_key h
  unfold q_prep q_snone
  rw [a, b, decide_eq_false hL]; rfl
theorem numK_may {L : List Obj} {k : Key} (h : numK k) : q_may L k = true := by
  obtain ⟨a, _, c⟩ := numK_key h
  unfold q_may
  rw [a, decide_eq_true (by omega : q_names k < (llen L : Int))]; rfl
def numM (m : Msg) : Prop := numK m.k0 ∧ numK m.k1 ∧ numK m.k2
theorem numM_cnt {L : List Obj} {m : Msg} (hL : llen L ≠ 0) (h : numM m) : q_cnt L m = m := by
  unfold q_cnt
  rw [numK_prep hL h.1, numK_prep hL h.2.1, numK_prep hL h.2.2]
theorem numM_ok {L : List Obj} {m : Msg} (h : numM m) (hs : szI m.data ≤ 32) : q_mOk L m = true := by
  unfold q_mOk
  rw [numK_may h.1, numK_may h.2.1, numK_may h.2.2, decide_eq_true hs]; rfl
theorem hdS_at {s : Slots} {m : Msg} {a : Key} : (q_hdS s m a).at 2 = q_num 1 ∧ (q_hdS s m a).at 3 = q_num m.code ∧ (q_hdS s m a).at 12 = m.k0 ∧ (q_hdS s m a).at 13 = m.k1 ∧ (q_hdS s m a).at 14 = m.k2 ∧ (q_hdS s m a).at 15 = a := by
  unfold q_hdS
  refine ⟨?_, ?_, ?_, ?_, ?_, ?_⟩ <;>
  · rw [Slots.at_put _ _ _ _ (by omega)]
    try simp only [show ¬ (2 : Nat) = 15 by omega, show ¬ (3 : Nat) = 15 by omega, show ¬ (12 : Nat) = 15 by omega, show ¬ (13 : Nat) = 15 by omega, show ¬ (14 : Nat) = 15 by omega, if_false, if_true]
    try rw [Slots.at_put _ _ _ _ (by omega)]
    try simp only [show ¬ (2 : Nat) = 14 by omega, show ¬ (3 : Nat) = 14 by omega, show ¬ (12 : Nat) = 14 by omega, show ¬ (13 : Nat) = 14 by omega, if_false, if_true]
    try rw [Slots.at_put _ _ _ _ (by omega)]
    try simp only [show ¬ (2 : Nat) = 13 by omega, show ¬ (3 : Nat) = 13 by omega, show ¬ (12 : Nat) = 13 by omega, if_false, if_true]
    try rw [Slots.at_put _ _ _ _ (by omega)]
    try simp only [show ¬ (2 : Nat) = 12 by omega, show ¬ (3 : Nat) = 12 by omega, if_false, if_true]
    try rw [Slots.at_put _ _ _ _ (by omega)]
    try simp only [show ¬ (2 : Nat) = 3 by omega, if_false, if_true]
    try rw [Slots.at_put _ _ _ _ (by omega)]
    try simp only [if_true]
theorem hdB_at0 {s : ByteArray} (h : szI s ≤ 32) : ((q_hdB s (szI s)).at 0).toNat = s.size := by
  have hs : (s.size : Int) ≤ 32 := h
  unfold q_hdB
  rw [bput_at _ _ _ _ _ (by omega), if_neg (by omega), Bytes.at_put _ _ _ _ (by omega), if_pos rfl]
  simp only [UInt8.toNat_ofNat']
  omega
theorem hdO_s {o : Obj} {m : Msg} {a : Key} : (q_hdO o m a).slots = q_hdS o.slots m a := by simp only [q_hdO]
theorem hdO_k {o : Obj} {m : Msg} {a : Key} : (q_hdO o m a).kind = o.kind := by simp only [q_hdO]
theorem hdO_b {o : Obj} {m : Msg} {a : Key} : (q_hdO o m a).bytes = q_hdB m.data (szI m.data) := by simp only [q_hdO]
/-- A process that was handed a message is told it. -/
theorem tdM_hd {L : List Obj} {i : Int} {o : Obj} {m : Msg} {a : Key} (hi : 0 ≤ i ∧ i < (L.length : Int)) (ho : lget L i.toNat free = q_hdO o m a) (hk : o.kind = 1) (hm : numM m) (hs : szI m.data ≤ 32) :
    q_pst L i = 1 ∧ q_tdE L i = 0 ∧ q_tdM L i = m := by
  have hg : q_get L i = q_hdO o m a := by rw [get_lget hi.1 hi.2, ho]
  obtain ⟨s2, s3, s12, s13, s14, s15⟩ := hdS_at (s := o.slots) (m := m) (a := a)
  have hl : llen L ≠ 0 := by unfold llen; omega
  have hB : q_psB L i = true := by
    unfold q_psB
    rw [hg, psIs_iff, hdO_s, hdO_k, s2]
    exact ⟨hk, rfl, by decide, by decide⟩
  have hp : q_pst L i = 1 := by
    rw [(pst_yes hB).1, hg, hdO_s, s2]; rfl
  have hE : q_tdE L i = 0 := by unfold q_tdE; rw [if_neg hl, if_neg (by omega)]
  refine ⟨hp, hE, ?_⟩
  unfold q_tdM
  rw [if_pos hE, ho]
  have hs' : (m.data.size : Int) ≤ 32 := hs
  have e1 : q_tdN (q_hdO o m a) = m.code := by
    unfold q_tdN
    rw [hdO_s, s3]; rfl
  have e2 : q_tdS (q_hdO o m a) = m.data := by
    unfold q_tdS
    rw [hdO_b, hdB_at0 hs, if_pos (by omega)]
    unfold q_hdB
    exact put_sub _ 1 m.data (by omega)
  rw [e1, e2, hdO_s, s12, s13, s14, numK_prep hl hm.1, numK_prep hl hm.2.1, numK_prep hl hm.2.2]
theorem pst_of {L : List Obj} {i st : Int} {o : Obj} (hi : 0 ≤ i ∧ i < (L.length : Int)) (ho : lget L i.toNat free = o) (hk : o.kind = 1) (hs : o.slots.at 2 = q_num st) (h0 : 0 ≤ st) (h2 : st ≤ 2) : q_pst L i = st ∧ q_psV L i = st := by
  have hg : q_get L i = o := by rw [get_lget hi.1 hi.2, ho]
  have hB : q_psB L i = true := by
    unfold q_psB
    rw [hg, psIs_iff, hs]
    exact ⟨hk, rfl, h0, h2⟩
  have e : q_pst L i = st := by rw [(pst_yes hB).1, hg, hs]; rfl
  exact ⟨e, by rw [pst_V hB, e]⟩
theorem bcO_at (o : Obj) (st : Int) : (q_bcO o st).slots.at 2 = q_num st := by
  unfold q_bcO
  simp only
  rw [Slots.at_put _ _ _ _ (by omega), if_pos rfl]
theorem ps1_at (a u : Int) : (ps1 a u).slots.at 2 = q_num u := by
  unfold ps1
  simp only
  rw [Slots.at_put _ _ _ _ (by omega), if_pos rfl]
/-- A call and its answer. -/
theorem bk_facts {c b : Int} {m n : Msg} (c0 : 0 ≤ c) (c1 : c ≤ 4294967294) (hm : numM m) (hn : numM n) (hs : szI m.data ≤ 32) (ht : szI n.data ≤ 32) :
    q_ivE (q_psL c 0 1 0) 0 ⟨6, 1, 1, void.call, void.rights, b⟩ 1 m = 0 ∧ q_tdE (q_bk1 c b m) 1 = 0 ∧ q_ivE (q_bk1 c b m) 1 (q_bkK c b m) 3 n = 0 ∧ q_tdE (q_bk2 c b m n) 0 = 0 ∧ q_tdM (q_bk1 c b m) 1 = m ∧ q_tdM (q_bk2 c b m n) 0 = n ∧
    q_psV (q_bk2 c b m n) 0 = 1 ∧ q_psV (q_bk2 c b m n) 1 = 0 ∧ q_bkK c b m = ⟨7, void.oid, 1, c, void.rights, void.value⟩ ∧ (q_get (q_bk2 c b m n) 0).calls = c + 1 ∧ q_prep (q_bk2 c b m n) (q_bkK c b m) = void := by
  have L0 : q_psL c 0 1 0 = [ps1 c 1, ps1 0 0] := rfl
  have hl : llen (q_psL c 0 1 0) ≠ 0 := by show 2 ≠ 0; omega
  have p0 := (pst_of (L := q_psL c 0 1 0) (i := 0) (o := ps1 c 1) ⟨by omega, by show (0 : Int) < 2; omega⟩ rfl rfl (ps1_at c 1) (by omega) (by omega)).1
  have p1 := (pst_of (L := q_psL c 0 1 0) (i := 1) (o := ps1 0 0) ⟨by omega, by show (1 : Int) < 2; omega⟩ rfl rfl (ps1_at 0 0) (by omega) (by omega)).1
  have may0 : q_may (q_psL c 0 1 0) ⟨6, 1, 1, void.call, void.rights, b⟩ = true := by rw [L0]; rfl
  have is0 : q_is (q_psL c 0 1 0) ⟨6, 1, 1, void.call, void.rights, b⟩ = true := by rw [L0]; rfl
  have E1 : q_ivE (q_psL c 0 1 0) 0 ⟨6, 1, 1, void.call, void.rights, b⟩ 1 m = 0 := by
    refine iv_0 hl ?_ p0 ?_ ?_ ?_
    · rw [may0, numM_ok hm hs]; simp
    · rw [is0, p1]; simp
    · rw [p1]; simp
    · rintro (⟨h, _⟩ | ⟨_, h⟩)
      · simp at h
      · have h : 4294967295 ≤ c := h
        omega
  have e1 : q_bk1 c b m = [q_bcO (ps1 c 1) 2, q_hdO (ps1 0 0) m ⟨7, 0, 1, c, 0, 0⟩] := by
    unfold q_bk1 q_ivL
    rw [if_pos E1, numM_cnt hl hm, L0]
    rfl
  have h1 : lget (q_bk1 c b m) (1 : Int).toNat free = q_hdO (ps1 0 0) m ⟨7, 0, 1, c, 0, 0⟩ := by rw [e1]; rfl
  have h0 : lget (q_bk1 c b m) (0 : Int).toNat free = q_bcO (ps1 c 1) 2 := by rw [e1]; rfl
  have ln1 : (q_bk1 c b m).length = 2 := by rw [e1]; rfl
  obtain ⟨t1, t2, t3⟩ := tdM_hd (L := q_bk1 c b m) (i := 1) ⟨by omega, by rw [ln1]; decide⟩ h1 rfl hm hs
  have r0 := (pst_of (L := q_bk1 c b m) (i := 0) ⟨by omega, by rw [ln1]; decide⟩ h0 rfl (bcO_at _ _) (by omega) (by omega)).1
  have hK : q_bkK c b m = ⟨7, 0, 1, c, 0, 0⟩ := by
    unfold q_bkK
    rw [get_lget (by omega) (by rw [ln1]; decide), h1, hdO_s]
    exact hdS_at.2.2.2.2.2
  have kf := (res_fit (n := 2) (i := 0) (c := 1) (d := c) (by omega) (by omega) (by omega) (by omega) (by omega) c0 (by omega))
  have kok : q_keyOk ⟨7, 0, 1, c, 0, 0⟩ = true := kf.1
  have knm : q_named ⟨7, 0, 1, c, 0, 0⟩ = true := by unfold q_named; rw [kok]; rfl
  have knn : q_names ⟨7, 0, 1, c, 0, 0⟩ = 0 := by unfold q_names; rw [kok]; rfl
  have hl1 : llen (q_bk1 c b m) ≠ 0 := by unfold llen; omega
  have is1 : q_is (q_bk1 c b m) ⟨7, 0, 1, c, 0, 0⟩ = true := by
    unfold q_is q_counts
    have hh : q_has (q_bk1 c b m) 0 = 0 := has_ok.2 ⟨by omega, by rw [ln1]; decide⟩
    have h0' : lget (q_bk1 c b m) 0 free = q_bcO (ps1 c 1) 2 := h0
    simp [knm, kok, knn, hh, h0', q_bcO, ps1, q_wants]
  have may1 : q_may (q_bk1 c b m) ⟨7, 0, 1, c, 0, 0⟩ = true := by
    unfold q_may llen
    rw [kok, knn, ln1]; rfl
  have cl0 : (lget (q_bk1 c b m) (0 : Int).toNat free).calls = c := by rw [h0]; rfl
  have E2 : q_ivE (q_bk1 c b m) 1 (q_bkK c b m) 3 n = 0 := by
    rw [hK]
    refine iv_0 hl1 ?_ t1 ?_ ?_ ?_
    · rw [may1, numM_ok hn ht]; simp
    · rw [is1, r0]; simp
    · rw [r0]; simp
    · rintro (⟨_, h⟩ | ⟨h, _⟩)
      · have h : 4294967295 ≤ (lget (q_bk1 c b m) (0 : Int).toNat free).calls := h
        rw [cl0] at h; omega
      · simp at h
  have e2 : q_bk2 c b m n = [q_hdO (q_clO (q_bcO (ps1 c 1) 2)) n void, q_bcO (q_hdO (ps1 0 0) m ⟨7, 0, 1, c, 0, 0⟩) 0] := by
    unfold q_bk2 q_ivL
    rw [if_pos E2, numM_cnt hl1 hn, hK, e1]
    rfl
  have g0 : lget (q_bk2 c b m n) (0 : Int).toNat free = q_hdO (q_clO (q_bcO (ps1 c 1) 2)) n void := by rw [e2]; rfl
  have g1 : lget (q_bk2 c b m n) (1 : Int).toNat free = q_bcO (q_hdO (ps1 0 0) m ⟨7, 0, 1, c, 0, 0⟩) 0 := by rw [e2]; rfl
  have ln2 : (q_bk2 c b m n).length = 2 := by rw [e2]; rfl
  obtain ⟨u1, u2, u3⟩ := tdM_hd (L := q_bk2 c b m n) (i := 0) ⟨by omega, by rw [ln2]; decide⟩ g0 rfl hn ht
  have v1 := (pst_of (L := q_bk2 c b m n) (i := 1) ⟨by omega, by rw [ln2]; decide⟩ g1 rfl (bcO_at _ _) (by omega) (by omega)).2
  have cl2 : (lget (q_bk2 c b m n) (0 : Int).toNat free).calls = c + 1 := by rw [g0]; simp only [q_hdO, q_clO, q_bcO, ps1]
  have gc : (q_get (q_bk2 c b m n) 0).calls = c + 1 := by rw [get_lget (by omega) (by rw [ln2]; decide), cl2]
  have v0 : q_psV (q_bk2 c b m n) 0 = 1 := by rw [pst_V (pst_B.1.1 (by omega : 0 ≤ q_pst (q_bk2 c b m n) 0)), u1]
  refine ⟨E1, t2, E2, u2, t3, u3, v0, v1, hK, gc, ?_⟩
  rw [hK]
  unfold q_prep
  have is2 : q_is (q_bk2 c b m n) ⟨7, 0, 1, c, 0, 0⟩ = false := by
    unfold q_is q_counts
    have cl2' : (lget (q_bk2 c b m n) 0 free).calls = c + 1 := cl2
    simp [cl2', knn]
    intros; omega
  rw [is2, knm, kok]
  simp
end Go.Sx
