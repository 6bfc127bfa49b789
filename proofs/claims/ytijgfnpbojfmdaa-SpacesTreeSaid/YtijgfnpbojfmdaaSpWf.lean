/- Trees, chains, what is stored in spaces: plain Lean. No condition. -/
import Derived.Test.YtijgfnpbojfmdaaSpWp
set_option linter.unusedVariables false
set_option linter.unusedSimpArgs false
set_option maxRecDepth 100000
namespace Go.Sx
def q_lnf (l : List Lnk) (i : Nat) : V := lnkV (lget l i lnk0)
def q_la (l : List Lnk) (g : Int) : Lnk := lget l g.toNat lnk0
def q_ab : ByteArray := ⟨#[97, 98]⟩
def q_z1 : ByteArray := ⟨#[122]⟩
def q_chF (l : List Lnk) (g : Int) : List Obj := lapp (q_chL l g) ⟨2, 1, 0, noSlots, noBytes⟩
def q_trK (p : Int) : Key := ⟨2, 0, 1, 0, p, 0⟩
def q_trA (x y a : Int) : Int := x * 1024 + y * 64 + a
def q_trL (x y q : Int) : List Obj := [⟨1, 1, 0, (noSlots.put 15 (q_num 2)).put x.toNat ⟨2, 1, 1, 0, q, 0⟩, noBytes⟩, ⟨1, 1, 0, (noSlots.put 15 (q_num 1)).put y.toNat ⟨3, 2, 1, 0, 0, 0⟩, noBytes⟩, ⟨2, 1, 0, noSlots, noBytes⟩]
theorem bare1 {n kind : Int} (h1 : 1 ≤ n) (h2 : n ≤ 64) (h3 : 0 ≤ kind) (h4 : kind ≤ 3) : q_objOk ⟨kind, 1, 0, noSlots, noBytes⟩ n = true := by
  rw [objOk_iff]
  refine ⟨h1, h2, h3, h4, by show (0 : Int) ≤ 1; omega, by show (1 : Int) ≤ 4294967295; omega, by simp, by simp, .inr rfl, fun i hi => ?_, fun i hi => ?_⟩
  · simp only [noSlots_at]
    unfold q_slotOk
    rw [void_ok.1, void_ok.2]
    simp
    omega
  · have hz := at_zero.1 (show noBytes = noBytes from rfl) i hi
    first | exact .inr (.inr hz) | exact hz | simp [hz]
theorem put_fit {n : Int} {s : Slots} {k : Key} {j : Nat} (hj : j < 16) (h : ∀ i, i < 16 → q_slFit n (s.at i)) (hk : q_slFit n k) (i : Nat) (hi : i < 16) : q_slFit n ((s.put j k).at i) := by
  rw [Slots.at_put _ _ _ _ hj]
  split
  · exact hk
  · exact h i hi
theorem no_fit {n : Int} (h : 0 ≤ n) (i : Nat) (hi : i < 16) : q_slFit n (noSlots.at i) := by
  rw [noSlots_at]
  exact ⟨void_ok.1, by rw [void_ok.2]; omega⟩
theorem num_fit {n h : Int} (hn : 0 ≤ n) : q_slFit n (q_num h) := by
  have hk : q_keyOk (q_num h) = true := by
    unfold q_keyOk q_num q_isV q_isO q_isC q_within q_most
    simp
  refine ⟨hk, ?_⟩
  have : q_names (q_num h) = -1 := by
    unfold q_names q_isO q_num; simp
  omega
theorem node_fit {n o r : Int} (h0 : 0 ≤ o) (h1 : o < n) (h2 : n ≤ 64) (r0 : 0 ≤ r) (r1 : r ≤ 7) : q_slFit n ⟨2, o, 1, 0, r, 0⟩ := by
  have hk : q_keyOk ⟨2, o, 1, 0, r, 0⟩ = true := by
    unfold q_keyOk q_isV q_isO q_isC q_within q_most
    simp; omega
  refine ⟨hk, ?_⟩
  unfold q_names
  rw [hk]
  simp [q_isO]; omega
theorem page_fit {n o r : Int} (h0 : 0 ≤ o) (h1 : o < n) (h2 : n ≤ 64) (r0 : 0 ≤ r) (r1 : r ≤ 1) : q_slFit n ⟨3, o, 1, 0, r, 0⟩ := by
  have hk : q_keyOk ⟨3, o, 1, 0, r, 0⟩ = true := by
    unfold q_keyOk q_isV q_isO q_isC q_within q_most
    simp; omega
  refine ⟨hk, ?_⟩
  unfold q_names
  rw [hk]
  simp [q_isO]; omega
theorem start_fit {n o v : Int} (h0 : 0 ≤ o) (h1 : o < n) (h2 : n ≤ 64) : q_slFit n ⟨6, o, 1, 0, 0, v⟩ := by
  have hk : q_keyOk ⟨6, o, 1, 0, 0, v⟩ = true := by
    unfold q_keyOk q_isV q_isO q_isC q_within q_most
    simp; omega
  refine ⟨hk, ?_⟩
  unfold q_names
  rw [hk]
  simp [q_isO]; omega
/-! What is stored -/
section
variable {l : List Obj} {k : Key} {b : Bytes} (h0 : 0 ≤ k.oid) (h1 : k.oid < (l.length : Int))
include h0 h1
theorem sB_is (x : Key) : q_is (q_setB l k b) x = q_is l x := lset_is (L := l) (i := k.oid.toNat) (x := q_bys (lget l k.oid.toNat free) b) (by omega) rfl rfl rfl x
theorem sB_prep (x : Key) : q_prep (q_setB l k b) x = q_prep l x := by
  unfold q_prep q_snone llen
  rw [sB_is h0 h1]
  unfold q_setB
  rw [lset_len]
theorem sB_slots (j : Nat) : (lget (q_setB l k b) j free).slots = (lget l j free).slots := by
  unfold q_setB
  rw [lget_lset (by omega)]
  split
  · rename_i e; subst e; rfl
  · rfl
theorem sB_got (x : Key) (i : Int) : q_got (q_setB l k b) x i = q_got l x i := by
  unfold q_got q_gotO
  rw [sB_slots h0 h1, sB_prep h0 h1]
theorem sB_wgo : ∀ (n : Nat) (w : Wk), wgo (q_setB l k b) n w = wgo l n w
  | 0, w => rfl
  | n + 1, w => by
    unfold wgo
    rw [sB_prep h0 h1, sB_got h0 h1, sB_got h0 h1]
    have e : q_wnode (q_setB l k b) w (q_prep l w.pos) (q_got l (q_rts (q_prep l w.pos) 0) 15) (q_got l (q_rts (q_prep l w.pos) 0) 14) = q_wnode l w (q_prep l w.pos) (q_got l (q_rts (q_prep l w.pos) 0) 15) (q_got l (q_rts (q_prep l w.pos) 0) 14) := by
      unfold q_wnode
      rw [sB_got h0 h1]
    rw [e]
    split
    · rfl
    · split
      · split
        · rfl
        · exact sB_wgo n _
      · rfl
omit h0 h1 in
theorem sB_wE (x : Key) (a : Int) : q_wE (q_setB l k b) x a = q_wE l x a := by
  unfold q_wE q_may llen q_setB
  rw [lset_len]
theorem sB_wR (x : Key) (a : Int) : q_wR (q_setB l k b) x a = q_wR l x a := by
  unfold q_wR q_wgo
  rw [sB_wE, sB_wgo h0 h1]
omit h0 h1 in
theorem sB_aE (x : Key) (a n : Int) : q_aE (q_setB l k b) x a n = q_aE l x a n := by unfold q_aE; rw [sB_wE]
theorem sB_aF (x : Key) (a n : Int) (w : Bool) : q_aF (q_setB l k b) x a n w = q_aF l x a n w := by unfold q_aF; rw [sB_aE, sB_wR h0 h1]
theorem sB_page (x : Key) (c : Bool) : q_page (q_setB l k b) x c = q_page l x c := by
  have e := lset_asked (L := l) (i := k.oid.toNat) (x := q_bys (lget l k.oid.toNat free) b) (by omega) rfl rfl rfl x 3 false
  unfold q_page q_setB
  rw [e]
end
theorem sback_facts {l : List Obj} {k v : Key} {a e : Int} {s : ByteArray} (hC : q_aC l k a (szI s) true = true) :
    (q_wE l k a = 0 ∧ q_uF (q_wR l k a) = 0 ∧ (q_fP (q_wR l k a)).rights = 0) ∧ (∀ g : Int, g ≠ (q_fP (q_wR l k a)).oid → 0 ≤ g → g < (l.length : Int) → q_get (q_stL l k a s) g = lget l g.toNat free) ∧
    (q_ldS (q_stL l k a s) k a (szI s) = s ∧ q_aF (q_stL l k a s) k a (szI s) false = 0 ∧ q_aE (q_stL l k a s) k a (szI s) = 0) ∧
    (q_wE l v e = 0 → q_uF (q_wR l v e) = 0 → (q_fP (q_wR l v e)).oid = (q_fP (q_wR l k a)).oid → q_fA (q_wR l v e) = q_fA (q_wR l k a) → q_ldS (q_stL l k a s) v e (szI s) = s ∧ q_aF (q_stL l k a s) v e (szI s) false = 0 ∧ q_aE (q_stL l k a s) v e (szI s) = 0) := by
  obtain ⟨w1, w2, w3, w4, w5⟩ := aF_inv hC
  have w5 := w5 rfl
  obtain ⟨⟨e1, e2⟩, e3, e4⟩ := wR_end w1 w2
  obtain ⟨f1, f2, _⟩ := f_kd0 w2
  obtain ⟨b1, b2, b3, _⟩ := is_all e1
  obtain ⟨⟨p1, p2⟩, p3, p4⟩ := acc_pg hC
  have hR : q_aR l k a (szI s) true = q_wR l k a := by unfold q_aR; rw [if_pos hC]
  rw [hR, f1] at p1 p2 p3
  rw [hR, f2] at p4
  have hE : q_pwrE l (q_wR l k a).pos (q_wR l k a).adr s = 0 := by unfold q_pwrE; rw [if_pos p3, p4]; rfl
  have hM : q_stL l k a s = q_setB l (q_wR l k a).pos (bput (lget l (q_wR l k a).pos.oid.toNat free).bytes (q_wR l k a).adr.toNat s.size s) := by
    unfold q_stL
    rw [if_pos hC, hR, f1, f2]
    unfold q_pwrL
    rw [if_pos hE]
  have hn : (decide (szI s < 0) || decide (64 < szI s)) = false := by
    have : 0 ≤ szI s := by unfold szI; omega
    have : szI s ≤ 64 := by omega
    simp; omega
  have hsz : szI s = (s.size : Int) := rfl
  have hby : ∀ j : Nat, j = (q_wR l k a).pos.oid.toNat → (lget (q_stL l k a s) j free).bytes = bput (lget l (q_wR l k a).pos.oid.toNat free).bytes (q_wR l k a).adr.toNat s.size s := fun j hj => by
    rw [hM]; unfold q_setB
    rw [lget_lset (by omega), if_pos hj]; rfl
  have main : ∀ (v : Key) (e : Int), q_wE l v e = 0 → (q_wR l v e).kd = 0 → (q_wR l v e).pos.oid = (q_wR l k a).pos.oid → (q_wR l v e).adr = (q_wR l k a).adr → q_ldS (q_stL l k a s) v e (szI s) = s ∧ q_aF (q_stL l k a s) v e (szI s) false = 0 ∧ q_aE (q_stL l k a s) v e (szI s) = 0 := by
    intro v e v1 v2 v3 v4
    have hE1 : q_aE l v e (szI s) = 0 := aE_0 v1 hn
    have hF1 : q_aF l v e (szI s) false = 0 := aF_0 hE1 v2 (by omega) rfl
    have hE2 : q_aE (q_stL l k a s) v e (szI s) = 0 := by rw [hM, sB_aE]; exact hE1
    have hF2 : q_aF (q_stL l k a s) v e (szI s) false = 0 := by rw [hM, sB_aF b2 b3]; exact hF1
    have hC2 : q_aC (q_stL l k a s) v e (szI s) false = true := by unfold q_aC; rw [hE2, hF2]; rfl
    refine ⟨?_, hF2, hE2⟩
    obtain ⟨_, z3, z4⟩ := acc_pg hC2
    obtain ⟨g1, g2, _⟩ := f_kd0 v2
    have hR2 : q_aR (q_stL l k a s) v e (szI s) false = q_wR l v e := by unfold q_aR; rw [if_pos hC2, hM, sB_wR b2 b3]
    unfold q_ldS
    rw [if_pos hC2]
    have hP : q_preadE (q_stL l k a s) (q_fP (q_aR (q_stL l k a s) v e (szI s) false)) (q_fA (q_aR (q_stL l k a s) v e (szI s) false)) (szI s) = 0 := by unfold q_preadE; rw [if_pos z3, z4]; rfl
    unfold q_pread
    rw [if_pos hP, hR2, g1, g2, hby _ (by rw [v3]), v4, show ((q_wR l k a).adr + szI s).toNat = (q_wR l k a).adr.toNat + s.size by omega]
    exact put_sub _ _ _ (by omega)
  refine ⟨⟨w1, w2, by rw [f1]; exact w5⟩, fun g g0 g1 g2 => ?_, main k a w1 w2 rfl rfl, fun v1 v2 v3 v4 => ?_⟩
  · rw [f1] at g0
    rw [get_lget g1 (by rw [hM]; unfold q_setB; rw [lset_len]; exact g2), hM]
    unfold q_setB
    rw [lget_lset (by omega), if_neg (by omega)]
  · obtain ⟨g1, g2, _⟩ := f_kd0 (show (q_wR l v e).kd = 0 from v2)
    rw [g1, f1] at v3
    rw [g2, f2] at v4
    exact main v e v1 v2 v3 v4
/-! Trees -/
theorem wstep {L : List Obj} {w : Wk} {n : Nat} {H : Int} (hi : q_is L w.pos = true) (h2 : w.pos.kind = 2) (hd : w.dep < 8) (hh : q_got L (q_rts w.pos 0) 15 = q_num H) (H1 : 1 ≤ H) (H8 : H ≤ 8) (hH : w.dep = 0 ∨ H < w.hi) (hk : q_got L (q_rts w.pos 0) 14 = void) (hs : w.adr.tdiv (q_each H) < 14) :
    wgo L (n + 1) w = wgo L n ⟨q_got L w.pos (w.adr.tdiv (q_each H)), w.adr.tmod (q_each H), q_or w.rts w.pos.rights, w.kpr, w.dep + 1, H⟩ := by
  have hp := is_prep hi
  have hf : q_hOk w (q_num H) = true := hOk_iff.2 ⟨rfl, H1, H8, hH⟩
  have e : q_wnode L w w.pos (q_num H) void = (wr0, some ⟨q_got L w.pos (w.adr.tdiv (q_each H)), w.adr.tmod (q_each H), q_or w.rts w.pos.rights, w.kpr, w.dep + 1, H⟩) := by
    unfold q_wnode
    rw [if_neg (by omega), if_pos hf]
    have hv : (q_num H).value = H := rfl
    rw [hv, if_pos hs]
    have : q_kp (q_or w.rts w.pos.rights) void w.kpr = w.kpr := by
      unfold q_kp
      rw [if_neg]
      rintro ⟨h, _⟩
      exact absurd h (by decide)
    rw [this]
  conv => lhs; unfold wgo
  rw [hp, if_neg (by omega), if_pos h2, hh, hk, e]
theorem wpage {L : List Obj} {w : Wk} {n : Nat} (hi : q_is L w.pos = true) (h3 : w.pos.kind = 3) (ha : w.adr < 64) : wgo L (n + 1) w = ⟨0, q_only w.rts w.pos, w.adr, w.kpr, w.dep⟩ := by
  conv => lhs; unfold wgo
  rw [is_prep hi, if_pos h3, if_pos ha]
theorem prep_void (L : List Obj) : q_prep L void = void := by unfold q_prep; split <;> rfl
section
variable {x y q : Int} (x0 : 0 ≤ x) (x1 : x ≤ 13) (y0 : 0 ≤ y) (y1 : y ≤ 13)
theorem tr_is {o r : Int} (ho : o = 0 ∨ o = 1) (h0 : 0 ≤ r) (h1 : r ≤ 7) : q_is (q_trL x y q) ⟨2, o, 1, 0, r, 0⟩ = true := by
  have hk := (node_fit (n := 3) (o := o) (r := r) (by omega) (by omega) (by omega) h0 h1)
  unfold q_is q_named q_counts q_wants
  rw [hk.1]
  have hn : q_names ⟨2, o, 1, 0, r, 0⟩ = o := by unfold q_names; rw [hk.1]; rfl
  rw [hn]
  rcases ho with rfl | rfl <;> rfl
theorem tr_pg {r : Int} (h0 : r = 0 ∨ r = 1) : q_is (q_trL x y q) ⟨3, 2, 1, 0, r, 0⟩ = true := by
  rcases h0 with rfl | rfl <;> rfl
include x0 x1 in
theorem tr_s0 : (lget (q_trL x y q) 0 free).slots.at 15 = q_num 2 ∧ (lget (q_trL x y q) 0 free).slots.at 14 = (if 14 = x.toNat then ⟨2, 1, 1, 0, q, 0⟩ else void) ∧ (lget (q_trL x y q) 0 free).slots.at x.toNat = ⟨2, 1, 1, 0, q, 0⟩ := by
  have e : (lget (q_trL x y q) 0 free).slots = (noSlots.put 15 (q_num 2)).put x.toNat ⟨2, 1, 1, 0, q, 0⟩ := rfl
  rw [e]
  refine ⟨?_, ?_, ?_⟩
  · rw [Slots.at_put _ _ _ _ (by omega), if_neg (by omega), Slots.at_put _ _ _ _ (by omega), if_pos rfl]
  · rw [Slots.at_put _ _ _ _ (by omega), Slots.at_put _ _ _ _ (by omega), if_neg (by omega : ¬ 14 = 15), noSlots_at]
  · rw [Slots.at_put _ _ _ _ (by omega), if_pos rfl]
include y0 y1 in
theorem tr_s1 : (lget (q_trL x y q) 1 free).slots.at 15 = q_num 1 ∧ (lget (q_trL x y q) 1 free).slots.at 14 = void ∧ (lget (q_trL x y q) 1 free).slots.at y.toNat = ⟨3, 2, 1, 0, 0, 0⟩ := by
  have e : (lget (q_trL x y q) 1 free).slots = (noSlots.put 15 (q_num 1)).put y.toNat ⟨3, 2, 1, 0, 0, 0⟩ := rfl
  rw [e]
  refine ⟨?_, ?_, ?_⟩
  · rw [Slots.at_put _ _ _ _ (by omega), if_neg (by omega), Slots.at_put _ _ _ _ (by omega), if_pos rfl]
  · rw [Slots.at_put _ _ _ _ (by omega), if_neg (by omega), Slots.at_put _ _ _ _ (by omega), if_neg (by omega : ¬ 14 = 15), noSlots_at]
  · rw [Slots.at_put _ _ _ _ (by omega), if_pos rfl]
theorem tr_num (h : Int) : q_prep (q_trL x y q) (q_num h) = q_num h := (raw_num (num_fit (n := 3) (by omega)).1 (by show 0 < 3; omega)).1 rfl
end
def q_trC (p q : Int) : Int := if q_weakBit (q_trK p) then q_with q 3 else q
def q_trD (p q : Int) : Int := if q_weakBit ⟨2, 1, 1, 0, q_trC p q, 0⟩ then 1 else 0
def q_trR (p q : Int) : Int := if (q_or (q_or 0 p) (q_trC p q)).tmod 4 = 0 then q_trD p q else 1
theorem tr_fin : ∀ p q : Fin 8, (0 ≤ q_trC (p.val : Int) (q.val : Int) ∧ q_trC (p.val : Int) (q.val : Int) ≤ 7) ∧ (q_trR (p.val : Int) (q.val : Int) = 0 ∨ q_trR (p.val : Int) (q.val : Int) = 1) ∧
    (!decide (q_trR (p.val : Int) (q.val : Int) = 0)) = (!decide (bitsI .and .i64 (p.val : Int) 3 = 0) || !decide (bitsI .and .i64 (q.val : Int) 3 = 0)) := by decide
theorem tr_r {p q : Int} (p0 : 0 ≤ p) (p1 : p ≤ 7) (q0 : 0 ≤ q) (q1 : q ≤ 7) : (0 ≤ q_trC p q ∧ q_trC p q ≤ 7) ∧ (q_trR p q = 0 ∨ q_trR p q = 1) ∧ (!decide (q_trR p q = 0)) = (!decide (bitsI .and .i64 p 3 = 0) || !decide (bitsI .and .i64 q 3 = 0)) := by
  obtain ⟨x, rfl⟩ := i8_fin p0 p1
  obtain ⟨y, rfl⟩ := i8_fin q0 q1
  exact tr_fin x y
set_option maxHeartbeats 1000000 in
theorem tr_walk {x y a p q : Int} (x0 : 0 ≤ x) (x1 : x ≤ 13) (y0 : 0 ≤ y) (y1 : y ≤ 13) (a0 : 0 ≤ a) (a1 : a ≤ 63) (p0 : 0 ≤ p) (p1 : p ≤ 7) (q0 : 0 ≤ q) (q1 : q ≤ 7) :
    q_wE (q_trL x y q) (q_trK p) (q_trA x y a) = 0 ∧ q_wR (q_trL x y q) (q_trK p) (q_trA x y a) = ⟨0, ⟨3, 2, 1, 0, q_trR p q, 0⟩, a, void, 2⟩ := by
  obtain ⟨⟨c0, c1⟩, hr, _⟩ := tr_r p0 p1 q0 q1
  obtain ⟨s1, s2, s3⟩ := tr_s0 (y := y) (q := q) x0 x1
  rw [if_neg (by omega)] at s2
  obtain ⟨t1, t2, t3⟩ := tr_s1 (x := x) (q := q) y0 y1
  have i0 := tr_is (x := x) (y := y) (q := q) (o := 0) (.inl rfl) p0 p1
  have i1 := tr_is (x := x) (y := y) (q := q) (o := 1) (.inr rfl) c0 c1
  have i1q := tr_is (x := x) (y := y) (q := q) (o := 1) (.inr rfl) q0 q1
  have hE : q_wE (q_trL x y q) (q_trK p) (q_trA x y a) = 0 := by
    have hm : q_may (q_trL x y q) (q_trK p) = true := by
      obtain ⟨k1, k2⟩ := node_fit (n := 3) (o := 0) (r := p) (by omega) (by omega) (by omega) p0 p1
      unfold q_may q_trK
      rw [k1, Bool.true_and, decide_eq_true_eq]
      exact k2
    unfold q_wE
    rw [if_neg (by show ¬ 3 = 0; omega), if_pos hm, if_neg (by unfold q_trA; omega)]
  refine ⟨hE, ?_⟩
  have e1 : q_each 1 = 64 := rfl
  have e2 : q_each 2 = 1024 := rfl
  unfold q_wR
  rw [if_pos hE]
  have d0 : (q_trA x y a).tdiv 1024 = x := by unfold q_trA; rw [Int.tdiv_eq_ediv_of_nonneg (by omega)]; omega
  have d1 : (q_trA x y a).tmod 1024 = y * 64 + a := by unfold q_trA; rw [Int.tmod_eq_emod_of_nonneg (by omega)]; omega
  have d2 : (y * 64 + a).tdiv 64 = y := by rw [Int.tdiv_eq_ediv_of_nonneg (by omega)]; omega
  have d3 : (y * 64 + a).tmod 64 = a := by rw [Int.tmod_eq_emod_of_nonneg (by omega)]; omega
  show wgo _ (8 + 1) _ = _
  have g15 : q_got (q_trL x y q) (q_rts (q_trK p) 0) 15 = q_num 2 := by
    rw [got_r0]
    show q_prep _ ((lget (q_trL x y q) 0 free).slots.at 15) = _
    rw [s1]; exact tr_num 2
  have g14 : q_got (q_trL x y q) (q_rts (q_trK p) 0) 14 = void := by
    rw [got_r0]
    show q_prep _ ((lget (q_trL x y q) 0 free).slots.at 14) = _
    rw [s2]; exact prep_void _
  have gx : q_got (q_trL x y q) (q_trK p) x = ⟨2, 1, 1, 0, q_trC p q, 0⟩ := by
    unfold q_got q_gotO
    show (if q_weakBit (q_trK p) = true then q_weak (q_prep _ ((lget (q_trL x y q) 0 free).slots.at x.toNat)) else q_prep _ ((lget (q_trL x y q) 0 free).slots.at x.toNat)) = _
    rw [s3, is_prep i1q]
    unfold q_trC
    split <;> rfl
  rw [wstep (w := q_w0 (q_trK p) (q_trA x y a) 0) (H := 2) i0 rfl (by show (0 : Int) < 8; omega) g15 (by omega) (by omega) (.inl rfl) g14 (by rw [e2]; show (q_trA x y a).tdiv 1024 < 14; omega)]
  have w1 : (⟨q_got (q_trL x y q) (q_w0 (q_trK p) (q_trA x y a) 0).pos ((q_w0 (q_trK p) (q_trA x y a) 0).adr.tdiv (q_each 2)), (q_w0 (q_trK p) (q_trA x y a) 0).adr.tmod (q_each 2), q_or (q_w0 (q_trK p) (q_trA x y a) 0).rts (q_w0 (q_trK p) (q_trA x y a) 0).pos.rights, (q_w0 (q_trK p) (q_trA x y a) 0).kpr, (q_w0 (q_trK p) (q_trA x y a) 0).dep + 1, 2⟩ : Wk) =
      ⟨⟨2, 1, 1, 0, q_trC p q, 0⟩, y * 64 + a, q_or 0 p, void, 1, 2⟩ := by
    rw [e2]
    show (⟨q_got (q_trL x y q) (q_trK p) ((q_trA x y a).tdiv 1024), (q_trA x y a).tmod 1024, q_or 0 p, void, 0 + 1, 2⟩ : Wk) = _
    rw [d0, d1, gx]; rfl
  rw [w1]
  have h15 : q_got (q_trL x y q) (q_rts ⟨2, 1, 1, 0, q_trC p q, 0⟩ 0) 15 = q_num 1 := by
    rw [got_r0]
    show q_prep _ ((lget (q_trL x y q) 1 free).slots.at 15) = _
    rw [t1]; exact tr_num 1
  have h14 : q_got (q_trL x y q) (q_rts ⟨2, 1, 1, 0, q_trC p q, 0⟩ 0) 14 = void := by
    rw [got_r0]
    show q_prep _ ((lget (q_trL x y q) 1 free).slots.at 14) = _
    rw [t2]; exact prep_void _
  have hd : q_trD p q = 0 ∨ q_trD p q = 1 := by unfold q_trD; split <;> simp
  have hy : q_got (q_trL x y q) ⟨2, 1, 1, 0, q_trC p q, 0⟩ y = ⟨3, 2, 1, 0, q_trD p q, 0⟩ := by
    unfold q_got q_gotO
    show (if q_weakBit ⟨2, 1, 1, 0, q_trC p q, 0⟩ = true then q_weak (q_prep _ ((lget (q_trL x y q) 1 free).slots.at y.toNat)) else q_prep _ ((lget (q_trL x y q) 1 free).slots.at y.toNat)) = _
    rw [t3, is_prep (tr_pg (.inl rfl))]
    unfold q_trD
    split <;> rfl
  show wgo _ (7 + 1) _ = _
  rw [wstep (w := ⟨⟨2, 1, 1, 0, q_trC p q, 0⟩, y * 64 + a, q_or 0 p, void, 1, 2⟩) (H := 1) i1 rfl (by show (1 : Int) < 8; omega) h15 (by omega) (by omega) (.inr (by show (1 : Int) < 2; omega)) h14 (by rw [e1]; show (y * 64 + a).tdiv 64 < 14; omega)]
  simp only [e1, d2, d3, hy]
  show wgo _ (6 + 1) _ = _
  rw [wpage (w := ⟨⟨3, 2, 1, 0, q_trD p q, 0⟩, a, q_or (q_or 0 p) (q_trC p q), void, 1 + 1, 1⟩) (tr_pg hd) rfl (by show a < 64; omega)]
  have hp : q_only (q_or (q_or 0 p) (q_trC p q)) ⟨3, 2, 1, 0, q_trD p q, 0⟩ = ⟨3, 2, 1, 0, q_trR p q, 0⟩ := by
    unfold q_only q_trR
    split <;> rfl
  simp only [hp]
  rfl
theorem trL_made {x y q : Int} (x0 : 0 ≤ x) (x1 : x ≤ 13) (y0 : 0 ≤ y) (y1 : y ≤ 13) (q0 : 0 ≤ q) (q1 : q ≤ 7) : q_made (q_trL x y q) = true := by
  have h1 : q_objOk (lget (q_trL x y q) 0 free) 3 = true := by
    show q_objOk (q_sls ⟨1, 1, 0, noSlots, noBytes⟩ ((noSlots.put 15 (q_num 2)).put x.toNat ⟨2, 1, 1, 0, q, 0⟩)) 3 = true
    exact sls_ok (bare1 (by omega) (by omega) (by omega) (by omega)) rfl (put_fit (by omega) (put_fit (by omega) (no_fit (by omega)) (num_fit (by omega))) (node_fit (by omega) (by omega) (by omega) q0 q1))
  have h2 : q_objOk (lget (q_trL x y q) 1 free) 3 = true := by
    show q_objOk (q_sls ⟨1, 1, 0, noSlots, noBytes⟩ ((noSlots.put 15 (q_num 1)).put y.toNat ⟨3, 2, 1, 0, 0, 0⟩)) 3 = true
    exact sls_ok (bare1 (by omega) (by omega) (by omega) (by omega)) rfl (put_fit (by omega) (put_fit (by omega) (no_fit (by omega)) (num_fit (by omega))) (page_fit (by omega) (by omega) (by omega) (by omega) (by omega)))
  have h3 : q_objOk (lget (q_trL x y q) 2 free) 3 = true := bare1 (kind := 2) (by omega) (by omega) (by omega) (by omega)
  have hr : q_right (q_trL x y q) = true := by
    rw [right_iff]
    refine ⟨by show 1 ≤ 3; omega, by show 3 ≤ 64; omega, fun i hi => ?_⟩
    have hi : i < 3 := hi
    have : i = 0 ∨ i = 1 ∨ i = 2 := by omega
    rcases this with rfl | rfl | rfl
    · exact h1
    · exact h2
    · exact h3
  unfold q_made
  rw [hr]; rfl
/-! Chains -/
theorem chO_ok {x : Lnk} {i n m : Int} (hx : q_lnkOk x) (h0 : 0 ≤ i) (h1 : i < n) (hn : n ≤ 10) (hm : m = n + 1) : q_objOk (q_chO x i n) m = true := by
  obtain ⟨_, _, s0, s1, r0, r1⟩ := hx
  have hb : q_objOk ⟨1, 1, 0, noSlots, noBytes⟩ m = true := bare1 (by omega) (by omega) (by omega) (by omega)
  have hr : 0 ≤ bitsI .and .i64 x.rts 1 ∧ bitsI .and .i64 x.rts 1 ≤ 1 := by
    have : x.rts = 0 ∨ x.rts = 1 ∨ x.rts = 2 ∨ x.rts = 3 ∨ x.rts = 4 ∨ x.rts = 5 ∨ x.rts = 6 ∨ x.rts = 7 := by omega
    rcases this with h | h | h | h | h | h | h | h <;> rw [h] <;> decide
  have hk : q_slFit m ⟨if i = n - 1 then 3 else 2, i + 1, 1, 0, if i = n - 1 then bitsI .and .i64 x.rts 1 else x.rts, 0⟩ := by
    by_cases e : i = n - 1
    · rw [if_pos e, if_pos e]; exact page_fit (by omega) (by omega) (by omega) hr.1 hr.2
    · rw [if_neg e, if_neg e]; exact node_fit (by omega) (by omega) (by omega) r0 r1
  have h2 : ∀ j, j < 16 → q_slFit m (((noSlots.put 15 (q_num x.hgt)).put x.slot.toNat ⟨if i = n - 1 then 3 else 2, i + 1, 1, 0, if i = n - 1 then bitsI .and .i64 x.rts 1 else x.rts, 0⟩).at j) :=
    put_fit (by omega) (put_fit (by omega) (no_fit (by omega)) (num_fit (by omega))) hk
  have e : q_chO x i n = q_sls ⟨1, 1, 0, noSlots, noBytes⟩ (q_chO x i n).slots := rfl
  rw [e]
  refine sls_ok hb rfl fun j hj => ?_
  unfold q_chO
  cases x.kept
  · exact h2 j hj
  · exact put_fit (by omega) h2 (start_fit h0 (by omega) (by omega)) j hj
theorem chL_len {l : List Lnk} {g : Int} : (q_chL l g).length = g.toNat := by simp [q_chL]
theorem chL_at {l : List Lnk} {g : Int} {i : Nat} (h : i < g.toNat) : lget (q_chL l g) i free = q_chO (lget l i lnk0) (i : Int) (llen l : Int) := by
  unfold q_chL
  simp [lget, List.getD_eq_getElem?_getD, h]
theorem chL_succ {l : List Lnk} {g : Int} (h : 0 ≤ g) : lapp (q_chL l g) (q_chO (q_la l g) g (llen l : Int)) = q_chL l (g + 1) := by
  unfold q_chL lapp
  rw [show (g + 1).toNat = g.toNat + 1 by omega, List.range_succ, List.map_append]
  simp only [List.map_cons, List.map_nil, show ((g.toNat : Nat) : Int) = g by omega]
  rfl
theorem chA_succ {l : List Lnk} {g : Int} (h : 0 ≤ g) : q_chA l g + (q_la l g).slot * q_each (q_la l g).hgt = q_chA l (g + 1) := by
  unfold q_chA
  rw [show (g + 1).toNat = g.toNat + 1 by omega, List.range_succ, List.map_append, List.sum_append]
  simp [q_la]
theorem chA_in {l : List Lnk} (h : ∀ j, j < (llen l : Int).toNat → q_lnkOk (lget l j lnk0)) : ∀ (n : Nat), n ≤ llen l → 0 ≤ q_chA l (n : Int) ∧ q_chA l (n : Int) ≤ 13 * 274877906944 * (n : Int)
  | 0, _ => ⟨Int.le_refl 0, Int.le_refl 0⟩
  | n + 1, hn => by
    have ih := chA_in h n (by omega)
    have e := chA_succ (l := l) (g := (n : Int)) (by omega)
    have hl := h n (by omega)
    have hla : q_la l (n : Int) = lget l n lnk0 := rfl
    rw [hla] at e
    obtain ⟨g0, g1, s0, s1, _⟩ := hl
    have he := each_le (h := (lget l n lnk0).hgt) g1
    have hm : 0 ≤ (lget l n lnk0).slot * q_each (lget l n lnk0).hgt := Int.mul_nonneg s0 (by omega)
    have hm2 : (lget l n lnk0).slot * q_each (lget l n lnk0).hgt ≤ 13 * 274877906944 := Int.mul_le_mul s1 he.2 (by omega) (by omega)
    have e : q_chA l (n : Int) + (lget l n lnk0).slot * q_each (lget l n lnk0).hgt = q_chA l ((n + 1 : Nat) : Int) := e
    omega
theorem chF_made {l : List Lnk} (h1 : 1 ≤ llen l) (h2 : llen l ≤ 10) (h : ∀ j, j < (llen l : Int).toNat → q_lnkOk (lget l j lnk0)) : q_made (q_chF l (llen l : Int)) = true := by
  have hlen : (q_chF l (llen l : Int)).length = llen l + 1 := by simp [q_chF, lapp, chL_len]
  have hr : q_right (q_chF l (llen l : Int)) = true := by
    rw [right_iff, hlen]
    refine ⟨by omega, by omega, fun i hi => ?_⟩
    by_cases e : i < llen l
    · have : lget (q_chF l (llen l : Int)) i free = lget (q_chL l (llen l : Int)) i free := by
        unfold lget q_chF lapp
        rw [List.getD_eq_getElem?_getD, List.getD_eq_getElem?_getD, List.getElem?_append_left (by rw [chL_len]; omega)]
      rw [this, chL_at (by omega)]
      exact chO_ok (h i (by omega)) (by omega) (by omega) (by omega) (by omega)
    · have e : i = llen l := by omega
      have : lget (q_chF l (llen l : Int)) i free = ⟨2, 1, 0, noSlots, noBytes⟩ := by
        unfold lget q_chF lapp
        rw [List.getD_eq_getElem?_getD, List.getElem?_append_right (by rw [chL_len]; omega), chL_len]
        simp [e]
      rw [this]
      exact bare1 (by omega) (by omega) (by omega) (by omega)
  unfold q_made
  rw [hr, Bool.and_true, decide_eq_true_eq]
  unfold llen at *
  omega
end Go.Sx
