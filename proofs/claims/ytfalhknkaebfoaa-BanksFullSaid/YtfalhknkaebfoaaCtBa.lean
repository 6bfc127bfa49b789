/- Banks: the document's. No condition. The statements vc_.. are printed by a program of the claimant's own. -/
import Derived.Test.YtfalhknkaebfoaaSpB
import Derived.Test.YtfalhknkaebfoaaKS
namespace Go.Proofs.Ytfalhknkaebfoaa
open Go.Sx
set_option maxRecDepth 100000
set_option linter.unusedVariables false
set_option linter.unusedSimpArgs false
theorem vc_asked (L : List Sx.Obj) (k : Key) (d : Int) (c : Bool) :
  (decide (n2i (llen L) = 0) = true → 1 = q_asked L k d c) ∧ (decide (n2i (llen L) = 0) = false → ((!q_is L k || !decide (k.kind = d)) = true → 190 = q_asked L k d c) ∧ ((!q_is L k || !decide (k.kind =
    d)) = false → (c = true → pNe 4 ∧ inRo IntKind.i64 (k.rights.tmod 4)) ∧ ((c && !decide (k.rights.tmod 4 = 0)) = true → 191 = q_asked L k d c) ∧ ((c && !decide (k.rights.tmod 4 = 0)) = false → 0 =
    q_asked L k d c))) := by
  unfold q_asked
  refine ⟨fun h => ?_, fun h => ⟨fun h2 => ?_, fun h2 => ⟨fun hc => ⟨by unfold pNe; omega, ?_⟩, fun h3 => ?_, fun h3 => ?_⟩⟩⟩
  · rw [if_pos (by simpa [n2i] using h)]
  · rw [if_neg (by simpa [n2i] using h), if_pos h2]
  · have h1 := Int.tmod_lt_of_pos k.rights (show (0 : Int) < 4 by omega)
    have h2 := Int.lt_tmod_of_pos k.rights (show (0 : Int) < 4 by omega)
    simp only [inRo, inR]; omega
  · rw [if_neg (by simpa [n2i] using h), if_neg (by rw [h2]; simp), if_pos h3]
  · rw [if_neg (by simpa [n2i] using h), if_neg (by rw [h2]; simp), if_neg (by rw [h3]; simp)]
theorem ct_asked : CtOK Try.prog 107 g_asked :=
  mkR_ok (consA_ok liA_ok (consA_ok kA_ok (consA_ok iA_ok (consA_ok bA_ok nilA_ok)))) (fun _ => rfl) fun a hq hok => by
    obtain ⟨L, k, d, c, _⟩ := a
    exact vc_call (inl := noInl) (ann := noAnn) (oks_cons ct_lcounts oks_nil) (vc_asked L k d c) (by kernel_rfl)
theorem vc_rput (L : List Sx.Obj) (i : Int) (o : Sx.Obj) (hq : q_rputQ L i) :
  pFitW (llen L) 856 ∧ (0 ≤ i ∧ i < ↑(llen L)) ∧ i.toNat < llen L ∧ ∀ (nid : Nat), some (V.sa nid) = some (V.sa nid) ∧ some [Res.arr (some 32) 163 (TL.ob (lset L i.toNat o))] = some [Res.arr (some 32)
    163 (TL.ob (lset L i.toNat o))] := by
  obtain ⟨h0, h1, h2⟩ := hq
  exact ⟨⟨by simp only [maxLen]; omega, by omega⟩, ⟨h0, h1⟩, by omega, fun nid => ⟨rfl, rfl⟩⟩
theorem ct_rput : CtOK Try.prog 106 g_rput :=
  mkRN_ok (π := fun _ => [2]) (consA_ok liA_ok (consA_ok iA_ok (consA_ok oA_ok nilA_ok))) (fun _ => by simp) (fun _ _ => rfl) fun a hq hok => by
    obtain ⟨L, i, o, _⟩ := a
    exact vc_call (inl := noInl) (ann := noAnn) oks_nil (vc_rput L i o hq) (by kernel_rfl)
theorem vc_rbank (L : List Sx.Obj) (k : Key) :
  ((!decide (q_asked L k 4 false = 0)) = true → 0 = q_bnkX L k ∧ 0 = q_bnkY L k ∧ q_asked L k 4 false = q_bnkE L k) ∧ ((!decide (q_asked L k 4 false = 0)) = false → (0 ≤ k.oid ∧ k.oid < ↑(llen L)) ∧
    k.oid.toNat < llen L ∧ (0 ≤ k.oid ∧ k.oid < ↑(llen L)) ∧ k.oid.toNat < llen L ∧ ((!decide (((lget L k.oid.toNat free).slots.at 0).kind = 1) || !decide (((lget L k.oid.toNat free).slots.at 1).kind = 1)
    || decide (((lget L k.oid.toNat free).slots.at 0).value < 0) || decide (((lget L k.oid.toNat free).slots.at 1).value < ((lget L k.oid.toNat free).slots.at 0).value) || decide (n2i (llen L) ≤ ((lget L
    k.oid.toNat free).slots.at 1).value)) = true → 0 = q_bnkX L k ∧ 0 = q_bnkY L k ∧ 220 = q_bnkE L k) ∧ ((!decide (((lget L k.oid.toNat free).slots.at 0).kind = 1) || !decide (((lget L k.oid.toNat
    free).slots.at 1).kind = 1) || decide (((lget L k.oid.toNat free).slots.at 0).value < 0) || decide (((lget L k.oid.toNat free).slots.at 1).value < ((lget L k.oid.toNat free).slots.at 0).value) ||
    decide (n2i (llen L) ≤ ((lget L k.oid.toNat free).slots.at 1).value)) = false → ((lget L k.oid.toNat free).slots.at 0).value = q_bnkX L k ∧ ((lget L k.oid.toNat free).slots.at 1).value = q_bnkY L k ∧ 0
    = q_bnkE L k)) := by
  rw [bnk_cond]
  refine ⟨fun h => ?_, fun h => ?_⟩
  · obtain ⟨e1, e2, e3⟩ := bnkE_asked (show q_asked L k 4 false ≠ 0 by simpa using h)
    rw [e1, e2, e3]; exact ⟨rfl, rfl, rfl⟩
  · have h0 : q_asked L k 4 false = 0 := by simpa using h
    obtain ⟨_, b2, b3, _⟩ := is_all (asked_ok h0).1
    refine ⟨⟨b2, b3⟩, by unfold llen; omega, ⟨b2, b3⟩, by unfold llen; omega, fun h2 => ?_, fun h2 => ?_⟩
    · obtain ⟨e1, e2, e3⟩ := bnkE_no h0 (by simpa using h2)
      rw [e1, e2, e3]; exact ⟨rfl, rfl, rfl⟩
    · obtain ⟨e1, e2, e3⟩ := bnkE_yes h0 (by simpa using h2)
      rw [e1, e2, e3]; exact ⟨rfl, rfl, rfl⟩
theorem ct_rbank : CtOK Try.prog 85 g_rbank :=
  mkR_ok (consA_ok liA_ok kB_ok) (fun _ => rfl) fun a hq hok => by
    obtain ⟨L, k, _⟩ := a
    exact vc_call (inl := noInl) (ann := noAnn) (oks_cons ct_asked oks_nil) (vc_rbank L k) (by kernel_rfl)
theorem vc_rmake1 (L : List Sx.Obj) (f l kind : Int) (hq : q_mkQ L f l) :
  (∃ g, q_inv1m L f l g ∧ f = f ∧ l = l ∧ kind = kind ∧ f = g ∧ L = L) ∧ (∀ (g : Int), q_inv1m L f l g → (decide (g ≤ l) = true → (0 ≤ g ∧ g < ↑(llen L)) ∧ g.toNat < llen L ∧ ((!decide ((lget L g.toNat
    free).kind = 0)) = true → inRo IntKind.i64 (g + 1) ∧ ((∃ g', q_inv1m L f l g' ∧ (l + 1 - g').toNat < (l + 1 - g).toNat ∧ f = f ∧ l = l ∧ kind = kind ∧ g + 1 = g' ∧ L = L) ∨ ∃ g', q_inv2m L f l g' ∧ (l
    + 1 - g').toNat < (l + 1 - g).toNat ∧ False)) ∧ ((!decide ((lget L g.toNat free).kind = 0)) = false → (decide (4294967295 ≤ (lget L g.toNat free).count) = true → q_rputQ L g ∧ inRo IntKind.i64 (g + 1)
    ∧ ((∃ g', q_inv1m L f l g' ∧ (l + 1 - g').toNat < (l + 1 - g).toNat ∧ False) ∨ ∃ g', q_inv2m L f l g' ∧ (l + 1 - g').toNat < (l + 1 - g).toNat ∧ f = f ∧ l = l ∧ kind = kind ∧ g + 1 = g' ∧ L = L ∧ lset
    L g.toNat (Obj.mk 3 (lget L g.toNat free).count free.calls free.slots free.bytes) = q_mkG L f g')) ∧ (decide (4294967295 ≤ (lget L g.toNat free).count) = false → inRo IntKind.i64 ((lget L g.toNat
    free).count + 1) ∧ q_rputQ L g ∧ q_mkc L f l = true ∧ g = q_mkI L f l ∧ lset L g.toNat (Obj.mk kind ((lget L g.toNat free).count + 1) free.calls free.slots free.bytes) = q_mkL L f l kind))) ∧ (decide
    (g ≤ l) = false → q_mkc L f l = false ∧ -1 = q_mkI L f l)) ∧ ∀ (g : Int), q_inv2m L f l g → (decide (g ≤ l) = true → (0 ≤ g ∧ g < ↑(llen (q_mkG L f g))) ∧ g.toNat < llen (q_mkG L f g) ∧ ((!decide
    ((lget (q_mkG L f g) g.toNat free).kind = 0)) = true → inRo IntKind.i64 (g + 1) ∧ ∃ g', q_inv2m L f l g' ∧ (l + 1 - g').toNat < (l + 1 - g).toNat ∧ f = f ∧ l = l ∧ kind = kind ∧ g + 1 = g' ∧ L = L ∧
    q_mkG L f g = q_mkG L f g') ∧ ((!decide ((lget (q_mkG L f g) g.toNat free).kind = 0)) = false → (decide (4294967295 ≤ (lget (q_mkG L f g) g.toNat free).count) = true → q_rputQ (q_mkG L f g) g ∧ inRo
    IntKind.i64 (g + 1) ∧ ∃ g', q_inv2m L f l g' ∧ (l + 1 - g').toNat < (l + 1 - g).toNat ∧ f = f ∧ l = l ∧ kind = kind ∧ g + 1 = g' ∧ L = L ∧ lset (q_mkG L f g) g.toNat (Obj.mk 3 (lget (q_mkG L f g)
    g.toNat free).count free.calls free.slots free.bytes) = q_mkG L f g') ∧ (decide (4294967295 ≤ (lget (q_mkG L f g) g.toNat free).count) = false → inRo IntKind.i64 ((lget (q_mkG L f g) g.toNat
    free).count + 1) ∧ q_rputQ (q_mkG L f g) g ∧ q_mkc L f l = true ∧ g = q_mkI L f l ∧ lset (q_mkG L f g) g.toNat (Obj.mk kind ((lget (q_mkG L f g) g.toNat free).count + 1) free.calls free.slots
    free.bytes) = q_mkL L f l kind))) ∧ (decide (g ≤ l) = false → q_mkc L f l = true ∧ -1 = q_mkI L f l ∧ q_mkG L f g = q_mkL L f l kind) := by
  obtain ⟨hL, h0, hl, hfl⟩ := hq
  have hlen := okL_len hL
  have hll : (llen L : Int) = (L.length : Int) := rfl
  have hrq : ∀ (M : List Sx.Obj) (g : Int), M.length = L.length → 0 ≤ g → g ≤ l → q_rputQ M g := fun M g hM h1 h2 => ⟨h1, by unfold llen; omega, by unfold llen; omega⟩
  have hin : ∀ g : Int, 0 ≤ g → g ≤ l → inRo IntKind.i64 (g + 1) := fun g h1 h2 => by simp only [inRo, inR]; omega
  have hcnt : ∀ j : Nat, j < L.length → 0 ≤ (lget L j free).count ∧ (lget L j free).count ≤ 4294967295 := fun j hj => ⟨(obj_cnt (okL_get hL j hj)).1, (obj_cnt (okL_get hL j hj)).2.1⟩
  have hci : ∀ j : Nat, j < L.length → inRo IntKind.i64 ((lget L j free).count + 1) := fun j hj => by have := hcnt j hj; simp only [inRo, inR]; omega
  refine ⟨⟨f, ⟨by omega, hfl, noNew_zero, anyR_zero⟩, (by (repeat' apply And.intro) <;> rfl)⟩, fun g hg => ⟨fun hgl => ?_, fun hgl => ?_⟩, fun g hg => ⟨fun hgl => ?_, fun hgl => ?_⟩⟩
  · obtain ⟨g0, g1, g2, g3⟩ := hg
    have hgl := of_decide_eq_true hgl
    have hgn : g.toNat < L.length := by omega
    refine ⟨⟨by omega, by omega⟩, hgn, fun hk => ?_, fun hk => ⟨fun hc => ?_, fun hc => ?_⟩⟩
    · obtain ⟨e1, e2⟩ := mk_busy (o := lget L g.toNat free) (by simpa using hk)
      exact ⟨hin g (by omega) hgl, .inl ⟨g + 1, ⟨by omega, by omega, noNew_succ g2 e2, by rw [anyR_no (by omega) e1]; exact g3⟩, by omega, (by (repeat' apply And.intro) <;> rfl)⟩⟩
    · obtain ⟨e1, e2⟩ := mk_ret (o := lget L g.toNat free) (by simpa using hk) (of_decide_eq_true hc)
      have hs := mkG_ret (L := L) (f := f) (g := g) (by omega) (by omega) g0 e1
      rw [mkG_none g3] at hs
      exact ⟨hrq L g rfl (by omega) hgl, hin g (by omega) hgl, .inr ⟨g + 1, ⟨by omega, by omega, noNew_succ g2 e2, anyR_yes (by omega) (by omega) g0 e1⟩, by omega, rfl, rfl, rfl, rfl, rfl, hs⟩⟩
    · obtain ⟨e1, e2⟩ := mk_new (o := lget L g.toNat free) (by simpa using hk) (of_decide_eq_false hc)
      obtain ⟨m1, m2, m3⟩ := mk_made kind h0 g0 hgl (by omega) g2 e2
      rw [mkG_none g3] at m3
      exact ⟨hci _ hgn, hrq L g rfl (by omega) hgl, m2, m1.symm, m3.symm⟩
  · obtain ⟨g0, g1, g2, g3⟩ := hg
    have hgl := of_decide_eq_false hgl
    have : g = l + 1 := by omega
    subst this
    obtain ⟨m1, m2, m3⟩ := mk_end kind g2
    exact ⟨by rw [m3]; exact g3, m1.symm⟩
  · obtain ⟨g0, g1, g2, g3⟩ := hg
    have hgl := of_decide_eq_true hgl
    have hgn : g.toNat < L.length := by omega
    have hgl2 : (llen (q_mkG L f g) : Int) = (L.length : Int) := by unfold llen; rw [mkG_len]
    have hga := mkG_at (L := L) (f := f) (g := g) (by omega)
    rw [hga]
    refine ⟨⟨by omega, by omega⟩, by omega, fun hk => ?_, fun hk => ⟨fun hc => ?_, fun hc => ?_⟩⟩
    · obtain ⟨e1, e2⟩ := mk_busy (o := lget L g.toNat free) (by simpa using hk)
      exact ⟨hin g (by omega) hgl, g + 1, ⟨by omega, by omega, noNew_succ g2 e2, by rw [anyR_no (by omega) e1]; exact g3⟩, by omega, rfl, rfl, rfl, rfl, rfl, (mkG_same (by omega) e1).symm⟩
    · obtain ⟨e1, e2⟩ := mk_ret (o := lget L g.toNat free) (by simpa using hk) (of_decide_eq_true hc)
      exact ⟨hrq _ g mkG_len (by omega) hgl, hin g (by omega) hgl, g + 1, ⟨by omega, by omega, noNew_succ g2 e2, anyR_yes (by omega) (by omega) g0 e1⟩, by omega, rfl, rfl, rfl, rfl, rfl, mkG_ret (by omega) (by omega) g0 e1⟩
    · obtain ⟨e1, e2⟩ := mk_new (o := lget L g.toNat free) (by simpa using hk) (of_decide_eq_false hc)
      obtain ⟨m1, m2, m3⟩ := mk_made kind h0 g0 hgl (by omega) g2 e2
      exact ⟨hci _ hgn, hrq _ g mkG_len (by omega) hgl, m2, m1.symm, m3.symm⟩
  · obtain ⟨g0, g1, g2, g3⟩ := hg
    have hgl := of_decide_eq_false hgl
    have : g = l + 1 := by omega
    subst this
    obtain ⟨m1, m2, m3⟩ := mk_end kind g2
    exact ⟨by rw [m3]; exact g3, m1.symm, m2.symm⟩
theorem cl_rmake1 (L : List Sx.Obj) (f l kind : Int) (hq : q_mkQ L f l) : CallTo Try.prog 104 [.sa 0, .it .i64 f, .it .i64 l, .it .i64 kind] [.ro (.arr none 163 (.ob L))] (kLx (q_mkc L f l) (q_mkL L f l kind) [.it .i64 (q_mkI L f l)]) (fun _ _ => False) :=
  vch_call (inl := noInl) (ann := (annL [(104, 2, lpA2 [0, 1, 2, 3] (fun g => [(10, .it .i64 g)]) 0 tO 163 (fun g => .ob (q_mkG L f g)) (q_inv1m L f l) (q_inv2m L f l) (iadd l 1))])) (oks_cons ct_rput oks_nil) hoks_nil (vc_rmake1 L f l kind hq) (by kernel_rfl)
theorem hc_rmake1 : HOK Try.prog 104 h_rmake1 :=
  hLx_ok (m := fun x => i3B.cn x 0) (rdL_ok i3B_ok (fun _ => rfl)) (fun _ => rfl) (fun _ _ => rfl) fun L x hq => cl_rmake1 L x.1 x.2.1 x.2.2.1 hq
theorem vc_rmake (L : List Sx.Obj) (k : Key) (kind : Int) (hL : q_okL L) :
  ((decide (q_bnkE L k = 0) && !decide (kind = 1) && !decide (kind = 2)) = true → q_bmkC L k kind = false ∧ void = q_bmkK L k kind ∧ 2 = q_bmkE L k kind) ∧ ((decide (q_bnkE L k = 0) && !decide (kind = 1)
    && !decide (kind = 2)) = false → ((!decide (q_bnkE L k = 0)) = true → q_bmkC L k kind = false ∧ void = q_bmkK L k kind ∧ q_bnkE L k = q_bmkE L k kind) ∧ ((!decide (q_bnkE L k = 0)) = false → true =
    true ∧ q_mkQ L (q_bnkX L k) (q_bnkY L k) ∧ (q_mkc L (q_bnkX L k) (q_bnkY L k) = false → (decide (q_mkI L (q_bnkX L k) (q_bnkY L k) < 0) = true → q_bmkC L k kind = false ∧ void = q_bmkK L k kind ∧ 221 =
    q_bmkE L k kind) ∧ (decide (q_mkI L (q_bnkX L k) (q_bnkY L k) < 0) = false → inRo IntKind.i64 (1 + kind) ∧ (0 ≤ q_mkI L (q_bnkX L k) (q_bnkY L k) ∧ q_mkI L (q_bnkX L k) (q_bnkY L k) < ↑(llen L)) ∧
    (q_mkI L (q_bnkX L k) (q_bnkY L k)).toNat < llen L ∧ q_bmkC L k kind = false ∧ Key.mk (1 + kind) (q_mkI L (q_bnkX L k) (q_bnkY L k)) (lget L (q_mkI L (q_bnkX L k) (q_bnkY L k)).toNat free).count
    void.call void.rights void.value = q_bmkK L k kind ∧ 0 = q_bmkE L k kind)) ∧ (q_mkc L (q_bnkX L k) (q_bnkY L k) = true → (decide (q_mkI L (q_bnkX L k) (q_bnkY L k) < 0) = true → q_bmkC L k kind = true
    ∧ (void = q_bmkK L k kind ∧ 221 = q_bmkE L k kind) ∧ q_mkL L (q_bnkX L k) (q_bnkY L k) kind = q_bmkL L k kind) ∧ (decide (q_mkI L (q_bnkX L k) (q_bnkY L k) < 0) = false → inRo IntKind.i64 (1 + kind) ∧
    (0 ≤ q_mkI L (q_bnkX L k) (q_bnkY L k) ∧ q_mkI L (q_bnkX L k) (q_bnkY L k) < ↑(llen (q_mkL L (q_bnkX L k) (q_bnkY L k) kind))) ∧ (q_mkI L (q_bnkX L k) (q_bnkY L k)).toNat < llen (q_mkL L (q_bnkX L k)
    (q_bnkY L k) kind) ∧ q_bmkC L k kind = true ∧ (Key.mk (1 + kind) (q_mkI L (q_bnkX L k) (q_bnkY L k)) (lget (q_mkL L (q_bnkX L k) (q_bnkY L k) kind) (q_mkI L (q_bnkX L k) (q_bnkY L k)).toNat free).count
    void.call void.rights void.value = q_bmkK L k kind ∧ 0 = q_bmkE L k kind) ∧ q_mkL L (q_bnkX L k) (q_bnkY L k) kind = q_bmkL L k kind)))) := by
  refine ⟨fun h => ?_, fun h => ⟨fun h2 => ?_, fun h2 => ?_⟩⟩
  · simp only [Bool.and_eq_true, Bool.not_eq_true', decide_eq_true_eq, decide_eq_false_iff_not] at h
    exact bmk_bad h.1.1 h.1.2 h.2
  · exact bmk_err (by simpa using h2)
  · have h2 : q_bnkE L k = 0 := by simpa using h2
    have hk : kind = 1 ∨ kind = 2 := by
      simp only [h2, decide_true, Bool.true_and, Bool.and_eq_false_iff, Bool.not_eq_false', decide_eq_true_eq] at h
      exact h
    obtain ⟨_, a0, a1, a2, _⟩ := bnk_ok h2
    obtain ⟨x1, x2⟩ := bnkXY h2
    have hlen := okL_len hL
    rw [x1, x2]
    have hin : inRo IntKind.i64 (1 + kind) := by simp only [inRo, inR]; omega
    have hm := mkI_in (L := L) (l := q_bnkB L k) a0
    refine ⟨rfl, ⟨hL, a0, a2, by omega⟩, fun hc => ⟨fun hi => ?_, fun hi => ?_⟩, fun hc => ⟨fun hi => ?_, fun hi => ?_⟩⟩
    · have hi := of_decide_eq_true hi
      obtain ⟨m1, m2, m3, m4⟩ := bmk_full h2 hk (by omega)
      exact ⟨m1.trans hc, m2, m3⟩
    · have hi := of_decide_eq_false hi
      rw [mkc_yes (by omega)] at hc
      simp at hc
    · have hi := of_decide_eq_true hi
      obtain ⟨m1, m2, m3, m4⟩ := bmk_full h2 hk (by omega)
      exact ⟨m1.trans hc, ⟨m2, m3⟩, m4⟩
    · have hi := of_decide_eq_false hi
      obtain ⟨m1, m2, m3, m4⟩ := bmk_yes h2 hk (by omega)
      rw [show llen (q_mkL L (q_bnkA L k) (q_bnkB L k) kind) = L.length from mkL_len]
      exact ⟨hin, ⟨by omega, by omega⟩, by omega, m1, ⟨m2, m3⟩, m4⟩
theorem cl_rmake (L : List Sx.Obj) (k : Key) (kind : Int) (hL : q_okL L) : CallTo Try.prog 80 [.sa 0, .key k, .it .i64 kind] [.ro (.arr none 163 (.ob L))] (kLx (q_bmkC L k kind) (q_bmkL L k kind) [.key (q_bmkK L k kind), .it .i64 (q_bmkE L k kind)]) (fun _ _ => False) :=
  vch_call (inl := noInl) (ann := noAnn) (oks_cons ct_rbank oks_nil) (hoks_cons hc_rmake1 hoks_nil) (vc_rmake L k kind hL) (by kernel_rfl)
theorem hc_rmake : HOK Try.prog 80 h_rmake :=
  hLx_ok (m := fun x => kiB.cn x 0) (rdL_ok kiB_ok (fun _ => rfl)) (fun _ => rfl) (fun _ _ => rfl) fun L x hq => cl_rmake L x.1 x.2.1 hq
theorem vc_rdes (L : List Sx.Obj) (k v : Key) (hL : q_okL L) :
  ((!decide (q_bnkE L k = 0)) = true → q_bdsC L k v = false ∧ q_bnkE L k = q_bdsE L k v) ∧ ((!decide (q_bnkE L k = 0)) = false → ((!q_is L v || !decide (v.kind = 2) && !decide (v.kind = 3)) = true →
    q_bdsC L k v = false ∧ 5 = q_bdsE L k v) ∧ ((!q_is L v || !decide (v.kind = 2) && !decide (v.kind = 3)) = false → ((decide (v.oid < q_bnkX L k) || decide (q_bnkY L k < v.oid) || decide (v.oid = k.oid))
    = true → q_bdsC L k v = false ∧ 4 = q_bdsE L k v) ∧ ((decide (v.oid < q_bnkX L k) || decide (q_bnkY L k < v.oid) || decide (v.oid = k.oid)) = false → (0 ≤ v.oid ∧ v.oid < ↑(llen L)) ∧ v.oid.toNat <
    llen L ∧ q_rputQ L v.oid ∧ q_bdsC L k v = true ∧ 0 = q_bdsE L k v ∧ lset L v.oid.toNat (Obj.mk free.kind (lget L v.oid.toNat free).count free.calls free.slots free.bytes) = q_bdsL L k v))) := by
  refine ⟨fun h => ?_, fun h => ⟨fun h2 => ?_, fun h2 => ⟨fun h3 => ?_, fun h3 => ?_⟩⟩⟩
  · have h : q_bnkE L k ≠ 0 := by simpa using h
    have e : q_bdsE L k v = q_bnkE L k := by unfold q_bdsE; rw [if_neg h]
    exact ⟨by unfold q_bdsC; rw [e]; simpa using h, e.symm⟩
  · have h : q_bnkE L k = 0 := by simpa using h
    have e : q_bdsE L k v = 5 := by unfold q_bdsE; rw [if_pos h, thing_eq, h2]; rfl
    exact ⟨by unfold q_bdsC; rw [e]; rfl, e.symm⟩
  · have h : q_bnkE L k = 0 := by simpa using h
    obtain ⟨x1, x2⟩ := bnkXY h
    rw [x1, x2] at h3
    have e : q_bdsE L k v = 4 := by
      unfold q_bdsE
      rw [if_pos h, thing_eq, h2, if_pos (show (!false) = true from rfl), if_neg]
      simp only [Bool.or_eq_true, decide_eq_true_eq] at h3
      omega
    exact ⟨by unfold q_bdsC; rw [e]; rfl, e.symm⟩
  · have h : q_bnkE L k = 0 := by simpa using h
    obtain ⟨x1, x2⟩ := bnkXY h
    rw [x1, x2] at h3
    have ht : q_thing L v = true := by rw [thing_eq, h2]; rfl
    obtain ⟨_, b2, b3, _⟩ := is_all (thing_is ht)
    have e : q_bdsE L k v = 0 := by
      unfold q_bdsE
      rw [if_pos h, ht, if_pos rfl, if_pos]
      simp only [Bool.or_eq_false_iff, decide_eq_false_iff_not] at h3
      omega
    have hlen := okL_len hL
    exact ⟨⟨b2, b3⟩, by unfold llen; omega, ⟨b2, b3, by unfold llen; omega⟩, by unfold q_bdsC; rw [e]; rfl, e.symm, by unfold q_bdsL; rw [if_pos e]; rfl⟩
theorem cl_rdes (L : List Sx.Obj) (k v : Key) (hL : q_okL L) : CallTo Try.prog 81 [.sa 0, .key k, .key v] [.ro (.arr none 163 (.ob L))] (kLx (q_bdsC L k v) (q_bdsL L k v) [.it .i64 (q_bdsE L k v)]) (fun _ _ => False) :=
  vch_call (inl := noInl) (ann := noAnn) (oks_cons ct_rbank (oks_cons ct_lcounts (oks_cons ct_rput oks_nil))) hoks_nil (vc_rdes L k v hL) (by kernel_rfl)
theorem hc_rdes : HOK Try.prog 81 h_rdes :=
  hLx_ok (m := fun x => kkB.cn x 0) (rdL_ok kkB_ok (fun _ => rfl)) (fun _ => rfl) (fun _ _ => rfl) fun L x hq => cl_rdes L x.1 x.2.1 hq
theorem vc_rraze (L : List Sx.Obj) (k : Key) (hL : q_okL L) :
  ((!decide (q_bnkE L k = 0)) = true → q_brzC L k = false ∧ 0 = q_brzN L k ∧ q_bnkE L k = q_bnkE L k) ∧ ((!decide (q_bnkE L k = 0)) = false → (∃ g, q_inv1r L k g ∧ q_bnkX L k = q_bnkX L k ∧ q_bnkY L k =
    q_bnkY L k ∧ 0 = q_rzN L (q_bnkA L k) g k.oid ∧ q_bnkX L k = g ∧ L = L ∧ k = k) ∧ (∀ (g : Int), q_inv1r L k g → (decide (g ≤ q_bnkY L k) = true → (0 ≤ g ∧ g < ↑(llen L)) ∧ g.toNat < llen L ∧ ((!decide
    ((lget L g.toNat free).kind = 1)) = true → 0 ≤ g ∧ g < ↑(llen L)) ∧ ((!decide ((lget L g.toNat free).kind = 1)) = true → g.toNat < llen L) ∧ (((decide ((lget L g.toNat free).kind = 1) || decide ((lget
    L g.toNat free).kind = 2)) && !decide (g = k.oid)) = true → (0 ≤ g ∧ g < ↑(llen L)) ∧ g.toNat < llen L ∧ q_rputQ L g ∧ inRo IntKind.i64 (q_rzN L (q_bnkA L k) g k.oid + 1) ∧ inRo IntKind.i64 (g + 1) ∧
    ((∃ g', q_inv1r L k g' ∧ (q_bnkB L k + 1 - g').toNat < (q_bnkB L k + 1 - g).toNat ∧ False) ∨ ∃ g', q_inv2r L k g' ∧ (q_bnkB L k + 1 - g').toNat < (q_bnkB L k + 1 - g).toNat ∧ q_bnkX L k = q_bnkX L k ∧
    q_bnkY L k = q_bnkY L k ∧ q_rzN L (q_bnkA L k) g k.oid + 1 = q_rzN L (q_bnkA L k) g' k.oid ∧ g + 1 = g' ∧ L = L ∧ k = k ∧ lset L g.toNat (Obj.mk free.kind (lget L g.toNat free).count free.calls
    free.slots free.bytes) = q_rzG L (q_bnkA L k) g' k.oid)) ∧ (((decide ((lget L g.toNat free).kind = 1) || decide ((lget L g.toNat free).kind = 2)) && !decide (g = k.oid)) = false → inRo IntKind.i64 (g +
    1) ∧ ((∃ g', q_inv1r L k g' ∧ (q_bnkB L k + 1 - g').toNat < (q_bnkB L k + 1 - g).toNat ∧ q_bnkX L k = q_bnkX L k ∧ q_bnkY L k = q_bnkY L k ∧ q_rzN L (q_bnkA L k) g k.oid = q_rzN L (q_bnkA L k) g' k.oid
    ∧ g + 1 = g' ∧ L = L ∧ k = k) ∨ ∃ g', q_inv2r L k g' ∧ (q_bnkB L k + 1 - g').toNat < (q_bnkB L k + 1 - g).toNat ∧ False))) ∧ (decide (g ≤ q_bnkY L k) = false → q_brzC L k = false ∧ q_rzN L (q_bnkA L k)
    g k.oid = q_brzN L k ∧ 0 = q_bnkE L k)) ∧ ∀ (g : Int), q_inv2r L k g → (decide (g ≤ q_bnkY L k) = true → (0 ≤ g ∧ g < ↑(llen (q_rzG L (q_bnkA L k) g k.oid))) ∧ g.toNat < llen (q_rzG L (q_bnkA L k) g
    k.oid) ∧ ((!decide ((lget (q_rzG L (q_bnkA L k) g k.oid) g.toNat free).kind = 1)) = true → 0 ≤ g ∧ g < ↑(llen (q_rzG L (q_bnkA L k) g k.oid))) ∧ ((!decide ((lget (q_rzG L (q_bnkA L k) g k.oid) g.toNat
    free).kind = 1)) = true → g.toNat < llen (q_rzG L (q_bnkA L k) g k.oid)) ∧ (((decide ((lget (q_rzG L (q_bnkA L k) g k.oid) g.toNat free).kind = 1) || decide ((lget (q_rzG L (q_bnkA L k) g k.oid)
    g.toNat free).kind = 2)) && !decide (g = k.oid)) = true → (0 ≤ g ∧ g < ↑(llen (q_rzG L (q_bnkA L k) g k.oid))) ∧ g.toNat < llen (q_rzG L (q_bnkA L k) g k.oid) ∧ q_rputQ (q_rzG L (q_bnkA L k) g k.oid) g
    ∧ inRo IntKind.i64 (q_rzN L (q_bnkA L k) g k.oid + 1) ∧ inRo IntKind.i64 (g + 1) ∧ ∃ g', q_inv2r L k g' ∧ (q_bnkB L k + 1 - g').toNat < (q_bnkB L k + 1 - g).toNat ∧ q_bnkX L k = q_bnkX L k ∧ q_bnkY L k
    = q_bnkY L k ∧ q_rzN L (q_bnkA L k) g k.oid + 1 = q_rzN L (q_bnkA L k) g' k.oid ∧ g + 1 = g' ∧ L = L ∧ k = k ∧ lset (q_rzG L (q_bnkA L k) g k.oid) g.toNat (Obj.mk free.kind (lget (q_rzG L (q_bnkA L k)
    g k.oid) g.toNat free).count free.calls free.slots free.bytes) = q_rzG L (q_bnkA L k) g' k.oid) ∧ (((decide ((lget (q_rzG L (q_bnkA L k) g k.oid) g.toNat free).kind = 1) || decide ((lget (q_rzG L
    (q_bnkA L k) g k.oid) g.toNat free).kind = 2)) && !decide (g = k.oid)) = false → inRo IntKind.i64 (g + 1) ∧ ∃ g', q_inv2r L k g' ∧ (q_bnkB L k + 1 - g').toNat < (q_bnkB L k + 1 - g).toNat ∧ q_bnkX L k
    = q_bnkX L k ∧ q_bnkY L k = q_bnkY L k ∧ q_rzN L (q_bnkA L k) g k.oid = q_rzN L (q_bnkA L k) g' k.oid ∧ g + 1 = g' ∧ L = L ∧ k = k ∧ q_rzG L (q_bnkA L k) g k.oid = q_rzG L (q_bnkA L k) g' k.oid)) ∧
    (decide (g ≤ q_bnkY L k) = false → q_brzC L k = true ∧ (q_rzN L (q_bnkA L k) g k.oid = q_brzN L k ∧ 0 = q_bnkE L k) ∧ q_rzG L (q_bnkA L k) g k.oid = q_brzL L k)) := by
  refine ⟨fun h => ?_, fun h => ?_⟩
  · have h : q_bnkE L k ≠ 0 := by simpa using h
    exact ⟨by unfold q_brzC; simp [h], by unfold q_brzN; rw [if_neg h], rfl⟩
  have h : q_bnkE L k = 0 := by simpa using h
  obtain ⟨_, a0, a1, a2, _⟩ := bnk_ok h
  obtain ⟨x1, x2⟩ := bnkXY h
  have hlen := okL_len hL
  have hll : (llen L : Int) = (L.length : Int) := rfl
  rw [x1, x2]
  have hit : ∀ g : Int, (((decide ((lget L g.toNat free).kind = 1) || decide ((lget L g.toNat free).kind = 2)) && !decide (g = k.oid))) = q_rzHit L g k.oid := fun g => rfl
  have hin : ∀ g : Int, q_bnkA L k ≤ g → g ≤ q_bnkB L k → inRo IntKind.i64 (g + 1) := fun g h1 h2 => by simp only [inRo, inR]; omega
  have hnn : ∀ g : Int, inRo IntKind.i64 (q_rzN L (q_bnkA L k) g k.oid + 1) := fun g => by
    have := rzN_nonneg (L := L) (f := q_bnkA L k) (g := g) (oid := k.oid)
    have := rzN_le (L := L) (f := q_bnkA L k) (g := g) (oid := k.oid)
    simp only [inRo, inR]; omega
  refine ⟨⟨q_bnkA L k, ⟨by omega, by omega, rzN_zero⟩, rfl, rfl, rzN_zero.symm, rfl, rfl, rfl⟩, fun g hg => ⟨fun hgl => ?_, fun hgl => ?_⟩, fun g hg => ⟨fun hgl => ?_, fun hgl => ?_⟩⟩
  · obtain ⟨g0, g1, g2⟩ := hg
    have hgl := of_decide_eq_true hgl
    have hr1 : 0 ≤ g ∧ g < (llen L : Int) := ⟨by omega, by omega⟩
    have hr2 : g.toNat < llen L := by omega
    rw [hit g]
    refine ⟨hr1, hr2, fun _ => hr1, fun _ => hr2, fun hh => ?_, fun hh => ?_⟩
    · have hs := rzN_succ (L := L) (f := q_bnkA L k) (oid := k.oid) (by omega : 0 ≤ g) (by omega) g0 hh
      have hs2 := rzG_set (L := L) (f := q_bnkA L k) (oid := k.oid) (by omega : 0 ≤ g) (by omega) g0 hh
      rw [rzG_none g2] at hs2
      exact ⟨hr1, hr2, ⟨by omega, by omega, by omega⟩, hnn g, hin g g0 hgl, .inr ⟨g + 1, ⟨by omega, by omega, by omega⟩, by omega, rfl, rfl, hs.symm, rfl, rfl, rfl, hs2⟩⟩
    · have hs := rzN_same (L := L) (f := q_bnkA L k) (oid := k.oid) (by omega : 0 ≤ g) g0 hh
      exact ⟨hin g g0 hgl, .inl ⟨g + 1, ⟨by omega, by omega, by omega⟩, by omega, rfl, rfl, hs.symm, rfl, rfl, rfl⟩⟩
  · obtain ⟨g0, g1, g2⟩ := hg
    have hgl := of_decide_eq_false hgl
    have : g = q_bnkB L k + 1 := by omega
    subst this
    exact ⟨by unfold q_brzC; simp [h, g2], by unfold q_brzN; rw [if_pos h], h.symm⟩
  · obtain ⟨g0, g1, g2⟩ := hg
    have hgl := of_decide_eq_true hgl
    have hgz : (llen (q_rzG L (q_bnkA L k) g k.oid)) = L.length := rzG_len
    have hr1 : 0 ≤ g ∧ g < ((L.length : Nat) : Int) := ⟨by omega, by omega⟩
    have hr2 : g.toNat < L.length := by omega
    rw [rzG_at (by omega), hit g, hgz]
    refine ⟨hr1, hr2, fun _ => hr1, fun _ => hr2, fun hh => ?_, fun hh => ?_⟩
    · have hs := rzN_succ (L := L) (f := q_bnkA L k) (oid := k.oid) (by omega : 0 ≤ g) (by omega) g0 hh
      have hs2 := rzG_set (L := L) (f := q_bnkA L k) (oid := k.oid) (by omega : 0 ≤ g) (by omega) g0 hh
      have := rzN_nonneg (L := L) (f := q_bnkA L k) (g := g) (oid := k.oid)
      exact ⟨hr1, hr2, ⟨by omega, by omega, by omega⟩, hnn g, hin g g0 hgl, g + 1, ⟨by omega, by omega, by omega⟩, by omega, rfl, rfl, hs.symm, rfl, rfl, rfl, hs2⟩
    · have hs := rzN_same (L := L) (f := q_bnkA L k) (oid := k.oid) (by omega : 0 ≤ g) g0 hh
      have hs2 := rzG_same (L := L) (f := q_bnkA L k) (oid := k.oid) (by omega : 0 ≤ g) g0 hh
      exact ⟨hin g g0 hgl, g + 1, ⟨by omega, by omega, by omega⟩, by omega, rfl, rfl, hs.symm, rfl, rfl, rfl, hs2.symm⟩
  · obtain ⟨g0, g1, g2⟩ := hg
    have hgl := of_decide_eq_false hgl
    have : g = q_bnkB L k + 1 := by omega
    subst this
    exact ⟨by unfold q_brzC; simp [h, g2], ⟨by unfold q_brzN; rw [if_pos h], h.symm⟩, by unfold q_brzL; rw [if_pos h]⟩
theorem cl_rraze (L : List Sx.Obj) (k : Key) (hL : q_okL L) : CallTo Try.prog 83 [.sa 0, .key k] [.ro (.arr none 163 (.ob L))] (kLx (q_brzC L k) (q_brzL L k) [.it .i64 (q_brzN L k), .it .i64 (q_bnkE L k)]) (fun _ _ => False) :=
  vch_call (inl := noInl) (ann := (annL [(83, 6, lpA2 [0, 3, 7, 8] (fun g => [(10, .it .i64 (q_rzN L (q_bnkA L k) g k.oid)), (11, .it .i64 g)]) 0 tO 163 (fun g => .ob (q_rzG L (q_bnkA L k) g k.oid)) (q_inv1r L k) (q_inv2r L k) (iadd (q_bnkB L k) 1))])) (oks_cons ct_rbank (oks_cons ct_rput oks_nil)) hoks_nil (vc_rraze L k hL) (by kernel_rfl)
theorem hc_rraze : HOK Try.prog 83 h_rraze :=
  hLx_ok (m := fun x => kB.cn x 0) (rdL_ok kB_ok (fun _ => rfl)) (fun _ => rfl) (fun _ _ => rfl) fun L x hq => cl_rraze L x.1 hq
theorem vc_rowns (L : List Sx.Obj) (k v : Key) :
  ((!decide (q_bnkE L k = 0)) = true → false = q_bow L k v ∧ q_bnkE L k = q_bnkE L k) ∧ ((!decide (q_bnkE L k = 0)) = false → (q_is L v && (decide (v.kind = 2) || decide (v.kind = 3)) && decide (q_bnkX L
    k ≤ v.oid) && decide (v.oid ≤ q_bnkY L k)) = q_bow L k v ∧ 0 = q_bnkE L k) := by
  refine ⟨fun h => ?_, fun h => ?_⟩
  · have h : q_bnkE L k ≠ 0 := by simpa using h
    exact ⟨by unfold q_bow; simp [h], rfl⟩
  · have h : q_bnkE L k = 0 := by simpa using h
    obtain ⟨x1, x2⟩ := bnkXY h
    rw [x1, x2]
    exact ⟨by unfold q_bow q_thing; simp [h], h.symm⟩
theorem ct_rowns : CtOK Try.prog 84 g_rowns :=
  mkR_ok (consA_ok liA_ok kkB_ok) (fun _ => rfl) fun a hq hok => by
    obtain ⟨L, k, v, _⟩ := a
    exact vc_call (inl := noInl) (ann := noAnn) (oks_cons ct_rbank (oks_cons ct_lcounts oks_nil)) (vc_rowns L k v) (by kernel_rfl)
theorem vc_rsplit (L : List Sx.Obj) (k : Key) (n : Int) (hL : q_okL L) :
  ((!decide (n < 1) && decide (q_bnkE L k = 0)) = true → inRo IntKind.i64 (q_bnkY L k - q_bnkX L k)) ∧ ((decide (q_bnkE L k = 0) && (decide (n < 1) || decide (q_bnkY L k - q_bnkX L k < n))) = true →
    q_bsC L k n = false ∧ void = q_bsK L k n ∧ 4 = q_bsE L k n) ∧ ((decide (q_bnkE L k = 0) && (decide (n < 1) || decide (q_bnkY L k - q_bnkX L k < n))) = false → ((!decide (q_bnkE L k = 0)) = true → q_bsC
    L k n = false ∧ void = q_bsK L k n ∧ q_bnkE L k = q_bsE L k n) ∧ ((!decide (q_bnkE L k = 0)) = false → true = true ∧ q_mkQ L (q_bnkX L k) (q_bnkY L k) ∧ (q_mkc L (q_bnkX L k) (q_bnkY L k) = false →
    ((!decide (q_mkI L (q_bnkX L k) (q_bnkY L k) < 0)) = true → inRo IntKind.i64 (q_bnkY L k - n)) ∧ ((decide (q_mkI L (q_bnkX L k) (q_bnkY L k) < 0) || decide (q_bnkY L k - n < q_mkI L (q_bnkX L k)
    (q_bnkY L k))) = true → q_bsC L k n = false ∧ void = q_bsK L k n ∧ 221 = q_bsE L k n) ∧ ((decide (q_mkI L (q_bnkX L k) (q_bnkY L k) < 0) || decide (q_bnkY L k - n < q_mkI L (q_bnkX L k) (q_bnkY L k)))
    = false → inRo IntKind.i64 (q_bnkY L k - n) ∧ inRo IntKind.i64 (q_bnkY L k - n + 1) ∧ (∃ g, q_invSp L k n g ∧ n = n ∧ q_bnkX L k = q_bnkX L k ∧ q_bnkY L k = q_bnkY L k ∧ q_mkI L (q_bnkX L k) (q_bnkY L
    k) = q_mkI L (q_bnkX L k) (q_bnkY L k) ∧ q_bnkY L k - n + 1 = g ∧ L = L ∧ k = k ∧ void = void) ∧ ∀ (g : Int), q_invSp L k n g → (decide (g ≤ q_bnkY L k) = true → (0 ≤ g ∧ g < ↑(llen L)) ∧ g.toNat <
    llen L ∧ ((!decide ((lget L g.toNat free).kind = 1)) = true → 0 ≤ g ∧ g < ↑(llen L)) ∧ ((!decide ((lget L g.toNat free).kind = 1)) = true → g.toNat < llen L) ∧ ((decide ((lget L g.toNat free).kind = 1)
    || decide ((lget L g.toNat free).kind = 2)) = true → q_bsC L k n = false ∧ void = q_bsK L k n ∧ 221 = q_bsE L k n) ∧ ((decide ((lget L g.toNat free).kind = 1) || decide ((lget L g.toNat free).kind =
    2)) = false → inRo IntKind.i64 (g + 1) ∧ ∃ g', q_invSp L k n g' ∧ (q_bnkB L k + 1 - g').toNat < (q_bnkB L k + 1 - g).toNat ∧ n = n ∧ q_bnkX L k = q_bnkX L k ∧ q_bnkY L k = q_bnkY L k ∧ q_mkI L (q_bnkX
    L k) (q_bnkY L k) = q_mkI L (q_bnkX L k) (q_bnkY L k) ∧ g + 1 = g' ∧ L = L ∧ k = k ∧ void = void)) ∧ (decide (g ≤ q_bnkY L k) = false → (0 ≤ q_mkI L (q_bnkX L k) (q_bnkY L k) ∧ q_mkI L (q_bnkX L k)
    (q_bnkY L k) < ↑(llen L)) ∧ (q_mkI L (q_bnkX L k) (q_bnkY L k)).toNat < llen L ∧ (0 ≤ k.oid ∧ k.oid < ↑(llen L)) ∧ k.oid.toNat < llen L ∧ inRo IntKind.i64 (q_bnkY L k - n) ∧ inRo IntKind.i64 (q_bnkY L
    k - n + 1) ∧ inRo IntKind.i64 (q_bnkY L k - n) ∧ q_rputQ L (q_mkI L (q_bnkX L k) (q_bnkY L k)) ∧ q_rputQ (lset L (q_mkI L (q_bnkX L k) (q_bnkY L k)).toNat (Obj.mk (lget L (q_mkI L (q_bnkX L k) (q_bnkY
    L k)).toNat free).kind (lget L (q_mkI L (q_bnkX L k) (q_bnkY L k)).toNat free).count (lget L (q_mkI L (q_bnkX L k) (q_bnkY L k)).toNat free).calls (((lget L (q_mkI L (q_bnkX L k) (q_bnkY L k)).toNat
    free).slots.put 0 (Key.mk 1 void.oid void.count void.call void.rights (q_bnkY L k - n + 1))).put 1 (Key.mk 1 void.oid void.count void.call void.rights (q_bnkY L k))) (lget L (q_mkI L (q_bnkX L k)
    (q_bnkY L k)).toNat free).bytes)) k.oid ∧ q_bsC L k n = true ∧ (Key.mk 4 (q_mkI L (q_bnkX L k) (q_bnkY L k)) (lget L (q_mkI L (q_bnkX L k) (q_bnkY L k)).toNat free).count void.call void.rights
    void.value = q_bsK L k n ∧ 0 = q_bsE L k n) ∧ lset (lset L (q_mkI L (q_bnkX L k) (q_bnkY L k)).toNat (Obj.mk (lget L (q_mkI L (q_bnkX L k) (q_bnkY L k)).toNat free).kind (lget L (q_mkI L (q_bnkX L k)
    (q_bnkY L k)).toNat free).count (lget L (q_mkI L (q_bnkX L k) (q_bnkY L k)).toNat free).calls (((lget L (q_mkI L (q_bnkX L k) (q_bnkY L k)).toNat free).slots.put 0 (Key.mk 1 void.oid void.count
    void.call void.rights (q_bnkY L k - n + 1))).put 1 (Key.mk 1 void.oid void.count void.call void.rights (q_bnkY L k))) (lget L (q_mkI L (q_bnkX L k) (q_bnkY L k)).toNat free).bytes)) k.oid.toNat (Obj.mk
    (lget L k.oid.toNat free).kind (lget L k.oid.toNat free).count (lget L k.oid.toNat free).calls ((lget L k.oid.toNat free).slots.put 1 (Key.mk 1 void.oid void.count void.call void.rights (q_bnkY L k -
    n))) (lget L k.oid.toNat free).bytes) = q_bsL L k n))) ∧ (q_mkc L (q_bnkX L k) (q_bnkY L k) = true → ((!decide (q_mkI L (q_bnkX L k) (q_bnkY L k) < 0)) = true → inRo IntKind.i64 (q_bnkY L k - n)) ∧
    ((decide (q_mkI L (q_bnkX L k) (q_bnkY L k) < 0) || decide (q_bnkY L k - n < q_mkI L (q_bnkX L k) (q_bnkY L k))) = true → q_bsC L k n = false ∧ void = q_bsK L k n ∧ 221 = q_bsE L k n) ∧ ((decide (q_mkI
    L (q_bnkX L k) (q_bnkY L k) < 0) || decide (q_bnkY L k - n < q_mkI L (q_bnkX L k) (q_bnkY L k))) = false → inRo IntKind.i64 (q_bnkY L k - n) ∧ inRo IntKind.i64 (q_bnkY L k - n + 1) ∧ (∃ g, q_invSp L k
    n g ∧ n = n ∧ q_bnkX L k = q_bnkX L k ∧ q_bnkY L k = q_bnkY L k ∧ q_mkI L (q_bnkX L k) (q_bnkY L k) = q_mkI L (q_bnkX L k) (q_bnkY L k) ∧ q_bnkY L k - n + 1 = g ∧ L = L ∧ k = k ∧ void = void ∧ q_mkL L
    (q_bnkX L k) (q_bnkY L k) 1 = q_mkL L (q_bnkX L k) (q_bnkY L k) 1) ∧ ∀ (g : Int), q_invSp L k n g → (decide (g ≤ q_bnkY L k) = true → (0 ≤ g ∧ g < ↑(llen (q_mkL L (q_bnkX L k) (q_bnkY L k) 1))) ∧
    g.toNat < llen (q_mkL L (q_bnkX L k) (q_bnkY L k) 1) ∧ ((!decide ((lget (q_mkL L (q_bnkX L k) (q_bnkY L k) 1) g.toNat free).kind = 1)) = true → 0 ≤ g ∧ g < ↑(llen (q_mkL L (q_bnkX L k) (q_bnkY L k)
    1))) ∧ ((!decide ((lget (q_mkL L (q_bnkX L k) (q_bnkY L k) 1) g.toNat free).kind = 1)) = true → g.toNat < llen (q_mkL L (q_bnkX L k) (q_bnkY L k) 1)) ∧ ((decide ((lget (q_mkL L (q_bnkX L k) (q_bnkY L
    k) 1) g.toNat free).kind = 1) || decide ((lget (q_mkL L (q_bnkX L k) (q_bnkY L k) 1) g.toNat free).kind = 2)) = true → q_bsC L k n = false ∧ void = q_bsK L k n ∧ 221 = q_bsE L k n) ∧ ((decide ((lget
    (q_mkL L (q_bnkX L k) (q_bnkY L k) 1) g.toNat free).kind = 1) || decide ((lget (q_mkL L (q_bnkX L k) (q_bnkY L k) 1) g.toNat free).kind = 2)) = false → inRo IntKind.i64 (g + 1) ∧ ∃ g', q_invSp L k n g'
    ∧ (q_bnkB L k + 1 - g').toNat < (q_bnkB L k + 1 - g).toNat ∧ n = n ∧ q_bnkX L k = q_bnkX L k ∧ q_bnkY L k = q_bnkY L k ∧ q_mkI L (q_bnkX L k) (q_bnkY L k) = q_mkI L (q_bnkX L k) (q_bnkY L k) ∧ g + 1 =
    g' ∧ L = L ∧ k = k ∧ void = void ∧ q_mkL L (q_bnkX L k) (q_bnkY L k) 1 = q_mkL L (q_bnkX L k) (q_bnkY L k) 1)) ∧ (decide (g ≤ q_bnkY L k) = false → (0 ≤ q_mkI L (q_bnkX L k) (q_bnkY L k) ∧ q_mkI L
    (q_bnkX L k) (q_bnkY L k) < ↑(llen (q_mkL L (q_bnkX L k) (q_bnkY L k) 1))) ∧ (q_mkI L (q_bnkX L k) (q_bnkY L k)).toNat < llen (q_mkL L (q_bnkX L k) (q_bnkY L k) 1) ∧ (0 ≤ k.oid ∧ k.oid < ↑(llen (q_mkL
    L (q_bnkX L k) (q_bnkY L k) 1))) ∧ k.oid.toNat < llen (q_mkL L (q_bnkX L k) (q_bnkY L k) 1) ∧ inRo IntKind.i64 (q_bnkY L k - n) ∧ inRo IntKind.i64 (q_bnkY L k - n + 1) ∧ inRo IntKind.i64 (q_bnkY L k -
    n) ∧ q_rputQ (q_mkL L (q_bnkX L k) (q_bnkY L k) 1) (q_mkI L (q_bnkX L k) (q_bnkY L k)) ∧ q_rputQ (lset (q_mkL L (q_bnkX L k) (q_bnkY L k) 1) (q_mkI L (q_bnkX L k) (q_bnkY L k)).toNat (Obj.mk (lget
    (q_mkL L (q_bnkX L k) (q_bnkY L k) 1) (q_mkI L (q_bnkX L k) (q_bnkY L k)).toNat free).kind (lget (q_mkL L (q_bnkX L k) (q_bnkY L k) 1) (q_mkI L (q_bnkX L k) (q_bnkY L k)).toNat free).count (lget (q_mkL
    L (q_bnkX L k) (q_bnkY L k) 1) (q_mkI L (q_bnkX L k) (q_bnkY L k)).toNat free).calls (((lget (q_mkL L (q_bnkX L k) (q_bnkY L k) 1) (q_mkI L (q_bnkX L k) (q_bnkY L k)).toNat free).slots.put 0 (Key.mk 1
    void.oid void.count void.call void.rights (q_bnkY L k - n + 1))).put 1 (Key.mk 1 void.oid void.count void.call void.rights (q_bnkY L k))) (lget (q_mkL L (q_bnkX L k) (q_bnkY L k) 1) (q_mkI L (q_bnkX L
    k) (q_bnkY L k)).toNat free).bytes)) k.oid ∧ q_bsC L k n = true ∧ (Key.mk 4 (q_mkI L (q_bnkX L k) (q_bnkY L k)) (lget (q_mkL L (q_bnkX L k) (q_bnkY L k) 1) (q_mkI L (q_bnkX L k) (q_bnkY L k)).toNat
    free).count void.call void.rights void.value = q_bsK L k n ∧ 0 = q_bsE L k n) ∧ lset (lset (q_mkL L (q_bnkX L k) (q_bnkY L k) 1) (q_mkI L (q_bnkX L k) (q_bnkY L k)).toNat (Obj.mk (lget (q_mkL L (q_bnkX
    L k) (q_bnkY L k) 1) (q_mkI L (q_bnkX L k) (q_bnkY L k)).toNat free).kind (lget (q_mkL L (q_bnkX L k) (q_bnkY L k) 1) (q_mkI L (q_bnkX L k) (q_bnkY L k)).toNat free).count (lget (q_mkL L (q_bnkX L k)
    (q_bnkY L k) 1) (q_mkI L (q_bnkX L k) (q_bnkY L k)).toNat free).calls (((lget (q_mkL L (q_bnkX L k) (q_bnkY L k) 1) (q_mkI L (q_bnkX L k) (q_bnkY L k)).toNat free).slots.put 0 (Key.mk 1 void.oid
    void.count void.call void.rights (q_bnkY L k - n + 1))).put 1 (Key.mk 1 void.oid void.count void.call void.rights (q_bnkY L k))) (lget (q_mkL L (q_bnkX L k) (q_bnkY L k) 1) (q_mkI L (q_bnkX L k)
    (q_bnkY L k)).toNat free).bytes)) k.oid.toNat (Obj.mk (lget (q_mkL L (q_bnkX L k) (q_bnkY L k) 1) k.oid.toNat free).kind (lget (q_mkL L (q_bnkX L k) (q_bnkY L k) 1) k.oid.toNat free).count (lget (q_mkL
    L (q_bnkX L k) (q_bnkY L k) 1) k.oid.toNat free).calls ((lget (q_mkL L (q_bnkX L k) (q_bnkY L k) 1) k.oid.toNat free).slots.put 1 (Key.mk 1 void.oid void.count void.call void.rights (q_bnkY L k - n)))
    (lget (q_mkL L (q_bnkX L k) (q_bnkY L k) 1) k.oid.toNat free).bytes) = q_bsL L k n))))) := by
  by_cases hE : q_bnkE L k ≠ 0
  · rw [show decide (q_bnkE L k = 0) = false by simpa using hE]
    refine ⟨fun h => by simp at h, fun h => by simp at h, fun _ => ⟨fun _ => bs_no (bsE_bank hE) hE, fun h => by simp at h⟩⟩
  replace hE : q_bnkE L k = 0 := Decidable.not_not.1 hE
  obtain ⟨_, a0, a1, a2, a3, a4⟩ := bnk_ok hE
  obtain ⟨x1, x2⟩ := bnkXY hE
  have hlen := okL_len hL
  rw [x1, x2, show decide (q_bnkE L k = 0) = true by simpa using hE]
  have hr : ∀ x : Int, -1000 ≤ x → x ≤ 1000 → inRo IntKind.i64 x := fun x h1 h2 => by simp only [inRo, inR]; omega
  have hI : q_mkI L (q_bnkA L k) (q_bnkB L k) = q_bsI L k := rfl
  have hM : q_mkL L (q_bnkA L k) (q_bnkB L k) 1 = q_bsM L k := rfl
  have hlM : llen (q_bsM L k) = L.length := mkL_len
  have hlM2 : (q_bsM L k).length = L.length := mkL_len
  have hll : llen L = L.length := rfl
  rw [hI, hM]
  refine ⟨fun _ => hr _ (by omega) (by omega), fun h => bs_no (bsE_range hE (by simp only [Bool.true_and, Bool.or_eq_true, decide_eq_true_eq] at h; omega)) (by omega), fun h => ⟨fun h => by simp at h, fun _ => ?_⟩⟩
  have hn : 1 ≤ n ∧ n ≤ q_bnkB L k - q_bnkA L k := by simp only [Bool.true_and, Bool.or_eq_false_iff, decide_eq_false_iff_not] at h; omega
  obtain ⟨hn1, hn2⟩ := hn
  have h0 := bsE0_ok hE hn1 hn2
  have hm := mkI_in (L := L) (l := q_bnkB L k) a0
  rw [hI] at hm
  refine ⟨rfl, ⟨hL, a0, a2, by omega⟩, fun hc => ⟨fun _ => hr _ (by omega) (by omega), fun hi => ?_, fun hi => ?_⟩, fun hc => ⟨fun _ => hr _ (by omega) (by omega), fun hi => ?_, fun hi => ?_⟩⟩
  · exact bs_no (bsE_full h0 (by simp only [Bool.or_eq_true, decide_eq_true_eq] at hi; omega)) (by omega)
  · simp only [Bool.or_eq_false_iff, decide_eq_false_iff_not] at hi
    rw [mkc_yes (by rw [hI]; omega)] at hc
    simp at hc
  · exact bs_no (bsE_full h0 (by simp only [Bool.or_eq_true, decide_eq_true_eq] at hi; omega)) (by omega)
  simp only [Bool.or_eq_false_iff, decide_eq_false_iff_not] at hi
  have hbz : ∀ o : Sx.Obj, (decide (o.kind = 1) || decide (o.kind = 2)) = q_busy o := fun o => rfl
  refine ⟨hr _ (by omega) (by omega), hr _ (by omega) (by omega), ⟨q_bnkB L k - n + 1, ⟨by omega, by omega, bsyG_zero⟩, rfl, rfl, rfl, rfl, rfl, rfl, rfl, rfl, rfl⟩, fun g hg => ⟨fun hgl => ?_, fun hgl => ?_⟩⟩
  · obtain ⟨g0, g1, g2⟩ := hg
    have hgl := of_decide_eq_true hgl
    rw [hbz]
    have hr1 : 0 ≤ g ∧ g < (llen (q_bsM L k) : Int) := ⟨by omega, by omega⟩
    have hr2 : g.toNat < llen (q_bsM L k) := by omega
    refine ⟨hr1, hr2, fun _ => hr1, fun _ => hr2, fun hb => ?_, fun hb => ?_⟩
    · exact bs_no (bsE_busy h0 (bsyG_yes (by omega) (by omega) g0 (by omega) hb)) (by omega)
    · exact ⟨hr _ (by omega) (by omega), g + 1, ⟨by omega, by omega, by rw [bsyG_no (by omega) hb]; exact g2⟩, by omega, rfl, rfl, rfl, rfl, rfl, rfl, rfl, rfl, rfl⟩
  · obtain ⟨g0, g1, g2⟩ := hg
    have hgl := of_decide_eq_false hgl
    have : g = q_bnkB L k + 1 := by omega
    subst this
    have e := bsE_yes h0 (by omega) (by omega) g2
    have hp : ∀ (M : List Sx.Obj) (x : Int), M.length = L.length → 0 ≤ x → x < (L.length : Int) → q_rputQ M x := fun M x hM h1 h2 => ⟨h1, by unfold llen; omega, by unfold llen; omega⟩
    exact ⟨⟨by omega, by omega⟩, by omega, ⟨by omega, by omega⟩, by omega, hr _ (by omega) (by omega), hr _ (by omega) (by omega), hr _ (by omega) (by omega), hp _ _ hlM2 (by omega) (by omega), hp _ _ (by rw [lset_len]; exact hlM2) a3 a4, by unfold q_bsC; rw [e]; rfl, ⟨by unfold q_bsK; rw [if_pos e]; rfl, e.symm⟩, by unfold q_bsL; rw [if_pos e]; rfl⟩
theorem cl_rsplit (L : List Sx.Obj) (k : Key) (n : Int) (hL : q_okL L) : CallTo Try.prog 82 [.sa 0, .key k, .it .i64 n] [.ro (.arr none 163 (.ob L))] (kLx (q_bsC L k n) (q_bsL L k n) [.key (q_bsK L k n), .it .i64 (q_bsE L k n)]) (fun _ _ => False) :=
  vch_call (inl := noInl) (ann := (annL [(82, 10, lpG [0, 2, 4, 7, 9, 10, 12, 13] (fun g => [(14, .it .i64 g)]) (q_invSp L k n) (iadd (q_bnkB L k) 1))])) (oks_cons ct_rbank (oks_cons ct_rput oks_nil)) (hoks_cons hc_rmake1 hoks_nil) (vc_rsplit L k n hL) (by kernel_rfl)
theorem hc_rsplit : HOK Try.prog 82 h_rsplit :=
  hLx_ok (m := fun x => kiB.cn x 0) (rdL_ok kiB_ok (fun _ => rfl)) (fun _ => rfl) (fun _ _ => rfl) fun L x hq => cl_rsplit L x.1 x.2.1 hq
end Go.Proofs.Ytfalhknkaebfoaa
