/- Processes: messages. No condition. The statements vc_.. are printed by a program of the claimant's own. -/
import Derived.Test.YtfalhknkaebfoaaCtQa
import Derived.Test.YtfalhknkaebfoaaSpQp
import Derived.Test.YtfalhknkaebfoaaCtS2
namespace Go.Proofs.Ytfalhknkaebfoaa
open Go.Sx
set_option maxRecDepth 100000
set_option linter.unusedVariables false
set_option linter.unusedSimpArgs false
theorem vc_rbec1 (L : List Sx.Obj) (i st : Int) (hz : q_bcZ L i st) :
  (decide (n2i (llen L) = 0) = true → true = true ∧ ∀ (nid : Nat), some (V.tp [V.sa nid, V.ci IntKind.i64 1]) = some (V.tp [V.sa nid, V.ci IntKind.i64 0]) ∧ none = some [Res.arr (some 32) 163 (TL.ob
    (q_bcL L i st))]) ∧ (decide (n2i (llen L) = 0) = false → ((!(decide (i < 0) || decide (n2i (llen L) ≤ i))) = true → 0 ≤ i ∧ i < ↑(llen L)) ∧ ((!(decide (i < 0) || decide (n2i (llen L) ≤ i))) = true →
    i.toNat < llen L) ∧ ((decide (i < 0) || decide (n2i (llen L) ≤ i) || !decide ((lget L i.toNat free).kind = 1)) = true → true = true ∧ ∀ (nid : Nat), some (V.tp [V.sa nid, V.ci IntKind.i64 230]) = some
    (V.tp [V.sa nid, V.ci IntKind.i64 0]) ∧ none = some [Res.arr (some 32) 163 (TL.ob (q_bcL L i st))]) ∧ ((decide (i < 0) || decide (n2i (llen L) ≤ i) || !decide ((lget L i.toNat free).kind = 1)) = false
    → ((decide (st < 0) || decide (2 < st)) = true → true = true ∧ ∀ (nid : Nat), some (V.tp [V.sa nid, V.ci IntKind.i64 2]) = some (V.tp [V.sa nid, V.ci IntKind.i64 0]) ∧ none = some [Res.arr (some 32)
    163 (TL.ob (q_bcL L i st))]) ∧ ((decide (st < 0) || decide (2 < st)) = false → (0 ≤ i ∧ i < ↑(llen L)) ∧ i.toNat < llen L ∧ true = true ∧ q_rputQ L i ∧ true = true ∧ ∀ (nid : Nat), some (V.tp [V.sa
    nid, V.ci IntKind.i64 0]) = some (V.tp [V.sa nid, V.ci IntKind.i64 0]) ∧ some [Res.arr (some 32) 163 (TL.ob (lset L i.toNat (Obj.mk (lget L i.toNat free).kind (lget L i.toNat free).count (lget L
    i.toNat free).calls ((lget L i.toNat free).slots.put 2 (Key.mk 1 void.oid void.count void.call void.rights st)) (lget L i.toNat free).bytes)))] = some [Res.arr (some 32) 163 (TL.ob (q_bcL L i st))]))) := by
  obtain ⟨hE, hL⟩ := hz
  obtain ⟨⟨a, b⟩, c, d, s0, s1⟩ := bcE_0 hE
  have hl : llen L ≠ 0 := by unfold llen; omega
  have hn : n2i (llen L) = (L.length : Int) := rfl
  have hlL : llen L = L.length := rfl
  rw [decide_eq_false (by unfold n2i; omega : ¬ n2i (llen L) = 0), decide_eq_false (by omega : ¬ i < 0), decide_eq_false (by rw [hn]; omega : ¬ n2i (llen L) ≤ i), decide_eq_true d, decide_eq_false (by omega : ¬ st < 0), decide_eq_false (by omega : ¬ 2 < st)]
  refine ⟨fun h => by simp at h, fun _ => ⟨fun _ => ⟨a, b⟩, fun _ => by omega, fun h => by simp at h, fun _ => ⟨fun h => by simp at h, fun _ => ⟨⟨a, b⟩, by omega, rfl, rput_in hL a b, rfl, fun nid => ⟨rfl, ?_⟩⟩⟩⟩⟩
  unfold q_bcL
  rw [if_pos hE, c]; rfl
theorem cl_rbec1 (L : List Sx.Obj) (i st : Int) (hz : q_bcZ L i st) : CallTo Try.prog 88 [.sa 0, .it .i64 i, .it .i64 st] [.ro (.arr none 163 (.ob L))] (kMkV true nilp (fun n => .tp [.sa n, .ci .i64 0]) (.arr (some tO) 163 (.ob (q_bcL L i st)))) (fun _ _ => False) :=
  vch_call (inl := (fun f => f == 112)) (ann := noAnn) (oks_cons ct_rput oks_nil) hoks_nil (vc_rbec1 L i st hz) (by kernel_rfl)
theorem hc_rbec1 : HOK Try.prog 88 h_rbec1 :=
  hMk_ok bcB_ok (fun _ => rfl) (fun _ => by simp) fun a hq hok => by
    obtain ⟨L, i, st, _⟩ := a
    exact cl_rbec1 L i st hq
theorem vc_rmay (L : List Sx.Obj) (m : Msg) (hs : q_strOk m.data) :
  inRo IntKind.i64 (szI m.data) ∧ (decide (szI m.data ≤ 32) && q_may L m.k0 && q_may L m.k1 && q_may L m.k2) = q_mOk L m := by
  have hsz : inRo IntKind.i64 (szI m.data) := by unfold q_strOk at hs; simp only [inRo, inR, szI]; omega
  exact ⟨hsz, rfl⟩
theorem ct_rmay : CtOK Try.prog 109 g_rmay :=
  mkR_ok (consA_ok liA_ok (consA_ok mA_ok nilA_ok)) (fun _ => rfl) fun a hq hok => by
    obtain ⟨L, m, _⟩ := a
    exact vc_call (inl := noInl) (ann := (annL [(109, 3, lpU 4)])) (oks_cons ct_may oks_nil) (vc_rmay L m hq) (by kernel_rfl)
theorem vc_rcnt (L : List Sx.Obj) (m : Msg) :
  m.code = (q_cnt L m).code ∧ m.data = (q_cnt L m).data ∧ q_prep L m.k0 = (q_cnt L m).k0 ∧ q_prep L m.k1 = (q_cnt L m).k1 ∧ q_prep L m.k2 = (q_cnt L m).k2 := by
  exact ⟨rfl, rfl, rfl, rfl, rfl⟩
theorem ct_rcnt : CtOK Try.prog 110 g_rcnt :=
  mkR_ok (consA_ok liA_ok (consA_ok mA_ok nilA_ok)) (fun _ => rfl) fun a hq hok => by
    obtain ⟨L, m, _⟩ := a
    exact vc_call (inl := noInl) (ann := (annL [(110, 2, lpU 4)])) (oks_cons ct_lprep oks_nil) (vc_rcnt L m) (by kernel_rfl)
theorem vc_rhand (L : List Sx.Obj) (i : Int) (m : Msg) (k : Key) (hz : q_hdQ L i m) :
  (0 ≤ i ∧ i < ↑(llen L)) ∧ i.toNat < llen L ∧ true = true ∧ true = true ∧ inRo IntKind.i64 (szI m.data) ∧ inRo IntKind.u8 (szI m.data) ∧ (∃ g, q_invZ m.data g ∧ i = i ∧ Value.slice none 0 0 =
    Value.slice none 0 0 ∧ 0 = g ∧ L = L ∧ m.code = m.code ∧ m.data = m.data ∧ m.k0 = m.k0 ∧ m.k1 = m.k1 ∧ m.k2 = m.k2 ∧ k = k ∧ Obj.mk (lget L i.toNat free).kind (lget L i.toNat free).count (lget L
    i.toNat free).calls (((((((lget L i.toNat free).slots.put 2 (Key.mk 1 void.oid void.count void.call void.rights 1)).put 3 (Key.mk 1 void.oid void.count void.call void.rights m.code)).put 12 m.k0).put
    13 m.k1).put 14 m.k2).put 15 k) (noBytes.put 0 (u8I (szI m.data))) = q_hdW L i m k g ∧ Key.mk 1 void.oid void.count void.call void.rights 1 = Key.mk 1 void.oid void.count void.call void.rights 1 ∧
    Key.mk 1 void.oid void.count void.call void.rights m.code = Key.mk 1 void.oid void.count void.call void.rights m.code) ∧ ∀ (g : Int), q_invZ m.data g → inRo IntKind.i64 (szI m.data) ∧ (decide (g < szI
    m.data) = true → inRo IntKind.i64 (1 + g) ∧ pSz m.data g ∧ (0 ≤ 1 + g ∧ 1 + g < ↑64) ∧ inRo IntKind.i64 (g + 1) ∧ ∃ g', q_invZ m.data g' ∧ q_muZ m.data g' < q_muZ m.data g ∧ i = i ∧ Value.slice none 0
    0 = Value.slice none 0 0 ∧ g + 1 = g' ∧ L = L ∧ m.code = m.code ∧ m.data = m.data ∧ m.k0 = m.k0 ∧ m.k1 = m.k1 ∧ m.k2 = m.k2 ∧ k = k ∧ Obj.mk (q_hdW L i m k g).kind (q_hdW L i m k g).count (q_hdW L i m
    k g).calls (q_hdW L i m k g).slots ((q_hdW L i m k g).bytes.put (1 + g).toNat (sat m.data g.toNat)) = q_hdW L i m k g' ∧ Key.mk 1 void.oid void.count void.call void.rights 1 = Key.mk 1 void.oid
    void.count void.call void.rights 1 ∧ Key.mk 1 void.oid void.count void.call void.rights m.code = Key.mk 1 void.oid void.count void.call void.rights m.code) ∧ (decide (g < szI m.data) = false → q_rputQ
    L i ∧ true = true ∧ ∀ (nid : Nat), some (V.sa nid) = some (V.sa nid) ∧ some [Res.arr (some 32) 163 (TL.ob (lset L i.toNat (q_hdW L i m k g)))] = some [Res.arr (some 32) 163 (TL.ob (q_hdL L i m k))]) := by
  obtain ⟨hp, ⟨i0, i1⟩, hs⟩ := hz
  have i1' : i.toNat < llen L := by omega
  have hsz : inRo IntKind.i64 (szI m.data) := by simp only [inRo, inR, szI] at *; omega
  have hs8 : inRo IntKind.u8 (szI m.data) := by simp only [inRo, inR, szI] at *; omega
  have hz : (m.data.size : Int) ≤ 32 := hs
  simp only [keq_self, steq_self, oeq_self, same_self, decide_true, Bool.and_true, Bool.not_true, Bool.or_false, Bool.not_false, Bool.false_eq_true, Bool.true_eq_false, false_implies, implies_true, true_implies, true_and, and_true, and_self]
  refine ⟨⟨i0, i1⟩, i1', hsz, hs8, ⟨0, ⟨by omega, by omega⟩, rfl, ?_⟩, fun g hg => ⟨hsz, fun hlt => ?_, fun hge => ?_⟩⟩
  · unfold q_hdW q_hdS q_hdB
    rw [show (0 : Int).toNat = 0 from rfl, bput_zero]; rfl
  · obtain ⟨g0, g1⟩ := hg
    have hlt : g < (m.data.size : Int) := of_decide_eq_true hlt
    refine ⟨by simp only [inRo, inR]; omega, ⟨g0, hlt⟩, ⟨by omega, by omega⟩, by simp only [inRo, inR]; omega, g + 1, ⟨by omega, by omega⟩, by unfold q_muZ; omega, rfl, ?_⟩
    have e := bput_succ (noBytes.put 0 (UInt8.ofNat m.data.size)) 1 g.toNat m.data (by omega)
    unfold q_hdW q_hdB
    simp only
    rw [show (1 + g).toNat = 1 + g.toNat by omega, e, show (g + 1).toNat = g.toNat + 1 by omega]
  · obtain ⟨g0, g1⟩ := hg
    have hge : ¬ g < (m.data.size : Int) := of_decide_eq_false hge
    have : g = szI m.data := by unfold szI; omega
    subst this
    exact ⟨hp, fun nid => rfl⟩
theorem cl_rhand (L : List Sx.Obj) (i : Int) (m : Msg) (k : Key) (hz : q_hdQ L i m) : CallTo Try.prog 111 [.sa 0, .it .i64 i, msgV m, .key k] [.ro (.arr none 163 (.ob L))] (kMkV true nilp (fun n => .sa n) (.arr (some tO) 163 (.ob (q_hdL L i m k)))) (fun _ _ => False) :=
  vch_call (inl := (fun f => f == 112)) (ann := (annL [(111, 7, lpP [0, 1, 6, 7, 8, 9] (fun g => [(10, .it .i64 g)]) 9 (fun g => .blk tO (.ob (q_hdW L i m k g))) (q_invZ m.data) (q_muZ m.data))])) (oks_cons ct_rput oks_nil) hoks_nil (vc_rhand L i m k hz) (by kernel_rfl)
theorem hc_rhand : HOK Try.prog 111 h_rhand :=
  hMk_ok hdB_ok (fun _ => rfl) (fun _ => by simp) fun a hq hok => by
    obtain ⟨L, i, m, k, _⟩ := a
    exact cl_rhand L i m k hq
theorem vc_rinv (L : List Sx.Obj) (i : Int) (k : Key) (md : Int) (m : Msg) (hL : q_okL L) (hs : q_strOk m.data) :
  (decide (n2i (llen L) = 0) = true → q_ivC L i k md m = false ∧ 1 = q_ivE L i k md m) ∧ (decide (n2i (llen L) = 0) = false → ((!(decide (md < 1) || decide (3 < md) || !q_may L k)) = true → q_strOk
    m.data) ∧ ((decide (md < 1) || decide (3 < md) || !q_may L k || !q_mOk L m) = true → q_ivC L i k md m = false ∧ 2 = q_ivE L i k md m) ∧ ((decide (md < 1) || decide (3 < md) || !q_may L k || !q_mOk L m)
    = false → ((!decide (q_pst L i = 1)) = true → q_ivC L i k md m = false ∧ 230 = q_ivE L i k md m) ∧ ((!decide (q_pst L i = 1)) = false → ((!q_is L k || !decide (k.kind = 6) && !decide (k.kind = 7)) =
    true → q_ivC L i k md m = false ∧ 231 = q_ivE L i k md m) ∧ ((!q_is L k || !decide (k.kind = 6) && !decide (k.kind = 7)) = false → (decide (q_pst L k.oid < 0) = true → q_ivC L i k md m = false ∧ 231 =
    q_ivE L i k md m) ∧ (decide (q_pst L k.oid < 0) = false → ((decide (k.kind = 6) && !decide (q_pst L k.oid = 0) && !(decide (md = 3) && decide (k.oid = i)) || decide (k.kind = 7) && !decide (q_pst L
    k.oid = 2)) = true → q_ivC L i k md m = false ∧ 232 = q_ivE L i k md m) ∧ ((decide (k.kind = 6) && !decide (q_pst L k.oid = 0) && !(decide (md = 3) && decide (k.oid = i)) || decide (k.kind = 7) &&
    !decide (q_pst L k.oid = 2)) = false → (decide (k.kind = 7) = true → 0 ≤ k.oid ∧ k.oid < ↑(llen L)) ∧ (decide (k.kind = 7) = true → k.oid.toNat < llen L) ∧ ((decide (md = 1) && !(decide (k.kind = 7) &&
    decide (4294967295 ≤ (lget L k.oid.toNat free).calls))) = true → 0 ≤ i ∧ i < ↑(llen L)) ∧ ((decide (md = 1) && !(decide (k.kind = 7) && decide (4294967295 ≤ (lget L k.oid.toNat free).calls))) = true →
    i.toNat < llen L) ∧ ((decide (k.kind = 7) && decide (4294967295 ≤ (lget L k.oid.toNat free).calls) || decide (md = 1) && decide (4294967295 ≤ (lget L i.toNat free).calls)) = true → q_ivC L i k md m =
    false ∧ 233 = q_ivE L i k md m) ∧ ((decide (k.kind = 7) && decide (4294967295 ≤ (lget L k.oid.toNat free).calls) || decide (md = 1) && decide (4294967295 ≤ (lget L i.toNat free).calls)) = false →
    ((decide (md = 1) = true → (0 ≤ i ∧ i < ↑(llen L)) ∧ i.toNat < llen L ∧ (0 ≤ i ∧ i < ↑(llen L)) ∧ i.toNat < llen L ∧ ∃ g : Unit, q_ivZ L i k md m ∧ i = i ∧ md = md ∧ Value.slice none 0 0 = Value.slice
    none 0 0 ∧ k.kind = k.kind ∧ L = L ∧ k = k ∧ (q_cnt L m).code = (q_cnt L m).code ∧ (q_cnt L m).data = (q_cnt L m).data ∧ (q_cnt L m).k0 = (q_cnt L m).k0 ∧ (q_cnt L m).k1 = (q_cnt L m).k1 ∧ (q_cnt L
    m).k2 = (q_cnt L m).k2 ∧ Key.mk 7 i (lget L i.toNat free).count (lget L i.toNat free).calls void.rights void.value = q_ivA L i md) ∧ (decide (md = 1) = false → ∃ g : Unit, q_ivZ L i k md m ∧ i = i ∧ md
    = md ∧ Value.slice none 0 0 = Value.slice none 0 0 ∧ k.kind = k.kind ∧ L = L ∧ k = k ∧ (q_cnt L m).code = (q_cnt L m).code ∧ (q_cnt L m).data = (q_cnt L m).data ∧ (q_cnt L m).k0 = (q_cnt L m).k0 ∧
    (q_cnt L m).k1 = (q_cnt L m).k1 ∧ (q_cnt L m).k2 = (q_cnt L m).k2 ∧ void = q_ivA L i md)) ∧ ∀ (g : Unit), q_ivZ L i k md m → (0 ≤ md ∧ md < ↑4) ∧ true = true ∧ q_bcZ L i (lget [0, 2, 1, 0] md.toNat 0)
    ∧ (true = false → False) ∧ (true = true → (decide (k.kind = 7) = true → (0 ≤ k.oid ∧ k.oid < ↑(llen (q_bcL L i (lget [0, 2, 1, 0] md.toNat 0)))) ∧ k.oid.toNat < llen (q_bcL L i (lget [0, 2, 1, 0]
    md.toNat 0)) ∧ inRo IntKind.i64 ((lget (q_bcL L i (lget [0, 2, 1, 0] md.toNat 0)) k.oid.toNat free).calls + 1) ∧ q_rputQ (q_bcL L i (lget [0, 2, 1, 0] md.toNat 0)) k.oid ∧ true = true ∧ q_hdQ (lset
    (q_bcL L i (lget [0, 2, 1, 0] md.toNat 0)) k.oid.toNat (Obj.mk (lget (q_bcL L i (lget [0, 2, 1, 0] md.toNat 0)) k.oid.toNat free).kind (lget (q_bcL L i (lget [0, 2, 1, 0] md.toNat 0)) k.oid.toNat
    free).count ((lget (q_bcL L i (lget [0, 2, 1, 0] md.toNat 0)) k.oid.toNat free).calls + 1) (lget (q_bcL L i (lget [0, 2, 1, 0] md.toNat 0)) k.oid.toNat free).slots (lget (q_bcL L i (lget [0, 2, 1, 0]
    md.toNat 0)) k.oid.toNat free).bytes)) k.oid (q_cnt L m) ∧ (true = false → False) ∧ (true = true → q_ivC L i k md m = true ∧ 0 = q_ivE L i k md m ∧ q_hdL (lset (q_bcL L i (lget [0, 2, 1, 0] md.toNat
    0)) k.oid.toNat (Obj.mk (lget (q_bcL L i (lget [0, 2, 1, 0] md.toNat 0)) k.oid.toNat free).kind (lget (q_bcL L i (lget [0, 2, 1, 0] md.toNat 0)) k.oid.toNat free).count ((lget (q_bcL L i (lget [0, 2,
    1, 0] md.toNat 0)) k.oid.toNat free).calls + 1) (lget (q_bcL L i (lget [0, 2, 1, 0] md.toNat 0)) k.oid.toNat free).slots (lget (q_bcL L i (lget [0, 2, 1, 0] md.toNat 0)) k.oid.toNat free).bytes)) k.oid
    (q_cnt L m) (q_ivA L i md) = q_ivL L i k md m)) ∧ (decide (k.kind = 7) = false → true = true ∧ q_hdQ (q_bcL L i (lget [0, 2, 1, 0] md.toNat 0)) k.oid (q_cnt L m) ∧ (true = false → False) ∧ (true = true
    → q_ivC L i k md m = true ∧ 0 = q_ivE L i k md m ∧ q_hdL (q_bcL L i (lget [0, 2, 1, 0] md.toNat 0)) k.oid (q_cnt L m) (q_ivA L i md) = q_ivL L i k md m)))))))))) := by
  simp only [keq_self, steq_self, oeq_self, same_self, decide_true, Bool.and_true, Bool.not_true, Bool.or_false, Bool.not_false, Bool.false_eq_true, Bool.true_eq_false, false_implies, implies_true, true_implies, true_and, and_true, and_self]
  refine ⟨fun h => ?_, fun h => ⟨fun _ => hs, fun h2 => ?_, fun h2 => ⟨fun h3 => ?_, fun h3 => ⟨fun h4 => ?_, fun h4 => ⟨fun h5 => ?_, fun h5 => ⟨fun h6 => ?_, fun h6 => ?_⟩⟩⟩⟩⟩⟩
  · have hl : llen L = 0 := by have h1 : n2i (llen L) = 0 := of_decide_eq_true h; unfold n2i at h1; omega
    exact iv_noC (iv_1 hl) (by omega)
  all_goals
    have hl : llen L ≠ 0 := by have h1 : ¬ n2i (llen L) = 0 := of_decide_eq_false h; unfold n2i at h1; omega
  · exact iv_noC (iv_2 hl (iv_c2.1 h2)) (by omega)
  all_goals
    have b : ¬ (¬ (1 ≤ md ∧ md ≤ 3) ∨ q_may L k = false ∨ q_mOk L m = false) := fun hh => by rw [iv_c2.2 hh] at h2; simp at h2
  · exact iv_noC (iv_230 hl b (by simpa using h3)) (by omega)
  all_goals
    have c : q_pst L i = 1 := by simpa using h3
  · exact iv_noC (iv_231 hl b c ((iv_c4.1 h4).imp id .inl)) (by omega)
  all_goals
    have d1 : ¬ (q_is L k = false ∨ ¬ (k.kind = 6 ∨ k.kind = 7)) := fun hh => by rw [iv_c4.2 hh] at h4; simp at h4
  · exact iv_noC (iv_231 hl b c (.inr (.inr (of_decide_eq_true h5)))) (by omega)
  all_goals
    have d : ¬ (q_is L k = false ∨ ¬ (k.kind = 6 ∨ k.kind = 7) ∨ q_pst L k.oid < 0) := by
      rintro (h | h | h)
      · exact d1 (.inl h)
      · exact d1 (.inr h)
      · exact of_decide_eq_false h5 h
  · exact iv_noC (iv_232 hl b c d (iv_c5.1 h6)) (by omega)
  have e : ¬ ((k.kind = 6 ∧ q_pst L k.oid ≠ 0 ∧ ¬ (md = 3 ∧ k.oid = i)) ∨ (k.kind = 7 ∧ q_pst L k.oid ≠ 2)) := fun hh => by rw [iv_c5.2 hh] at h6; simp at h6
  have b1 : 1 ≤ md ∧ md ≤ 3 := by
    by_cases h : 1 ≤ md ∧ md ≤ 3
    · exact h
    · exact absurd (.inl h) b
  have d3 : 0 ≤ q_pst L k.oid := by
    by_cases h : q_pst L k.oid < 0
    · exact absurd (.inr (.inr h)) d
    · omega
  obtain ⟨i0, i1, i2, i3⟩ := psB_in (pst_B.1.1 (by omega : 0 ≤ q_pst L i))
  obtain ⟨k0, k1, k2, k3⟩ := psB_in (pst_B.1.1 d3)
  have hlL : llen L = L.length := rfl
  have hk : (0 ≤ k.oid ∧ k.oid < (llen L : Int)) ∧ k.oid.toNat < llen L := by omega
  have hi : (0 ≤ i ∧ i < (llen L : Int)) ∧ i.toNat < llen L := by omega
  refine ⟨fun _ => hk.1, fun _ => hk.2, fun _ => hi.1, fun _ => hi.2, fun h7 => iv_noC (iv_233 hl b c d e (iv_c6.1 h7)) (by omega), fun h7 => ?_⟩
  have hE : q_ivE L i k md m = 0 := iv_0 hl b c d e fun hh => by rw [iv_c6.2 hh] at h7; simp at h7
  obtain ⟨_, _, ⟨hb, hb1⟩, ⟨o1, l1⟩, ⟨o2, l2⟩, ⟨g1, g1c⟩, g2, hsz, hA⟩ := iv_facts hL hE
  obtain ⟨n0, n1, n2, n3⟩ := ivN_in b1
  obtain ⟨_, _, hend⟩ := iv_end hL hE
  have hC : q_ivC L i k md m = true := by unfold q_ivC; rw [hE]; rfl
  have hq : q_ivL L i k md m = q_hdL (q_iv2 L i k md) k.oid (q_cnt L m) (q_ivA L i md) := by unfold q_ivL; rw [if_pos hE]
  rw [n2, hb1, hC, hE, hq]
  have hl1 : llen (q_iv1 L i md) = L.length := l1
  have hl2 : llen (q_iv2 L i k md) = L.length := l2
  refine ⟨⟨fun h1 => ⟨hi.1, hi.2, hi.1, hi.2, ⟨⟩, hE, ?_⟩, fun h1 => ⟨⟨⟩, hE, ?_⟩⟩, fun _ _ => ⟨by omega, ⟨hb, hL⟩, fun h7 => ?_, fun h7 => ?_⟩⟩
  · unfold q_ivA; rw [if_pos (of_decide_eq_true h1)]; rfl
  · unfold q_ivA; rw [if_neg (of_decide_eq_false h1)]
  · have h7' := of_decide_eq_true h7
    have hc : q_iv2 L i k md = lset (q_iv1 L i md) k.oid.toNat (q_clO (lget (q_iv1 L i md) k.oid.toNat free)) := by unfold q_iv2; rw [if_pos h7']
    have ho := objOk_iff.1 (okL_get o1 k.oid.toNat (by omega))
    refine ⟨by omega, by omega, by have := ho.2.2.2.2.2.2.1; have := ho.2.2.2.2.2.2.2.1; simp only [inRo, inR]; omega, rput_in o1 k0 (by omega), ?_, ?_⟩
    · have := rput_in o2 k0 (by omega)
      rw [hc] at this
      exact ⟨this, ⟨k0, by rw [show ∀ x, llen (lset (q_iv1 L i md) k.oid.toNat x) = L.length from fun x => by unfold llen; rw [lset_len, l1]]; omega⟩, hsz⟩
    · rw [hc]; exact ⟨rfl, rfl, rfl⟩
  · have h7' := of_decide_eq_false h7
    have hc : q_iv2 L i k md = q_iv1 L i md := by unfold q_iv2; rw [if_neg h7']
    rw [hc] at *
    exact ⟨⟨rput_in o1 k0 (by omega), by omega, hsz⟩, rfl, rfl, rfl⟩
theorem cl_rinv (L : List Sx.Obj) (i : Int) (k : Key) (md : Int) (m : Msg) (hL : q_okL L) (hs : q_strOk m.data) : CallTo Try.prog 86 [.sa 0, .it .i64 i, .key k, .it .i64 md, msgV m] [.ro (.arr none 163 (.ob L))] (kLx (q_ivC L i k md m) (q_ivL L i k md m) [.it .i64 (q_ivE L i k md m)]) (fun _ _ => False) :=
  vch_call (inl := noInl) (ann := (annL [(86, 2000021, lpC [0, 1, 3, 7, 9, 10, 11, 12, 14] (fun (_ : Unit) => []) (fun _ => [(14, .blk tK (.key (q_ivA L i md)))]) (fun _ => []) (fun _ => q_ivZ L i k md m))])) (oks_cons ct_may (oks_cons ct_rmay (oks_cons ct_rcnt (oks_cons ct_rpst (oks_cons ct_lcounts (oks_cons ct_rput oks_nil)))))) (hoks_cons hc_rbec1 (hoks_cons hc_rhand hoks_nil)) (vc_rinv L i k md m hL hs) (by kernel_rfl)
theorem hc_rinv : HOK Try.prog 86 h_rinv :=
  hLx_ok (m := fun x => ivB.cn x 0) (rdL_ok ivB_ok (fun _ => rfl)) (fun _ => rfl) (fun _ _ => rfl) fun L x hq => cl_rinv L x.1 x.2.1 x.2.2.1 x.2.2.2.1 hq.1 hq.2
theorem vc_rans (L : List Sx.Obj) (i : Int) (m : Msg) (hL : q_okL L) (hs : q_strOk m.data) :
  (decide (n2i (llen L) = 0) = true → q_anC L i m = false ∧ 1 = q_anE L i m) ∧ (decide (n2i (llen L) = 0) = false → q_strOk m.data ∧ ((!q_mOk L m) = true → q_anC L i m = false ∧ 2 = q_anE L i m) ∧
    ((!q_mOk L m) = false → ((!decide (q_pst L i = 1)) = true → q_anC L i m = false ∧ 230 = q_anE L i m) ∧ ((!decide (q_pst L i = 1)) = false → true = true ∧ q_hdQ L i (q_cnt L m) ∧ (true = false → False)
    ∧ (true = true → q_anC L i m = true ∧ 0 = q_anE L i m ∧ q_hdL L i (q_cnt L m) void = q_anL L i m)))) := by
  have no : ∀ e, q_anE L i m = e → e ≠ 0 → q_anC L i m = false ∧ e = q_anE L i m := fun e h he => ⟨by unfold q_anC; rw [h]; simpa using he, h.symm⟩
  simp only [keq_self, steq_self, oeq_self, same_self, decide_true, Bool.and_true, Bool.not_true, Bool.or_false, Bool.not_false, Bool.false_eq_true, Bool.true_eq_false, false_implies, implies_true, true_implies, true_and, and_true, and_self]
  refine ⟨fun h => no _ ?_ (by omega), fun h => ⟨hs, fun h2 => no _ ?_ (by omega), fun h2 => ⟨fun h3 => no _ ?_ (by omega), fun h3 => ?_⟩⟩⟩
  · have hl : llen L = 0 := by have h1 : n2i (llen L) = 0 := of_decide_eq_true h; unfold n2i at h1; omega
    unfold q_anE; rw [if_pos hl]
  · have hl : llen L ≠ 0 := by have h1 : ¬ n2i (llen L) = 0 := of_decide_eq_false h; unfold n2i at h1; omega
    unfold q_anE; rw [if_neg hl, if_pos (by simpa using h2)]
  · have hl : llen L ≠ 0 := by have h1 : ¬ n2i (llen L) = 0 := of_decide_eq_false h; unfold n2i at h1; omega
    unfold q_anE; rw [if_neg hl, if_neg (by simpa using h2), if_pos (by simpa using h3)]
  · have hl : llen L ≠ 0 := by have h1 : ¬ n2i (llen L) = 0 := of_decide_eq_false h; unfold n2i at h1; omega
    have h2' : q_mOk L m = true := by simpa using h2
    have h3' : q_pst L i = 1 := by simpa using h3
    have hE : q_anE L i m = 0 := by unfold q_anE; rw [if_neg hl, if_neg (by simpa using h2'), if_neg (by simpa using h3')]
    obtain ⟨a, b, c, d⟩ := psB_in (pst_B.1.1 (by omega : 0 ≤ q_pst L i))
    refine ⟨⟨rput_in hL a b, ⟨a, b⟩, (mOk_sz h2' : szI m.data ≤ 32)⟩, by unfold q_anC; rw [hE]; rfl, hE.symm, ?_⟩
    unfold q_anL; rw [if_pos hE]
theorem cl_rans (L : List Sx.Obj) (i : Int) (m : Msg) (hL : q_okL L) (hs : q_strOk m.data) : CallTo Try.prog 87 [.sa 0, .it .i64 i, msgV m] [.ro (.arr none 163 (.ob L))] (kLx (q_anC L i m) (q_anL L i m) [.it .i64 (q_anE L i m)]) (fun _ _ => False) :=
  vch_call (inl := noInl) (ann := noAnn) (oks_cons ct_rmay (oks_cons ct_rcnt (oks_cons ct_rpst oks_nil))) (hoks_cons hc_rhand hoks_nil) (vc_rans L i m hL hs) (by kernel_rfl)
theorem hc_rans : HOK Try.prog 87 h_rans :=
  hLx_ok (m := fun x => anB.cn x 0) (rdL_ok anB_ok (fun _ => rfl)) (fun _ => rfl) (fun _ _ => rfl) fun L x hq => cl_rans L x.1 x.2.1 hq.1 hq.2
theorem vc_rtold (L : List Sx.Obj) (i : Int) :
  (decide (n2i (llen L) = 0) = true → 0 = (q_tdM L i).code ∧ ByteArray.mk (Array.mk []) = (q_tdM L i).data ∧ void = (q_tdM L i).k0 ∧ void = (q_tdM L i).k1 ∧ void = (q_tdM L i).k2 ∧ 1 = q_tdE L i) ∧
    (decide (n2i (llen L) = 0) = false → (decide (q_pst L i < 0) = true → 0 = (q_tdM L i).code ∧ ByteArray.mk (Array.mk []) = (q_tdM L i).data ∧ void = (q_tdM L i).k0 ∧ void = (q_tdM L i).k1 ∧ void =
    (q_tdM L i).k2 ∧ 230 = q_tdE L i) ∧ (decide (q_pst L i < 0) = false → (0 ≤ i ∧ i < ↑(llen L)) ∧ i.toNat < llen L ∧ ((decide (((lget L i.toNat free).slots.at 3).kind = 1) = true → ∃ g : Unit, q_tdZ L i
    ∧ i = i ∧ L = L ∧ ByteArray.mk (Array.mk []) = ByteArray.mk (Array.mk []) ∧ void = void ∧ void = void ∧ void = void ∧ lget L i.toNat free = lget L i.toNat free ∧ ((lget L i.toNat free).slots.at
    3).value = q_tdN (lget L i.toNat free) ∧ ByteArray.mk (Array.mk []) = ByteArray.mk (Array.mk []) ∧ (lget L i.toNat free).slots.at 12 = (lget L i.toNat free).slots.at 12 ∧ (lget L i.toNat free).slots.at
    13 = (lget L i.toNat free).slots.at 13 ∧ (lget L i.toNat free).slots.at 14 = (lget L i.toNat free).slots.at 14) ∧ (decide (((lget L i.toNat free).slots.at 3).kind = 1) = false → ∃ g : Unit, q_tdZ L i ∧
    i = i ∧ L = L ∧ ByteArray.mk (Array.mk []) = ByteArray.mk (Array.mk []) ∧ void = void ∧ void = void ∧ void = void ∧ lget L i.toNat free = lget L i.toNat free ∧ 0 = q_tdN (lget L i.toNat free) ∧
    ByteArray.mk (Array.mk []) = ByteArray.mk (Array.mk []) ∧ (lget L i.toNat free).slots.at 12 = (lget L i.toNat free).slots.at 12 ∧ (lget L i.toNat free).slots.at 13 = (lget L i.toNat free).slots.at 13 ∧
    (lget L i.toNat free).slots.at 14 = (lget L i.toNat free).slots.at 14)) ∧ ∀ (g : Unit), q_tdZ L i → inRo IntKind.i64 (b2i ((lget L i.toNat free).bytes.at 0)) ∧ ((decide (b2i ((lget L i.toNat
    free).bytes.at 0) ≤ 32) = true → inRo IntKind.i64 (1 + b2i ((lget L i.toNat free).bytes.at 0)) ∧ pSl 1 (1 + b2i ((lget L i.toNat free).bytes.at 0)) 64 ∧ ∃ g : Unit, q_tdZ L i ∧ i = i ∧ L = L ∧
    ByteArray.mk (Array.mk []) = ByteArray.mk (Array.mk []) ∧ void = void ∧ void = void ∧ void = void ∧ lget L i.toNat free = lget L i.toNat free ∧ q_tdN (lget L i.toNat free) = q_tdN (lget L i.toNat free)
    ∧ bsub (lget L i.toNat free).bytes (Int.toNat 1) (1 + b2i ((lget L i.toNat free).bytes.at 0)).toNat = q_tdS (lget L i.toNat free) ∧ (lget L i.toNat free).slots.at 12 = (lget L i.toNat free).slots.at 12
    ∧ (lget L i.toNat free).slots.at 13 = (lget L i.toNat free).slots.at 13 ∧ (lget L i.toNat free).slots.at 14 = (lget L i.toNat free).slots.at 14) ∧ (decide (b2i ((lget L i.toNat free).bytes.at 0) ≤ 32)
    = false → ∃ g : Unit, q_tdZ L i ∧ i = i ∧ L = L ∧ ByteArray.mk (Array.mk []) = ByteArray.mk (Array.mk []) ∧ void = void ∧ void = void ∧ void = void ∧ lget L i.toNat free = lget L i.toNat free ∧ q_tdN
    (lget L i.toNat free) = q_tdN (lget L i.toNat free) ∧ ByteArray.mk (Array.mk []) = q_tdS (lget L i.toNat free) ∧ (lget L i.toNat free).slots.at 12 = (lget L i.toNat free).slots.at 12 ∧ (lget L i.toNat
    free).slots.at 13 = (lget L i.toNat free).slots.at 13 ∧ (lget L i.toNat free).slots.at 14 = (lget L i.toNat free).slots.at 14)) ∧ ∀ (g : Unit), q_tdZ L i → (q_cnt L (Msg.mk (q_tdN (lget L i.toNat
    free)) (q_tdS (lget L i.toNat free)) ((lget L i.toNat free).slots.at 12) ((lget L i.toNat free).slots.at 13) ((lget L i.toNat free).slots.at 14))).code = (q_tdM L i).code ∧ (q_cnt L (Msg.mk (q_tdN
    (lget L i.toNat free)) (q_tdS (lget L i.toNat free)) ((lget L i.toNat free).slots.at 12) ((lget L i.toNat free).slots.at 13) ((lget L i.toNat free).slots.at 14))).data = (q_tdM L i).data ∧ (q_cnt L
    (Msg.mk (q_tdN (lget L i.toNat free)) (q_tdS (lget L i.toNat free)) ((lget L i.toNat free).slots.at 12) ((lget L i.toNat free).slots.at 13) ((lget L i.toNat free).slots.at 14))).k0 = (q_tdM L i).k0 ∧
    (q_cnt L (Msg.mk (q_tdN (lget L i.toNat free)) (q_tdS (lget L i.toNat free)) ((lget L i.toNat free).slots.at 12) ((lget L i.toNat free).slots.at 13) ((lget L i.toNat free).slots.at 14))).k1 = (q_tdM L
    i).k1 ∧ (q_cnt L (Msg.mk (q_tdN (lget L i.toNat free)) (q_tdS (lget L i.toNat free)) ((lget L i.toNat free).slots.at 12) ((lget L i.toNat free).slots.at 13) ((lget L i.toNat free).slots.at 14))).k2 =
    (q_tdM L i).k2 ∧ 0 = q_tdE L i)) := by
  have no : ∀ e, q_tdE L i = e → e ≠ 0 → 0 = (q_tdM L i).code ∧ ByteArray.mk (Array.mk []) = (q_tdM L i).data ∧ void = (q_tdM L i).k0 ∧ void = (q_tdM L i).k1 ∧ void = (q_tdM L i).k2 ∧ e = q_tdE L i := fun e h he => by
    have : q_tdM L i = msg0 := by unfold q_tdM; rw [h, if_neg he]
    rw [this, h]; exact ⟨rfl, rfl, rfl, rfl, rfl, rfl⟩
  simp only [keq_self, steq_self, oeq_self, same_self, decide_true, Bool.and_true, Bool.not_true, Bool.or_false, Bool.not_false, Bool.false_eq_true, Bool.true_eq_false, false_implies, implies_true, true_implies, true_and, and_true, and_self]
  refine ⟨fun h => no _ ?_ (by omega), fun h => ⟨fun h2 => no _ ?_ (by omega), fun h2 => ?_⟩⟩
  · have hl : llen L = 0 := by have h1 : n2i (llen L) = 0 := of_decide_eq_true h; unfold n2i at h1; omega
    unfold q_tdE; rw [if_pos hl]
  · have hl : llen L ≠ 0 := by have h1 : ¬ n2i (llen L) = 0 := of_decide_eq_false h; unfold n2i at h1; omega
    unfold q_tdE; rw [if_neg hl, if_pos (of_decide_eq_true h2)]
  · have hl : llen L ≠ 0 := by have h1 : ¬ n2i (llen L) = 0 := of_decide_eq_false h; unfold n2i at h1; omega
    have h2 : ¬ q_pst L i < 0 := of_decide_eq_false h2
    have hE : q_tdE L i = 0 := by unfold q_tdE; rw [if_neg hl, if_neg h2]
    have hM : q_tdM L i = q_cnt L ⟨q_tdN (lget L i.toNat free), q_tdS (lget L i.toNat free), (lget L i.toNat free).slots.at 12, (lget L i.toNat free).slots.at 13, (lget L i.toNat free).slots.at 14⟩ := by unfold q_tdM; rw [if_pos hE]; rfl
    obtain ⟨a, b, c, d⟩ := psB_in (pst_B.1.1 (by omega : 0 ≤ q_pst L i))
    have hb : ((lget L i.toNat free).bytes.at 0).toNat < 256 := UInt8.toNat_lt _
    have hb1 : b2i ((lget L i.toNat free).bytes.at 0) = (((lget L i.toNat free).bytes.at 0).toNat : Int) := rfl
    rw [hM, hE]
    refine ⟨⟨a, b⟩, by unfold llen; omega, ⟨fun h3 => ⟨⟨⟩, hE, ?_⟩, fun h3 => ⟨⟨⟩, hE, ?_⟩⟩, fun _ _ => ⟨by rw [hb1]; simp only [inRo, inR]; omega, ⟨fun h3 => ?_, fun h3 => ⟨⟨⟩, hE, ?_⟩⟩, fun _ _ => ⟨rfl, rfl, rfl, rfl, rfl, rfl⟩⟩⟩
    · unfold q_tdN; rw [if_pos (of_decide_eq_true h3)]
    · unfold q_tdN; rw [if_neg (of_decide_eq_false h3)]
    · have h3 := of_decide_eq_true h3
      rw [hb1] at h3 ⊢
      refine ⟨by simp only [inRo, inR]; omega, ⟨by omega, by omega, by omega⟩, ⟨⟩, hE, ?_⟩
      unfold q_tdS
      rw [if_pos (by omega), show (1 + (((lget L i.toNat free).bytes.at 0).toNat : Int)).toNat = 1 + ((lget L i.toNat free).bytes.at 0).toNat by omega]; rfl
    · have h3 := of_decide_eq_false h3
      rw [hb1] at h3
      unfold q_tdS
      rw [if_neg (by omega)]
theorem ct_rtold : CtOK Try.prog 90 g_rtold :=
  mkR_ok (consA_ok liA_ok iQ_ok) (fun _ => rfl) fun a hq hok => by
    obtain ⟨L, i, _⟩ := a
    exact vc_call (inl := noInl) (ann := (annL [(90, 2000009, lpC [0, 1, 4, 5, 6, 7] (fun (_ : Unit) => []) (fun _ => [(7, .blk tM (.ag [.it .i64 (q_tdN (lget L (i2n i) free)), .st ⟨#[]⟩, .ag [.key (Slots.at (Obj.slots (lget L (i2n i) free)) 12), .key (Slots.at (Obj.slots (lget L (i2n i) free)) 13), .key (Slots.at (Obj.slots (lget L (i2n i) free)) 14)]]))]) (fun _ => []) (fun _ => q_tdZ L i)), (90, 2000012, lpC [0, 1, 4, 5, 6, 7] (fun (_ : Unit) => []) (fun _ => [(7, .blk tM (.ag [.it .i64 (q_tdN (lget L (i2n i) free)), .st (q_tdS (lget L (i2n i) free)), .ag [.key (Slots.at (Obj.slots (lget L (i2n i) free)) 12), .key (Slots.at (Obj.slots (lget L (i2n i) free)) 13), .key (Slots.at (Obj.slots (lget L (i2n i) free)) 14)]]))]) (fun _ => []) (fun _ => q_tdZ L i))])) (oks_cons ct_rcnt (oks_cons ct_rpst oks_nil)) (vc_rtold L i) (by kernel_rfl)
end Go.Proofs.Ytfalhknkaebfoaa
