/- Processes: the program's calls. No condition. The statements vc_.. are printed by a program of the claimant's own. -/
import Derived.Test.YtfalhknkaebfoaaCtQc
namespace Go.Proofs.Ytfalhknkaebfoaa
open Go.Sx
set_option maxRecDepth 100000
set_option linter.unusedVariables false
set_option linter.unusedSimpArgs false
theorem vc_pkinds  :
  ∀ (nid : Nat), some (V.mp nid) = some (V.mp nid) ∧ some [Res.mp IntKind.i64 [6, 7] [V.fn 98 [], V.fn 99 []]] = some [Res.mp IntKind.i64
    [6, 7] [V.fn 98 [], V.fn 99 []]] := by
  exact fun nid => ⟨rfl, rfl⟩
theorem ct_pkinds : CtOK Try.prog 66 (mkNew kdX kdN) := mkNew_ok (π := [0]) (by decide) (fun _ => rfl) (vch_call (inl := noInl) (ann := noAnn) oks_nil hoks_nil vc_pkinds (by kernel_rfl))
theorem ct_siz0 : CtOK Try.prog 53 g_siz0 := siz0_ok ct_size
theorem vc_told0 (i : Int) :
  true = true ∧ 0 = (q_tdM [] i).code ∧ ByteArray.mk (Array.mk []) = (q_tdM [] i).data ∧ void = (q_tdM [] i).k0 ∧ void = (q_tdM [] i).k1 ∧ void = (q_tdM [] i).k2 ∧ 1 = q_tdE [] i := by
  exact ⟨rfl, rfl, rfl, rfl, rfl, rfl, rfl⟩
theorem vc_told (L : List Sx.Obj) (i : Int) :
  true = true ∧ ((!decide (0 < q_size L)) = true → 0 = (q_tdM L i).code ∧ ByteArray.mk (Array.mk []) = (q_tdM L i).data ∧ void = (q_tdM L i).k0 ∧ void = (q_tdM L i).k1 ∧ void = (q_tdM L i).k2 ∧ 1 = q_tdE
    L i) ∧ ((!decide (0 < q_size L)) = false → true = true ∧ ((!decide ((q_get L i).kind = 1) || !decide (((q_get L i).slots.at 2).kind = 1) || decide (((q_get L i).slots.at 2).value < 0) || decide (2 <
    ((q_get L i).slots.at 2).value)) = true → true = true ∧ 0 = (q_tdM L i).code ∧ ByteArray.mk (Array.mk []) = (q_tdM L i).data ∧ void = (q_tdM L i).k0 ∧ void = (q_tdM L i).k1 ∧ void = (q_tdM L i).k2 ∧
    230 = q_tdE L i) ∧ ((!decide ((q_get L i).kind = 1) || !decide (((q_get L i).slots.at 2).kind = 1) || decide (((q_get L i).slots.at 2).value < 0) || decide (2 < ((q_get L i).slots.at 2).value)) = false
    → true = true ∧ ((decide (((q_get L i).slots.at 3).kind = 1) = true → ∃ g : Unit, q_tdZ L i ∧ i = i ∧ L = L ∧ ((q_get L i).slots.at 3).value = q_tdN (q_get L i) ∧ ByteArray.mk (Array.mk []) =
    ByteArray.mk (Array.mk []) ∧ void = void ∧ void = void ∧ void = void ∧ q_get L i = q_get L i) ∧ (decide (((q_get L i).slots.at 3).kind = 1) = false → ∃ g : Unit, q_tdZ L i ∧ i = i ∧ L = L ∧ 0 = q_tdN
    (q_get L i) ∧ ByteArray.mk (Array.mk []) = ByteArray.mk (Array.mk []) ∧ void = void ∧ void = void ∧ void = void ∧ q_get L i = q_get L i)) ∧ ∀ (g : Unit), q_tdZ L i → (inRo IntKind.i64 (b2i ((q_get L
    i).bytes.at 0)) ∧ (decide (b2i ((q_get L i).bytes.at 0) ≤ 32) = true → inRo IntKind.i64 (1 + b2i ((q_get L i).bytes.at 0)) ∧ pSl 1 (1 + b2i ((q_get L i).bytes.at 0)) 64 ∧ ∃ g : Unit, q_tdZ L i ∧ i = i
    ∧ L = L ∧ q_tdN (q_get L i) = q_tdN (q_get L i) ∧ bsub (q_get L i).bytes (Int.toNat 1) (1 + b2i ((q_get L i).bytes.at 0)).toNat = q_tdS (q_get L i) ∧ void = void ∧ void = void ∧ void = void ∧ q_get L i
    = q_get L i) ∧ (decide (b2i ((q_get L i).bytes.at 0) ≤ 32) = false → ∃ g : Unit, q_tdZ L i ∧ i = i ∧ L = L ∧ q_tdN (q_get L i) = q_tdN (q_get L i) ∧ ByteArray.mk (Array.mk []) = q_tdS (q_get L i) ∧
    void = void ∧ void = void ∧ void = void ∧ q_get L i = q_get L i)) ∧ ∀ (g : Unit), q_tdZ L i → true = true ∧ true = true ∧ ∀ (r0 : Loop), r0 = r0 ∧ r0 = r0 ∧ r0 = r0 ∧ r0 = r0 ∧ r0 = r0 ∧ r0 = r0 ∧ r0 =
    r0 ∧ r0 = r0 ∧ r0 = r0 ∧ q_tdN (q_get L i) = (q_tdM L i).code ∧ q_tdS (q_get L i) = (q_tdM L i).data ∧ q_prep L ((q_get L i).slots.at 12) = (q_tdM L i).k0 ∧ q_prep L ((q_get L i).slots.at 13) = (q_tdM
    L i).k1 ∧ q_prep L ((q_get L i).slots.at 14) = (q_tdM L i).k2 ∧ 0 = q_tdE L i)) := by
  have no : ∀ e, q_tdE L i = e → e ≠ 0 → 0 = (q_tdM L i).code ∧ ByteArray.mk (Array.mk []) = (q_tdM L i).data ∧ void = (q_tdM L i).k0 ∧ void = (q_tdM L i).k1 ∧ void = (q_tdM L i).k2 ∧ e = q_tdE L i := fun e h he => by
    have : q_tdM L i = msg0 := by unfold q_tdM; rw [h, if_neg he]
    rw [this, h]; exact ⟨rfl, rfl, rfl, rfl, rfl, rfl⟩
  have hq1 : (!decide (0 < q_size L)) = true → llen L = 0 := fun h => by
    have h1 : ¬ 0 < q_size L := by simpa using h
    unfold q_size at h1; omega
  have hq0 : (!decide (0 < q_size L)) = false → llen L ≠ 0 := fun h => by
    have h1 : 0 < q_size L := by simpa using h
    unfold q_size at h1; omega
  have e := ps_cond (q_get L i)
  rw [e]
  simp only [keq_self, steq_self, oeq_self, same_self, decide_true, Bool.and_true, Bool.not_true, Bool.or_false, Bool.not_false, Bool.false_eq_true, Bool.true_eq_false, false_implies, implies_true, true_implies, true_and, and_true, and_self]
  refine ⟨fun h => no _ ?_ (by omega), fun h => ⟨fun h2 => no _ ?_ (by omega), fun h2 => ?_⟩⟩
  · unfold q_tdE; rw [if_pos (hq1 h)]
  · have h2 : q_psB L i = false := by unfold q_psB; simpa using h2
    unfold q_tdE; rw [if_neg (hq0 h), if_pos (pst_B.2.2 h2)]
  · have h2 : q_psB L i = true := by unfold q_psB; simpa using h2
    have hE : q_tdE L i = 0 := by unfold q_tdE; rw [if_neg (hq0 h), if_neg (by have := pst_B.1.2 h2; omega)]
    obtain ⟨a, b, c, d⟩ := psB_in h2
    have hM : q_tdM L i = ⟨q_tdN (q_get L i), q_tdS (q_get L i), q_prep L ((q_get L i).slots.at 12), q_prep L ((q_get L i).slots.at 13), q_prep L ((q_get L i).slots.at 14)⟩ := by unfold q_tdM; rw [if_pos hE, ← c]
    have hb : ((q_get L i).bytes.at 0).toNat < 256 := UInt8.toNat_lt _
    have hb1 : b2i ((q_get L i).bytes.at 0) = (((q_get L i).bytes.at 0).toNat : Int) := rfl
    rw [hM, hE]
    refine ⟨⟨fun h3 => ⟨⟨⟩, hE, ?_⟩, fun h3 => ⟨⟨⟩, hE, ?_⟩⟩, fun _ _ => ⟨⟨by rw [hb1]; simp only [inRo, inR]; omega, fun h3 => ?_, fun h3 => ⟨⟨⟩, hE, ?_⟩⟩, fun _ _ _ => ⟨rfl, rfl, rfl, rfl, rfl, rfl⟩⟩⟩
    · unfold q_tdN; rw [if_pos (of_decide_eq_true h3)]
    · unfold q_tdN; rw [if_neg (of_decide_eq_false h3)]
    · have h3 := of_decide_eq_true h3
      rw [hb1] at h3 ⊢
      refine ⟨by simp only [inRo, inR]; omega, ⟨by omega, by omega, by omega⟩, ⟨⟩, hE, ?_⟩
      unfold q_tdS
      rw [if_pos (by omega), show (1 + (((q_get L i).bytes.at 0).toNat : Int)).toNat = 1 + ((q_get L i).bytes.at 0).toNat by omega]; rfl
    · have h3 := of_decide_eq_false h3
      rw [hb1] at h3
      unfold q_tdS
      rw [if_neg (by omega)]
theorem ct_told : CtOK Try.prog 26 g_told :=
  mkR_ok (consA_ok sA_ok iQ_ok) (fun _ => rfl) fun a hq hok => by
    obtain ⟨S, i, _⟩ := a
    cases S with
    | none => exact vcd_call (inl := (fun f => f == 62 || f == 72 || f == 73 || f == 102)) (ann := noAnn) (oks_cons ct_siz0 (oks_cons ct_get (oks_cons ct_prep oks_nil))) hoks_nil (dk_one dc_procs) (vc_told0 i) (by kernel_rfl)
    | some L => exact vcd_call (inl := (fun f => f == 62 || f == 72 || f == 73 || f == 102)) (ann := (annL [(14000 + 102, 1, lpU 4), (26, 2000009, lpC [1, 2, 4, 5, 6] (fun (_ : Unit) => []) (fun _ => [(4, .blk tM (.ag [.it .i64 (q_tdN (q_get L i)), .st ⟨#[]⟩, .ag [.key void, .key void, .key void]]))]) (fun _ => []) (fun _ => q_tdZ L i)), (26, 2000012, lpC [1, 2, 4, 5, 6] (fun (_ : Unit) => []) (fun _ => [(4, .blk tM (.ag [.it .i64 (q_tdN (q_get L i)), .st (q_tdS (q_get L i)), .ag [.key void, .key void, .key void]]))]) (fun _ => []) (fun _ => q_tdZ L i))])) (oks_cons ct_size (oks_cons ct_get (oks_cons ct_prep oks_nil))) hoks_nil (dk_one dc_procs) (vc_told L i) (by kernel_rfl)
theorem vc_ans0 (i : Int) (m : Msg) (hs : q_strOk m.data) :
  true = true ∧ 1 = q_anE [] i m := by
  exact ⟨rfl, rfl⟩
theorem vc_ansz (i : Int) (m : Msg) (hs : q_strOk m.data) :
  true = true ∧ 1 = q_anE [] i m := by
  exact ⟨rfl, rfl⟩
theorem vc_ans (L : List Sx.Obj) (i : Int) (m : Msg) (hL : q_okL L) (hs : q_strOk m.data) :
  true = true ∧ ((!decide (0 < q_size L)) = true → 1 = q_anE L i m ∧ L = q_anL L i m) ∧ ((!decide (0 < q_size L)) = false → true = true ∧ inRo IntKind.i64 (szI m.data) ∧ true = true ∧ ((!decide (szI
    m.data ≤ 32)) = true → 2 = q_anE L i m ∧ L = q_anL L i m) ∧ ((!decide (szI m.data ≤ 32)) = false → true = true ∧ true = true ∧ ((!(decide (q_chk m.k0 = 0) && (!q_named m.k0 || decide (q_oid m.k0 <
    q_size L)))) = true → 2 = q_anE L i m ∧ L = q_anL L i m) ∧ ((!(decide (q_chk m.k0 = 0) && (!q_named m.k0 || decide (q_oid m.k0 < q_size L)))) = false → true = true ∧ true = true ∧ ((!(decide (q_chk
    m.k1 = 0) && (!q_named m.k1 || decide (q_oid m.k1 < q_size L)))) = true → 2 = q_anE L i m ∧ L = q_anL L i m) ∧ ((!(decide (q_chk m.k1 = 0) && (!q_named m.k1 || decide (q_oid m.k1 < q_size L)))) = false
    → true = true ∧ true = true ∧ ((!(decide (q_chk m.k2 = 0) && (!q_named m.k2 || decide (q_oid m.k2 < q_size L)))) = true → 2 = q_anE L i m ∧ L = q_anL L i m) ∧ ((!(decide (q_chk m.k2 = 0) && (!q_named
    m.k2 || decide (q_oid m.k2 < q_size L)))) = false → true = true ∧ ((!(q_psB L i && decide (q_psV L i = 1))) = true → 230 = q_anE L i m ∧ L = q_anL L i m) ∧ ((!(q_psB L i && decide (q_psV L i = 1))) =
    false → true = true ∧ true = true ∧ true = true ∧ true = true ∧ true = true ∧ inRo IntKind.i64 (szI m.data) ∧ inRo IntKind.u8 (szI m.data) ∧ pSl 1 64 64 ∧ true = true ∧ 0 = q_anE L i m ∧ q_putL L i
    (Obj.mk (q_get L i).kind (q_get L i).count (q_get L i).calls (((((((q_get L i).slots.put 2 (Key.mk 1 void.oid void.count void.call void.rights 1)).put 3 (Key.mk 1 void.oid void.count void.call
    void.rights m.code)).put 12 (q_prep L m.k0)).put 13 (q_prep L m.k1)).put 14 (q_prep L m.k2)).put 15 void) (bcp (noBytes.put 0 (u8I (szI m.data))) (Int.toNat 1) (Int.toNat 64) m.data)) = q_anL L i
    m)))))) := by
  have no : ∀ e, q_anE L i m = e → e ≠ 0 → e = q_anE L i m ∧ L = q_anL L i m := fun e h he => ⟨h.symm, by unfold q_anL; rw [h, if_neg he]⟩
  have hq1 : (!decide (0 < q_size L)) = true → llen L = 0 := fun h => by
    have h1 : ¬ 0 < q_size L := by simpa using h
    unfold q_size at h1; omega
  have hq0 : (!decide (0 < q_size L)) = false → llen L ≠ 0 := fun h => by
    have h1 : 0 < q_size L := by simpa using h
    unfold q_size at h1; omega
  have hsz : inRo IntKind.i64 (szI m.data) := by unfold q_strOk at hs; simp only [inRo, inR, szI]; omega
  have hs8 : szI m.data ≤ 32 → inRo IntKind.u8 (szI m.data) := fun h => by simp only [inRo, inR, szI] at *; omega
  simp only [may_law, pst_run]
  simp only [keq_self, steq_self, oeq_self, same_self, decide_true, Bool.and_true, Bool.not_true, Bool.or_false, Bool.not_false, Bool.false_eq_true, Bool.true_eq_false, false_implies, implies_true, true_implies, true_and, and_true, and_self]
  have mk : q_mOk L m = (decide (szI m.data ≤ 32) && q_may L m.k0 && q_may L m.k1 && q_may L m.k2) := rfl
  have bad : llen L ≠ 0 → q_mOk L m = false → 2 = q_anE L i m ∧ L = q_anL L i m := fun h hm => no _ (by unfold q_anE; rw [if_neg h, if_pos hm]) (by omega)
  refine ⟨fun h => no _ (by unfold q_anE; rw [if_pos (hq1 h)]) (by omega), fun h => ⟨hsz, fun g1 => bad (hq0 h) ?_, fun g1 => ⟨fun g2 => bad (hq0 h) ?_, fun g2 => ⟨fun g3 => bad (hq0 h) ?_, fun g3 => ⟨fun g4 => bad (hq0 h) ?_, fun g4 => ⟨fun g5 => no _ ?_ (by omega), fun g5 => ?_⟩⟩⟩⟩⟩⟩
  · rw [mk, show decide (szI m.data ≤ 32) = false by simpa using g1]; rfl
  · rw [mk, show q_may L m.k0 = false by simpa using g2]; simp
  · rw [mk, show q_may L m.k1 = false by simpa using g3]; simp
  · rw [mk, show q_may L m.k2 = false by simpa using g4]; simp
  all_goals
    have hm : q_mOk L m = true := by
      rw [mk, show decide (szI m.data ≤ 32) = true by simpa using g1, show q_may L m.k0 = true by simpa using g2, show q_may L m.k1 = true by simpa using g3, show q_may L m.k2 = true by simpa using g4]; rfl
  · unfold q_anE; rw [if_neg (hq0 h), if_neg (by simp [hm]), if_pos (by simpa using g5)]
  have g5' : q_pst L i = 1 := by simpa using g5
  have hE : q_anE L i m = 0 := by unfold q_anE; rw [if_neg (hq0 h), if_neg (by simp [hm]), if_neg (by omega)]
  obtain ⟨a, b, c, d⟩ := psB_in (pst_B.1.1 (by omega : 0 ≤ q_pst L i))
  refine ⟨hsz, hs8 (mOk_sz hm), ⟨by omega, by omega, by omega⟩, hE.symm, ?_⟩
  obtain ⟨f0, f1, f2⟩ := cnt_fit (by have := okL_len hL; omega : 0 < L.length) m
  have ho := hdO_ok (m := q_cnt L m) (a := void) (okL_get hL i.toNat (by omega)) d f0 f1 f2 (void_fit (by omega))
  have e : Obj.mk (q_get L i).kind (q_get L i).count (q_get L i).calls (((((((q_get L i).slots.put 2 (Key.mk 1 void.oid void.count void.call void.rights 1)).put 3 (Key.mk 1 void.oid void.count void.call void.rights m.code)).put 12 (q_prep L m.k0)).put 13 (q_prep L m.k1)).put 14 (q_prep L m.k2)).put 15 void) (bcp (noBytes.put 0 (u8I (szI m.data))) (Int.toNat 1) (Int.toNat 64) m.data) = q_hdO (q_get L i) (q_cnt L m) void := by
    rw [hdB_cp (mOk_sz hm)]; rfl
  rw [e, c, (put_ok a b ho).1]
  unfold q_anL q_hdL
  rw [if_pos hE]
theorem cl_ans (L : List Sx.Obj) (i : Int) (m : Msg) (hL : q_okL L) (hs : q_strOk m.data) : CallTo Try.prog 39 [.lp 0 0, .it .i64 i, msgV m] [.store tS eS L] (kS2 (.it .i64 (q_anE L i m)) (q_anL L i m)) (fun _ _ => False) :=
  vcd_call (inl := (fun f => f == 62 || f == 65 || f == 64 || f == 71 || f == 101 || f == 67 || f == 100 || f == 69)) (ann := (annL [(65, 2, lpU 4)])) (oks_cons ct_size (oks_cons ct_get (oks_cons ct_prep (oks_cons ct_kchk (oks_cons ct_knames (oks_cons ct_pst oks_nil)))))) (hoks_cons hc_put hoks_nil) (dk_one dc_procs) (vc_ans L i m hL hs) (by kernel_rfl)
theorem hc_ans : HOK Try.prog 39 h_ans :=
  hSr_ok (m := fun x => anB.cn x 0) (rdL_ok anB_ok (fun _ => rfl)) (fun _ => rfl) (fun _ _ => rfl) (fun x hs => vcd_call (inl := (fun f => f == 62 || f == 65 || f == 64 || f == 71 || f == 101 || f == 67 || f == 100 || f == 69)) (ann := noAnn) (oks_cons ct_siz0 (oks_cons ct_get (oks_cons ct_prep (oks_cons ct_kchk (oks_cons ct_knames (oks_cons ct_pst oks_nil)))))) (hoks_cons hc_put hoks_nil) (dk_one dc_procs) (vc_ans0 x.1 x.2.1 hs) (by kernel_rfl)) (fun x hs => vcd_call (inl := (fun f => f == 62 || f == 65 || f == 64 || f == 71 || f == 101 || f == 67 || f == 100 || f == 69)) (ann := noAnn) (oks_cons ct_siz0 (oks_cons ct_get (oks_cons ct_prep (oks_cons ct_kchk (oks_cons ct_knames (oks_cons ct_pst oks_nil)))))) (hoks_cons hc_put hoks_nil) (dk_one dc_procs) (vc_ansz x.1 x.2.1 hs) (by kernel_rfl)) fun L x hq => cl_ans L x.1 x.2.1 hq.1 hq.2
theorem vc_inv0 (i : Int) (k : Key) (md : Int) (m : Msg) (hs : q_strOk m.data) :
  true = true ∧ 1 = q_ivE [] i k md m := by
  exact ⟨rfl, rfl⟩
theorem vc_invz (i : Int) (k : Key) (md : Int) (m : Msg) (hs : q_strOk m.data) :
  true = true ∧ 1 = q_ivE [] i k md m := by
  exact ⟨rfl, rfl⟩
theorem vc_inv (L : List Sx.Obj) (i : Int) (k : Key) (md : Int) (m : Msg) (hL : q_okL L) (hs : q_strOk m.data) :
  true = true ∧ ((!decide (0 < q_size L)) = true → 1 = q_ivE L i k md m ∧ L = q_ivL L i k md m) ∧ ((!decide (0 < q_size L)) = false → true = true ∧ true = true ∧ ((!(decide (md = 1) || (decide (md = 2)
    || decide (md = 3)))) = true → 2 = q_ivE L i k md m ∧ L = q_ivL L i k md m) ∧ ((!(decide (md = 1) || (decide (md = 2) || decide (md = 3)))) = false → true = true ∧ true = true ∧ ((!(decide (q_chk k =
    0) && (!q_named k || decide (q_oid k < q_size L)))) = true → 2 = q_ivE L i k md m ∧ L = q_ivL L i k md m) ∧ ((!(decide (q_chk k = 0) && (!q_named k || decide (q_oid k < q_size L)))) = false → true =
    true ∧ inRo IntKind.i64 (szI m.data) ∧ true = true ∧ ((!decide (szI m.data ≤ 32)) = true → 2 = q_ivE L i k md m ∧ L = q_ivL L i k md m) ∧ ((!decide (szI m.data ≤ 32)) = false → true = true ∧ true =
    true ∧ ((!(decide (q_chk m.k0 = 0) && (!q_named m.k0 || decide (q_oid m.k0 < q_size L)))) = true → 2 = q_ivE L i k md m ∧ L = q_ivL L i k md m) ∧ ((!(decide (q_chk m.k0 = 0) && (!q_named m.k0 || decide
    (q_oid m.k0 < q_size L)))) = false → true = true ∧ true = true ∧ ((!(decide (q_chk m.k1 = 0) && (!q_named m.k1 || decide (q_oid m.k1 < q_size L)))) = true → 2 = q_ivE L i k md m ∧ L = q_ivL L i k md m)
    ∧ ((!(decide (q_chk m.k1 = 0) && (!q_named m.k1 || decide (q_oid m.k1 < q_size L)))) = false → true = true ∧ true = true ∧ ((!(decide (q_chk m.k2 = 0) && (!q_named m.k2 || decide (q_oid m.k2 < q_size
    L)))) = true → 2 = q_ivE L i k md m ∧ L = q_ivL L i k md m) ∧ ((!(decide (q_chk m.k2 = 0) && (!q_named m.k2 || decide (q_oid m.k2 < q_size L)))) = false → true = true ∧ ((!(q_psB L i && decide (q_psV L
    i = 1))) = true → 230 = q_ivE L i k md m ∧ L = q_ivL L i k md m) ∧ ((!(q_psB L i && decide (q_psV L i = 1))) = false → true = true ∧ ((!((decide (k.kind = 6) || decide (k.kind = 7)) && q_is L k)) =
    true → 231 = q_ivE L i k md m ∧ L = q_ivL L i k md m) ∧ ((!((decide (k.kind = 6) || decide (k.kind = 7)) && q_is L k)) = false → ((decide (k.kind = 6) = true → true = true ∧ true = true ∧ ((!q_psB L
    k.oid) = true → 231 = q_ivE L i k md m ∧ L = q_ivL L i k md m) ∧ ((!q_psB L k.oid) = false → true = true ∧ ((!(decide (q_psV L k.oid = 0) || decide (md = 3) && decide (k.oid = i))) = true → 232 = q_ivE
    L i k md m ∧ L = q_ivL L i k md m) ∧ ((!(decide (q_psV L k.oid = 0) || decide (md = 3) && decide (k.oid = i))) = false → ∃ g : Unit, q_ivF L i k md m ∧ i = i ∧ md = md ∧ L = L ∧ k = k ∧ m.code = m.code
    ∧ m.data = m.data ∧ q_prep L m.k0 = q_prep L m.k0 ∧ q_prep L m.k1 = q_prep L m.k1 ∧ q_prep L m.k2 = q_prep L m.k2 ∧ i = i ∧ k = k ∧ md = md ∧ iite (decide (md = 1)) 2 (iite (decide (md = 2)) 1 (iite
    (decide (md = 3)) 0 0)) = q_ivN md ∧ q_get L i = q_get L i))) ∧ (decide (k.kind = 6) = false → (decide (k.kind = 7) = true → true = true ∧ true = true ∧ ((!q_psB L k.oid) = true → 231 = q_ivE L i k md
    m ∧ L = q_ivL L i k md m) ∧ ((!q_psB L k.oid) = false → true = true ∧ ((!decide (q_psV L k.oid = 2)) = true → 232 = q_ivE L i k md m ∧ L = q_ivL L i k md m) ∧ ((!decide (q_psV L k.oid = 2)) = false →
    true = true ∧ ((!decide ((q_get L k.oid).calls < 4294967295)) = true → 233 = q_ivE L i k md m ∧ L = q_ivL L i k md m) ∧ ((!decide ((q_get L k.oid).calls < 4294967295)) = false → ∃ g : Unit, q_ivF L i k
    md m ∧ i = i ∧ md = md ∧ L = L ∧ k = k ∧ m.code = m.code ∧ m.data = m.data ∧ q_prep L m.k0 = q_prep L m.k0 ∧ q_prep L m.k1 = q_prep L m.k1 ∧ q_prep L m.k2 = q_prep L m.k2 ∧ i = i ∧ k = k ∧ md = md ∧
    iite (decide (md = 1)) 2 (iite (decide (md = 2)) 1 (iite (decide (md = 3)) 0 0)) = q_ivN md ∧ q_get L i = q_get L i)))) ∧ (decide (k.kind = 7) = false → False))) ∧ ∀ (g : Unit), q_ivF L i k md m → true
    = true ∧ ((!(!decide (md = 1) || decide ((q_get L i).calls < 4294967295))) = true → 233 = q_ivE L i k md m ∧ L = q_ivL L i k md m) ∧ ((!(!decide (md = 1) || decide ((q_get L i).calls < 4294967295))) =
    false → ((decide (md = 1) = true → ∃ g : Unit, q_ivZ L i k md m ∧ i = i ∧ md = md ∧ L = L ∧ k = k ∧ m.code = m.code ∧ m.data = m.data ∧ q_prep L m.k0 = q_prep L m.k0 ∧ q_prep L m.k1 = q_prep L m.k1 ∧
    q_prep L m.k2 = q_prep L m.k2 ∧ i = i ∧ k = k ∧ md = md ∧ q_ivN md = q_ivN md ∧ q_get L i = q_get L i ∧ Key.mk 7 i (q_get L i).count (q_get L i).calls void.rights void.value = q_ivA L i md) ∧ (decide
    (md = 1) = false → ∃ g : Unit, q_ivZ L i k md m ∧ i = i ∧ md = md ∧ L = L ∧ k = k ∧ m.code = m.code ∧ m.data = m.data ∧ q_prep L m.k0 = q_prep L m.k0 ∧ q_prep L m.k1 = q_prep L m.k1 ∧ q_prep L m.k2 =
    q_prep L m.k2 ∧ i = i ∧ k = k ∧ md = md ∧ q_ivN md = q_ivN md ∧ q_get L i = q_get L i ∧ void = q_ivA L i md)) ∧ ∀ (g : Unit), q_ivZ L i k md m → (true = true ∧ true = true ∧ true = true ∧ true = true ∧
    ∃ g : Unit, q_ivZ L i k md m ∧ i = i ∧ md = md ∧ q_putL L i (Obj.mk (q_get L i).kind (q_get L i).count (q_get L i).calls ((q_get L i).slots.put 2 (Key.mk 1 void.oid void.count void.call void.rights
    (q_ivN md))) (q_get L i).bytes) = q_iv1 L i md ∧ k = k ∧ m.code = m.code ∧ m.data = m.data ∧ q_prep L m.k0 = q_prep L m.k0 ∧ q_prep L m.k1 = q_prep L m.k1 ∧ q_prep L m.k2 = q_prep L m.k2 ∧ i = i ∧ k =
    k ∧ md = md ∧ q_ivN md = q_ivN md ∧ q_get L i = q_get L i ∧ q_ivA L i md = q_ivA L i md) ∧ ∀ (g : Unit), q_ivZ L i k md m → ((decide (k.kind = 7) = true → true = true ∧ true = true ∧ inRo IntKind.i64
    ((q_get (q_iv1 L i md) k.oid).calls + 1) ∧ true = true ∧ ∃ g : Unit, q_ivZ L i k md m ∧ i = i ∧ md = md ∧ q_putL (q_iv1 L i md) k.oid (Obj.mk (q_get (q_iv1 L i md) k.oid).kind (q_get (q_iv1 L i md)
    k.oid).count ((q_get (q_iv1 L i md) k.oid).calls + 1) (q_get (q_iv1 L i md) k.oid).slots (q_get (q_iv1 L i md) k.oid).bytes) = q_iv2 L i k md ∧ k = k ∧ m.code = m.code ∧ m.data = m.data ∧ q_prep L m.k0
    = q_prep L m.k0 ∧ q_prep L m.k1 = q_prep L m.k1 ∧ q_prep L m.k2 = q_prep L m.k2 ∧ i = i ∧ k = k ∧ md = md ∧ q_ivN md = q_ivN md ∧ q_get L i = q_get L i ∧ q_ivA L i md = q_ivA L i md) ∧ (decide (k.kind
    = 7) = false → ∃ g : Unit, q_ivZ L i k md m ∧ i = i ∧ md = md ∧ q_iv1 L i md = q_iv2 L i k md ∧ k = k ∧ m.code = m.code ∧ m.data = m.data ∧ q_prep L m.k0 = q_prep L m.k0 ∧ q_prep L m.k1 = q_prep L m.k1
    ∧ q_prep L m.k2 = q_prep L m.k2 ∧ i = i ∧ k = k ∧ md = md ∧ q_ivN md = q_ivN md ∧ q_get L i = q_get L i ∧ q_ivA L i md = q_ivA L i md)) ∧ ∀ (g : Unit), q_ivZ L i k md m → true = true ∧ true = true ∧
    true = true ∧ true = true ∧ true = true ∧ inRo IntKind.i64 (szI m.data) ∧ inRo IntKind.u8 (szI m.data) ∧ pSl 1 64 64 ∧ true = true ∧ 0 = q_ivE L i k md m ∧ q_putL (q_iv2 L i k md) k.oid (Obj.mk (q_get
    (q_iv2 L i k md) k.oid).kind (q_get (q_iv2 L i k md) k.oid).count (q_get (q_iv2 L i k md) k.oid).calls (((((((q_get (q_iv2 L i k md) k.oid).slots.put 2 (Key.mk 1 void.oid void.count void.call
    void.rights 1)).put 3 (Key.mk 1 void.oid void.count void.call void.rights m.code)).put 12 (q_prep L m.k0)).put 13 (q_prep L m.k1)).put 14 (q_prep L m.k2)).put 15 (q_ivA L i md)) (bcp (noBytes.put 0
    (u8I (szI m.data))) (Int.toNat 1) (Int.toNat 64) m.data)) = q_ivL L i k md m)))))))))) := by
  have hq1 : (!decide (0 < q_size L)) = true → llen L = 0 := fun h => by
    have h1 : ¬ 0 < q_size L := by simpa using h
    unfold q_size at h1; omega
  have hq0 : (!decide (0 < q_size L)) = false → llen L ≠ 0 := fun h => by
    have h1 : 0 < q_size L := by simpa using h
    unfold q_size at h1; omega
  have hsz : inRo IntKind.i64 (szI m.data) := by unfold q_strOk at hs; simp only [inRo, inR, szI]; omega
  have hs8 : szI m.data ≤ 32 → inRo IntKind.u8 (szI m.data) := fun h => by simp only [inRo, inR, szI] at *; omega
  simp only [may_law, pst_run]
  simp only [keq_self, steq_self, oeq_self, same_self, decide_true, Bool.and_true, Bool.not_true, Bool.or_false, Bool.not_false, Bool.false_eq_true, Bool.true_eq_false, false_implies, implies_true, true_implies, true_and, and_true, and_self]
  have mk : q_mOk L m = (decide (szI m.data ≤ 32) && q_may L m.k0 && q_may L m.k1 && q_may L m.k2) := rfl
  refine ⟨fun h => iv_no (iv_1 (hq1 h)) (by omega), fun h => ⟨fun c1 => iv_no (iv_2 (hq0 h) (.inl ?_)) (by omega), fun c1 => ⟨fun c2 => iv_no (iv_2 (hq0 h) (.inr (.inl ?_))) (by omega), fun c2 => ⟨hsz, fun g1 => iv_no (iv_2 (hq0 h) (.inr (.inr ?_))) (by omega), fun g1 => ⟨fun g2 => iv_no (iv_2 (hq0 h) (.inr (.inr ?_))) (by omega), fun g2 => ⟨fun g3 => iv_no (iv_2 (hq0 h) (.inr (.inr ?_))) (by omega), fun g3 => ⟨fun g4 => iv_no (iv_2 (hq0 h) (.inr (.inr ?_))) (by omega), fun g4 => ?_⟩⟩⟩⟩⟩⟩⟩
  · simp at c1; omega
  · simpa using c2
  · rw [mk, show decide (szI m.data ≤ 32) = false by simpa using g1]; rfl
  · rw [mk, show q_may L m.k0 = false by simpa using g2]; simp
  · rw [mk, show q_may L m.k1 = false by simpa using g3]; simp
  · rw [mk, show q_may L m.k2 = false by simpa using g4]; simp
  have hl := hq0 h
  have b1 : 1 ≤ md ∧ md ≤ 3 := by simp at c1; omega
  have b2 : q_may L k = true := by simpa using c2
  have b3 : q_mOk L m = true := by
    rw [mk, show decide (szI m.data ≤ 32) = true by simpa using g1, show q_may L m.k0 = true by simpa using g2, show q_may L m.k1 = true by simpa using g3, show q_may L m.k2 = true by simpa using g4]; rfl
  have b : ¬ (¬ (1 ≤ md ∧ md ≤ 3) ∨ q_may L k = false ∨ q_mOk L m = false) := by
    rw [b2, b3]; rintro (x | x | x)
    · exact x b1
    · exact Bool.noConfusion x
    · exact Bool.noConfusion x
  refine ⟨fun g5 => iv_no (iv_230 hl b (by simpa using g5)) (by omega), fun g5 => ?_⟩
  have c : q_pst L i = 1 := by simpa using g5
  refine ⟨fun g6 => iv_no (iv_231 hl b c ?_) (by omega), fun g6 => ?_⟩
  · simp only [Bool.not_eq_true', Bool.and_eq_false_iff, Bool.or_eq_false_iff, decide_eq_false_iff_not] at g6
    rcases g6 with ⟨x, y⟩ | x
    · exact .inr (.inl (by omega))
    · exact .inl x
  have d1 : (k.kind = 6 ∨ k.kind = 7) ∧ q_is L k = true := by simp at g6; exact ⟨by omega, g6.2⟩
  have hd : (!q_psB L k.oid) = true → 231 = q_ivE L i k md m ∧ L = q_ivL L i k md m := fun x => iv_no (iv_231 hl b c (.inr (.inr (pst_B.2.2 (by simpa using x))))) (by omega)
  have dd : 0 ≤ q_pst L k.oid → ¬ (q_is L k = false ∨ ¬ (k.kind = 6 ∨ k.kind = 7) ∨ q_pst L k.oid < 0) := fun h0 => by
    rw [d1.2]; rintro (x | x | x)
    · exact Bool.noConfusion x
    · exact x d1.1
    · omega
  have hd' : (!q_psB L k.oid) = false → 0 ≤ q_pst L k.oid ∧ q_psV L k.oid = q_pst L k.oid := fun x => by
    have hb : q_psB L k.oid = true := by simpa using x
    exact ⟨pst_B.1.2 hb, pst_V hb⟩
  obtain ⟨n0, n1, _, n3⟩ := ivN_in b1
  rw [n3]
  refine ⟨⟨fun h6 => ⟨hd, fun x => ⟨fun y => ?_, fun y => ⟨⟨⟩, ?_, rfl⟩⟩⟩, fun h6 => ⟨fun h7 => ⟨hd, fun x => ⟨fun y => ?_, fun y => ⟨fun z => ?_, fun z => ⟨⟨⟩, ?_, rfl⟩⟩⟩⟩, fun h7 => ?_⟩⟩, fun _ hF => ?_⟩
  · obtain ⟨p0, pv⟩ := hd' x
    have h6' := of_decide_eq_true h6
    rw [pv] at y
    refine iv_no (iv_232 hl b c (dd p0) (.inl ⟨h6', ?_⟩)) (by omega)
    simp only [Bool.not_eq_true', Bool.or_eq_false_iff, Bool.and_eq_false_iff, decide_eq_false_iff_not] at y
    exact ⟨y.1, fun hh => y.2.elim (fun u => u hh.1) (fun u => u hh.2)⟩
  · obtain ⟨p0, pv⟩ := hd' x
    have h6' := of_decide_eq_true h6
    rw [pv] at y
    simp only [Bool.not_eq_false', Bool.or_eq_true, Bool.and_eq_true, decide_eq_true_eq] at y
    refine ⟨hl, b1, b2, b3, c, d1.2, d1.1, p0, ?_, fun hh => by omega⟩
    rintro (⟨_, u, v⟩ | ⟨u, _⟩)
    · exact y.elim u v
    · omega
  · obtain ⟨p0, pv⟩ := hd' x
    have h7' := of_decide_eq_true h7
    rw [pv] at y
    exact iv_no (iv_232 hl b c (dd p0) (.inr ⟨h7', by simpa using y⟩)) (by omega)
  · obtain ⟨p0, pv⟩ := hd' x
    have h7' := of_decide_eq_true h7
    rw [pv] at y
    have y' : q_pst L k.oid = 2 := by simpa using y
    obtain ⟨_, _, k2, _⟩ := psB_in (pst_B.1.1 p0)
    rw [k2] at z
    refine iv_no (iv_233 hl b c (dd p0) ?_ (.inl ⟨h7', by simpa using z⟩)) (by omega)
    rintro (⟨u, _⟩ | ⟨_, u⟩) <;> omega
  · obtain ⟨p0, pv⟩ := hd' x
    have h7' := of_decide_eq_true h7
    rw [pv] at y
    have y' : q_pst L k.oid = 2 := by simpa using y
    obtain ⟨_, _, k2, _⟩ := psB_in (pst_B.1.1 p0)
    rw [k2] at z
    have z' : (lget L k.oid.toNat free).calls < 4294967295 := by simpa using z
    refine ⟨hl, b1, b2, b3, c, d1.2, d1.1, p0, ?_, fun hh => by omega⟩
    rintro (⟨u, _⟩ | ⟨_, u⟩) <;> omega
  · have h6' := of_decide_eq_false h6
    have h7' := of_decide_eq_false h7
    omega
  obtain ⟨_, _, _, _, _, _, _, p0, f9, f10⟩ := hF
  obtain ⟨i0, i1, i2, i3⟩ := psB_in (pst_B.1.1 (by omega : 0 ≤ q_pst L i))
  rw [i2]
  refine ⟨fun g7 => iv_no (iv_233 hl b c (dd p0) f9 (.inr ?_)) (by omega), fun g7 => ?_⟩
  · simp only [Bool.not_eq_true', Bool.or_eq_false_iff, Bool.not_eq_false', decide_eq_true_eq, decide_eq_false_iff_not] at g7
    omega
  have hE : q_ivE L i k md m = 0 := by
    refine iv_0 hl b c (dd p0) f9 ?_
    simp only [Bool.not_eq_false', Bool.or_eq_true, Bool.not_eq_true', decide_eq_true_eq, decide_eq_false_iff_not] at g7
    rintro (u | u)
    · exact f10 u
    · omega
  obtain ⟨_, ⟨⟨k0, k1⟩, _, _⟩, ⟨hb, hb1⟩, ⟨o1, l1⟩, ⟨o2, l2⟩, ⟨q1, q1c⟩, q2, hs32, hA⟩ := iv_facts hL hE
  obtain ⟨_, _, hend⟩ := iv_end hL hE
  refine ⟨⟨fun h1 => ⟨⟨⟩, hE, ?_⟩, fun h1 => ⟨⟨⟩, hE, ?_⟩⟩, fun _ _ => ⟨⟨⟨⟩, hE, ?_⟩, fun _ _ => ⟨⟨fun h7 => ⟨?_, ⟨⟩, hE, ?_⟩, fun h7 => ⟨⟨⟩, hE, ?_⟩⟩, fun _ _ => ⟨hsz, hs8 hs32, ⟨by omega, by omega, by omega⟩, hE.symm, ?_⟩⟩⟩⟩
  · unfold q_ivA; rw [if_pos (of_decide_eq_true h1)]; rfl
  · unfold q_ivA; rw [if_neg (of_decide_eq_false h1)]
  · have e := (bc_put hL hb).2
    rw [hb1, i2] at e
    exact e
  · have ho := objOk_iff.1 (okL_get o1 k.oid.toNat (by omega))
    rw [get_lget k0 (by omega)]
    have := ho.2.2.2.2.2.2.1
    have := ho.2.2.2.2.2.2.2.1
    simp only [inRo, inR]; omega
  · have h7' := of_decide_eq_true h7
    have hc : ¬ 4294967295 ≤ (lget L k.oid.toNat free).calls := fun h => f10 ⟨h7', h⟩
    have e := (put_ok k0 (by omega) (clO_ok (okL_get o1 k.oid.toNat (by omega)) q1 (by rw [q1c]; omega))).1
    rw [get_lget k0 (by omega)]
    unfold q_iv2
    rw [if_pos h7']
    exact e
  · unfold q_iv2; rw [if_neg (of_decide_eq_false h7)]
  · rw [hdB_cp hs32, hE] at *
    exact hend
theorem cl_inv (L : List Sx.Obj) (i : Int) (k : Key) (md : Int) (m : Msg) (hL : q_okL L) (hs : q_strOk m.data) : CallTo Try.prog 25 [.lp 0 0, .it .i64 i, .key k, .it .i64 md, msgV m] [.store tS eS L] (kS2 (.it .i64 (q_ivE L i k md m)) (q_ivL L i k md m)) (fun _ _ => False) :=
  vcd_call (inl := (fun f => f == 62 || f == 63 || f == 68 || f == 70 || f == 98 || f == 99 || f == 65 || f == 64 || f == 71 || f == 101 || f == 67 || f == 100 || f == 69)) (ann := (annL [(65, 2, lpU 4), (25, 2000015, lpC [0, 1, 3, 7, 10, 11, 12, 15, 20] (fun (_ : Unit) => []) (fun _ => [(12, .blk 65 (.it .i64 (q_ivN md)))]) (fun _ => []) (fun _ => q_ivF L i k md m)), (25, 2000019, lpC [0, 1, 3, 7, 10, 11, 12, 15, 20] (fun (_ : Unit) => []) (fun _ => [(20, .blk tK (.key (q_ivA L i md)))]) (fun _ => []) (fun _ => q_ivZ L i k md m)), (25, 2000020, lpC [0, 1, 3, 7, 10, 11, 12, 15, 20] (fun (_ : Unit) => []) (fun _ => []) (fun _ => [(0, .store tS eS (q_iv1 L i md))]) (fun _ => q_ivZ L i k md m)), (25, 2000022, lpC [0, 1, 3, 7, 10, 11, 12, 15, 20] (fun (_ : Unit) => []) (fun _ => []) (fun _ => [(0, .store tS eS (q_iv2 L i k md))]) (fun _ => q_ivZ L i k md m))])) (oks_cons ct_size (oks_cons ct_get (oks_cons ct_prep (oks_cons ct_kchk (oks_cons ct_knames (oks_cons ct_pst (oks_cons ct_named (oks_cons ct_pkinds oks_nil)))))))) (hoks_cons hc_put hoks_nil) (dk_one dc_procs) (vc_inv L i k md m hL hs) (by kernel_rfl)
theorem hc_inv : HOK Try.prog 25 h_inv :=
  hSr_ok (m := fun x => ivB.cn x 0) (rdL_ok ivB_ok (fun _ => rfl)) (fun _ => rfl) (fun _ _ => rfl) (fun x hs => vcd_call (inl := (fun f => f == 62 || f == 63 || f == 68 || f == 70 || f == 98 || f == 99 || f == 65 || f == 64 || f == 71 || f == 101 || f == 67 || f == 100 || f == 69)) (ann := noAnn) (oks_cons ct_siz0 (oks_cons ct_get (oks_cons ct_prep (oks_cons ct_kchk (oks_cons ct_knames (oks_cons ct_pst (oks_cons ct_named (oks_cons ct_pkinds oks_nil)))))))) (hoks_cons hc_put hoks_nil) (dk_one dc_procs) (vc_inv0 x.1 x.2.1 x.2.2.1 x.2.2.2.1 hs) (by kernel_rfl)) (fun x hs => vcd_call (inl := (fun f => f == 62 || f == 63 || f == 68 || f == 70 || f == 98 || f == 99 || f == 65 || f == 64 || f == 71 || f == 101 || f == 67 || f == 100 || f == 69)) (ann := noAnn) (oks_cons ct_siz0 (oks_cons ct_get (oks_cons ct_prep (oks_cons ct_kchk (oks_cons ct_knames (oks_cons ct_pst (oks_cons ct_named (oks_cons ct_pkinds oks_nil)))))))) (hoks_cons hc_put hoks_nil) (dk_one dc_procs) (vc_invz x.1 x.2.1 x.2.2.1 x.2.2.2.1 hs) (by kernel_rfl)) fun L x hq => cl_inv L x.1 x.2.1 x.2.2.1 x.2.2.2.1 hq.1 hq.2
end Go.Proofs.Ytfalhknkaebfoaa
