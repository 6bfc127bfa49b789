/- What spaces stand on: nodes that are put, pages; how many addresses there are. No condition. The statements vc_.. are printed by a program of the claimant's own. -/
import Derived.Test.YtijgfnpbojfmdaaCtW
import Derived.Test.YtijgfnpbojfmdaaSpW
namespace Go.Proofs.Ytijgfnpbojfmdaa
open Go.Sx
set_option maxRecDepth 100000
set_option linter.unusedVariables false
set_option linter.unusedSimpArgs false
theorem vc_nput0 (k : Key) (i : Int) (v : Key) :
  true = true ∧ true = true ∧ ((!decide (0 < q_size [])) = true → void = q_nput [] k i v ∧ 1 = q_nputE [] k i v) ∧ ((!decide (0 < q_size [])) = false → true = true ∧ ((!(q_is [] k && decide (k.kind =
    2))) = true → void = q_nput [] k i v ∧ 190 = q_nputE [] k i v) ∧ ((!(q_is [] k && decide (k.kind = 2))) = false → true = true ∧ ((!decide (bitsI BinOp.and IntKind.i64 k.rights 3 = 0)) = true → void =
    q_nput [] k i v ∧ 191 = q_nputE [] k i v) ∧ ((!decide (bitsI BinOp.and IntKind.i64 k.rights 3 = 0)) = false → true = true ∧ ((!(decide (0 ≤ i) && decide (i < 16))) = true → void = q_nput [] k i v ∧ 4 =
    q_nputE [] k i v) ∧ ((!(decide (0 ≤ i) && decide (i < 16))) = false → true = true ∧ ((!(decide (q_chk v = 0) && (!q_named v || decide (q_oid v < q_size [])))) = true → void = q_nput [] k i v ∧ 2 =
    q_nputE [] k i v) ∧ ((!(decide (q_chk v = 0) && (!q_named v || decide (q_oid v < q_size [])))) = false → q_gotQ k i ∧ true = true ∧ true = true ∧ (0 ≤ i ∧ i < ↑16) ∧ true = true ∧ q_gotO [] (q_nobj []
    k) k i = q_nput [] k i v ∧ 0 = q_nputE [] k i v))))) := by
  refine ⟨rfl, rfl, fun _ => ⟨rfl, rfl⟩, fun h => absurd h (by decide)⟩
theorem vc_nputz (k : Key) (i : Int) (v : Key) :
  true = true ∧ true = true ∧ ((!decide (0 < q_size [])) = true → void = q_nput [] k i v ∧ 1 = q_nputE [] k i v) ∧ ((!decide (0 < q_size [])) = false → true = true ∧ ((!(q_is [] k && decide (k.kind =
    2))) = true → void = q_nput [] k i v ∧ 190 = q_nputE [] k i v) ∧ ((!(q_is [] k && decide (k.kind = 2))) = false → true = true ∧ ((!decide (bitsI BinOp.and IntKind.i64 k.rights 3 = 0)) = true → void =
    q_nput [] k i v ∧ 191 = q_nputE [] k i v) ∧ ((!decide (bitsI BinOp.and IntKind.i64 k.rights 3 = 0)) = false → true = true ∧ ((!(decide (0 ≤ i) && decide (i < 16))) = true → void = q_nput [] k i v ∧ 4 =
    q_nputE [] k i v) ∧ ((!(decide (0 ≤ i) && decide (i < 16))) = false → true = true ∧ ((!(decide (q_chk v = 0) && (!q_named v || decide (q_oid v < q_size [])))) = true → void = q_nput [] k i v ∧ 2 =
    q_nputE [] k i v) ∧ ((!(decide (q_chk v = 0) && (!q_named v || decide (q_oid v < q_size [])))) = false → q_gotQ k i ∧ true = true ∧ true = true ∧ (0 ≤ i ∧ i < ↑16) ∧ true = true ∧ False))))) := by
  refine ⟨rfl, rfl, fun _ => ⟨rfl, rfl⟩, fun h => absurd h (by decide)⟩
theorem vc_nput (L : List Sx.Obj) (k : Key) (i : Int) (v : Key) (hL : q_okL L) :
  true = true ∧ true = true ∧ ((!decide (0 < q_size L)) = true → (void = q_nput L k i v ∧ 1 = q_nputE L k i v) ∧ L = q_nputL L k i v) ∧ ((!decide (0 < q_size L)) = false → true = true ∧ ((!(q_is L k &&
    decide (k.kind = 2))) = true → (void = q_nput L k i v ∧ 190 = q_nputE L k i v) ∧ L = q_nputL L k i v) ∧ ((!(q_is L k && decide (k.kind = 2))) = false → true = true ∧ ((!decide (bitsI BinOp.and
    IntKind.i64 k.rights 3 = 0)) = true → (void = q_nput L k i v ∧ 191 = q_nputE L k i v) ∧ L = q_nputL L k i v) ∧ ((!decide (bitsI BinOp.and IntKind.i64 k.rights 3 = 0)) = false → true = true ∧ ((!(decide
    (0 ≤ i) && decide (i < 16))) = true → (void = q_nput L k i v ∧ 4 = q_nputE L k i v) ∧ L = q_nputL L k i v) ∧ ((!(decide (0 ≤ i) && decide (i < 16))) = false → true = true ∧ ((!(decide (q_chk v = 0) &&
    (!q_named v || decide (q_oid v < q_size L)))) = true → (void = q_nput L k i v ∧ 2 = q_nputE L k i v) ∧ L = q_nputL L k i v) ∧ ((!(decide (q_chk v = 0) && (!q_named v || decide (q_oid v < q_size L)))) =
    false → q_gotQ k i ∧ true = true ∧ true = true ∧ (0 ≤ i ∧ i < ↑16) ∧ true = true ∧ (q_gotO L (q_nobj L k) k i = q_nput L k i v ∧ 0 = q_nputE L k i v) ∧ q_putL L k.oid (Obj.mk (q_nobj L k).kind (q_nobj
    L k).count (q_nobj L k).calls ((q_nobj L k).slots.put i.toNat (q_prep L v)) (q_nobj L k).bytes) = q_nputL L k i v))))) := by
  have fin : ∀ e, q_nputE L k i v = e → e ≠ 0 → (void = q_nput L k i v ∧ e = q_nputE L k i v) ∧ L = q_nputL L k i v := fun e h h0 => by
    unfold q_nput q_nputL
    rw [h, if_neg h0, if_neg h0]
    exact ⟨⟨rfl, rfl⟩, rfl⟩
  have bad : ∀ e, q_asked L k 2 true = e → e ≠ 0 → q_nputE L k i v = e := fun e h h0 => by unfold q_nputE; rw [h, if_neg h0]
  refine ⟨rfl, rfl, fun h => fin _ (bad _ (ask1 h) (by omega)) (by omega), fun h => ⟨rfl, fun h2 => fin _ (bad _ (ask2 h h2) (by omega)) (by omega), fun h2 => ⟨rfl, fun h3 => fin _ (bad _ (ask3 h h2 h3) (by omega)) (by omega), fun h3 => ⟨rfl, fun h4 => fin 4 ?_ (by omega), fun h4 => ⟨rfl, fun h5 => fin 2 ?_ (by omega), fun h5 => ?_⟩⟩⟩⟩⟩
  · rw [Bool.not_eq_true'] at h4
    unfold q_nputE q_nrng
    rw [ask0 h h2 h3, if_pos rfl, h4]
    rfl
  · rw [Bool.not_eq_false'] at h4
    have hm : q_may L v = false := by rw [← may_law]; rw [Bool.not_eq_true'] at h5; exact h5
    unfold q_nputE q_nrng
    rw [ask0 h h2 h3, if_pos rfl, h4, hm]
    rfl
  · rw [Bool.not_eq_false'] at h4
    have h4' : 0 ≤ i ∧ i < 16 := by simpa using h4
    have hm : q_may L v = true := by rw [← may_law]; rw [Bool.not_eq_false'] at h5; exact h5
    have hE : q_nputE L k i v = 0 := by
      unfold q_nputE q_nrng
      rw [ask0 h h2 h3, if_pos rfl, h4, hm]
      rfl
    obtain ⟨a1, a2⟩ := ask_is h2
    obtain ⟨b1, b2, b3, b4, _⟩ := is_all a1
    have hp := (node_put hL a1 a2 (putS_fit (v := v) hL a1 a2 h4'.1 h4'.2)).1
    unfold q_nput q_nputL
    rw [hE, if_pos rfl, if_pos rfl, ← hp, b4]
    exact ⟨⟨h4'.1, h4'.2, b1⟩, rfl, rfl, ⟨h4'.1, by omega⟩, rfl, ⟨rfl, rfl⟩, rfl⟩
theorem cl_nput (L : List Sx.Obj) (k : Key) (i : Int) (v : Key) (hL : q_okL L) : CallTo Try.prog 43 [.lp 0 0, .key k, .it .i64 i, .key v] [.store tS eS L] (kS2 (.tp [.key (q_nput L k i v), .it .i64 (q_nputE L k i v)]) (q_nputL L k i v)) (fun _ _ => False) :=
  vcd_call (inl := (fun f => f == 71 || f == 70 || f == 73 || f == 74)) (ann := noAnn) (oks_cons ct_size (oks_cons ct_named (oks_cons ct_ngot (oks_cons ct_knames (oks_cons ct_kchk (oks_cons ct_prep oks_nil)))))) (hoks_cons hc_put hoks_nil) (dk_one dc_caught) (vc_nput L k i v hL) (by kernel_rfl)
theorem hc_nput : HOK Try.prog 43 h_nput :=
  hSt_ok (m := fun x => [.key x.1, .it .i64 x.2.1, .key x.2.2]) rdKIK_ok (fun _ => rfl) (fun _ _ => rfl) (fun x => vcd_call (inl := (fun f => f == 71 || f == 70 || f == 73 || f == 74)) (ann := noAnn) (oks_cons ct_size (oks_cons ct_named (oks_cons ct_ngot (oks_cons ct_knames (oks_cons ct_kchk (oks_cons ct_prep oks_nil)))))) (hoks_cons hc_put hoks_nil) (dk_one dc_caught) (vc_nput0 x.1 x.2.1 x.2.2) (by kernel_rfl)) (fun x => vcd_call (inl := (fun f => f == 71 || f == 70 || f == 73 || f == 74)) (ann := noAnn) (oks_cons ct_size (oks_cons ct_named (oks_cons ct_ngot (oks_cons ct_knames (oks_cons ct_kchk (oks_cons ct_prep oks_nil)))))) (hoks_cons hc_put hoks_nil) (dk_one dc_caught) (vc_nputz x.1 x.2.1 x.2.2) (by kernel_rfl)) fun L x hL _ _ => cl_nput L x.1 x.2.1 x.2.2 hL
theorem vc_inside (i n : Int) :
  ((decide (0 ≤ i) && decide (0 ≤ n) && decide (i ≤ 64)) = true → inRo IntKind.i64 (64 - i)) ∧ (decide (0 ≤ i) && decide (0 ≤ n) && decide (i ≤ 64) && decide (n ≤ 64 - i)) = q_inside i n := by
  unfold q_inside
  refine ⟨fun h => ?_, ?_⟩
  · simp only [Bool.and_eq_true, decide_eq_true_eq] at h
    simp only [inRo, inR]; omega
  · rfl
theorem ct_inside : CtOK Try.prog 62 g_inside :=
  mk2_ok (rI_ok .i64) (rI_ok .i64) (fun _ _ => rfl) fun i n _ _ => vc_call (inl := noInl) (ann := noAnn) oks_nil (vc_inside i n) (by kernel_rfl)
theorem vc_rinside (i n : Int) :
  ((decide (0 ≤ i) && decide (0 ≤ n) && decide (i ≤ 64) && decide (n ≤ 64)) = true → inRo IntKind.i64 (i + n)) ∧ (decide (0 ≤ i) && decide (0 ≤ n) && decide (i ≤ 64) && decide (n ≤ 64) && decide (i + n ≤
    64)) = q_inside i n := by
  unfold q_inside
  refine ⟨fun h => ?_, ?_⟩
  · simp only [Bool.and_eq_true, decide_eq_true_eq] at h
    simp only [inRo, inR] at *; omega
  · rw [Bool.eq_iff_iff]
    simp only [Bool.and_eq_true, decide_eq_true_eq]
    omega
theorem ct_rinside : CtOK Try.prog 66 g_inside :=
  mk2_ok (rI_ok .i64) (rI_ok .i64) (fun _ _ => rfl) fun i n _ _ => vc_call (inl := noInl) (ann := noAnn) oks_nil (vc_rinside i n) (by kernel_rfl)
theorem vc_page (L : List Sx.Obj) (k : Key) (c : Bool) :
  ((decide (q_asked L k 3 false = 0) && c && !decide (k.rights = 0)) = true → 191 = q_page L k c) ∧ ((decide (q_asked L k 3 false = 0) && c && !decide (k.rights = 0)) = false → q_asked L k 3 false =
    q_page L k c) := by
  unfold q_page
  refine ⟨fun h => ?_, fun h => ?_⟩
  · simp only [Bool.and_eq_true, decide_eq_true_eq] at h
    rw [if_pos h.1.1, if_pos (by rw [h.1.2, Bool.true_and]; exact h.2)]
  · split
    · rename_i h1
      rw [decide_eq_true h1, Bool.true_and] at h
      rw [if_neg (by rw [h]; simp), h1]
    · rfl
theorem ct_page : CtOK Try.prog 65 g_page :=
  mkR_ok (consA_ok liA_ok (consA_ok kA_ok (consA_ok bA_ok nilA_ok))) (fun _ => rfl) fun a hq hok => by
    obtain ⟨L, k, c, _⟩ := a
    exact vc_call (inl := noInl) (ann := noAnn) (oks_cons ct_asked oks_nil) (vc_page L k c) (by kernel_rfl)
theorem vc_pread0 (k : Key) (i n : Int) :
  true = true ∧ (decide (q_size [] = 0) = true → ByteArray.mk (Array.mk []) = q_pread [] k i n ∧ 1 = q_preadE [] k i n) ∧ (decide (q_size [] = 0) = false → ((!q_is [] k || !decide (k.kind = 3)) = true →
    ByteArray.mk (Array.mk []) = q_pread [] k i n ∧ 190 = q_preadE [] k i n) ∧ ((!q_is [] k || !decide (k.kind = 3)) = false → ((!q_inside i n) = true → ByteArray.mk (Array.mk []) = q_pread [] k i n ∧ 4 =
    q_preadE [] k i n) ∧ ((!q_inside i n) = false → inRo IntKind.i64 (i + n) ∧ pSl i (i + n) 64 ∧ bsub (q_nobj [] k).bytes i.toNat (i + n).toNat = q_pread [] k i n ∧ 0 = q_preadE [] k i n))) := by
  refine ⟨rfl, fun h => read_bad (pg1 h) (by omega), fun h => ⟨fun h2 => read_bad (pg2 h h2) (by omega), fun h2 => ⟨fun h3 => read_rng (pgf h h2) h3, fun h3 => ?_⟩⟩⟩
  rw [(is_all (pg_is h2).1).2.2.2.1]
  exact read_ok (pgf h h2) h3
theorem vc_pread (L : List Sx.Obj) (k : Key) (i n : Int) :
  true = true ∧ (decide (q_size L = 0) = true → ByteArray.mk (Array.mk []) = q_pread L k i n ∧ 1 = q_preadE L k i n) ∧ (decide (q_size L = 0) = false → ((!q_is L k || !decide (k.kind = 3)) = true →
    ByteArray.mk (Array.mk []) = q_pread L k i n ∧ 190 = q_preadE L k i n) ∧ ((!q_is L k || !decide (k.kind = 3)) = false → ((!q_inside i n) = true → ByteArray.mk (Array.mk []) = q_pread L k i n ∧ 4 =
    q_preadE L k i n) ∧ ((!q_inside i n) = false → inRo IntKind.i64 (i + n) ∧ pSl i (i + n) 64 ∧ bsub (q_nobj L k).bytes i.toNat (i + n).toNat = q_pread L k i n ∧ 0 = q_preadE L k i n))) := by
  refine ⟨rfl, fun h => read_bad (pg1 h) (by omega), fun h => ⟨fun h2 => read_bad (pg2 h h2) (by omega), fun h2 => ⟨fun h3 => read_rng (pgf h h2) h3, fun h3 => ?_⟩⟩⟩
  rw [(is_all (pg_is h2).1).2.2.2.1]
  exact read_ok (pgf h h2) h3
theorem ct_pread : CtOK Try.prog 41 g_pread :=
  mkR_ok (consA_ok sA_ok (consA_ok kA_ok (consA_ok iA_ok (consA_ok iA_ok nilA_ok)))) (fun _ => rfl) fun a hq hok => by
    obtain ⟨S, k, i, n, _⟩ := a
    cases S with
    | none => exact vch_call (inl := (fun f => f == 61)) (ann := noAnn) (oks_cons ct_size (oks_cons ct_named (oks_cons ct_inside oks_nil))) hoks_nil (vc_pread0 k i n) (by kernel_rfl)
    | some L => exact vch_call (inl := (fun f => f == 61)) (ann := noAnn) (oks_cons ct_size (oks_cons ct_named (oks_cons ct_inside oks_nil))) hoks_nil (vc_pread L k i n) (by kernel_rfl)
theorem vc_pwr0 (k : Key) (i : Int) (s : ByteArray)   :
  true = true ∧ (decide (q_size [] = 0) = true → 1 = q_pwrE [] k i s) ∧ (decide (q_size [] = 0) = false → ((!q_is [] k || !decide (k.kind = 3)) = true → 190 = q_pwrE [] k i s) ∧ ((!q_is [] k || !decide
    (k.kind = 3)) = false → ((!decide (bitsI BinOp.and IntKind.i64 k.rights 1 = 0)) = true → 191 = q_pwrE [] k i s) ∧ ((!decide (bitsI BinOp.and IntKind.i64 k.rights 1 = 0)) = false → inRo IntKind.i64 (szI
    s) ∧ ((!q_inside i (szI s)) = true → 4 = q_pwrE [] k i s) ∧ ((!q_inside i (szI s)) = false → true = true ∧ true = true ∧ pSl i 64 64 ∧ true = true ∧ q_put [] k.oid (Obj.mk (q_nobj [] k).kind (q_nobj []
    k).count (q_nobj [] k).calls (q_nobj [] k).slots (bcp (q_nobj [] k).bytes i.toNat (Int.toNat 64) s)) = q_pwrE [] k i s)))) := by
  exact ⟨rfl, fun h => (wr_bad (pg1 h) (by omega)).1, fun h => absurd h (by decide)⟩
theorem vc_pwrz (k : Key) (i : Int) (s : ByteArray)   :
  true = true ∧ (decide (q_size [] = 0) = true → 1 = q_pwrE [] k i s) ∧ (decide (q_size [] = 0) = false → ((!q_is [] k || !decide (k.kind = 3)) = true → 190 = q_pwrE [] k i s) ∧ ((!q_is [] k || !decide
    (k.kind = 3)) = false → ((!decide (bitsI BinOp.and IntKind.i64 k.rights 1 = 0)) = true → 191 = q_pwrE [] k i s) ∧ ((!decide (bitsI BinOp.and IntKind.i64 k.rights 1 = 0)) = false → inRo IntKind.i64 (szI
    s) ∧ ((!q_inside i (szI s)) = true → 4 = q_pwrE [] k i s) ∧ ((!q_inside i (szI s)) = false → true = true ∧ true = true ∧ pSl i 64 64 ∧ true = true ∧ False)))) := by
  exact ⟨rfl, fun h => (wr_bad (pg1 h) (by omega)).1, fun h => absurd h (by decide)⟩
theorem vc_pwr (L : List Sx.Obj) (k : Key) (i : Int) (s : ByteArray) (hL : q_okL L) (hs : q_strOk s) :
  true = true ∧ (decide (q_size L = 0) = true → 1 = q_pwrE L k i s ∧ L = q_pwrL L k i s) ∧ (decide (q_size L = 0) = false → ((!q_is L k || !decide (k.kind = 3)) = true → 190 = q_pwrE L k i s ∧ L = q_pwrL
    L k i s) ∧ ((!q_is L k || !decide (k.kind = 3)) = false → ((!decide (bitsI BinOp.and IntKind.i64 k.rights 1 = 0)) = true → 191 = q_pwrE L k i s ∧ L = q_pwrL L k i s) ∧ ((!decide (bitsI BinOp.and
    IntKind.i64 k.rights 1 = 0)) = false → inRo IntKind.i64 (szI s) ∧ ((!q_inside i (szI s)) = true → 4 = q_pwrE L k i s ∧ L = q_pwrL L k i s) ∧ ((!q_inside i (szI s)) = false → true = true ∧ true = true ∧
    pSl i 64 64 ∧ true = true ∧ q_put L k.oid (Obj.mk (q_nobj L k).kind (q_nobj L k).count (q_nobj L k).calls (q_nobj L k).slots (bcp (q_nobj L k).bytes i.toNat (Int.toNat 64) s)) = q_pwrE L k i s ∧ q_putL
    L k.oid (Obj.mk (q_nobj L k).kind (q_nobj L k).count (q_nobj L k).calls (q_nobj L k).slots (bcp (q_nobj L k).bytes i.toNat (Int.toNat 64) s)) = q_pwrL L k i s)))) := by
  refine ⟨rfl, fun h => wr_bad (pg1 h) (by omega), fun h => ⟨fun h2 => wr_bad (pg2 h h2) (by omega), fun h2 => ⟨fun h3 => wr_bad (pg3 h h2 h3) (by omega), fun h3 => ⟨?_, fun h4 => wr_rng (pgt h h2 h3) h4, fun h4 => ?_⟩⟩⟩⟩
  · unfold q_strOk at hs; simp only [inRo, inR, szI]; omega
  · obtain ⟨a, b, c⟩ := wr_ok hL (pg_is h2).1 (pg_is h2).2 (pgt h h2 h3) h4
    exact ⟨rfl, rfl, a, rfl, b, c⟩
theorem cl_pwr (L : List Sx.Obj) (k : Key) (i : Int) (s : ByteArray) (hL : q_okL L) (hs : q_strOk s) : CallTo Try.prog 37 [.lp 0 0, .key k, .it .i64 i, .st s] [.store tS eS L] (kS2 (.it .i64 (q_pwrE L k i s)) (q_pwrL L k i s)) (fun _ _ => False) :=
  vch_call (inl := (fun f => f == 61 || f == 63 || f == 64)) (ann := noAnn) (oks_cons ct_size (oks_cons ct_named (oks_cons ct_inside oks_nil))) (hoks_cons hc_put hoks_nil) (vc_pwr L k i s hL hs) (by kernel_rfl)
theorem hc_pwr : HOK Try.prog 37 h_pwr :=
  hSt_ok (m := fun x => [.key x.1, .it .i64 x.2.1, .st x.2.2]) rdKIS_ok (fun _ => rfl) (fun _ _ => rfl) (fun x => vch_call (inl := (fun f => f == 61 || f == 63 || f == 64)) (ann := noAnn) (oks_cons ct_size (oks_cons ct_named (oks_cons ct_inside oks_nil))) (hoks_cons hc_put hoks_nil) (vc_pwr0 x.1 x.2.1 x.2.2) (by kernel_rfl)) (fun x => vch_call (inl := (fun f => f == 61 || f == 63 || f == 64)) (ann := noAnn) (oks_cons ct_size (oks_cons ct_named (oks_cons ct_inside oks_nil))) (hoks_cons hc_put hoks_nil) (vc_pwrz x.1 x.2.1 x.2.2) (by kernel_rfl)) fun L x hL _ _ => cl_pwr L x.1 x.2.1 x.2.2 hL.1 hL.2
theorem vc_each (h : Int) (hh : inR .i64 h) (hq : q_eachQ h) :
  inRo IntKind.i64 (h - 1) ∧ (∃ g, q_invE h g ∧ h = h ∧ 64 = q_each (g + 1) ∧ h - 1 = h - 1 ∧ 0 = g) ∧ ∀ (g : Int), q_invE h g → (decide (g < h - 1) = true → inRo IntKind.i64 (q_each (g + 1) * 16) ∧ inRo
    IntKind.i64 (g + 1) ∧ ∃ g', q_invE h g' ∧ (h - g').toNat < (h - g).toNat ∧ h = h ∧ q_each (g + 1) * 16 = q_each (g' + 1) ∧ h - 1 = h - 1 ∧ g + 1 = g') ∧ (decide (g < h - 1) = false → q_each (g + 1) =
    q_each h) := by
  obtain ⟨q0, q9⟩ := hq
  refine ⟨by simp only [inRo, inR] at *; omega, ⟨0, ⟨by omega, .inl rfl⟩, rfl, (each_low (by omega)).symm, rfl, rfl⟩, fun g hg => ⟨fun hlt => ?_, fun hge => ?_⟩⟩
  · obtain ⟨g0, g1⟩ := hg
    have hlt := of_decide_eq_true hlt
    have hb := each_le (show g + 1 ≤ 9 by omega)
    exact ⟨by simp only [inRo, inR]; omega, by simp only [inRo, inR]; omega, g + 1, ⟨by omega, .inr (by omega)⟩, by omega, rfl, each_succ (by omega), rfl, rfl⟩
  · obtain ⟨g0, g1⟩ := hg
    have hge := of_decide_eq_false hge
    rcases g1 with rfl | g1
    · rw [each_low (by omega), each_low (by omega)]
    · rw [show g + 1 = h by omega]
theorem ct_each : CtOK Try.prog 26 g_each :=
  mkR_ok (consA_ok iA_ok nilA_ok) (fun _ => rfl) fun a hq hok => by
    obtain ⟨h, _⟩ := a
    exact vc_call (inl := noInl) (ann := (annL [(26, 3, lpG [0, 2, 5] (fun g => [(3, .it .i64 (q_each (iadd g 1))), (6, .it .i64 g)]) (q_invE h) h)])) oks_nil (vc_each h hok.1 hq) (by kernel_rfl)
theorem vc_reach (h : Int) (hh : inR .i64 h) (hq : q_eachQ h) :
  (∃ g, q_invF h g ∧ h = h ∧ 64 = q_each g ∧ 1 = g) ∧ ∀ (g : Int), q_invF h g → (decide (g < h) = true → inRo IntKind.i64 (q_each g * 16) ∧ inRo IntKind.i64 (g + 1) ∧ ∃ g', q_invF h g' ∧ (h - g').toNat <
    (h - g).toNat ∧ h = h ∧ q_each g * 16 = q_each g' ∧ g + 1 = g') ∧ (decide (g < h) = false → q_each g = q_each h) := by
  obtain ⟨q0, q9⟩ := hq
  refine ⟨⟨1, ⟨by omega, .inl rfl⟩, rfl, (each_low (by omega)).symm, rfl⟩, fun g hg => ⟨fun hlt => ?_, fun hge => ?_⟩⟩
  · obtain ⟨g0, g1⟩ := hg
    have hlt := of_decide_eq_true hlt
    have hb := each_le (show g ≤ 9 by omega)
    exact ⟨by simp only [inRo, inR]; omega, by simp only [inRo, inR]; omega, g + 1, ⟨by omega, .inr (by omega)⟩, by omega, rfl, each_succ (by omega), rfl⟩
  · obtain ⟨g0, g1⟩ := hg
    have hge := of_decide_eq_false hge
    rcases g1 with rfl | g1
    · rw [each_low (by omega), each_low (by omega)]
    · rw [show g = h by omega]
theorem ct_reach : CtOK Try.prog 27 g_each :=
  mkR_ok (consA_ok iA_ok nilA_ok) (fun _ => rfl) fun a hq hok => by
    obtain ⟨h, _⟩ := a
    exact vc_call (inl := noInl) (ann := (annL [(27, 3, lpG [0, 2] (fun g => [(3, .it .i64 (q_each g)), (4, .it .i64 g)]) (q_invF h) h)])) oks_nil (vc_reach h hok.1 hq) (by kernel_rfl)
theorem vc_span (h : Int) :
  (decide (h = 0) = true → 64 = q_span h) ∧ (decide (h = 0) = false → ((decide (h < 0) || decide (8 < h)) = true → 0 = q_span h) ∧ ((decide (h < 0) || decide (8 < h)) = false → q_eachQ h ∧ inRo
    IntKind.i64 (14 * q_each h) ∧ 14 * q_each h = q_span h)) := by
  refine ⟨fun e => ?_, fun e => ⟨fun e2 => ?_, fun e2 => ?_⟩⟩
  · have e := of_decide_eq_true e
    unfold q_span; rw [if_pos e]
  · have e := of_decide_eq_false e
    simp only [Bool.or_eq_true, decide_eq_true_eq] at e2
    unfold q_span; rw [if_neg e, if_pos (by omega)]
  · have e := of_decide_eq_false e
    simp only [Bool.or_eq_false_iff, decide_eq_false_iff_not] at e2
    have hb := each_le (show h ≤ 9 by omega)
    refine ⟨⟨by omega, by omega⟩, by simp only [inRo, inR]; omega, ?_⟩
    unfold q_span; rw [if_neg e, if_neg (by omega)]
theorem ct_span : CtOK Try.prog 11 g_span :=
  mkR_ok (consA_ok iA_ok nilA_ok) (fun _ => rfl) fun a hq hok => by
    obtain ⟨h, _⟩ := a
    exact vc_call (inl := noInl) (ann := noAnn) (oks_cons ct_each oks_nil) (vc_span h) (by kernel_rfl)
theorem vc_rspan (h : Int) :
  (decide (h = 0) = true → 64 = q_span h) ∧ (decide (h = 0) = false → ((decide (h < 1) || decide (8 < h)) = true → 0 = q_span h) ∧ ((decide (h < 1) || decide (8 < h)) = false → q_eachQ h ∧ inRo
    IntKind.i64 (14 * q_each h) ∧ 14 * q_each h = q_span h)) := by
  refine ⟨fun e => ?_, fun e => ⟨fun e2 => ?_, fun e2 => ?_⟩⟩
  · have e := of_decide_eq_true e
    unfold q_span; rw [if_pos e]
  · have e := of_decide_eq_false e
    simp only [Bool.or_eq_true, decide_eq_true_eq] at e2
    unfold q_span; rw [if_neg e, if_pos (by omega)]
  · have e := of_decide_eq_false e
    simp only [Bool.or_eq_false_iff, decide_eq_false_iff_not] at e2
    have hb := each_le (show h ≤ 9 by omega)
    refine ⟨⟨by omega, by omega⟩, by simp only [inRo, inR]; omega, ?_⟩
    unfold q_span; rw [if_neg e, if_neg (by omega)]
theorem ct_rspan : CtOK Try.prog 12 g_span :=
  mkR_ok (consA_ok iA_ok nilA_ok) (fun _ => rfl) fun a hq hok => by
    obtain ⟨h, _⟩ := a
    exact vc_call (inl := noInl) (ann := noAnn) (oks_cons ct_reach oks_nil) (vc_rspan h) (by kernel_rfl)
end Go.Proofs.Ytijgfnpbojfmdaa
