/- Banks: the program's. No condition. The statements vc_.. are printed by a program of the claimant's own. -/
import Derived.Test.YtfalhknkaebfoaaKS
import Derived.Test.YtfalhknkaebfoaaSpB
import Derived.Test.YtfalhknkaebfoaaCtVb
namespace Go.Proofs.Ytfalhknkaebfoaa
open Go.Sx
set_option maxRecDepth 100000
set_option linter.unusedVariables false
set_option linter.unusedSimpArgs false
theorem vc_bkey (kind oid count : Int) :
  (decide (kind = 2) = true → Key.mk 3 oid count void.call void.rights void.value = q_bkey kind oid count) ∧ (decide (kind = 2) = false → Key.mk 2 oid count void.call void.rights void.value = q_bkey kind
    oid count) := by
  unfold q_bkey
  exact ⟨fun h => by rw [if_pos (of_decide_eq_true h)]; rfl, fun h => by rw [if_neg (of_decide_eq_false h)]; rfl⟩
theorem ct_bkey : CtOK Try.prog 94 g_bkey :=
  mk3_ok (rI_ok .i64) (rI_ok .i64) (rI_ok .i64) (fun _ _ _ => rfl) fun i j k _ _ _ => vc_call (inl := noInl) (ann := noAnn) oks_nil (vc_bkey i j k) (by kernel_rfl)
theorem vc_brange0 (k : Key) :
  true = true ∧ true = true ∧ ((!decide (0 < q_size [])) = true → 0 = q_bnkX [] k ∧ 0 = q_bnkY [] k ∧ 1 = q_bnkE [] k) ∧ ((!decide (0 < q_size [])) = false → true = true ∧ ((!(q_is [] k && decide (k.kind
    = 4))) = true → 0 = q_bnkX [] k ∧ 0 = q_bnkY [] k ∧ 190 = q_bnkE [] k) ∧ ((!(q_is [] k && decide (k.kind = 4))) = false → true = true ∧ ((!(decide (((q_nobj [] k).slots.at 0).kind = 1) && decide
    (((q_nobj [] k).slots.at 1).kind = 1) && decide (0 ≤ ((q_nobj [] k).slots.at 0).value) && decide (((q_nobj [] k).slots.at 0).value ≤ ((q_nobj [] k).slots.at 1).value) && decide (((q_nobj [] k).slots.at
    1).value < q_size []))) = true → 0 = q_bnkX [] k ∧ 0 = q_bnkY [] k ∧ 220 = q_bnkE [] k) ∧ ((!(decide (((q_nobj [] k).slots.at 0).kind = 1) && decide (((q_nobj [] k).slots.at 1).kind = 1) && decide (0 ≤
    ((q_nobj [] k).slots.at 0).value) && decide (((q_nobj [] k).slots.at 0).value ≤ ((q_nobj [] k).slots.at 1).value) && decide (((q_nobj [] k).slots.at 1).value < q_size []))) = false → ((q_nobj []
    k).slots.at 0).value = q_bnkX [] k ∧ ((q_nobj [] k).slots.at 1).value = q_bnkY [] k ∧ 0 = q_bnkE [] k))) := by
  exact ⟨rfl, rfl, fun h => rg_no (bk1 h) (by omega), fun h => absurd h (by decide)⟩
theorem vc_brange (L : List Sx.Obj) (k : Key) :
  true = true ∧ true = true ∧ ((!decide (0 < q_size L)) = true → 0 = q_bnkX L k ∧ 0 = q_bnkY L k ∧ 1 = q_bnkE L k) ∧ ((!decide (0 < q_size L)) = false → true = true ∧ ((!(q_is L k && decide (k.kind =
    4))) = true → 0 = q_bnkX L k ∧ 0 = q_bnkY L k ∧ 190 = q_bnkE L k) ∧ ((!(q_is L k && decide (k.kind = 4))) = false → true = true ∧ ((!(decide (((q_nobj L k).slots.at 0).kind = 1) && decide (((q_nobj L
    k).slots.at 1).kind = 1) && decide (0 ≤ ((q_nobj L k).slots.at 0).value) && decide (((q_nobj L k).slots.at 0).value ≤ ((q_nobj L k).slots.at 1).value) && decide (((q_nobj L k).slots.at 1).value <
    q_size L))) = true → 0 = q_bnkX L k ∧ 0 = q_bnkY L k ∧ 220 = q_bnkE L k) ∧ ((!(decide (((q_nobj L k).slots.at 0).kind = 1) && decide (((q_nobj L k).slots.at 1).kind = 1) && decide (0 ≤ ((q_nobj L
    k).slots.at 0).value) && decide (((q_nobj L k).slots.at 0).value ≤ ((q_nobj L k).slots.at 1).value) && decide (((q_nobj L k).slots.at 1).value < q_size L))) = false → ((q_nobj L k).slots.at 0).value =
    q_bnkX L k ∧ ((q_nobj L k).slots.at 1).value = q_bnkY L k ∧ 0 = q_bnkE L k))) := by
  refine ⟨rfl, rfl, fun h => rg_no (bk1 h) (by omega), fun h => ⟨rfl, fun h2 => rg_no (bk2 h h2) (by omega), fun h2 => ⟨rfl, fun h3 => rg_no (bk3 h h2 h3) (by omega), fun h3 => ?_⟩⟩⟩
  obtain ⟨e, e1, e2⟩ := bk0 h h2 h3
  obtain ⟨x1, x2⟩ := bnkXY e
  rw [e1, e2, x1, x2]
  exact ⟨rfl, rfl, e.symm⟩
theorem ct_brange : CtOK Try.prog 19 g_brange :=
  mkR_ok (consA_ok sA_ok kB_ok) (fun _ => rfl) fun a hq hok => by
    obtain ⟨S, k, _⟩ := a
    cases S with
    | none => exact vcd_call (inl := (fun f => f == 47 || f == 46)) (ann := noAnn) (oks_cons ct_size (oks_cons ct_named oks_nil)) hoks_nil (dk_one dc_banks) (vc_brange0 k) (by kernel_rfl)
    | some L => exact vcd_call (inl := (fun f => f == 47 || f == 46)) (ann := noAnn) (oks_cons ct_size (oks_cons ct_named oks_nil)) hoks_nil (dk_one dc_banks) (vc_brange L k) (by kernel_rfl)
theorem vc_bowns0 (k v : Key) :
  true = true ∧ true = true ∧ ((!decide (0 < q_size [])) = true → false = q_bow [] k v ∧ 1 = q_bnkE [] k) ∧ ((!decide (0 < q_size [])) = false → true = true ∧ ((!(q_is [] k && decide (k.kind = 4))) =
    true → false = q_bow [] k v ∧ 190 = q_bnkE [] k) ∧ ((!(q_is [] k && decide (k.kind = 4))) = false → true = true ∧ ((!(decide (((q_nobj [] k).slots.at 0).kind = 1) && decide (((q_nobj [] k).slots.at
    1).kind = 1) && decide (0 ≤ ((q_nobj [] k).slots.at 0).value) && decide (((q_nobj [] k).slots.at 0).value ≤ ((q_nobj [] k).slots.at 1).value) && decide (((q_nobj [] k).slots.at 1).value < q_size [])))
    = true → false = q_bow [] k v ∧ 220 = q_bnkE [] k) ∧ ((!(decide (((q_nobj [] k).slots.at 0).kind = 1) && decide (((q_nobj [] k).slots.at 1).kind = 1) && decide (0 ≤ ((q_nobj [] k).slots.at 0).value) &&
    decide (((q_nobj [] k).slots.at 0).value ≤ ((q_nobj [] k).slots.at 1).value) && decide (((q_nobj [] k).slots.at 1).value < q_size []))) = false → true = true ∧ (q_is [] v && (decide (v.kind = 2) ||
    decide (v.kind = 3)) && decide (((q_nobj [] k).slots.at 0).value ≤ q_oid v) && decide (q_oid v ≤ ((q_nobj [] k).slots.at 1).value)) = q_bow [] k v ∧ 0 = q_bnkE [] k))) := by
  exact ⟨rfl, rfl, fun h => bow_no (bk1 h) (by omega), fun h => absurd h (by decide)⟩
theorem vc_bowns (L : List Sx.Obj) (k v : Key) :
  true = true ∧ true = true ∧ ((!decide (0 < q_size L)) = true → false = q_bow L k v ∧ 1 = q_bnkE L k) ∧ ((!decide (0 < q_size L)) = false → true = true ∧ ((!(q_is L k && decide (k.kind = 4))) = true →
    false = q_bow L k v ∧ 190 = q_bnkE L k) ∧ ((!(q_is L k && decide (k.kind = 4))) = false → true = true ∧ ((!(decide (((q_nobj L k).slots.at 0).kind = 1) && decide (((q_nobj L k).slots.at 1).kind = 1) &&
    decide (0 ≤ ((q_nobj L k).slots.at 0).value) && decide (((q_nobj L k).slots.at 0).value ≤ ((q_nobj L k).slots.at 1).value) && decide (((q_nobj L k).slots.at 1).value < q_size L))) = true → false =
    q_bow L k v ∧ 220 = q_bnkE L k) ∧ ((!(decide (((q_nobj L k).slots.at 0).kind = 1) && decide (((q_nobj L k).slots.at 1).kind = 1) && decide (0 ≤ ((q_nobj L k).slots.at 0).value) && decide (((q_nobj L
    k).slots.at 0).value ≤ ((q_nobj L k).slots.at 1).value) && decide (((q_nobj L k).slots.at 1).value < q_size L))) = false → true = true ∧ (q_is L v && (decide (v.kind = 2) || decide (v.kind = 3)) &&
    decide (((q_nobj L k).slots.at 0).value ≤ q_oid v) && decide (q_oid v ≤ ((q_nobj L k).slots.at 1).value)) = q_bow L k v ∧ 0 = q_bnkE L k))) := by
  refine ⟨rfl, rfl, fun h => bow_no (bk1 h) (by omega), fun h => ⟨rfl, fun h2 => bow_no (bk2 h h2) (by omega), fun h2 => ⟨rfl, fun h3 => bow_no (bk3 h h2 h3) (by omega), fun h3 => ⟨rfl, ?_, (bk0 h h2 h3).1.symm⟩⟩⟩⟩
  obtain ⟨e, e1, e2⟩ := bk0 h h2 h3
  rw [e1, e2]
  unfold q_bow q_thing
  rw [e]
  cases hi : q_is L v with
  | false => simp
  | true =>
    cases hk : (decide (v.kind = 2) || decide (v.kind = 3)) with
    | false => simp
    | true =>
      have hn : q_oid v = v.oid := is_oid hi
      rw [hn]; simp
theorem ct_bowns : CtOK Try.prog 31 g_bowns :=
  mkR_ok (consA_ok sA_ok kkB_ok) (fun _ => rfl) fun a hq hok => by
    obtain ⟨S, k, v, _⟩ := a
    cases S with
    | none => exact vcd_call (inl := (fun f => f == 47 || f == 46 || f == 78)) (ann := noAnn) (oks_cons ct_size (oks_cons ct_named (oks_cons ct_knames oks_nil))) hoks_nil (dk_one dc_banks) (vc_bowns0 k v) (by kernel_rfl)
    | some L => exact vcd_call (inl := (fun f => f == 47 || f == 46 || f == 78)) (ann := noAnn) (oks_cons ct_size (oks_cons ct_named (oks_cons ct_knames oks_nil))) hoks_nil (dk_one dc_banks) (vc_bowns L k v) (by kernel_rfl)
theorem vc_bdes0 (k v : Key) :
  true = true ∧ true = true ∧ ((!decide (0 < q_size [])) = true → 1 = q_bdsE [] k v) ∧ ((!decide (0 < q_size [])) = false → true = true ∧ ((!(q_is [] k && decide (k.kind = 4))) = true → 190 = q_bdsE [] k
    v) ∧ ((!(q_is [] k && decide (k.kind = 4))) = false → true = true ∧ ((!(decide (((q_nobj [] k).slots.at 0).kind = 1) && decide (((q_nobj [] k).slots.at 1).kind = 1) && decide (0 ≤ ((q_nobj []
    k).slots.at 0).value) && decide (((q_nobj [] k).slots.at 0).value ≤ ((q_nobj [] k).slots.at 1).value) && decide (((q_nobj [] k).slots.at 1).value < q_size []))) = true → 220 = q_bdsE [] k v) ∧
    ((!(decide (((q_nobj [] k).slots.at 0).kind = 1) && decide (((q_nobj [] k).slots.at 1).kind = 1) && decide (0 ≤ ((q_nobj [] k).slots.at 0).value) && decide (((q_nobj [] k).slots.at 0).value ≤ ((q_nobj
    [] k).slots.at 1).value) && decide (((q_nobj [] k).slots.at 1).value < q_size []))) = false → true = true ∧ true = true ∧ ((!(q_is [] v && (decide (v.kind = 2) || decide (v.kind = 3)))) = true → 5 =
    q_bdsE [] k v) ∧ ((!(q_is [] v && (decide (v.kind = 2) || decide (v.kind = 3)))) = false → true = true ∧ true = true ∧ ((!(decide (((q_nobj [] k).slots.at 0).value ≤ v.oid) && decide (v.oid ≤ ((q_nobj
    [] k).slots.at 1).value) && !decide (v.oid = k.oid))) = true → 4 = q_bdsE [] k v) ∧ ((!(decide (((q_nobj [] k).slots.at 0).value ≤ v.oid) && decide (v.oid ≤ ((q_nobj [] k).slots.at 1).value) && !decide
    (v.oid = k.oid))) = false → true = true ∧ true = true ∧ 0 = q_bdsE [] k v))))) := by
  exact ⟨rfl, rfl, fun h => (bds_no (bds_bank (bk1 h) (by omega)) (by omega)).1, fun h => absurd h (by decide)⟩
theorem vc_bdesz (k v : Key) :
  true = true ∧ true = true ∧ ((!decide (0 < q_size [])) = true → 1 = q_bdsE [] k v) ∧ ((!decide (0 < q_size [])) = false → true = true ∧ ((!(q_is [] k && decide (k.kind = 4))) = true → 190 = q_bdsE [] k
    v) ∧ ((!(q_is [] k && decide (k.kind = 4))) = false → true = true ∧ ((!(decide (((q_nobj [] k).slots.at 0).kind = 1) && decide (((q_nobj [] k).slots.at 1).kind = 1) && decide (0 ≤ ((q_nobj []
    k).slots.at 0).value) && decide (((q_nobj [] k).slots.at 0).value ≤ ((q_nobj [] k).slots.at 1).value) && decide (((q_nobj [] k).slots.at 1).value < q_size []))) = true → 220 = q_bdsE [] k v) ∧
    ((!(decide (((q_nobj [] k).slots.at 0).kind = 1) && decide (((q_nobj [] k).slots.at 1).kind = 1) && decide (0 ≤ ((q_nobj [] k).slots.at 0).value) && decide (((q_nobj [] k).slots.at 0).value ≤ ((q_nobj
    [] k).slots.at 1).value) && decide (((q_nobj [] k).slots.at 1).value < q_size []))) = false → true = true ∧ true = true ∧ ((!(q_is [] v && (decide (v.kind = 2) || decide (v.kind = 3)))) = true → 5 =
    q_bdsE [] k v) ∧ ((!(q_is [] v && (decide (v.kind = 2) || decide (v.kind = 3)))) = false → true = true ∧ true = true ∧ ((!(decide (((q_nobj [] k).slots.at 0).value ≤ v.oid) && decide (v.oid ≤ ((q_nobj
    [] k).slots.at 1).value) && !decide (v.oid = k.oid))) = true → 4 = q_bdsE [] k v) ∧ ((!(decide (((q_nobj [] k).slots.at 0).value ≤ v.oid) && decide (v.oid ≤ ((q_nobj [] k).slots.at 1).value) && !decide
    (v.oid = k.oid))) = false → true = true ∧ true = true ∧ False))))) := by
  exact ⟨rfl, rfl, fun h => (bds_no (bds_bank (bk1 h) (by omega)) (by omega)).1, fun h => absurd h (by decide)⟩
theorem vc_bdes (L : List Sx.Obj) (k v : Key) (hL : q_okL L) :
  true = true ∧ true = true ∧ ((!decide (0 < q_size L)) = true → 1 = q_bdsE L k v ∧ L = q_bdsL L k v) ∧ ((!decide (0 < q_size L)) = false → true = true ∧ ((!(q_is L k && decide (k.kind = 4))) = true →
    190 = q_bdsE L k v ∧ L = q_bdsL L k v) ∧ ((!(q_is L k && decide (k.kind = 4))) = false → true = true ∧ ((!(decide (((q_nobj L k).slots.at 0).kind = 1) && decide (((q_nobj L k).slots.at 1).kind = 1) &&
    decide (0 ≤ ((q_nobj L k).slots.at 0).value) && decide (((q_nobj L k).slots.at 0).value ≤ ((q_nobj L k).slots.at 1).value) && decide (((q_nobj L k).slots.at 1).value < q_size L))) = true → 220 = q_bdsE
    L k v ∧ L = q_bdsL L k v) ∧ ((!(decide (((q_nobj L k).slots.at 0).kind = 1) && decide (((q_nobj L k).slots.at 1).kind = 1) && decide (0 ≤ ((q_nobj L k).slots.at 0).value) && decide (((q_nobj L
    k).slots.at 0).value ≤ ((q_nobj L k).slots.at 1).value) && decide (((q_nobj L k).slots.at 1).value < q_size L))) = false → true = true ∧ true = true ∧ ((!(q_is L v && (decide (v.kind = 2) || decide
    (v.kind = 3)))) = true → 5 = q_bdsE L k v ∧ L = q_bdsL L k v) ∧ ((!(q_is L v && (decide (v.kind = 2) || decide (v.kind = 3)))) = false → true = true ∧ true = true ∧ ((!(decide (((q_nobj L k).slots.at
    0).value ≤ v.oid) && decide (v.oid ≤ ((q_nobj L k).slots.at 1).value) && !decide (v.oid = k.oid))) = true → 4 = q_bdsE L k v ∧ L = q_bdsL L k v) ∧ ((!(decide (((q_nobj L k).slots.at 0).value ≤ v.oid)
    && decide (v.oid ≤ ((q_nobj L k).slots.at 1).value) && !decide (v.oid = k.oid))) = false → true = true ∧ true = true ∧ 0 = q_bdsE L k v ∧ q_putL L v.oid (Obj.mk free.kind (q_get L v.oid).count
    free.calls free.slots free.bytes) = q_bdsL L k v))))) := by
  refine ⟨rfl, rfl, fun h => bds_no (bds_bank (bk1 h) (by omega)) (by omega), fun h => ⟨rfl, fun h2 => bds_no (bds_bank (bk2 h h2) (by omega)) (by omega), fun h2 => ⟨rfl, fun h3 => bds_no (bds_bank (bk3 h h2 h3) (by omega)) (by omega), fun h3 => ⟨rfl, rfl, fun h4 => ?_, fun h4 => ⟨rfl, rfl, fun h5 => ?_, fun h5 => ⟨rfl, rfl, ?_⟩⟩⟩⟩⟩⟩
  · obtain ⟨e, e1, e2⟩ := bk0 h h2 h3
    have ht : q_thing L v = false := by have h4' : (!q_thing L v) = true := h4; simpa using h4'
    exact bds_no (by unfold q_bdsE; rw [if_pos e, ht]; rfl) (by omega)
  · obtain ⟨e, e1, e2⟩ := bk0 h h2 h3
    have ht : q_thing L v = true := by have h4' : (!q_thing L v) = false := h4; simpa using h4'
    rw [e1, e2] at h5
    exact bds_no (by
      unfold q_bdsE
      rw [if_pos e, ht, if_pos rfl, if_neg]
      intro hh
      simp only [Bool.not_eq_true', Bool.and_eq_false_iff, Bool.not_eq_false', decide_eq_false_iff_not, decide_eq_true_eq] at h5
      omega) (by omega)
  · obtain ⟨e, e1, e2⟩ := bk0 h h2 h3
    have ht : q_thing L v = true := by have h4' : (!q_thing L v) = false := h4; simpa using h4'
    rw [e1, e2] at h5
    have hE : q_bdsE L k v = 0 := by
      unfold q_bdsE
      rw [if_pos e, ht, if_pos rfl, if_pos]
      simp only [Bool.not_eq_false', Bool.and_eq_true, Bool.not_eq_true', decide_eq_true_eq, decide_eq_false_iff_not] at h5
      omega
    obtain ⟨_, b2, b3, _⟩ := is_all (thing_is ht)
    rw [get_lget b2 b3]
    refine ⟨hE.symm, ?_⟩
    unfold q_bdsL
    rw [if_pos hE]
    exact (put_ok b2 b3 (desO_ok (okL_get hL v.oid.toNat (by omega)))).1
theorem cl_bdes (L : List Sx.Obj) (k v : Key) (hL : q_okL L) : CallTo Try.prog 30 [.lp 0 0, .key k, .key v] [.store tS eS L] (kS2 (.it .i64 (q_bdsE L k v)) (q_bdsL L k v)) (fun _ _ => False) :=
  vcd_call (inl := (fun f => f == 47 || f == 46 || f == 78 || f == 50 || f == 51)) (ann := noAnn) (oks_cons ct_size (oks_cons ct_named (oks_cons ct_get oks_nil))) (hoks_cons hc_put hoks_nil) (dk_one dc_banks) (vc_bdes L k v hL) (by kernel_rfl)
theorem hc_bdes : HOK Try.prog 30 h_bdes :=
  hSt_ok (m := fun x => kkB.cn x 0) (rdL_ok kkB_ok (fun _ => rfl)) (fun _ => rfl) (fun _ _ => rfl) (fun x => vcd_call (inl := (fun f => f == 47 || f == 46 || f == 78 || f == 50 || f == 51)) (ann := noAnn) (oks_cons ct_size (oks_cons ct_named (oks_cons ct_get oks_nil))) (hoks_cons hc_put hoks_nil) (dk_one dc_banks) (vc_bdes0 x.1 x.2.1) (by kernel_rfl)) (fun x => vcd_call (inl := (fun f => f == 47 || f == 46 || f == 78 || f == 50 || f == 51)) (ann := noAnn) (oks_cons ct_size (oks_cons ct_named (oks_cons ct_get oks_nil))) (hoks_cons hc_put hoks_nil) (dk_one dc_banks) (vc_bdesz x.1 x.2.1) (by kernel_rfl)) fun L x hL _ _ => cl_bdes L x.1 x.2.1 hL
theorem vc_braze0 (k : Key) :
  true = true ∧ true = true ∧ ((!decide (0 < q_size [])) = true → 0 = q_brzN [] k ∧ 1 = q_bnkE [] k) ∧ ((!decide (0 < q_size [])) = false → true = true ∧ ((!(q_is [] k && decide (k.kind = 4))) = true → 0
    = q_brzN [] k ∧ 190 = q_bnkE [] k) ∧ ((!(q_is [] k && decide (k.kind = 4))) = false → true = true ∧ ((!(decide (((q_nobj [] k).slots.at 0).kind = 1) && decide (((q_nobj [] k).slots.at 1).kind = 1) &&
    decide (0 ≤ ((q_nobj [] k).slots.at 0).value) && decide (((q_nobj [] k).slots.at 0).value ≤ ((q_nobj [] k).slots.at 1).value) && decide (((q_nobj [] k).slots.at 1).value < q_size []))) = true → 0 =
    q_brzN [] k ∧ 220 = q_bnkE [] k) ∧ ((!(decide (((q_nobj [] k).slots.at 0).kind = 1) && decide (((q_nobj [] k).slots.at 1).kind = 1) && decide (0 ≤ ((q_nobj [] k).slots.at 0).value) && decide (((q_nobj
    [] k).slots.at 0).value ≤ ((q_nobj [] k).slots.at 1).value) && decide (((q_nobj [] k).slots.at 1).value < q_size []))) = false → true = true ∧ true = true ∧ ∀ (r0 : Loop), False))) := by
  exact ⟨rfl, rfl, fun h => (brz_no (bk1 h) (by omega)).1, fun h => absurd h (by decide)⟩
theorem vc_brazez (k : Key) :
  true = true ∧ true = true ∧ ((!decide (0 < q_size [])) = true → 0 = q_brzN [] k ∧ 1 = q_bnkE [] k) ∧ ((!decide (0 < q_size [])) = false → true = true ∧ ((!(q_is [] k && decide (k.kind = 4))) = true → 0
    = q_brzN [] k ∧ 190 = q_bnkE [] k) ∧ ((!(q_is [] k && decide (k.kind = 4))) = false → true = true ∧ ((!(decide (((q_nobj [] k).slots.at 0).kind = 1) && decide (((q_nobj [] k).slots.at 1).kind = 1) &&
    decide (0 ≤ ((q_nobj [] k).slots.at 0).value) && decide (((q_nobj [] k).slots.at 0).value ≤ ((q_nobj [] k).slots.at 1).value) && decide (((q_nobj [] k).slots.at 1).value < q_size []))) = true → 0 =
    q_brzN [] k ∧ 220 = q_bnkE [] k) ∧ ((!(decide (((q_nobj [] k).slots.at 0).kind = 1) && decide (((q_nobj [] k).slots.at 1).kind = 1) && decide (0 ≤ ((q_nobj [] k).slots.at 0).value) && decide (((q_nobj
    [] k).slots.at 0).value ≤ ((q_nobj [] k).slots.at 1).value) && decide (((q_nobj [] k).slots.at 1).value < q_size []))) = false → true = true ∧ true = true ∧ ∀ (r0 : Loop), False))) := by
  exact ⟨rfl, rfl, fun h => (brz_no (bk1 h) (by omega)).1, fun h => absurd h (by decide)⟩
theorem vc_braze (L : List Sx.Obj) (k : Key) (hL : q_okL L) :
  true = true ∧ true = true ∧ ((!decide (0 < q_size L)) = true → (0 = q_brzN L k ∧ 1 = q_bnkE L k) ∧ L = q_brzL L k) ∧ ((!decide (0 < q_size L)) = false → true = true ∧ ((!(q_is L k && decide (k.kind =
    4))) = true → (0 = q_brzN L k ∧ 190 = q_bnkE L k) ∧ L = q_brzL L k) ∧ ((!(q_is L k && decide (k.kind = 4))) = false → true = true ∧ ((!(decide (((q_nobj L k).slots.at 0).kind = 1) && decide (((q_nobj L
    k).slots.at 1).kind = 1) && decide (0 ≤ ((q_nobj L k).slots.at 0).value) && decide (((q_nobj L k).slots.at 0).value ≤ ((q_nobj L k).slots.at 1).value) && decide (((q_nobj L k).slots.at 1).value <
    q_size L))) = true → (0 = q_brzN L k ∧ 220 = q_bnkE L k) ∧ L = q_brzL L k) ∧ ((!(decide (((q_nobj L k).slots.at 0).kind = 1) && decide (((q_nobj L k).slots.at 1).kind = 1) && decide (0 ≤ ((q_nobj L
    k).slots.at 0).value) && decide (((q_nobj L k).slots.at 0).value ≤ ((q_nobj L k).slots.at 1).value) && decide (((q_nobj L k).slots.at 1).value < q_size L))) = false → true = true ∧ true = true ∧ ∀ (r0
    : Loop), (∃ g, q_invRz L k g ∧ ((q_nobj L k).slots.at 0).value = g ∧ L = q_rzG L (q_bnkA L k) g k.oid ∧ k = k ∧ 0 = q_rzN L (q_bnkA L k) g k.oid ∧ k = k ∧ q_nobj L k = q_nobj L k ∧ k.oid = k.oid ∧
    ((q_nobj L k).slots.at 0).value = ((q_nobj L k).slots.at 0).value ∧ ((q_nobj L k).slots.at 1).value = ((q_nobj L k).slots.at 1).value ∧ q_nobj L k = q_nobj L k ∧ (q_nobj L k).slots.at 0 = (q_nobj L
    k).slots.at 0 ∧ (q_nobj L k).slots.at 1 = (q_nobj L k).slots.at 1 ∧ q_nobj L k = q_nobj L k ∧ k.oid = k.oid ∧ ((q_nobj L k).slots.at 0).value = ((q_nobj L k).slots.at 0).value ∧ ((q_nobj L k).slots.at
    1).value = ((q_nobj L k).slots.at 1).value ∧ q_nobj L k = q_nobj L k ∧ k.oid = k.oid ∧ ((q_nobj L k).slots.at 0).value = ((q_nobj L k).slots.at 0).value ∧ ((q_nobj L k).slots.at 1).value = ((q_nobj L
    k).slots.at 1).value ∧ r0 = r0) ∧ ∀ (g : Int), q_invRz L k g → (decide (g ≤ ((q_nobj L k).slots.at 1).value) = true → r0 = r0 ∧ r0 = r0 ∧ ((decide ((q_get (q_rzG L (q_bnkA L k) g k.oid) g).kind = 1) ||
    decide ((q_get (q_rzG L (q_bnkA L k) g k.oid) g).kind = 2)) = true → true = true ∧ ((decide (((q_nobj L k).slots.at 0).value ≤ g) && decide (g ≤ ((q_nobj L k).slots.at 1).value) && !decide (g = k.oid))
    = true → true = true ∧ true = true ∧ inRo IntKind.i64 (q_rzN L (q_bnkA L k) g k.oid + 1) ∧ r0 = r0 ∧ inRo IntKind.i64 (g + 1) ∧ ∃ g', q_invRz L k g' ∧ (q_bnkB L k + 1 - g').toNat < (q_bnkB L k + 1 -
    g).toNat ∧ g + 1 = g' ∧ q_putL (q_rzG L (q_bnkA L k) g k.oid) g (Obj.mk free.kind (q_get (q_rzG L (q_bnkA L k) g k.oid) g).count free.calls free.slots free.bytes) = q_rzG L (q_bnkA L k) g' k.oid ∧ k =
    k ∧ q_rzN L (q_bnkA L k) g k.oid + 1 = q_rzN L (q_bnkA L k) g' k.oid ∧ k = k ∧ q_nobj L k = q_nobj L k ∧ k.oid = k.oid ∧ ((q_nobj L k).slots.at 0).value = ((q_nobj L k).slots.at 0).value ∧ ((q_nobj L
    k).slots.at 1).value = ((q_nobj L k).slots.at 1).value ∧ q_nobj L k = q_nobj L k ∧ (q_nobj L k).slots.at 0 = (q_nobj L k).slots.at 0 ∧ (q_nobj L k).slots.at 1 = (q_nobj L k).slots.at 1 ∧ q_nobj L k =
    q_nobj L k ∧ k.oid = k.oid ∧ ((q_nobj L k).slots.at 0).value = ((q_nobj L k).slots.at 0).value ∧ ((q_nobj L k).slots.at 1).value = ((q_nobj L k).slots.at 1).value ∧ q_nobj L k = q_nobj L k ∧ k.oid =
    k.oid ∧ ((q_nobj L k).slots.at 0).value = ((q_nobj L k).slots.at 0).value ∧ ((q_nobj L k).slots.at 1).value = ((q_nobj L k).slots.at 1).value ∧ r0 = r0) ∧ ((decide (((q_nobj L k).slots.at 0).value ≤ g)
    && decide (g ≤ ((q_nobj L k).slots.at 1).value) && !decide (g = k.oid)) = false → r0 = r0 ∧ inRo IntKind.i64 (g + 1) ∧ ∃ g', q_invRz L k g' ∧ (q_bnkB L k + 1 - g').toNat < (q_bnkB L k + 1 - g).toNat ∧
    g + 1 = g' ∧ q_rzG L (q_bnkA L k) g k.oid = q_rzG L (q_bnkA L k) g' k.oid ∧ k = k ∧ q_rzN L (q_bnkA L k) g k.oid = q_rzN L (q_bnkA L k) g' k.oid ∧ k = k ∧ q_nobj L k = q_nobj L k ∧ k.oid = k.oid ∧
    ((q_nobj L k).slots.at 0).value = ((q_nobj L k).slots.at 0).value ∧ ((q_nobj L k).slots.at 1).value = ((q_nobj L k).slots.at 1).value ∧ q_nobj L k = q_nobj L k ∧ (q_nobj L k).slots.at 0 = (q_nobj L
    k).slots.at 0 ∧ (q_nobj L k).slots.at 1 = (q_nobj L k).slots.at 1 ∧ q_nobj L k = q_nobj L k ∧ k.oid = k.oid ∧ ((q_nobj L k).slots.at 0).value = ((q_nobj L k).slots.at 0).value ∧ ((q_nobj L k).slots.at
    1).value = ((q_nobj L k).slots.at 1).value ∧ q_nobj L k = q_nobj L k ∧ k.oid = k.oid ∧ ((q_nobj L k).slots.at 0).value = ((q_nobj L k).slots.at 0).value ∧ ((q_nobj L k).slots.at 1).value = ((q_nobj L
    k).slots.at 1).value ∧ r0 = r0)) ∧ ((decide ((q_get (q_rzG L (q_bnkA L k) g k.oid) g).kind = 1) || decide ((q_get (q_rzG L (q_bnkA L k) g k.oid) g).kind = 2)) = false → r0 = r0 ∧ inRo IntKind.i64 (g +
    1) ∧ ∃ g', q_invRz L k g' ∧ (q_bnkB L k + 1 - g').toNat < (q_bnkB L k + 1 - g).toNat ∧ g + 1 = g' ∧ q_rzG L (q_bnkA L k) g k.oid = q_rzG L (q_bnkA L k) g' k.oid ∧ k = k ∧ q_rzN L (q_bnkA L k) g k.oid =
    q_rzN L (q_bnkA L k) g' k.oid ∧ k = k ∧ q_nobj L k = q_nobj L k ∧ k.oid = k.oid ∧ ((q_nobj L k).slots.at 0).value = ((q_nobj L k).slots.at 0).value ∧ ((q_nobj L k).slots.at 1).value = ((q_nobj L
    k).slots.at 1).value ∧ q_nobj L k = q_nobj L k ∧ (q_nobj L k).slots.at 0 = (q_nobj L k).slots.at 0 ∧ (q_nobj L k).slots.at 1 = (q_nobj L k).slots.at 1 ∧ q_nobj L k = q_nobj L k ∧ k.oid = k.oid ∧
    ((q_nobj L k).slots.at 0).value = ((q_nobj L k).slots.at 0).value ∧ ((q_nobj L k).slots.at 1).value = ((q_nobj L k).slots.at 1).value ∧ q_nobj L k = q_nobj L k ∧ k.oid = k.oid ∧ ((q_nobj L k).slots.at
    0).value = ((q_nobj L k).slots.at 0).value ∧ ((q_nobj L k).slots.at 1).value = ((q_nobj L k).slots.at 1).value ∧ r0 = r0)) ∧ (decide (g ≤ ((q_nobj L k).slots.at 1).value) = false → (q_rzN L (q_bnkA L
    k) g k.oid = q_brzN L k ∧ 0 = q_bnkE L k) ∧ q_rzG L (q_bnkA L k) g k.oid = q_brzL L k)))) := by
  refine ⟨rfl, rfl, fun h => brz_no (bk1 h) (by omega), fun h => ⟨rfl, fun h2 => brz_no (bk2 h h2) (by omega), fun h2 => ⟨rfl, fun h3 => brz_no (bk3 h h2 h3) (by omega), fun h3 => ⟨rfl, rfl, fun r0 => ?_⟩⟩⟩⟩
  obtain ⟨e, e1, e2⟩ := bk0 h h2 h3
  obtain ⟨_, a0, a1, a2, _⟩ := bnk_ok e
  rw [e1, e2]
  have hlen := okL_len hL
  have hin : ∀ g : Int, q_bnkA L k ≤ g → g ≤ q_bnkB L k → inRo IntKind.i64 (g + 1) := fun g h1 h2 => by simp only [inRo, inR]; omega
  have hnn : ∀ g : Int, inRo IntKind.i64 (q_rzN L (q_bnkA L k) g k.oid + 1) := fun g => by
    have := rzN_nonneg (L := L) (f := q_bnkA L k) (g := g) (oid := k.oid)
    have := rzN_le (L := L) (f := q_bnkA L k) (g := g) (oid := k.oid)
    simp only [inRo, inR]; omega
  refine ⟨⟨q_bnkA L k, ⟨by omega, by omega⟩, rfl, rzG_zero, rfl, rzN_zero.symm, (by (repeat' apply And.intro) <;> rfl)⟩, fun g hg => ⟨fun hgl => ?_, fun hgl => ?_⟩⟩
  · obtain ⟨g0, g1⟩ := hg
    have hgl := of_decide_eq_true hgl
    have hgz : (q_rzG L (q_bnkA L k) g k.oid).length = L.length := rzG_len
    have hgt : q_get (q_rzG L (q_bnkA L k) g k.oid) g = lget L g.toNat free := by rw [get_lget (by omega) (by omega), rzG_at (by omega)]
    rw [hgt]
    refine ⟨rfl, rfl, fun hk => ⟨rfl, fun hb => ?_, fun hb => ?_⟩, fun hk => ?_⟩
    · have hne : ¬ g = k.oid := by
        simp only [Bool.and_eq_true, Bool.not_eq_true', decide_eq_false_iff_not] at hb
        exact hb.2
      have hh : q_rzHit L g k.oid = true := by unfold q_rzHit q_busy; rw [hk]; simp [hne]
      have hs := rzN_succ (L := L) (f := q_bnkA L k) (oid := k.oid) (by omega : 0 ≤ g) (by omega) g0 hh
      have hs2 := rzG_set (L := L) (f := q_bnkA L k) (oid := k.oid) (by omega : 0 ≤ g) (by omega) g0 hh
      have hp := (put_ok (L := q_rzG L (q_bnkA L k) g k.oid) (i := g) (by omega) (by omega) (hgz ▸ desO_ok (okL_get hL g.toNat (by omega)))).1
      exact ⟨rfl, rfl, hnn g, rfl, hin g g0 hgl, g + 1, ⟨by omega, by omega⟩, by omega, rfl, hp.trans hs2, rfl, hs.symm, (by (repeat' apply And.intro) <;> rfl)⟩
    · have hh : q_rzHit L g k.oid = false := by
        have e3 : decide (q_bnkA L k ≤ g) = true := by simp; omega
        have e4 : decide (g ≤ q_bnkB L k) = true := by simp; omega
        rw [e3, e4] at hb
        unfold q_rzHit
        rw [Bool.and_eq_false_iff]
        right
        simpa using hb
      have hs := rzN_same (L := L) (f := q_bnkA L k) (oid := k.oid) (by omega : 0 ≤ g) g0 hh
      have hs2 := rzG_same (L := L) (f := q_bnkA L k) (oid := k.oid) (by omega : 0 ≤ g) g0 hh
      exact ⟨rfl, hin g g0 hgl, g + 1, ⟨by omega, by omega⟩, by omega, rfl, hs2.symm, rfl, hs.symm, (by (repeat' apply And.intro) <;> rfl)⟩
    · have hh : q_rzHit L g k.oid = false := by unfold q_rzHit q_busy; rw [hk]; rfl
      have hs := rzN_same (L := L) (f := q_bnkA L k) (oid := k.oid) (by omega : 0 ≤ g) g0 hh
      have hs2 := rzG_same (L := L) (f := q_bnkA L k) (oid := k.oid) (by omega : 0 ≤ g) g0 hh
      exact ⟨rfl, hin g g0 hgl, g + 1, ⟨by omega, by omega⟩, by omega, rfl, hs2.symm, rfl, hs.symm, (by (repeat' apply And.intro) <;> rfl)⟩
  · obtain ⟨g0, g1⟩ := hg
    have hgl := of_decide_eq_false hgl
    have : g = q_bnkB L k + 1 := by omega
    subst this
    exact ⟨⟨by unfold q_brzN; rw [if_pos e], e.symm⟩, by unfold q_brzL; rw [if_pos e]⟩
theorem cl_braze (L : List Sx.Obj) (k : Key) (hL : q_okL L) : CallTo Try.prog 17 [.lp 0 0, .key k] [.store tS eS L] (kS2 (.tp [.it .i64 (q_brzN L k), .it .i64 (q_bnkE L k)]) (q_brzL L k)) (fun _ _ => False) :=
  vcd_call (inl := (fun f => f == 47 || f == 46 || f == 50 || f == 51 || f == 49 || f == 1000000 + 95)) (ann := (annL [(5000 + 95, 1, lpT [0, 1] (fun (g : Int) => [(3, .it .i64 g)]) (fun g => [(0, .store tS eS (q_rzG L (q_bnkA L k) g k.oid)), (2, .blk 3 (.it .i64 (q_rzN L (q_bnkA L k) g k.oid)))]) (q_invRz L k) (fun g => i2n (isub (iadd (q_bnkB L k) 1) g)))])) (oks_cons ct_size (oks_cons ct_named (oks_cons ct_get oks_nil))) (hoks_cons hc_put hoks_nil) (dk_one dc_banks) (vc_braze L k hL) (by kernel_rfl)
theorem hc_braze : HOK Try.prog 17 h_braze :=
  hSt_ok (m := fun x => kB.cn x 0) (rdL_ok kB_ok (fun _ => rfl)) (fun _ => rfl) (fun _ _ => rfl) (fun x => vcd_call (inl := (fun f => f == 47 || f == 46 || f == 50 || f == 51 || f == 49 || f == 1000000 + 95)) (ann := noAnn) (oks_cons ct_size (oks_cons ct_named (oks_cons ct_get oks_nil))) (hoks_cons hc_put hoks_nil) (dk_one dc_banks) (vc_braze0 x.1) (by kernel_rfl)) (fun x => vcd_call (inl := (fun f => f == 47 || f == 46 || f == 50 || f == 51 || f == 49 || f == 1000000 + 95)) (ann := noAnn) (oks_cons ct_size (oks_cons ct_named (oks_cons ct_get oks_nil))) (hoks_cons hc_put hoks_nil) (dk_one dc_banks) (vc_brazez x.1) (by kernel_rfl)) fun L x hL _ _ => cl_braze L x.1 hL
theorem vc_bmake0 (k : Key) (kind : Int) :
  true = true ∧ true = true ∧ ((!decide (0 < q_size [])) = true → void = q_bmkK [] k kind ∧ 1 = q_bmkE [] k kind) ∧ ((!decide (0 < q_size [])) = false → true = true ∧ ((!(q_is [] k && decide (k.kind =
    4))) = true → void = q_bmkK [] k kind ∧ 190 = q_bmkE [] k kind) ∧ ((!(q_is [] k && decide (k.kind = 4))) = false → true = true ∧ ((!(decide (((q_nobj [] k).slots.at 0).kind = 1) && decide (((q_nobj []
    k).slots.at 1).kind = 1) && decide (0 ≤ ((q_nobj [] k).slots.at 0).value) && decide (((q_nobj [] k).slots.at 0).value ≤ ((q_nobj [] k).slots.at 1).value) && decide (((q_nobj [] k).slots.at 1).value <
    q_size []))) = true → void = q_bmkK [] k kind ∧ 220 = q_bmkE [] k kind) ∧ ((!(decide (((q_nobj [] k).slots.at 0).kind = 1) && decide (((q_nobj [] k).slots.at 1).kind = 1) && decide (0 ≤ ((q_nobj []
    k).slots.at 0).value) && decide (((q_nobj [] k).slots.at 0).value ≤ ((q_nobj [] k).slots.at 1).value) && decide (((q_nobj [] k).slots.at 1).value < q_size []))) = false → true = true ∧ ((!(decide (kind
    = 1) || decide (kind = 2))) = true → void = q_bmkK [] k kind ∧ 2 = q_bmkE [] k kind) ∧ ((!(decide (kind = 1) || decide (kind = 2))) = false → true = true ∧ true = true ∧ true = true ∧ ∀ (r0 : Loop),
    False)))) := by
  exact ⟨rfl, rfl, fun h => (bmk_no (bmk_bank (bk1 h) (by omega)) (by omega)).1, fun h => absurd h (by decide)⟩
theorem vc_bmakez (k : Key) (kind : Int) :
  true = true ∧ true = true ∧ ((!decide (0 < q_size [])) = true → void = q_bmkK [] k kind ∧ 1 = q_bmkE [] k kind) ∧ ((!decide (0 < q_size [])) = false → true = true ∧ ((!(q_is [] k && decide (k.kind =
    4))) = true → void = q_bmkK [] k kind ∧ 190 = q_bmkE [] k kind) ∧ ((!(q_is [] k && decide (k.kind = 4))) = false → true = true ∧ ((!(decide (((q_nobj [] k).slots.at 0).kind = 1) && decide (((q_nobj []
    k).slots.at 1).kind = 1) && decide (0 ≤ ((q_nobj [] k).slots.at 0).value) && decide (((q_nobj [] k).slots.at 0).value ≤ ((q_nobj [] k).slots.at 1).value) && decide (((q_nobj [] k).slots.at 1).value <
    q_size []))) = true → void = q_bmkK [] k kind ∧ 220 = q_bmkE [] k kind) ∧ ((!(decide (((q_nobj [] k).slots.at 0).kind = 1) && decide (((q_nobj [] k).slots.at 1).kind = 1) && decide (0 ≤ ((q_nobj []
    k).slots.at 0).value) && decide (((q_nobj [] k).slots.at 0).value ≤ ((q_nobj [] k).slots.at 1).value) && decide (((q_nobj [] k).slots.at 1).value < q_size []))) = false → true = true ∧ ((!(decide (kind
    = 1) || decide (kind = 2))) = true → void = q_bmkK [] k kind ∧ 2 = q_bmkE [] k kind) ∧ ((!(decide (kind = 1) || decide (kind = 2))) = false → true = true ∧ true = true ∧ true = true ∧ ∀ (r0 : Loop),
    False)))) := by
  exact ⟨rfl, rfl, fun h => (bmk_no (bmk_bank (bk1 h) (by omega)) (by omega)).1, fun h => absurd h (by decide)⟩
theorem vc_bmake (L : List Sx.Obj) (k : Key) (kind : Int) (hL : q_okL L) :
  true = true ∧ true = true ∧ ((!decide (0 < q_size L)) = true → (void = q_bmkK L k kind ∧ 1 = q_bmkE L k kind) ∧ L = q_bmkL L k kind) ∧ ((!decide (0 < q_size L)) = false → true = true ∧ ((!(q_is L k &&
    decide (k.kind = 4))) = true → (void = q_bmkK L k kind ∧ 190 = q_bmkE L k kind) ∧ L = q_bmkL L k kind) ∧ ((!(q_is L k && decide (k.kind = 4))) = false → true = true ∧ ((!(decide (((q_nobj L k).slots.at
    0).kind = 1) && decide (((q_nobj L k).slots.at 1).kind = 1) && decide (0 ≤ ((q_nobj L k).slots.at 0).value) && decide (((q_nobj L k).slots.at 0).value ≤ ((q_nobj L k).slots.at 1).value) && decide
    (((q_nobj L k).slots.at 1).value < q_size L))) = true → (void = q_bmkK L k kind ∧ 220 = q_bmkE L k kind) ∧ L = q_bmkL L k kind) ∧ ((!(decide (((q_nobj L k).slots.at 0).kind = 1) && decide (((q_nobj L
    k).slots.at 1).kind = 1) && decide (0 ≤ ((q_nobj L k).slots.at 0).value) && decide (((q_nobj L k).slots.at 0).value ≤ ((q_nobj L k).slots.at 1).value) && decide (((q_nobj L k).slots.at 1).value <
    q_size L))) = false → true = true ∧ ((!(decide (kind = 1) || decide (kind = 2))) = true → (void = q_bmkK L k kind ∧ 2 = q_bmkE L k kind) ∧ L = q_bmkL L k kind) ∧ ((!(decide (kind = 1) || decide (kind =
    2))) = false → true = true ∧ true = true ∧ true = true ∧ ∀ (r0 : Loop), (∃ g, q_inv1k L k g ∧ ((q_nobj L k).slots.at 0).value = g ∧ L = q_mkG L (q_bnkA L k) g ∧ k = k ∧ void = void ∧ k = k ∧ q_nobj L k
    = q_nobj L k ∧ k.oid = k.oid ∧ ((q_nobj L k).slots.at 0).value = ((q_nobj L k).slots.at 0).value ∧ ((q_nobj L k).slots.at 1).value = ((q_nobj L k).slots.at 1).value ∧ q_nobj L k = q_nobj L k ∧ (q_nobj
    L k).slots.at 0 = (q_nobj L k).slots.at 0 ∧ (q_nobj L k).slots.at 1 = (q_nobj L k).slots.at 1 ∧ q_nobj L k = q_nobj L k ∧ k.oid = k.oid ∧ ((q_nobj L k).slots.at 0).value = ((q_nobj L k).slots.at
    0).value ∧ ((q_nobj L k).slots.at 1).value = ((q_nobj L k).slots.at 1).value ∧ q_nobj L k = q_nobj L k ∧ k.oid = k.oid ∧ ((q_nobj L k).slots.at 0).value = ((q_nobj L k).slots.at 0).value ∧ ((q_nobj L
    k).slots.at 1).value = ((q_nobj L k).slots.at 1).value ∧ kind = kind ∧ void = void ∧ false = false ∧ q_nobj L k = q_nobj L k ∧ k.oid = k.oid ∧ ((q_nobj L k).slots.at 0).value = ((q_nobj L k).slots.at
    0).value ∧ ((q_nobj L k).slots.at 1).value = ((q_nobj L k).slots.at 1).value ∧ r0 = r0) ∧ ∀ (g : Int), q_inv1k L k g → (decide (g ≤ ((q_nobj L k).slots.at 1).value) = true → r0 = r0 ∧ r0 = r0 ∧
    ((!decide ((q_get (q_mkG L (q_bnkA L k) g) g).kind = 0)) = true → r0 = r0 ∧ inRo IntKind.i64 (g + 1) ∧ ∃ g', q_inv1k L k g' ∧ (q_bnkB L k + 1 - g').toNat < (q_bnkB L k + 1 - g).toNat ∧ g + 1 = g' ∧
    q_mkG L (q_bnkA L k) g = q_mkG L (q_bnkA L k) g' ∧ k = k ∧ void = void ∧ k = k ∧ q_nobj L k = q_nobj L k ∧ k.oid = k.oid ∧ ((q_nobj L k).slots.at 0).value = ((q_nobj L k).slots.at 0).value ∧ ((q_nobj L
    k).slots.at 1).value = ((q_nobj L k).slots.at 1).value ∧ q_nobj L k = q_nobj L k ∧ (q_nobj L k).slots.at 0 = (q_nobj L k).slots.at 0 ∧ (q_nobj L k).slots.at 1 = (q_nobj L k).slots.at 1 ∧ q_nobj L k =
    q_nobj L k ∧ k.oid = k.oid ∧ ((q_nobj L k).slots.at 0).value = ((q_nobj L k).slots.at 0).value ∧ ((q_nobj L k).slots.at 1).value = ((q_nobj L k).slots.at 1).value ∧ q_nobj L k = q_nobj L k ∧ k.oid =
    k.oid ∧ ((q_nobj L k).slots.at 0).value = ((q_nobj L k).slots.at 0).value ∧ ((q_nobj L k).slots.at 1).value = ((q_nobj L k).slots.at 1).value ∧ kind = kind ∧ void = void ∧ false = false ∧ q_nobj L k =
    q_nobj L k ∧ k.oid = k.oid ∧ ((q_nobj L k).slots.at 0).value = ((q_nobj L k).slots.at 0).value ∧ ((q_nobj L k).slots.at 1).value = ((q_nobj L k).slots.at 1).value ∧ r0 = r0) ∧ ((!decide ((q_get (q_mkG
    L (q_bnkA L k) g) g).kind = 0)) = false → (decide ((q_get (q_mkG L (q_bnkA L k) g) g).count = 4294967295) = true → true = true ∧ r0 = r0 ∧ inRo IntKind.i64 (g + 1) ∧ ∃ g', q_inv1k L k g' ∧ (q_bnkB L k
    + 1 - g').toNat < (q_bnkB L k + 1 - g).toNat ∧ g + 1 = g' ∧ q_putL (q_mkG L (q_bnkA L k) g) g (Obj.mk 3 (q_get (q_mkG L (q_bnkA L k) g) g).count free.calls free.slots free.bytes) = q_mkG L (q_bnkA L k)
    g' ∧ k = k ∧ void = void ∧ k = k ∧ q_nobj L k = q_nobj L k ∧ k.oid = k.oid ∧ ((q_nobj L k).slots.at 0).value = ((q_nobj L k).slots.at 0).value ∧ ((q_nobj L k).slots.at 1).value = ((q_nobj L k).slots.at
    1).value ∧ q_nobj L k = q_nobj L k ∧ (q_nobj L k).slots.at 0 = (q_nobj L k).slots.at 0 ∧ (q_nobj L k).slots.at 1 = (q_nobj L k).slots.at 1 ∧ q_nobj L k = q_nobj L k ∧ k.oid = k.oid ∧ ((q_nobj L
    k).slots.at 0).value = ((q_nobj L k).slots.at 0).value ∧ ((q_nobj L k).slots.at 1).value = ((q_nobj L k).slots.at 1).value ∧ q_nobj L k = q_nobj L k ∧ k.oid = k.oid ∧ ((q_nobj L k).slots.at 0).value =
    ((q_nobj L k).slots.at 0).value ∧ ((q_nobj L k).slots.at 1).value = ((q_nobj L k).slots.at 1).value ∧ kind = kind ∧ void = void ∧ false = false ∧ q_nobj L k = q_nobj L k ∧ k.oid = k.oid ∧ ((q_nobj L
    k).slots.at 0).value = ((q_nobj L k).slots.at 0).value ∧ ((q_nobj L k).slots.at 1).value = ((q_nobj L k).slots.at 1).value ∧ r0 = r0) ∧ (decide ((q_get (q_mkG L (q_bnkA L k) g) g).count = 4294967295) =
    false → inRo IntKind.i64 ((q_get (q_mkG L (q_bnkA L k) g) g).count + 1) ∧ true = true ∧ inRo IntKind.i64 ((q_get (q_mkG L (q_bnkA L k) g) g).count + 1) ∧ r0 = r0 ∧ true = true ∧ (q_bkey kind g ((q_get
    (q_mkG L (q_bnkA L k) g) g).count + 1) = q_bmkK L k kind ∧ 0 = q_bmkE L k kind) ∧ q_putL (q_mkG L (q_bnkA L k) g) g (Obj.mk kind ((q_get (q_mkG L (q_bnkA L k) g) g).count + 1) free.calls free.slots
    free.bytes) = q_bmkL L k kind))) ∧ (decide (g ≤ ((q_nobj L k).slots.at 1).value) = false → true = true ∧ (void = q_bmkK L k kind ∧ 221 = q_bmkE L k kind) ∧ q_mkG L (q_bnkA L k) g = q_bmkL L k kind))))) := by
  refine ⟨rfl, rfl, fun h => bmk_no (bmk_bank (bk1 h) (by omega)) (by omega), fun h => ⟨rfl, fun h2 => bmk_no (bmk_bank (bk2 h h2) (by omega)) (by omega), fun h2 => ⟨rfl, fun h3 => bmk_no (bmk_bank (bk3 h h2 h3) (by omega)) (by omega), fun h3 => ⟨rfl, fun h4 => bmk_no (bmk_kind (bk0 h h2 h3).1 h4) (by omega), fun h4 => ⟨rfl, rfl, rfl, fun r0 => ?_⟩⟩⟩⟩⟩
  obtain ⟨e, e1, e2⟩ := bk0 h h2 h3
  obtain ⟨_, a0, a1, a2, _⟩ := bnk_ok e
  rw [e1, e2]
  have hk : kind = 1 ∨ kind = 2 := by
    simp only [Bool.not_eq_false', Bool.or_eq_true, decide_eq_true_eq] at h4
    exact h4
  have hlen := okL_len hL
  have hin : ∀ g : Int, q_bnkA L k ≤ g → g ≤ q_bnkB L k → inRo IntKind.i64 (g + 1) := fun g h1 h2 => by simp only [inRo, inR]; omega
  have hcnt : ∀ j : Nat, j < L.length → 0 ≤ (lget L j free).count ∧ (lget L j free).count ≤ 4294967295 := fun j hj => ⟨(obj_cnt (okL_get hL j hj)).1, (obj_cnt (okL_get hL j hj)).2.1⟩
  have hci : ∀ j : Nat, j < L.length → inRo IntKind.i64 ((lget L j free).count + 1) := fun j hj => by have := hcnt j hj; simp only [inRo, inR]; omega
  refine ⟨⟨q_bnkA L k, ⟨by omega, by omega, noNew_zero⟩, rfl, mkG_zero, (by (repeat' apply And.intro) <;> rfl)⟩, fun g hg => ⟨fun hgl => ?_, fun hgl => ?_⟩⟩
  · obtain ⟨g0, g1, g2⟩ := hg
    have hgl := of_decide_eq_true hgl
    have hgn : g.toNat < L.length := by omega
    have hgz : (q_mkG L (q_bnkA L k) g).length = L.length := mkG_len
    have hgt : q_get (q_mkG L (q_bnkA L k) g) g = lget L g.toNat free := by rw [get_lget (by omega) (by omega), mkG_at (by omega)]
    rw [hgt]
    refine ⟨rfl, rfl, fun hk0 => ?_, fun hk0 => ⟨fun hc => ?_, fun hc => ?_⟩⟩
    · obtain ⟨f1, f2⟩ := mk_busy (o := lget L g.toNat free) (by simpa using hk0)
      exact ⟨rfl, hin g g0 hgl, g + 1, ⟨by omega, by omega, noNew_succ g2 f2⟩, by omega, rfl, (mkG_same (by omega) f1).symm, (by (repeat' apply And.intro) <;> rfl)⟩
    · obtain ⟨f1, f2⟩ := mk_ret (o := lget L g.toNat free) (by simpa using hk0) (by have := of_decide_eq_true hc; omega)
      have hp := (put_ok (L := q_mkG L (q_bnkA L k) g) (i := g) (by omega) (by omega) (hgz ▸ retO_ok (okL_get hL g.toNat hgn))).1
      exact ⟨rfl, rfl, hin g g0 hgl, g + 1, ⟨by omega, by omega, noNew_succ g2 f2⟩, by omega, rfl, hp.trans (mkG_ret (by omega) (by omega) g0 f1), (by (repeat' apply And.intro) <;> rfl)⟩
    · have hc := of_decide_eq_false hc
      have := hcnt _ hgn
      obtain ⟨f1, f2⟩ := mk_new (o := lget L g.toNat free) (by simpa using hk0) (by omega)
      obtain ⟨m1, m2, m3⟩ := mk_made kind a0 g0 hgl (by omega) g2 f2
      obtain ⟨n1, n2, n3, n4⟩ := bmk_yes (kind := kind) e hk (by rw [m1]; omega)
      have hp := (put_ok (L := q_mkG L (q_bnkA L k) g) (i := g) (by omega) (by omega) (hgz ▸ newO_ok (okL_get hL g.toNat hgn) f2 hk)).1
      refine ⟨hci _ hgn, rfl, hci _ hgn, rfl, rfl, ⟨?_, n3⟩, hp.trans (m3.symm.trans n4)⟩
      have hK : q_bmkK L k kind = q_bkey kind (q_mkI L (q_bnkA L k) (q_bnkB L k)) ((lget L (q_mkI L (q_bnkA L k) (q_bnkB L k)).toNat free).count + 1) := by unfold q_bmkK; rw [if_pos n3.symm]
      rw [hK, m1]
  · obtain ⟨g0, g1, g2⟩ := hg
    have hgl := of_decide_eq_false hgl
    have : g = q_bnkB L k + 1 := by omega
    subst this
    obtain ⟨m1, m2, m3⟩ := mk_end kind g2
    obtain ⟨n1, n2, n3, n4⟩ := bmk_full (kind := kind) e hk m1
    exact ⟨rfl, ⟨n2, n3⟩, m2.symm.trans n4⟩
theorem cl_bmake (L : List Sx.Obj) (k : Key) (kind : Int) (hL : q_okL L) : CallTo Try.prog 16 [.lp 0 0, .key k, .it .i64 kind] [.store tS eS L] (kS2 (.tp [.key (q_bmkK L k kind), .it .i64 (q_bmkE L k kind)]) (q_bmkL L k kind)) (fun _ _ => False) :=
  vcd_call (inl := (fun f => f == 47 || f == 46 || f == 48 || f == 49 || f == 1000000 + 95)) (ann := (annL [(3000 + 95, 1, lpR [0, 1] (fun g => [(3, .it .i64 g)]) 0 (fun g => .store tS eS (q_mkG L (q_bnkA L k) g)) (q_inv1k L k) (iadd (q_bnkB L k) 1))])) (oks_cons ct_size (oks_cons ct_named (oks_cons ct_get (oks_cons ct_bkey oks_nil)))) (hoks_cons hc_put hoks_nil) (dk_one dc_banks) (vc_bmake L k kind hL) (by kernel_rfl)
theorem hc_bmake : HOK Try.prog 16 h_bmake :=
  hSt_ok (m := fun x => kiB.cn x 0) (rdL_ok kiB_ok (fun _ => rfl)) (fun _ => rfl) (fun _ _ => rfl) (fun x => vcd_call (inl := (fun f => f == 47 || f == 46 || f == 48 || f == 49 || f == 1000000 + 95)) (ann := noAnn) (oks_cons ct_size (oks_cons ct_named (oks_cons ct_get (oks_cons ct_bkey oks_nil)))) (hoks_cons hc_put hoks_nil) (dk_one dc_banks) (vc_bmake0 x.1 x.2.1) (by kernel_rfl)) (fun x => vcd_call (inl := (fun f => f == 47 || f == 46 || f == 48 || f == 49 || f == 1000000 + 95)) (ann := noAnn) (oks_cons ct_size (oks_cons ct_named (oks_cons ct_get (oks_cons ct_bkey oks_nil)))) (hoks_cons hc_put hoks_nil) (dk_one dc_banks) (vc_bmakez x.1 x.2.1) (by kernel_rfl)) fun L x hL _ _ => cl_bmake L x.1 x.2.1 hL
end Go.Proofs.Ytfalhknkaebfoaa
