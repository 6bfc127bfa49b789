/- Processes: states. No condition. The statements vc_.. are printed by a program of the claimant's own. -/
import Derived.Test.YtfalhknkaebfoaaKS
import Derived.Test.YtfalhknkaebfoaaSpQp
import Derived.Test.YtfalhknkaebfoaaCtVp
namespace Go.Proofs.Ytfalhknkaebfoaa
open Go.Sx
set_option maxRecDepth 100000
set_option linter.unusedVariables false
set_option linter.unusedSimpArgs false
theorem vc_may (L : List Sx.Obj) (k : Key) :
  (decide (q_chk k = 0) && decide (q_names k < n2i (llen L))) = q_may L k := by
  unfold q_may q_chk n2i; cases q_keyOk k <;> simp
theorem ct_may : CtOK Try.prog 108 g_may :=
  mkR_ok (consA_ok liA_ok (consA_ok kA_ok nilA_ok)) (fun _ => rfl) fun a hq hok => by
    obtain ⟨L, k, _⟩ := a
    exact vc_call (inl := noInl) (ann := noAnn) (oks_cons ct_rchk (oks_cons ct_rnames oks_nil)) (vc_may L k) (by kernel_rfl)
theorem vc_rput (L : List Sx.Obj) (i : Int) (o : Sx.Obj) (hq : q_rputQ L i) :
  pFitW (llen L) 856 ∧ (0 ≤ i ∧ i < ↑(llen L)) ∧ i.toNat < llen L ∧ ∀ (nid : Nat), some (V.sa nid) = some (V.sa nid) ∧ some [Res.arr (some 32) 163 (TL.ob (lset L i.toNat o))] = some [Res.arr (some 32)
    163 (TL.ob (lset L i.toNat o))] := by
  obtain ⟨h0, h1, h2⟩ := hq
  exact ⟨⟨by simp only [maxLen]; omega, by omega⟩, ⟨h0, h1⟩, by omega, fun nid => ⟨rfl, rfl⟩⟩
theorem ct_rput : CtOK Try.prog 106 g_rput :=
  mkRN_ok (π := fun _ => [2]) (consA_ok liA_ok (consA_ok iA_ok (consA_ok oA_ok nilA_ok))) (fun _ => by simp) (fun _ _ => rfl) fun a hq hok => by
    obtain ⟨L, i, o, _⟩ := a
    exact vc_call (inl := noInl) (ann := noAnn) oks_nil (vc_rput L i o hq) (by kernel_rfl)
theorem vc_rpst (L : List Sx.Obj) (i : Int) :
  ((!(decide (i < 0) || decide (n2i (llen L) ≤ i))) = true → 0 ≤ i ∧ i < ↑(llen L)) ∧ ((!(decide (i < 0) || decide (n2i (llen L) ≤ i))) = true → i.toNat < llen L) ∧ ((decide (i < 0) || decide (n2i (llen
    L) ≤ i) || !decide ((lget L i.toNat free).kind = 1)) = true → -1 = q_pst L i) ∧ ((decide (i < 0) || decide (n2i (llen L) ≤ i) || !decide ((lget L i.toNat free).kind = 1)) = false → (0 ≤ i ∧ i < ↑(llen
    L)) ∧ i.toNat < llen L ∧ ((!decide (((lget L i.toNat free).slots.at 2).kind = 1) || decide (((lget L i.toNat free).slots.at 2).value < 0) || decide (2 < ((lget L i.toNat free).slots.at 2).value)) =
    true → -1 = q_pst L i) ∧ ((!decide (((lget L i.toNat free).slots.at 2).kind = 1) || decide (((lget L i.toNat free).slots.at 2).value < 0) || decide (2 < ((lget L i.toNat free).slots.at 2).value)) =
    false → ((lget L i.toNat free).slots.at 2).value = q_pst L i)) := by
  have hn : n2i (llen L) = (L.length : Int) := rfl
  have hl : llen L = L.length := rfl
  rw [hn, hl]
  have hin : ∀ {b : Bool}, (!(decide (i < 0) || decide ((L.length : Int) ≤ i))) = true → 0 ≤ i ∧ i < (L.length : Int) := fun h => by
    simp only [Bool.not_eq_true', Bool.or_eq_false_iff, decide_eq_false_iff_not] at h
    omega
  refine ⟨fun h => hin (b := true) h, fun h => by have := hin (b := true) h; omega, fun h => ?_, fun h => ?_⟩
  · simp only [Bool.or_eq_true, Bool.not_eq_true', decide_eq_true_eq, decide_eq_false_iff_not] at h
    refine (pst_no ?_).1.symm
    unfold q_psB
    cases hb : q_psIs (q_get L i) with
    | false => rfl
    | true =>
      exfalso
      have hk := ((psIs_iff _).1 hb).1
      by_cases hr : i < 0 ∨ (L.length : Int) ≤ i
      · rw [has_no hr] at hk; simp [free] at hk
      · rw [get_lget (by omega) (by omega)] at hk
        omega
  · simp only [Bool.or_eq_false_iff, Bool.not_eq_false', decide_eq_true_eq, decide_eq_false_iff_not] at h
    have hr : 0 ≤ i ∧ i < (L.length : Int) := by omega
    have hg : q_get L i = lget L i.toNat free := get_lget hr.1 hr.2
    have e := ps_cond (lget L i.toNat free)
    rw [show decide ((lget L i.toNat free).kind = 1) = true from decide_eq_true h.2, Bool.not_true, Bool.false_or] at e
    rw [e]
    refine ⟨hr, by omega, fun h' => ?_, fun h' => ?_⟩
    · exact (pst_no (by unfold q_psB; rw [hg]; simpa using h')).1.symm
    · rw [(pst_yes (by unfold q_psB; rw [hg]; simpa using h')).1, hg]
theorem ct_rpst : CtOK Try.prog 89 g_rpst :=
  mkR_ok (consA_ok liA_ok iQ_ok) (fun _ => rfl) fun a hq hok => by
    obtain ⟨L, i, _⟩ := a
    exact vc_call (inl := noInl) (ann := noAnn) oks_nil (vc_rpst L i) (by kernel_rfl)
theorem vc_pst0 (i : Int) :
  true = true ∧ ((!decide ((q_get [] i).kind = 1) || !decide (((q_get [] i).slots.at 2).kind = 1) || decide (((q_get [] i).slots.at 2).value < 0) || decide (2 < ((q_get [] i).slots.at 2).value)) = true →
    0 = q_psV [] i ∧ false = q_psB [] i) ∧ ((!decide ((q_get [] i).kind = 1) || !decide (((q_get [] i).slots.at 2).kind = 1) || decide (((q_get [] i).slots.at 2).value < 0) || decide (2 < ((q_get []
    i).slots.at 2).value)) = false → ((q_get [] i).slots.at 2).value = q_psV [] i ∧ true = q_psB [] i) := by
  have e := ps_cond (q_get [] i)
  rw [e]
  refine ⟨rfl, fun h => ?_, fun h => ?_⟩
  · have h : q_psB [] i = false := by unfold q_psB; simpa using h
    exact ⟨(pst_no h).2.symm, h.symm⟩
  · have h : q_psB [] i = true := by unfold q_psB; simpa using h
    exact ⟨(pst_yes h).2.symm, h.symm⟩
theorem vc_pst (L : List Sx.Obj) (i : Int) :
  true = true ∧ ((!decide ((q_get L i).kind = 1) || !decide (((q_get L i).slots.at 2).kind = 1) || decide (((q_get L i).slots.at 2).value < 0) || decide (2 < ((q_get L i).slots.at 2).value)) = true → 0 =
    q_psV L i ∧ false = q_psB L i) ∧ ((!decide ((q_get L i).kind = 1) || !decide (((q_get L i).slots.at 2).kind = 1) || decide (((q_get L i).slots.at 2).value < 0) || decide (2 < ((q_get L i).slots.at
    2).value)) = false → ((q_get L i).slots.at 2).value = q_psV L i ∧ true = q_psB L i) := by
  have e := ps_cond (q_get L i)
  rw [e]
  refine ⟨rfl, fun h => ?_, fun h => ?_⟩
  · have h : q_psB L i = false := by unfold q_psB; simpa using h
    exact ⟨(pst_no h).2.symm, h.symm⟩
  · have h : q_psB L i = true := by unfold q_psB; simpa using h
    exact ⟨(pst_yes h).2.symm, h.symm⟩
theorem ct_pst : CtOK Try.prog 28 g_pst :=
  mkR_ok (consA_ok sA_ok iQ_ok) (fun _ => rfl) fun a hq hok => by
    obtain ⟨S, i, _⟩ := a
    cases S with
    | none => exact vc_call (inl := (fun f => f == 72)) (ann := noAnn) (oks_cons ct_get oks_nil) (vc_pst0 i) (by kernel_rfl)
    | some L => exact vc_call (inl := (fun f => f == 72)) (ann := noAnn) (oks_cons ct_get oks_nil) (vc_pst L i) (by kernel_rfl)
theorem vc_rbec (L : List Sx.Obj) (i st : Int) (hL : q_okL L) :
  (decide (n2i (llen L) = 0) = true → q_bcC L i st = false ∧ 1 = q_bcE L i st) ∧ (decide (n2i (llen L) = 0) = false → ((!(decide (i < 0) || decide (n2i (llen L) ≤ i))) = true → 0 ≤ i ∧ i < ↑(llen L)) ∧
    ((!(decide (i < 0) || decide (n2i (llen L) ≤ i))) = true → i.toNat < llen L) ∧ ((decide (i < 0) || decide (n2i (llen L) ≤ i) || !decide ((lget L i.toNat free).kind = 1)) = true → q_bcC L i st = false ∧
    230 = q_bcE L i st) ∧ ((decide (i < 0) || decide (n2i (llen L) ≤ i) || !decide ((lget L i.toNat free).kind = 1)) = false → ((decide (st < 0) || decide (2 < st)) = true → q_bcC L i st = false ∧ 2 =
    q_bcE L i st) ∧ ((decide (st < 0) || decide (2 < st)) = false → (0 ≤ i ∧ i < ↑(llen L)) ∧ i.toNat < llen L ∧ true = true ∧ q_rputQ L i ∧ q_bcC L i st = true ∧ 0 = q_bcE L i st ∧ lset L i.toNat (Obj.mk
    (lget L i.toNat free).kind (lget L i.toNat free).count (lget L i.toNat free).calls ((lget L i.toNat free).slots.put 2 (Key.mk 1 void.oid void.count void.call void.rights st)) (lget L i.toNat
    free).bytes) = q_bcL L i st))) := by
  have hn : n2i (llen L) = (L.length : Int) := rfl
  have hlL : llen L = L.length := rfl
  have hin : (!(decide (i < 0) || decide (n2i (llen L) ≤ i))) = true → 0 ≤ i ∧ i < (L.length : Int) := fun h => by
    rw [hn] at h
    simp only [Bool.not_eq_true', Bool.or_eq_false_iff, decide_eq_false_iff_not] at h
    omega
  refine ⟨fun h => ?_, fun h => ⟨fun h => hin h, fun h => by have := hin h; omega, fun h2 => ?_, fun h2 => ⟨fun h3 => ?_, fun h3 => ?_⟩⟩⟩
  · have hl : llen L = 0 := by have h1 : n2i (llen L) = 0 := of_decide_eq_true h; unfold n2i at h1; omega
    unfold q_bcC; rw [bcE_1 hl]; exact ⟨rfl, rfl⟩
  · have hl : llen L ≠ 0 := by have h1 : ¬ n2i (llen L) = 0 := of_decide_eq_false h; unfold n2i at h1; omega
    unfold q_bcC; rw [bcE_230 hl (bc_gone h2)]; exact ⟨rfl, rfl⟩
  · have hl : llen L ≠ 0 := by have h1 : ¬ n2i (llen L) = 0 := of_decide_eq_false h; unfold n2i at h1; omega
    unfold q_bcC; rw [bcE_2 hl (bc_there h2).2.2.2 (by simpa using h3)]; exact ⟨rfl, rfl⟩
  · have hl : llen L ≠ 0 := by have h1 : ¬ n2i (llen L) = 0 := of_decide_eq_false h; unfold n2i at h1; omega
    obtain ⟨a, b, c, d⟩ := bc_there h2
    have hE := bcE_z (st := st) hl d (by simpa using h3)
    refine ⟨⟨a, b⟩, by omega, rfl, rput_in hL a b, by unfold q_bcC; rw [hE]; rfl, hE.symm, ?_⟩
    unfold q_bcL
    rw [if_pos hE, c]; rfl
theorem cl_rbec (L : List Sx.Obj) (i st : Int) (hL : q_okL L) : CallTo Try.prog 88 [.sa 0, .it .i64 i, .it .i64 st] [.ro (.arr none 163 (.ob L))] (kLx (q_bcC L i st) (q_bcL L i st) [.it .i64 (q_bcE L i st)]) (fun _ _ => False) :=
  vch_call (inl := (fun f => f == 112)) (ann := noAnn) (oks_cons ct_rput oks_nil) hoks_nil (vc_rbec L i st hL) (by kernel_rfl)
theorem hc_rbec : HOK Try.prog 88 h_rbec :=
  hLx_ok (m := fun x => iiQ.cn x 0) (rdL_ok iiQ_ok (fun _ => rfl)) (fun _ => rfl) (fun _ _ => rfl) fun L x hq => cl_rbec L x.1 x.2.1 hq
theorem vc_bec0 (i st : Int) :
  true = true ∧ ((!decide (0 < q_size [])) = true → 1 = q_bcE [] i st) ∧ ((!decide (0 < q_size [])) = false → true = true ∧ ((!decide ((q_get [] i).kind = 1)) = true → 230 = q_bcE [] i st) ∧ ((!decide
    ((q_get [] i).kind = 1)) = false → true = true ∧ ((!(decide (0 ≤ st) && decide (st ≤ 2))) = true → 2 = q_bcE [] i st) ∧ ((!(decide (0 ≤ st) && decide (st ≤ 2))) = false → true = true ∧ true = true ∧
    q_put [] i (Obj.mk (q_get [] i).kind (q_get [] i).count (q_get [] i).calls ((q_get [] i).slots.put 2 (Key.mk 1 void.oid void.count void.call void.rights st)) (q_get [] i).bytes) = q_bcE [] i st))) := by
  exact ⟨rfl, fun h => rfl, fun h => absurd h (by decide)⟩
theorem vc_becz (i st : Int) :
  true = true ∧ ((!decide (0 < q_size [])) = true → 1 = q_bcE [] i st) ∧ ((!decide (0 < q_size [])) = false → true = true ∧ ((!decide ((q_get [] i).kind = 1)) = true → 230 = q_bcE [] i st) ∧ ((!decide
    ((q_get [] i).kind = 1)) = false → true = true ∧ ((!(decide (0 ≤ st) && decide (st ≤ 2))) = true → 2 = q_bcE [] i st) ∧ ((!(decide (0 ≤ st) && decide (st ≤ 2))) = false → true = true ∧ true = true ∧
    False))) := by
  exact ⟨rfl, fun h => rfl, fun h => absurd h (by decide)⟩
theorem vc_bec (L : List Sx.Obj) (i st : Int) (hL : q_okL L) :
  true = true ∧ ((!decide (0 < q_size L)) = true → 1 = q_bcE L i st ∧ L = q_bcL L i st) ∧ ((!decide (0 < q_size L)) = false → true = true ∧ ((!decide ((q_get L i).kind = 1)) = true → 230 = q_bcE L i st ∧
    L = q_bcL L i st) ∧ ((!decide ((q_get L i).kind = 1)) = false → true = true ∧ ((!(decide (0 ≤ st) && decide (st ≤ 2))) = true → 2 = q_bcE L i st ∧ L = q_bcL L i st) ∧ ((!(decide (0 ≤ st) && decide (st
    ≤ 2))) = false → true = true ∧ true = true ∧ q_put L i (Obj.mk (q_get L i).kind (q_get L i).count (q_get L i).calls ((q_get L i).slots.put 2 (Key.mk 1 void.oid void.count void.call void.rights st))
    (q_get L i).bytes) = q_bcE L i st ∧ q_putL L i (Obj.mk (q_get L i).kind (q_get L i).count (q_get L i).calls ((q_get L i).slots.put 2 (Key.mk 1 void.oid void.count void.call void.rights st)) (q_get L
    i).bytes) = q_bcL L i st))) := by
  have hq : ∀ b, (!decide (0 < q_size L)) = b → (b = true → llen L = 0) ∧ (b = false → llen L ≠ 0) := fun b hb => by
    subst hb
    refine ⟨fun h => ?_, fun h => ?_⟩
    · have h1 : ¬ 0 < q_size L := by simpa using h
      unfold q_size at h1; omega
    · have h1 : 0 < q_size L := by simpa using h
      unfold q_size at h1; omega
  refine ⟨rfl, fun h => bcL_no (bcE_1 ((hq _ h).1 rfl)) (by omega), fun h => ⟨rfl, fun h2 => ?_, fun h2 => ⟨rfl, fun h3 => ?_, fun h3 => ⟨rfl, rfl, ?_⟩⟩⟩⟩
  · exact bcL_no (bcE_230 ((hq _ h).2 rfl) (by simpa using h2)) (by omega)
  · exact bcL_no (bcE_2 ((hq _ h).2 rfl) (by simpa using h2) (by simp only [Bool.not_eq_true', Bool.and_eq_false_iff, decide_eq_false_iff_not] at h3; omega)) (by omega)
  · have hE : q_bcE L i st = 0 := bcE_z ((hq _ h).2 rfl) (by simpa using h2) (by simp only [Bool.not_eq_false', Bool.and_eq_true, decide_eq_true_eq] at h3; omega)
    rw [hE]
    exact bc_put hL hE
theorem cl_bec (L : List Sx.Obj) (i st : Int) (hL : q_okL L) : CallTo Try.prog 40 [.lp 0 0, .it .i64 i, .it .i64 st] [.store tS eS L] (kS2 (.it .i64 (q_bcE L i st)) (q_bcL L i st)) (fun _ _ => False) :=
  vcd_call (inl := (fun f => f == 62 || f == 69)) (ann := noAnn) (oks_cons ct_size (oks_cons ct_get oks_nil)) (hoks_cons hc_put hoks_nil) (dk_one dc_procs) (vc_bec L i st hL) (by kernel_rfl)
theorem hc_bec : HOK Try.prog 40 h_bec :=
  hSt_ok (m := fun x => iiQ.cn x 0) (rdL_ok iiQ_ok (fun _ => rfl)) (fun _ => rfl) (fun _ _ => rfl) (fun x => vcd_call (inl := (fun f => f == 62 || f == 69)) (ann := noAnn) (oks_cons ct_size (oks_cons ct_get oks_nil)) (hoks_cons hc_put hoks_nil) (dk_one dc_procs) (vc_bec0 x.1 x.2.1) (by kernel_rfl)) (fun x => vcd_call (inl := (fun f => f == 62 || f == 69)) (ann := noAnn) (oks_cons ct_size (oks_cons ct_get oks_nil)) (hoks_cons hc_put hoks_nil) (dk_one dc_procs) (vc_becz x.1 x.2.1) (by kernel_rfl)) fun L x hL _ _ => cl_bec L x.1 x.2.1 hL
end Go.Proofs.Ytfalhknkaebfoaa
