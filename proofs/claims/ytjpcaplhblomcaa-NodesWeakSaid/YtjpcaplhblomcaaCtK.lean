/- Contracts of keys and of the document's keys. No condition. The statements vc_.. are printed by a program of the claimant's own. -/
import Derived.Test.YtjpcaplhblomcaaSpK
namespace Go.Proofs.Ytjpcaplhblomcaa
open Go.Sx
set_option maxRecDepth 100000
set_option linter.unusedVariables false
set_option linter.unusedSimpArgs false
theorem vc_within (h : Bool) (n m : Int) :
  (h && decide (0 ≤ n) && decide (n ≤ m) || !h && decide (n = 0)) = q_within h n m := by
  unfold q_within; cases h <;> simp
theorem ct_within : CtOK Try.prog 62 g_within :=
  mk3_ok rB_ok (rI_ok .i64) (rI_ok .i64) (fun _ _ _ => rfl) fun h n m _ _ _ => vc_call (inl := noInl) (ann := noAnn) oks_nil (vc_within h n m) (by kernel_rfl)
theorem ct_kinds : CtOK Try.prog 61 (mk0 kindsV) :=
  mk0_eq rfl (vc_call (inl := noInl) (ann := noAnn) oks_nil (G := kindsV = kindsV) rfl (by kernel_rfl) : CallTo _ _ _ _ (fun v _ => v = kindsV) (fun _ _ => False))
theorem vc_kof (k : Key) (hk : k.wf) :
  ((decide (k.kind < 0) || decide (10 < k.kind)) = true →
      { data := { toList := [] } } = q_kname k ∧
        false = q_isO k.kind ∧
          false = q_isR k.kind ∧
            false = q_isC k.kind ∧ false = q_isV k.kind ∧ 0 = q_most k.kind ∧ 0 = q_kwant k.kind ∧ false = q_keyOk k) ∧
    ((decide (k.kind < 0) || decide (10 < k.kind)) = false →
      (0 ≤ k.kind ∧ k.kind < ↑11) ∧
        lget [q_kn 0, q_kn 1, q_kn 2, q_kn 3, q_kn 4, q_kn 5, q_kn 6, q_kn 7, q_kn 8, q_kn 9, q_kn 10] k.kind.toNat
              { data := { toList := [] } } =
            q_kname k ∧
          lget [false, false, true, true, true, true, true, true, false, false, false] k.kind.toNat false =
              q_isO k.kind ∧
            lget [false, false, true, true, false, false, false, false, false, false, false] k.kind.toNat false =
                q_isR k.kind ∧
              lget [false, false, false, false, false, false, false, true, false, false, false] k.kind.toNat false =
                  q_isC k.kind ∧
                lget [false, true, false, false, false, false, true, false, false, false, false] k.kind.toNat false =
                    q_isV k.kind ∧
                  lget [0, 0, 7, 1, 0, 0, 0, 0, 0, 0, 0] k.kind.toNat 0 = q_most k.kind ∧
                    lget [0, 0, 1, 2, 1, 1, 1, 1, 0, 0, 0] k.kind.toNat 0 = q_kwant k.kind ∧
                      (q_within
                                    (lget [false, false, true, true, true, true, true, true, false, false, false]
                                      k.kind.toNat false)
                                    k.oid 63 &&
                                  q_within
                                    (lget [false, false, true, true, true, true, true, true, false, false, false]
                                      k.kind.toNat false)
                                    k.count 4294967295 &&
                                q_within
                                  (lget [false, false, false, false, false, false, false, true, false, false, false]
                                    k.kind.toNat false)
                                  k.call 4294967295 &&
                              decide (0 ≤ k.rights) &&
                            decide
                              (bitsI BinOp.andNot IntKind.i64 k.rights
                                  (lget [0, 0, 7, 1, 0, 0, 0, 0, 0, 0, 0] k.kind.toNat 0) =
                                0) &&
                          (lget [false, true, false, false, false, false, true, false, false, false, false] k.kind.toNat
                              false ||
                            decide (k.value = 0))) =
                        q_keyOk k) := by
  obtain ⟨kind, oid, count, call, rights, value⟩ := k
  have hr : rights ≤ 9223372036854775807 := hk.2.2.2.2.1.2
  simp only
  have he : (ByteArray.empty : ByteArray) = { data := { toList := [] } } := rfl
  refine ⟨fun h => ?_, fun h => ?_⟩
  · simp only [Bool.or_eq_true, decide_eq_true_eq] at h
    refine ⟨?_, ?_, ?_, ?_, ?_, ?_, ?_, ?_⟩ <;> simp only [q_kname, q_inK, q_isO, q_isR, q_isC, q_isV, q_most, q_kwant, q_keyOk] <;> grind
  · simp only [Bool.or_eq_false_iff, decide_eq_false_iff_not] at h
    have hb : ∀ m, (0 ≤ rights → (decide (bitsI .andNot .i64 rights m = 0)) = decide (rights ≤ m)) → (decide (0 ≤ rights) && decide (bitsI .andNot .i64 rights m = 0)) = (decide (0 ≤ rights) && decide (rights ≤ m)) := fun m hm => and_bits hm
    have h7 := hb 7 fun h0 => by rw [decide_eq_decide]; exact andNot7 h0 hr
    have h1 := hb 1 fun h0 => by rw [decide_eq_decide]; exact andNot1 h0 hr
    have h0 := hb 0 fun h0 => by rw [decide_eq_decide]; exact andNot0 h0 hr
    have hc : kind = 0 ∨ kind = 1 ∨ kind = 2 ∨ kind = 3 ∨ kind = 4 ∨ kind = 5 ∨ kind = 6 ∨ kind = 7 ∨ kind = 8 ∨ kind = 9 ∨ kind = 10 := by omega
    rcases hc with rfl | rfl | rfl | rfl | rfl | rfl | rfl | rfl | rfl | rfl | rfl <;>
      refine ⟨⟨by decide, by decide⟩, rfl, rfl, rfl, rfl, rfl, rfl, rfl, ?_⟩ <;>
      simp only [lget, q_keyOk, q_isO, q_isV, q_isC, q_most, Int.reduceToNat, List.getD_cons_zero, List.getD_cons_succ, Bool.and_assoc] <;>
      simp +decide [q_within] <;> grind
theorem ct_kof : CtOK Try.prog 52 g_kof :=
  mk1_ok rK_ok (fun _ => rfl) fun k hk => vc_call (inl := noInl) (ann := noAnn) (oks_cons ct_within (oks_cons ct_kinds oks_nil)) (vc_kof k hk) (by kernel_rfl)
theorem vc_kchk (k : Key) (hk : k.wf) :
  ((!q_keyOk k) = true → 2 = q_chk k) ∧ ((!q_keyOk k) = false → 0 = q_chk k) := by
  unfold q_chk; cases q_keyOk k <;> simp
theorem ct_kchk : CtOK Try.prog 27 g_chk :=
  mk1_ok rK_ok (fun _ => rfl) fun k hk => vc_call (inl := noInl) (ann := noAnn) (oks_cons ct_kof oks_nil) (vc_kchk k hk) (by kernel_rfl)
theorem vc_knames (k : Key) (hk : k.wf) :
  ((!q_keyOk k || !q_isO k.kind) = true → 0 = q_oid k ∧ false = q_named k) ∧
    ((!q_keyOk k || !q_isO k.kind) = false → k.oid = q_oid k ∧ true = q_named k) := by
  unfold q_oid q_named; cases q_keyOk k <;> cases q_isO k.kind <;> simp
theorem ct_knames : CtOK Try.prog 28 g_knames :=
  mk1_ok rK_ok (fun _ => rfl) fun k hk => vc_call (inl := noInl) (ann := noAnn) (oks_cons ct_kof oks_nil) (vc_knames k hk) (by kernel_rfl)
theorem vc_kcounts (k : Key) (o : Sx.Obj) (hk : k.wf) :
  ((!q_keyOk k) = true → false = q_counts k o) ∧
    ((!q_keyOk k) = false →
      ((!q_isO k.kind) = true → true = q_counts k o) ∧
        ((!q_isO k.kind) = false →
          (decide (o.kind = q_kwant k.kind) && decide (o.count = k.count) &&
              (!q_isC k.kind || decide (o.calls = k.call))) =
            q_counts k o)) := by
  cases hok : q_keyOk k
  · simp [q_counts, hok]
  · have h0 : q_isO k.kind = true → 0 ≤ k.oid := fun h => by
      simp only [q_keyOk, q_within, h, if_true, Bool.and_eq_true, decide_eq_true_eq] at hok
      omega
    simp only [q_counts, q_wants, q_names, q_kwant, q_isC, hok, Bool.true_and]
    simp only [q_isO] at *
    grind
theorem ct_kcounts : CtOK Try.prog 53 g_counts :=
  mk2_ok rK_ok rO_ok (fun _ _ => rfl) fun k o hk _ => vc_call (inl := noInl) (ann := noAnn) (oks_cons ct_kof oks_nil) (vc_kcounts k o hk) (by kernel_rfl)
theorem vc_rnm (n : Int) :
  (decide (2 ≤ n) && decide (n ≤ 7)) = q_isO n ∧
    (decide (n = 2) || decide (n = 3)) = q_isR n ∧
      decide (n = 7) = q_isC n ∧ (decide (n = 1) || decide (n = 6)) = q_isV n := by
  exact ⟨rfl, rfl, rfl, rfl⟩
theorem ct_rnm : CtOK Try.prog 51 g_rnm :=
  mk1_ok (rI_ok .i64) (fun _ => rfl) fun n _ => vc_call (inl := noInl) (ann := noAnn) oks_nil (vc_rnm n) (by kernel_rfl)
theorem vc_rchk (k : Key) (hk : k.wf) :
  (q_isR k.kind = true →
      (decide (k.kind = 3) = true →
          ((decide (k.kind < 0) || decide (10 < k.kind) || decide (k.rights < 0) || decide (1 < k.rights) ||
                  !q_isV k.kind && !decide (k.value = 0)) =
                true →
              2 = q_chk k) ∧
            ((decide (k.kind < 0) || decide (10 < k.kind) || decide (k.rights < 0) || decide (1 < k.rights) ||
                  !q_isV k.kind && !decide (k.value = 0)) =
                false →
              ((q_isO k.kind &&
                        (decide (k.oid < 0) || decide (64 ≤ k.oid) || decide (k.count < 0) ||
                          decide (4294967295 < k.count)) ||
                      !q_isO k.kind && (!decide (k.oid = 0) || !decide (k.count = 0))) =
                    true →
                  2 = q_chk k) ∧
                ((q_isO k.kind &&
                        (decide (k.oid < 0) || decide (64 ≤ k.oid) || decide (k.count < 0) ||
                          decide (4294967295 < k.count)) ||
                      !q_isO k.kind && (!decide (k.oid = 0) || !decide (k.count = 0))) =
                    false →
                  ((q_isC k.kind && (decide (k.call < 0) || decide (4294967295 < k.call)) ||
                          !q_isC k.kind && !decide (k.call = 0)) =
                        true →
                      2 = q_chk k) ∧
                    ((q_isC k.kind && (decide (k.call < 0) || decide (4294967295 < k.call)) ||
                          !q_isC k.kind && !decide (k.call = 0)) =
                        false →
                      0 = q_chk k)))) ∧
        (decide (k.kind = 3) = false →
          ((decide (k.kind < 0) || decide (10 < k.kind) || decide (k.rights < 0) || decide (7 < k.rights) ||
                  !q_isV k.kind && !decide (k.value = 0)) =
                true →
              2 = q_chk k) ∧
            ((decide (k.kind < 0) || decide (10 < k.kind) || decide (k.rights < 0) || decide (7 < k.rights) ||
                  !q_isV k.kind && !decide (k.value = 0)) =
                false →
              ((q_isO k.kind &&
                        (decide (k.oid < 0) || decide (64 ≤ k.oid) || decide (k.count < 0) ||
                          decide (4294967295 < k.count)) ||
                      !q_isO k.kind && (!decide (k.oid = 0) || !decide (k.count = 0))) =
                    true →
                  2 = q_chk k) ∧
                ((q_isO k.kind &&
                        (decide (k.oid < 0) || decide (64 ≤ k.oid) || decide (k.count < 0) ||
                          decide (4294967295 < k.count)) ||
                      !q_isO k.kind && (!decide (k.oid = 0) || !decide (k.count = 0))) =
                    false →
                  ((q_isC k.kind && (decide (k.call < 0) || decide (4294967295 < k.call)) ||
                          !q_isC k.kind && !decide (k.call = 0)) =
                        true →
                      2 = q_chk k) ∧
                    ((q_isC k.kind && (decide (k.call < 0) || decide (4294967295 < k.call)) ||
                          !q_isC k.kind && !decide (k.call = 0)) =
                        false →
                      0 = q_chk k))))) ∧
    (q_isR k.kind = false →
      (decide (k.kind = 3) = true →
          ((decide (k.kind < 0) || decide (10 < k.kind) || decide (k.rights < 0) || decide (1 < k.rights) ||
                  !q_isV k.kind && !decide (k.value = 0)) =
                true →
              2 = q_chk k) ∧
            ((decide (k.kind < 0) || decide (10 < k.kind) || decide (k.rights < 0) || decide (1 < k.rights) ||
                  !q_isV k.kind && !decide (k.value = 0)) =
                false →
              ((q_isO k.kind &&
                        (decide (k.oid < 0) || decide (64 ≤ k.oid) || decide (k.count < 0) ||
                          decide (4294967295 < k.count)) ||
                      !q_isO k.kind && (!decide (k.oid = 0) || !decide (k.count = 0))) =
                    true →
                  2 = q_chk k) ∧
                ((q_isO k.kind &&
                        (decide (k.oid < 0) || decide (64 ≤ k.oid) || decide (k.count < 0) ||
                          decide (4294967295 < k.count)) ||
                      !q_isO k.kind && (!decide (k.oid = 0) || !decide (k.count = 0))) =
                    false →
                  ((q_isC k.kind && (decide (k.call < 0) || decide (4294967295 < k.call)) ||
                          !q_isC k.kind && !decide (k.call = 0)) =
                        true →
                      2 = q_chk k) ∧
                    ((q_isC k.kind && (decide (k.call < 0) || decide (4294967295 < k.call)) ||
                          !q_isC k.kind && !decide (k.call = 0)) =
                        false →
                      0 = q_chk k)))) ∧
        (decide (k.kind = 3) = false →
          ((decide (k.kind < 0) || decide (10 < k.kind) || decide (k.rights < 0) || decide (0 < k.rights) ||
                  !q_isV k.kind && !decide (k.value = 0)) =
                true →
              2 = q_chk k) ∧
            ((decide (k.kind < 0) || decide (10 < k.kind) || decide (k.rights < 0) || decide (0 < k.rights) ||
                  !q_isV k.kind && !decide (k.value = 0)) =
                false →
              ((q_isO k.kind &&
                        (decide (k.oid < 0) || decide (64 ≤ k.oid) || decide (k.count < 0) ||
                          decide (4294967295 < k.count)) ||
                      !q_isO k.kind && (!decide (k.oid = 0) || !decide (k.count = 0))) =
                    true →
                  2 = q_chk k) ∧
                ((q_isO k.kind &&
                        (decide (k.oid < 0) || decide (64 ≤ k.oid) || decide (k.count < 0) ||
                          decide (4294967295 < k.count)) ||
                      !q_isO k.kind && (!decide (k.oid = 0) || !decide (k.count = 0))) =
                    false →
                  ((q_isC k.kind && (decide (k.call < 0) || decide (4294967295 < k.call)) ||
                          !q_isC k.kind && !decide (k.call = 0)) =
                        true →
                      2 = q_chk k) ∧
                    ((q_isC k.kind && (decide (k.call < 0) || decide (4294967295 < k.call)) ||
                          !q_isC k.kind && !decide (k.call = 0)) =
                        false →
                      0 = q_chk k))))) := by
  simp only [q_chk, q_keyOk, q_within, q_most, q_isR]
  rcases Bool.eq_false_or_eq_true (q_isO k.kind) with hA | hA <;> rcases Bool.eq_false_or_eq_true (q_isC k.kind) with hB | hB <;> rcases Bool.eq_false_or_eq_true (q_isV k.kind) with hC | hC <;> simp only [hA, hB, hC, Bool.true_and, Bool.false_and, Bool.not_true, Bool.not_false, Bool.or_false, Bool.false_or, Bool.true_or, if_true, Bool.false_eq_true, if_false, Bool.and_true] <;> grind
theorem ct_rchk : CtOK Try.prog 24 g_chk :=
  mk1_ok rK_ok (fun _ => rfl) fun k hk => vc_call (inl := noInl) (ann := noAnn) (oks_cons ct_rnm oks_nil) (vc_rchk k hk) (by kernel_rfl)
theorem vc_rnames (k : Key) (hk : k.wf) :
  ((!decide (q_chk k = 0) || !q_isO k.kind) = true → -1 = q_names k) ∧
    ((!decide (q_chk k = 0) || !q_isO k.kind) = false → k.oid = q_names k) := by
  unfold q_names q_chk; cases q_keyOk k <;> cases q_isO k.kind <;> simp
theorem ct_rnames : CtOK Try.prog 25 g_rnames :=
  mk1_ok rK_ok (fun _ => rfl) fun k hk => vc_call (inl := noInl) (ann := noAnn) (oks_cons ct_rnm (oks_cons ct_rchk oks_nil)) (vc_rnames k hk) (by kernel_rfl)
theorem vc_rwants (k : Key) (hk : k.wf) :
  (decide (q_names k < 0) = true → 0 = q_wants k) ∧
    (decide (q_names k < 0) = false →
      (decide (k.kind = 3) = true → 2 = q_wants k) ∧ (decide (k.kind = 3) = false → 1 = q_wants k)) := by
  unfold q_wants; grind
theorem ct_rwants : CtOK Try.prog 69 g_rwants :=
  mk1_ok rK_ok (fun _ => rfl) fun k hk => vc_call (inl := noInl) (ann := noAnn) (oks_cons ct_rnames oks_nil) (vc_rwants k hk) (by kernel_rfl)
theorem vc_rcounts (k : Key) (o : Sx.Obj) (hk : k.wf) :
  ((!decide (q_chk k = 0)) = true → false = q_counts k o) ∧
    ((!decide (q_chk k = 0)) = false →
      (decide (q_names k < 0) = true → true = q_counts k o) ∧
        (decide (q_names k < 0) = false →
          (decide (o.kind = q_wants k) && decide (o.count = k.count) &&
              (!decide (k.kind = 7) || decide (o.calls = k.call))) =
            q_counts k o)) := by
  unfold q_counts q_chk; cases q_keyOk k <;> grind
theorem ct_rcounts : CtOK Try.prog 64 g_counts :=
  mk2_ok rK_ok rO_ok (fun _ _ => rfl) fun k o hk _ => vc_call (inl := noInl) (ann := noAnn) (oks_cons ct_rchk (oks_cons ct_rnames (oks_cons ct_rwants oks_nil))) (vc_rcounts k o hk) (by kernel_rfl)
end Go.Proofs.Ytjpcaplhblomcaa
