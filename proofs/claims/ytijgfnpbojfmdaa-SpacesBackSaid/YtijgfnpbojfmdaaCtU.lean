/- Weak keys: the program's and the document's. No condition. The statements vc_.. are printed by a program of the claimant's own. -/
import Derived.Test.YtijgfnpbojfmdaaCtS2
import Derived.Test.YtijgfnpbojfmdaaSpN
namespace Go.Proofs.Ytijgfnpbojfmdaa
open Go.Sx
set_option maxRecDepth 100000
set_option linter.unusedVariables false
set_option linter.unusedSimpArgs false
theorem vc_weak  :
  true = true ∧
  true = true ∧
    ∀ (nid : Nat), some (wkX nid) = some (wkX nid) ∧ some (wkN nid) = some (wkN nid) := by
  exact ⟨rfl, rfl, fun nid => ⟨rfl, rfl⟩⟩
theorem ct_weak : CtOK Try.prog 91 (mkNew wkX wkN) := mkNew_ok (π := [0, 1, 2]) (by decide) (fun _ => rfl) (vch_call (inl := (fun f => f == 93)) (ann := noAnn) oks_nil hoks_nil vc_weak (by kernel_rfl))
theorem vc_rwith (r m : Int) (hr : inR .i64 r) (hm0 : inR .i64 m) :
  (∃ g, q_invB g ∧ r = r ∧ m = m ∧ 0 = q_withG r m g ∧ 1 = g) ∧
    ∀ (g : Int),
      q_invB g →
        (decide (g ≤ 4) = true →
            (pNe g ∧ inRo IntKind.i64 (r.tdiv g)) ∧
              (pNe 2 ∧ inRo IntKind.i64 ((r.tdiv g).tmod 2)) ∧
                ((!decide ((r.tdiv g).tmod 2 = 1)) = true → pNe g ∧ inRo IntKind.i64 (m.tdiv g)) ∧
                  ((!decide ((r.tdiv g).tmod 2 = 1)) = true → pNe 2 ∧ inRo IntKind.i64 ((m.tdiv g).tmod 2)) ∧
                    ((decide ((r.tdiv g).tmod 2 = 1) || decide ((m.tdiv g).tmod 2 = 1)) = true →
                        inRo IntKind.i64 (q_withG r m g + g) ∧
                          inRo IntKind.i64 (g * 2) ∧
                            ∃ g',
                              q_invB g' ∧
                                (8 - g').toNat < (8 - g).toNat ∧
                                  r = r ∧ m = m ∧ q_withG r m g + g = q_withG r m g' ∧ g * 2 = g') ∧
                      ((decide ((r.tdiv g).tmod 2 = 1) || decide ((m.tdiv g).tmod 2 = 1)) = false →
                        inRo IntKind.i64 (g * 2) ∧
                          ∃ g',
                            q_invB g' ∧
                              (8 - g').toNat < (8 - g).toNat ∧
                                r = r ∧ m = m ∧ q_withG r m g = q_withG r m g' ∧ g * 2 = g')) ∧
          (decide (g ≤ 4) = false → q_withG r m g = q_with r m) := by
  refine ⟨⟨1, .inl rfl, rfl, rfl, by simp [q_withG], rfl⟩, fun g hg => ⟨fun hlt => ?_, fun hge => ?_⟩⟩
  · have hlt := of_decide_eq_true hlt
    have hne : pNe g := by unfold pNe; rcases hg with rfl | rfl | rfl | rfl <;> omega
    have h2 : pNe 2 := by unfold pNe; omega
    have hs := withG_in (r := r) (m := m) (g := g)
    have hn : ∃ g', q_invB g' ∧ (8 - g').toNat < (8 - g).toNat ∧ g * 2 = g' := by
      rcases hg with rfl | rfl | rfl | rfl
      · exact ⟨2, .inr (.inl rfl), by omega, rfl⟩
      · exact ⟨4, .inr (.inr (.inl rfl)), by omega, rfl⟩
      · exact ⟨8, .inr (.inr (.inr rfl)), by omega, rfl⟩
      · omega
    obtain ⟨g', hg1, hg2, rfl⟩ := hn
    have hm : inRo IntKind.i64 (g * 2) := by simp only [inRo, inR]; rcases hg with rfl | rfl | rfl | rfl <;> omega
    refine ⟨⟨hne, tdiv_in hr hg⟩, ⟨h2, tmod2_in _⟩, fun _ => ⟨hne, tdiv_in hm0 hg⟩, fun _ => ⟨h2, tmod2_in _⟩, fun h => ⟨by simp only [inRo, inR]; omega, hm, _, hg1, hg2, rfl, rfl, ?_, rfl⟩, fun h => ⟨hm, _, hg1, hg2, rfl, rfl, ?_, rfl⟩⟩
    · rcases hg with rfl | rfl | rfl | rfl
      · simp [q_withG, q_bitOf] at h ⊢; grind
      · simp [q_withG, q_bitOf] at h ⊢; grind
      · simp [q_withG, q_bitOf] at h ⊢; grind
      · omega
    · rcases hg with rfl | rfl | rfl | rfl
      · simp [q_withG, q_bitOf, h] at h ⊢ <;> grind
      · simp [q_withG, q_bitOf, h] at h ⊢ <;> grind
      · simp [q_withG, q_bitOf, h] at h ⊢ <;> grind
      · omega
  · have hge := of_decide_eq_false hge
    rcases hg with rfl | rfl | rfl | rfl <;> first | rfl | omega
theorem ct_rwith : CtOK Try.prog 83 g_rwith :=
  mk2_ok (rI_ok .i64) (rI_ok .i64) (fun _ _ => rfl) fun r m hr hm => vc_call (inl := noInl) (ann := (annL [(83, 3, lpG [0, 1, 4] (fun g => [(5, .it .i64 (q_withG r m g)), (6, .it .i64 g)]) q_invB 8)])) oks_nil (vc_rwith r m hr hm) (by kernel_rfl)
theorem vc_rweak (k : Key) :
  (decide (k.kind = 2) = true →
      { kind := k.kind, oid := k.oid, count := k.count, call := k.call, rights := q_with k.rights 3,
          value := k.value } =
        q_weak k) ∧
    (decide (k.kind = 2) = false →
      (decide (k.kind = 3) = true →
          { kind := k.kind, oid := k.oid, count := k.count, call := k.call, rights := 1, value := k.value } =
            q_weak k) ∧
        (decide (k.kind = 3) = false →
          (decide (k.kind = 1) = true →
              (decide (k.kind = 1) = true → k = q_weak k) ∧ (decide (k.kind = 1) = false → void = q_weak k)) ∧
            (decide (k.kind = 1) = false →
              (decide (k.kind = 8) = true → k = q_weak k) ∧ (decide (k.kind = 8) = false → void = q_weak k)))) := by
  unfold q_weak q_rts
  grind
theorem ct_rweak : CtOK Try.prog 58 g_rweak :=
  mk1_ok rK_ok (fun _ => rfl) fun k hk => vc_call (inl := noInl) (ann := noAnn) (oks_cons ct_rwith oks_nil) (vc_rweak k) (by kernel_rfl)
theorem vc_weaken (k : Key) :
  ((!decide (q_chk k = 0)) = true → void = q_weaken k ∧ 2 = q_chk k) ∧
    ((!decide (q_chk k = 0)) = false →
      ((decide (k.kind = 2) || (decide (k.kind = 3) || (decide (k.kind = 1) || decide (k.kind = 8)))) = true →
          (decide (k.kind = 2) = true →
              true = true ∧
                { kind := k.kind, oid := k.oid, count := k.count, call := k.call,
                      rights := bitsI BinOp.or IntKind.i64 k.rights 3, value := k.value } =
                    q_weaken k ∧
                  0 = q_chk k) ∧
            (decide (k.kind = 2) = false →
              (decide (k.kind = 3) = true →
                  true = true ∧
                    { kind := k.kind, oid := k.oid, count := k.count, call := k.call,
                          rights := bitsI BinOp.or IntKind.i64 k.rights 1, value := k.value } =
                        q_weaken k ∧
                      0 = q_chk k) ∧
                (decide (k.kind = 3) = false →
                  (decide (k.kind = 1) = true → true = true ∧ k = q_weaken k ∧ 0 = q_chk k) ∧
                    (decide (k.kind = 1) = false →
                      (decide (k.kind = 8) = true → true = true ∧ k = q_weaken k ∧ 0 = q_chk k) ∧
                        (decide (k.kind = 8) = false → False))))) ∧
        ((decide (k.kind = 2) || (decide (k.kind = 3) || (decide (k.kind = 1) || decide (k.kind = 8)))) = false →
          void = q_weaken k ∧ 0 = q_chk k)) := by
  unfold q_weaken q_chk
  cases hok : q_keyOk k
  · simp
  have hr := keyOk_rights hok
  have o3 : k.kind = 2 → bitsI BinOp.or IntKind.i64 k.rights 3 = q_with k.rights 3 := fun e => or_with3 hr.1 (by rw [e] at hr; exact hr.2)
  have o1 : k.kind = 3 → bitsI BinOp.or IntKind.i64 k.rights 1 = 1 := fun e => or_with1 hr.1 (by rw [e] at hr; exact hr.2)
  unfold q_weak q_rts
  grind
theorem ct_weaken : CtOK Try.prog 84 g_weaken :=
  mk1_ok rK_ok (fun _ => rfl) fun k hk => vch_call (inl := (fun f => f == 94 || f == 92)) (ann := noAnn) (oks_cons ct_kchk (oks_cons ct_weak oks_nil)) hoks_nil (vc_weaken k) (by kernel_rfl)
end Go.Proofs.Ytijgfnpbojfmdaa
