/- Contracts of stores: what makes and changes them. No condition. The statements vc_.. are printed by a program of the claimant's own. -/
import Derived.Test.YtccgpnoiageklaaCtS
namespace Go.Proofs.Ytccgpnoiageklaa
open Go.Sx
set_option maxRecDepth 100000
set_option linter.unusedVariables false
set_option linter.unusedSimpArgs false
theorem vc_new (n : Int) :
  ((decide (n < 1) || decide (64 < n)) = true → q_newOk n = false ∧ True) ∧
    ((decide (n < 1) || decide (64 < n)) = false →
      (∃ g, q_invN n g ∧ Value.pointer none = Value.pointer none ∧ n = n ∧ 0 = g ∧ [] = q_new g) ∧
        ∀ (g : Int),
          q_invN n g →
            (decide (g < n) = true →
                pFit (llen (q_new g)) 8 ∧
                  inRo IntKind.i64 (g + 1) ∧
                    ∃ g',
                      q_invN n g' ∧
                        (n - g').toNat < (n - g).toNat ∧
                          Value.pointer none = Value.pointer none ∧
                            n = n ∧ g + 1 = g' ∧ lapp (q_new g) free = q_new g') ∧
              (decide (g < n) = false → q_newOk n = true ∧ True ∧ q_new g = q_new n)) := by
  refine ⟨fun h => ⟨?_, trivial⟩, fun h => ⟨⟨0, ?_, rfl, rfl, rfl, rfl⟩, fun g hg => ⟨fun hlt => ?_, fun hge => ?_⟩⟩⟩
  · simp only [Bool.or_eq_true, decide_eq_true_eq] at h
    unfold q_newOk
    rw [Bool.and_eq_false_iff, decide_eq_false_iff_not, decide_eq_false_iff_not]; omega
  · simp only [Bool.or_eq_false_iff, decide_eq_false_iff_not] at h
    exact ⟨by omega, by omega⟩
  · simp only [Bool.or_eq_false_iff, decide_eq_false_iff_not] at h
    obtain ⟨g0, g1⟩ := hg
    have hlt := of_decide_eq_true hlt
    refine ⟨?_, ?_, g + 1, ⟨by omega, by omega⟩, by omega, rfl, rfl, rfl, new_app g0⟩
    · unfold pFit llen q_new
      simp only [List.length_replicate, maxLen]
      omega
    · simp only [inRo, inR]; omega
  · simp only [Bool.or_eq_false_iff, decide_eq_false_iff_not] at h
    obtain ⟨g0, g1⟩ := hg
    have hge := of_decide_eq_false hge
    exact ⟨newOk_iff.2 (by omega), trivial, by rw [show g = n by omega]⟩
theorem cl_new (n : Int) : CallTo Try.prog 14 [.it .i64 n] [] (kNew n) (fun _ _ => False) := vc_call (inl := noInl) (ann := (annL [(14, 5, lpB [2, 3, 4, 13] (fun g => [(14, .it .i64 g)]) 0 tS eS q_new (q_invN n) n)])) oks_nil (vc_new n) (by kernel_rfl)
theorem hc_new : HOK Try.prog 14 h_new := by
  intro args res K KP h
  unfold h_new at h
  split at h
  · split at h
    · rename_i n hn
      refine CallTo.args (SameB.rd (rI_ok .i64) hn SameB.nil) ?_
      cases hb : q_newOk n with
      | false => exact CallTo.pure rfl rfl ((cl_new n).mono (fun v r hv => kNew_no hb hv) fun _ _ h => h) (h.1 hb)
      | true =>
        refine CallTo.mkStore (F := fun j => .tp [.lp j 0, .ci .i64 0]) rfl ?_ (h.2 hb)
        refine CallTo.shut (cl_new n) fun v r hv => .inr ?_
        obtain ⟨j, b, t, rfl, hb', hst⟩ := kNew_yes hb hv
        obtain ⟨r', g1, g2⟩ := stOf_shut hst
        refine ⟨j, r', g1, j, g2, fun κ i hi ρ2 ρ3 N N' hv hN hk => ?_⟩
        obtain ⟨s1, s2, _⟩ := hb' ρ2 N
        refine ⟨?_, hN j i hi hk.1, by simp [ok, inR], trivial⟩
        simp only [den, denL, (hv j i hi).1, s1]
    · exact h.elim
  · exact h.elim
theorem vc_put0 (i : Int) (o : Sx.Obj) :
  ((!decide (q_has [] i = 0)) = true → q_has [] i = q_put [] i o) ∧ ((!decide (q_has [] i = 0)) = false → False) := by
  refine ⟨fun _ => ?_, fun h => by simp [has_nil] at h⟩
  rw [put_nil, has_nil]
theorem cl_put0 (i : Int) (o : Sx.Obj) : CallTo Try.prog 16 [nilp, .it .i64 i, .ob o] [] (isV (.it .i64 (q_put [] i o))) (fun _ _ => False) := vc_call (inl := noInl) (ann := noAnn) (oks_cons ct_has (oks_cons ct_ochk oks_nil)) (vc_put0 i o) (by kernel_rfl)
theorem vc_put1 (L : List Sx.Obj) (i : Int) (o : Sx.Obj) :
  ((!decide (q_has L i = 0)) = true → q_has L i = q_put L i o ∧ L = q_putL L i o) ∧
    ((!decide (q_has L i = 0)) = false →
      ((!decide (q_ochk o (n2i (llen L)) = 0)) = true → q_ochk o (n2i (llen L)) = q_put L i o ∧ L = q_putL L i o) ∧
        ((!decide (q_ochk o (n2i (llen L)) = 0)) = false →
          (0 ≤ i ∧ i < ↑(llen L)) ∧ i.toNat < llen L ∧ 0 = q_put L i o ∧ lset L i.toNat o = q_putL L i o)) := by
  refine ⟨fun h => ?_, fun h => ⟨fun h2 => ?_, fun h2 => ?_⟩⟩
  · obtain ⟨a, b⟩ := put_bad (o := o) (show q_has L i ≠ 0 by simpa using h)
    rw [a, b]; exact ⟨rfl, rfl⟩
  · obtain ⟨a, b⟩ := put_no (o := o) (show q_has L i = 0 by simpa using h) (show q_ochk o (llen L : Int) ≠ 0 by unfold n2i at h2; simpa using h2)
    rw [a, b]; exact ⟨rfl, rfl⟩
  · have h := (show q_has L i = 0 by simpa using h)
    have hb := has_ok.1 h
    obtain ⟨a, b⟩ := put_yes (o := o) h (show q_ochk o (llen L : Int) = 0 by unfold n2i at h2; simpa using h2)
    rw [a, b]
    exact ⟨hb, by unfold llen; omega, rfl, rfl⟩
theorem cl_put1 (L : List Sx.Obj) (i : Int) (o : Sx.Obj) : CallTo Try.prog 16 [.lp 0 0, .it .i64 i, .ob o] [.blk tS (.ag [.sa 1]), .obs eS 2 L, .gen 1] (kSt (.it .i64 (q_put L i o)) (q_putL L i o)) (fun _ _ => False) := vc_call (inl := noInl) (ann := noAnn) (oks_cons ct_has (oks_cons ct_ochk oks_nil)) (vc_put1 L i o) (by kernel_rfl)
theorem vc_put2 (i : Int) (o : Sx.Obj) :
  ((!decide (q_has [] i = 0)) = true → q_has [] i = q_put [] i o) ∧
    ((!decide (q_has [] i = 0)) = false →
      ((!decide (q_ochk o 0 = 0)) = true → q_ochk o 0 = q_put [] i o) ∧ ((!decide (q_ochk o 0 = 0)) = false → False)) := by
  refine ⟨fun _ => ?_, fun h => by simp [has_nil] at h⟩
  rw [put_nil, has_nil]
theorem cl_put2 (i : Int) (o : Sx.Obj) : CallTo Try.prog 16 [.lp 0 0, .it .i64 i, .ob o] [.ro (.blk tS (.ag [.nl (.slice none 0 0)]))] (isV (.it .i64 (q_put [] i o))) (fun _ _ => False) := vc_call (inl := noInl) (ann := noAnn) (oks_cons ct_has (oks_cons ct_ochk oks_nil)) (vc_put2 i o) (by kernel_rfl)
theorem hc_put : HOK Try.prog 16 h_put := by
  intro args res K KP h
  unfold h_put at h
  split at h
  · split at h
    · rename_i i hi
      split at h
      · rename_i o ho
        refine CallTo.args (SameB.keep (SameB.rd (rI_ok .i64) hi (SameB.rd rO_ok ho SameB.nil))) ?_
        split at h
        · split at h
          · exact CallTo.pure rfl rfl ((cl_put0 i o).mono (fun _ _ h => isV_isE h) fun _ _ h => h) h
          · exact h.elim
        · split at h
          · rename_i hoff
            have hoff := beq_iff_eq.1 hoff
            subst hoff
            split at h
            · rename_i hr
              split at h
              · rename_i hc
                simp only [Bool.and_eq_true, beq_iff_eq] at hc
                obtain ⟨rfl, rfl⟩ := hc
                exact onSt hr rfl rfl (fun _ _ => cl_put1 _ i o) h
              · exact h.elim
            · rename_i hr
              split at h
              · rename_i hc
                simp only [Bool.and_eq_true, beq_iff_eq] at hc
                obtain ⟨rfl, hz⟩ := hc
                have := isZ_spec hz
                subst this
                refine CallTo.read1 (r0 := .blk tS (.ag [.nl (.slice none 0 0)])) (by unfold rlook; rw [hr]) (by simp) (fun κ => rfl) rfl rfl ((cl_put2 i o).mono (fun _ _ h => isV_isE h) fun _ _ h => h) h
              · exact h.elim
            · exact h.elim
          · exact h.elim
        · exact h.elim
      · exact h.elim
    · exact h.elim
  · exact h.elim
end Go.Proofs.Ytccgpnoiageklaa
