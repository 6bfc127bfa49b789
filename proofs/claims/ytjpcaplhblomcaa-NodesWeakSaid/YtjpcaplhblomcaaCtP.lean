/- Contracts of stores: what makes and changes them. No condition. The statements vc_.. are printed by a program of the claimant's own. -/
import Derived.Test.YtjpcaplhblomcaaCtS
namespace Go.Proofs.Ytjpcaplhblomcaa
open Go.Sx
set_option maxRecDepth 100000
set_option linter.unusedVariables false
set_option linter.unusedSimpArgs false
theorem vc_new (n : Int) :
  ((decide (n < 1) || decide (64 < n)) = true → q_newOk n = false ∧ True) ∧
    ((decide (n < 1) || decide (64 < n)) = false →
      (∃ g, q_invN n g ∧ Value.pointer none = Value.pointer none ∧ n = n ∧ 0 = g ∧ [] = q_new g) ∧
        ∀ (g : Int),
          q_invN n g →
            (decide (g < n) = true →
                pFit (llen (q_new g)) 8 ∧
                  inRo IntKind.i64 (g + 1) ∧
                    ∃ g',
                      q_invN n g' ∧
                        (n - g').toNat < (n - g).toNat ∧
                          Value.pointer none = Value.pointer none ∧
                            n = n ∧ g + 1 = g' ∧ lapp (q_new g) free = q_new g') ∧
              (decide (g < n) = false → q_newOk n = true ∧ True ∧ q_new g = q_new n)) := by
  refine ⟨fun h => ⟨?_, trivial⟩, fun h => ⟨⟨0, ?_, rfl, rfl, rfl, rfl⟩, fun g hg => ⟨fun hlt => ?_, fun hge => ?_⟩⟩⟩
  · simp only [Bool.or_eq_true, decide_eq_true_eq] at h
    unfold q_newOk
    rw [Bool.and_eq_false_iff, decide_eq_false_iff_not, decide_eq_false_iff_not]; omega
  · simp only [Bool.or_eq_false_iff, decide_eq_false_iff_not] at h
    exact ⟨by omega, by omega⟩
  · simp only [Bool.or_eq_false_iff, decide_eq_false_iff_not] at h
    obtain ⟨g0, g1⟩ := hg
    have hlt := of_decide_eq_true hlt
    refine ⟨?_, ?_, g + 1, ⟨by omega, by omega⟩, by omega, rfl, rfl, rfl, new_app g0⟩
    · unfold pFit llen q_new
      simp only [List.length_replicate, maxLen]
      omega
    · simp only [inRo, inR]; omega
  · simp only [Bool.or_eq_false_iff, decide_eq_false_iff_not] at h
    obtain ⟨g0, g1⟩ := hg
    have hge := of_decide_eq_false hge
    exact ⟨newOk_iff.2 (by omega), trivial, by rw [show g = n by omega]⟩
theorem cl_new (n : Int) : CallTo Try.prog 49 [.it .i64 n] [] (kNew n) (fun _ _ => False) := vc_call (inl := noInl) (ann := (annL [(49, 5, lpB [2, 3, 4, 13] (fun g => [(14, .it .i64 g)]) 0 tS eS q_new (q_invN n) n)])) oks_nil (vc_new n) (by kernel_rfl)
theorem hc_new : HOK Try.prog 49 h_new := by
  intro args res K KP h
  unfold h_new at h
  split at h
  · split at h
    · rename_i n hn
      refine CallTo.args (SameB.rd (rI_ok .i64) hn SameB.nil) ?_
      cases hb : q_newOk n with
      | false => exact CallTo.pure rfl rfl ((cl_new n).mono (fun v r hv => kMk_no hb hv) fun _ _ h => h) (h.1 hb)
      | true =>
        refine CallTo.mkStore (F := fun j => .tp [.lp j 0, .ci .i64 0]) rfl ?_ (h.2 hb)
        refine CallTo.shut (cl_new n) fun v r hv => ?_
        obtain ⟨j, r', _, h1, h2, h3⟩ := kMk_out hb hv
        rcases h1 with rfl | h1
        · exact .inl ⟨j, h2, h3⟩
        · exact .inr ⟨j, r', h1, j, h2, h3⟩
    · exact h.elim
  · exact h.elim
theorem vc_put0 (i : Int) (o : Sx.Obj) :
  ((!decide (q_has [] i = 0)) = true → q_has [] i = q_put [] i o) ∧ ((!decide (q_has [] i = 0)) = false → False) := by
  refine ⟨fun _ => ?_, fun h => by simp [has_nil] at h⟩
  rw [put_nil, has_nil]
theorem cl_put0 (i : Int) (o : Sx.Obj) : CallTo Try.prog 50 [nilp, .it .i64 i, .ob o] [] (isV (.it .i64 (q_put [] i o))) (fun _ _ => False) := vc_call (inl := noInl) (ann := noAnn) (oks_cons ct_has (oks_cons ct_ochk oks_nil)) (vc_put0 i o) (by kernel_rfl)
theorem vc_put1 (L : List Sx.Obj) (i : Int) (o : Sx.Obj) :
  ((!decide (q_has L i = 0)) = true → q_has L i = q_put L i o ∧ L = q_putL L i o) ∧
    ((!decide (q_has L i = 0)) = false →
      ((!decide (q_ochk o (n2i (llen L)) = 0)) = true → q_ochk o (n2i (llen L)) = q_put L i o ∧ L = q_putL L i o) ∧
        ((!decide (q_ochk o (n2i (llen L)) = 0)) = false →
          (0 ≤ i ∧ i < ↑(llen L)) ∧ i.toNat < llen L ∧ 0 = q_put L i o ∧ lset L i.toNat o = q_putL L i o)) := by
  refine ⟨fun h => ?_, fun h => ⟨fun h2 => ?_, fun h2 => ?_⟩⟩
  · obtain ⟨a, b⟩ := put_bad (o := o) (show q_has L i ≠ 0 by simpa using h)
    rw [a, b]; exact ⟨rfl, rfl⟩
  · obtain ⟨a, b⟩ := put_no (o := o) (show q_has L i = 0 by simpa using h) (show q_ochk o (llen L : Int) ≠ 0 by unfold n2i at h2; simpa using h2)
    rw [a, b]; exact ⟨rfl, rfl⟩
  · have h := (show q_has L i = 0 by simpa using h)
    have hb := has_ok.1 h
    obtain ⟨a, b⟩ := put_yes (o := o) h (show q_ochk o (llen L : Int) = 0 by unfold n2i at h2; simpa using h2)
    rw [a, b]
    exact ⟨hb, by unfold llen; omega, rfl, rfl⟩
theorem cl_put1 (L : List Sx.Obj) (i : Int) (o : Sx.Obj) : CallTo Try.prog 50 [.lp 0 0, .it .i64 i, .ob o] [.blk tS (.ag [.sa 1]), .obs eS 2 L, .gen 1] (kSt (.it .i64 (q_put L i o)) (q_putL L i o)) (fun _ _ => False) := vc_call (inl := noInl) (ann := noAnn) (oks_cons ct_has (oks_cons ct_ochk oks_nil)) (vc_put1 L i o) (by kernel_rfl)
theorem vc_put2 (i : Int) (o : Sx.Obj) :
  ((!decide (q_has [] i = 0)) = true → q_has [] i = q_put [] i o) ∧
    ((!decide (q_has [] i = 0)) = false →
      ((!decide (q_ochk o 0 = 0)) = true → q_ochk o 0 = q_put [] i o) ∧ ((!decide (q_ochk o 0 = 0)) = false → False)) := by
  refine ⟨fun _ => ?_, fun h => by simp [has_nil] at h⟩
  rw [put_nil, has_nil]
theorem cl_put2 (i : Int) (o : Sx.Obj) : CallTo Try.prog 50 [.lp 0 0, .it .i64 i, .ob o] [.ro (.blk tS (.ag [.nl (.slice none 0 0)]))] (isV (.it .i64 (q_put [] i o))) (fun _ _ => False) := vc_call (inl := noInl) (ann := noAnn) (oks_cons ct_has (oks_cons ct_ochk oks_nil)) (vc_put2 i o) (by kernel_rfl)
theorem hc_put : HOK Try.prog 50 h_put := by
  intro args res K KP h
  unfold h_put at h
  split at h
  · split at h
    · rename_i i hi
      split at h
      · rename_i o ho
        refine CallTo.args (SameB.keep (SameB.rd (rI_ok .i64) hi (SameB.rd rO_ok ho SameB.nil))) ?_
        split at h
        · split at h
          · exact CallTo.pure rfl rfl ((cl_put0 i o).mono (fun _ _ h => isV_isE h) fun _ _ h => h) h
          · exact h.elim
        · split at h
          · rename_i hoff
            have hoff := beq_iff_eq.1 hoff
            subst hoff
            split at h
            · rename_i hr
              split at h
              · rename_i hc
                simp only [Bool.and_eq_true, beq_iff_eq] at hc
                obtain ⟨rfl, rfl⟩ := hc
                exact onSt hr rfl rfl (fun _ _ => cl_put1 _ i o) h
              · exact h.elim
            · rename_i hr
              split at h
              · rename_i hc
                simp only [Bool.and_eq_true, beq_iff_eq] at hc
                obtain ⟨rfl, hz⟩ := hc
                have := isZ_spec hz
                subst this
                refine CallTo.read1 (r0 := .blk tS (.ag [.nl (.slice none 0 0)])) (by unfold rlook; rw [hr]) (by simp) (fun κ => rfl) rfl rfl ((cl_put2 i o).mono (fun _ _ h => isV_isE h) fun _ _ h => h) h
              · exact h.elim
            · exact h.elim
          · exact h.elim
        · exact h.elim
      · exact h.elim
    · exact h.elim
  · exact h.elim
theorem vc_right (l : List Sx.Obj) (hl : l.length ≤ 9223372036854775807) :
  ((decide (n2i (llen l) < 1) || decide (64 < n2i (llen l))) = true → false = q_right l) ∧
    ((decide (n2i (llen l) < 1) || decide (64 < n2i (llen l))) = false →
      (∃ g, q_invR l g ∧ false = false ∧ 0 = g ∧ l = l) ∧
        ∀ (g : Int),
          q_invR l g →
            (decide (g < n2i (llen l)) = true →
                (0 ≤ g ∧ g < ↑(llen l)) ∧
                  g.toNat < llen l ∧
                    ((!decide (q_ochk (lget l g.toNat free) (n2i (llen l)) = 0)) = true → false = q_right l) ∧
                      ((!decide (q_ochk (lget l g.toNat free) (n2i (llen l)) = 0)) = false →
                        inRo IntKind.i64 (g + 1) ∧
                          ∃ g',
                            q_invR l g' ∧
                              (n2i (llen l) - g').toNat < (n2i (llen l) - g).toNat ∧
                                false = false ∧ g + 1 = g' ∧ l = l)) ∧
              (decide (g < n2i (llen l)) = false → true = q_right l)) := by
  refine ⟨fun h => ?_, fun h => ⟨⟨0, ⟨by omega, by omega, fun j hj => by omega⟩, rfl, rfl, rfl⟩, fun g hg => ⟨fun hlt => ?_, fun hge => ?_⟩⟩⟩
  · simp only [Bool.or_eq_true, decide_eq_true_eq] at h
    simp only [len_llen] at h
    exact (right_no fun hh => by have h1 := hh.1; have h2 := hh.2.1; omega).symm
  · obtain ⟨g0, g1, g2⟩ := hg
    have hlt := of_decide_eq_true hlt
    unfold n2i at *
    refine ⟨⟨g0, hlt⟩, by omega, fun hb => (right_no fun hh => ?_).symm, fun hb => ⟨?_, g + 1, ⟨by omega, by omega, fun j hj => ?_⟩, by omega, rfl, rfl, rfl⟩⟩
    · have := hh.2.2 g.toNat (by unfold llen at hlt; omega)
      unfold q_ochk llen at hb
      rw [this] at hb; simp at hb
    · simp only [inRo, inR]; unfold llen at *; omega
    · by_cases e : (j : Int) < g
      · exact g2 j e
      · have : j = g.toNat := by omega
        subst this
        rcases ochk_cases (lget l g.toNat free) (llen l : Int) with ⟨h1, h2⟩ | ⟨h1, h2⟩
        · exact h2
        · rw [h1] at hb; simp at hb
  · obtain ⟨g0, g1, g2⟩ := hg
    have hge := of_decide_eq_false hge
    have hle := len_cast l
    simp only [Bool.or_eq_false_iff, decide_eq_false_iff_not] at h
    simp only [len_llen] at h hge
    exact (right_iff.2 ⟨by omega, by omega, fun i hi => g2 i (by omega)⟩).symm
theorem ct_right : CtOK Try.prog 22 g_right := mkA_ok (fun _ => rfl) fun l _ hl => vc_call (inl := noInl) (ann := (annL [(22, 4, lpG [0, 2] (fun g => [(3, .it .i64 g)]) (q_invR l) (n2i (llen l)))])) (oks_cons ct_rochk oks_nil) (vc_right l hl) (by kernel_rfl)
theorem vc_lcounts (l : List Sx.Obj) (k : Key) (hl : l.length ≤ 9223372036854775807) :
  ((decide (0 ≤ q_names k) && decide (q_names k < n2i (llen l))) = true → inRo IntKind.i64 (n2i (llen l) - 1)) ∧
    ((decide (0 ≤ q_names k) && decide (q_names k < n2i (llen l))) = true →
        0 ≤ imin (q_names k) (n2i (llen l) - 1) ∧ imin (q_names k) (n2i (llen l) - 1) < ↑(llen l)) ∧
      ((decide (0 ≤ q_names k) && decide (q_names k < n2i (llen l))) = true →
          (imin (q_names k) (n2i (llen l) - 1)).toNat < llen l) ∧
        (decide (0 ≤ q_names k) && decide (q_names k < n2i (llen l)) &&
            q_counts k (lget l (imin (q_names k) (n2i (llen l) - 1)).toNat free)) =
          q_is l k := by
  exact lcounts_law l k hl
theorem ct_lcounts : CtOK Try.prog 59 g_lcounts := mkA1_ok rK_ok (fun _ _ => rfl) (fun l k _ hl _ => vc_call (inl := noInl) (ann := noAnn) (oks_cons ct_rnames (oks_cons ct_rcounts oks_nil)) (vc_lcounts l k hl) (by kernel_rfl)) fun _ => rfl
theorem vc_lprep (l : List Sx.Obj) (k : Key) :
  ((decide (n2i (llen l) = 0) || !decide (q_chk k = 0) || decide (0 ≤ q_names k) && !q_is l k) = true →
      void = q_prep l k) ∧
    ((decide (n2i (llen l) = 0) || !decide (q_chk k = 0) || decide (0 ≤ q_names k) && !q_is l k) = false →
      k = q_prep l k) := by
  exact lprep_law l k
theorem ct_lprep : CtOK Try.prog 57 g_lprep := mkA1_ok rK_ok (fun _ _ => rfl) (fun l k _ _ _ => vc_call (inl := noInl) (ann := noAnn) (oks_cons ct_rchk (oks_cons ct_rnames (oks_cons ct_lcounts oks_nil))) (vc_lprep l k) (by kernel_rfl)) fun _ => rfl
theorem vc_of (l : List Sx.Obj) (hl : l.length ≤ 9223372036854775807) :
  true = true ∧
    (q_newOk (n2i (llen l)) = false → q_right l = false ∧ True) ∧
      (q_newOk (n2i (llen l)) = true →
        (∃ g,
            q_invR l g ∧
              Value.pointer none = Value.pointer none ∧
                n2i (llen l) = n2i (llen l) ∧ 0 = g ∧ l = l ∧ q_new (n2i (llen l)) = q_ofL l g) ∧
          ∀ (g : Int),
            q_invR l g →
              (decide (g < n2i (llen l)) = true →
                  (0 ≤ g ∧ g < ↑(llen l)) ∧
                    g.toNat < llen l ∧
                      true = true ∧
                        ((!decide (q_put (q_ofL l g) g (lget l g.toNat free) = 0)) = true →
                            q_right l = false ∧ q_put (q_ofL l g) g (lget l g.toNat free) = 2) ∧
                          ((!decide (q_put (q_ofL l g) g (lget l g.toNat free) = 0)) = false →
                            inRo IntKind.i64 (g + 1) ∧
                              ∃ g',
                                q_invR l g' ∧
                                  (n2i (llen l) - g').toNat < (n2i (llen l) - g).toNat ∧
                                    Value.pointer none = Value.pointer none ∧
                                      n2i (llen l) = n2i (llen l) ∧
                                        g + 1 = g' ∧ l = l ∧ q_putL (q_ofL l g) g (lget l g.toNat free) = q_ofL l g')) ∧
                (decide (g < n2i (llen l)) = false → q_right l = true ∧ True ∧ q_ofL l g = l)) := by
  refine ⟨rfl, fun h => ⟨right_no fun hh => ?_, trivial⟩, fun h => ⟨⟨0, ⟨by omega, by omega, fun j hj => by omega⟩, rfl, rfl, rfl, rfl, ofL_zero⟩, fun g hg => ⟨fun hlt => ?_, fun hge => ?_⟩⟩⟩
  · have : q_newOk (n2i (llen l)) = true := newOk_iff.2 (by unfold n2i llen; omega)
    rw [this] at h; simp at h
  · obtain ⟨g0, g1, g2⟩ := hg
    have hlt := of_decide_eq_true hlt
    have h := newOk_iff.1 h
    have hle := len_cast l
    simp only [len_llen] at *
    rw [of_put g0 hlt]
    refine ⟨⟨g0, hlt⟩, by omega, trivial, fun hb => ⟨right_no fun hh => ?_, ?_⟩, fun hb => ⟨?_, g + 1, ⟨by omega, by omega, fun j hj => ?_⟩, by omega, trivial, trivial, rfl, trivial, of_putL g0 hlt (by simpa using hb)⟩⟩
    · have := hh.2.2 g.toNat (by omega)
      unfold q_ochk at hb
      rw [this] at hb; simp at hb
    · rcases ochk_cases (lget l g.toNat free) (l.length : Int) with ⟨h1, h2⟩ | ⟨h1, h2⟩
      · rw [h1] at hb; simp at hb
      · exact h1
    · simp only [inRo, inR]; omega
    · by_cases e : (j : Int) < g
      · exact g2 j e
      · have : j = g.toNat := by omega
        subst this
        rcases ochk_cases (lget l g.toNat free) (l.length : Int) with ⟨h1, h2⟩ | ⟨h1, h2⟩
        · exact h2
        · rw [h1] at hb; simp at hb
  · obtain ⟨g0, g1, g2⟩ := hg
    have hge := of_decide_eq_false hge
    have h := newOk_iff.1 h
    have hle := len_cast l
    simp only [len_llen] at *
    exact ⟨right_iff.2 ⟨by omega, by omega, fun i hi => g2 i (by omega)⟩, trivial, ofL_all (by omega)⟩
theorem cl_of (l : List Sx.Obj) (own : Option Nat) : CallTo Try.prog 23 [.sa 0] [.ro (.arr own 163 (.ob l))] (kOf l) (fun _ _ => False) :=
  CallTo.weakA (CallTo.factA (k := 0) rfl fun _ hl => (vch_call (inl := noInl) (ann := (annL [(23, 5, lpR [0, 2, 3, 4, 5, 18, 19] (fun g => [(20, .it .i64 g)]) 1 (fun g => .store tS eS (q_ofL l g)) (q_invR l) (n2i (llen l)))])) oks_nil (hoks_cons hc_new (hoks_cons hc_put hoks_nil)) (vc_of l hl) (by kernel_rfl) : CallTo Try.prog 23 [.sa 0] [.ro (.arr none 163 (.ob l))] (kOf l) (fun _ _ => False)))
theorem hc_of : HOK Try.prog 23 h_of := by
  intro args res K KP h
  unfold h_of at h
  split at h
  · split at h
    · split at h
      · rename_i hr
        split at h
        · rename_i he
          have he := beq_iff_eq.1 he
          subst he
          split at h
          · rename_i l
            cases hb : q_right l with
            | false => exact CallTo.readA hr rfl rfl ((cl_of l _).mono (fun v r hv => kMk_no hb (kOf_out hv).1) fun _ _ h => h) (h.1 hb)
            | true =>
              refine CallTo.mkStoreA (F := fun j => .tp [.lp j 0, .ci .i64 0]) hr rfl ?_ (h.2 hb)
              refine CallTo.shut (cl_of l _) fun v r hv => ?_
              obtain ⟨hv, h0⟩ := kOf_out hv
              obtain ⟨j, r', hs, h1, h2, h3⟩ := kMk_out hb hv
              have hj : 1 ≤ j := by
                rcases Nat.eq_zero_or_pos j with rfl | hj
                · rw [h0] at hs; simp at hs
                · exact hj
              rcases h1 with rfl | h1
              · exact .inl ⟨j, hj, h2, h3⟩
              · exact .inr ⟨j, r', h1, j, hj, h2, h3⟩
          · exact h.elim
        · exact h.elim
      · exact h.elim
    · exact h.elim
  · exact h.elim
end Go.Proofs.Ytjpcaplhblomcaa
