/- Stores: copies, and where they are unlike. No condition. The statements vc_.. are printed by a program of the claimant's own. -/
import Derived.Test.YtfalhknkaebfoaaCtS2
import Derived.Test.YtfalhknkaebfoaaCtT
namespace Go.Proofs.Ytfalhknkaebfoaa
open Go.Sx
set_option maxRecDepth 100000
set_option linter.unusedVariables false
set_option linter.unusedSimpArgs false
theorem vc_copy0  :
  Value.pointer none = Value.pointer none := by
  rfl
theorem cl_copy0 : CallTo Try.prog 32 [nilp] [] (isV nilp) (fun _ _ => False) := vc_call (inl := noInl) (ann := noAnn) (oks_cons ct_none2 oks_nil) vc_copy0 (by kernel_rfl)
theorem vc_copy1 (L : List Sx.Obj) (hL : L.length ≤ 1000) :
  (q_snone L = true → q_snone L = true) ∧
    (q_snone L = false →
      (∃ g,
          q_invU L g ∧
            Value.pointer none = Value.pointer none ∧ n2i (llen L) = n2i (llen L) ∧ 0 = g ∧ L = L ∧ [] = q_take L g) ∧
        ∀ (g : Int),
          q_invU L g →
            (decide (g < n2i (llen L)) = true →
                (0 ≤ g ∧ g < ↑(llen L)) ∧
                  g.toNat < llen L ∧
                    g.toNat < llen L ∧
                      pFit (llen (q_take L g)) 8 ∧
                        inRo IntKind.i64 (g + 1) ∧
                          ∃ g',
                            q_invU L g' ∧
                              (n2i (llen L) - g').toNat < (n2i (llen L) - g).toNat ∧
                                Value.pointer none = Value.pointer none ∧
                                  n2i (llen L) = n2i (llen L) ∧
                                    g + 1 = g' ∧ L = L ∧ lapp (q_take L g) (lget L g.toNat free) = q_take L g') ∧
              (decide (g < n2i (llen L)) = false → q_snone L = false ∧ q_take L g = L)) := by
  refine ⟨fun h => h, fun h => ⟨⟨0, ⟨by omega, by omega⟩, rfl, rfl, rfl, rfl, rfl⟩, fun g hg => ⟨fun hlt => ?_, fun hge => ?_⟩⟩⟩
  · obtain ⟨g0, g1⟩ := hg
    have hlt : g < n2i (llen L) := of_decide_eq_true hlt
    have hn := len_llen L
    have hle := len_cast L
    rw [hn] at hlt ⊢
    have ht := take_len (L := L) (g := g)
    exact ⟨⟨g0, by omega⟩, by omega, by omega, few_fit (by omega), by simp only [inRo, inR]; omega, g + 1, ⟨by omega, by omega⟩, by omega, rfl, rfl, rfl, rfl, take_app g0 hlt⟩
  · obtain ⟨g0, g1⟩ := hg
    have hge : ¬ g < n2i (llen L) := of_decide_eq_false hge
    rw [len_llen] at hge
    exact ⟨h, take_all (by omega)⟩

theorem kCopy_no {L : List Sx.Obj} (hb : q_snone L = true) {v : V} {r : List Res} (h : kCopy L v r) : isE nilp v [] := by
  unfold kCopy at h
  split at h
  · split at h
    · exact fun ρ K => Same.refl _ _ _
    · exact h.elim
  · split at h
    · split at h
      · rw [hb] at h; simp at h
      · exact h.elim
    · exact h.elim
  · exact h.elim
theorem kCopy_yes {L : List Sx.Obj} (hb : q_snone L = false) {v : V} {r : List Res} (h : kCopy L v r) : ∃ j r', 1 ≤ j ∧ (r' = r ∨ shutS r j = some r') ∧ rget r' j = .store tS eS L ∧ ∀ (κ : Nat → Option Nat) (i : Nat), κ j = some i → Turns κ v (.lp i 0) := by
  unfold kCopy at h
  split at h
  · split at h
    · rw [hb] at h; simp at h
    · exact h.elim
  · split at h
    · rename_i j off _ t e M hst
      split at h
      · rename_i hc
        simp only [Bool.and_eq_true, beq_iff_eq, Nat.ble_eq] at hc
        obtain ⟨⟨⟨rfl, rfl⟩, rfl⟩, hj⟩ := hc
        obtain ⟨_, rfl⟩ := h
        have ht : ∀ (κ : Nat → Option Nat) (i : Nat), κ j = some i → Turns κ (.lp j 0) (.lp i 0) := fun κ i hi ρ2 ρ3 N N' hv hN hk => ⟨by simp only [den, (hv j i hi).1], hN j i hi hk⟩
        rcases shOf_out hst with h1 | ⟨r', h1, h2⟩
        · exact ⟨j, r, hj, .inl rfl, h1, ht⟩
        · exact ⟨j, r', hj, .inr h1, h2, ht⟩
      · exact h.elim
    · exact h.elim
  · exact h.elim
theorem kUnl_no {L M : List Sx.Obj} (hb : q_unlNo L M = true) {v : V} {r : List Res} (h : kUnl L M v r) : isE nls v [] := by
  unfold kUnl at h
  split at h
  · split at h
    · exact fun ρ K => Same.refl _ _ _
    · exact h.elim
  · split at h
    · split at h
      · split at h
        · split at h
          · split at h
            · rw [hb] at h; simp at h
            · exact h.elim
          · exact h.elim
        · exact h.elim
      · exact h.elim
    · exact h.elim
  · exact h.elim
theorem kUnl_yes {L M : List Sx.Obj} (hb : q_unlNo L M = false) {v : V} {r : List Res} (h : kUnl L M v r) : ∃ j, 2 ≤ j ∧ rget r j = .arr (some tI) 1 (.it .i64 (q_unl L M)) ∧ ∀ (κ : Nat → Option Nat) (i : Nat), κ j = some i → Turns κ v (.sa i) := by
  unfold kUnl at h
  split at h
  · split at h
    · rw [hb] at h; simp at h
    · exact h.elim
  · split at h
    · rename_i hj
      split at h
      · split at h
        · split at h
          · split at h
            · rename_i hc
              simp only [Bool.and_eq_true, beq_iff_eq, Nat.ble_eq] at hc
              obtain ⟨⟨rfl, rfl⟩, hj2⟩ := hc
              obtain ⟨_, rfl⟩ := h
              exact ⟨_, hj2, hj, fun κ i hi ρ2 ρ3 N N' hv hN hk => ⟨by simp only [den, (hv _ i hi).2.1, (hv _ i hi).2.2.2.1, (hv _ i hi).2.2.2.2.1], hN _ i hi hk⟩⟩
            · exact h.elim
          · exact h.elim
        · exact h.elim
      · exact h.elim
    · exact h.elim
  · exact h.elim
theorem cl_copy1 (L : List Sx.Obj) (hL : L.length ≤ 1000) : CallTo Try.prog 32 [.lp 0 0] [.ro (.blk tS (.ag [.sa 1])), .ro (.obs eS 2 L), .gen 1] (kCopy L) (fun _ _ => False) := vc_call (inl := noInl) (ann := (annL [(32, 5, lpB [0, 2, 3, 14, 15] (fun g => [(16, .it .i64 g)]) 3 tS eS (q_take L) (q_invU L) (n2i (llen L)))])) (oks_cons ct_none2 oks_nil) (vc_copy1 L hL) (by kernel_rfl)
theorem hc_copy : HOK Try.prog 32 h_copy := by
  intro args res K KP h
  unfold h_copy at h
  split at h
  · split at h
    · split at h
      · exact CallTo.pure rfl rfl (cl_copy0.mono (fun _ _ h => isV_isE h) fun _ _ h => h) h
      · exact h.elim
    · rename_i k off
      split at h
      · rename_i hoff
        have hoff := beq_iff_eq.1 hoff
        subst hoff
        split at h
        · rename_i t e L hr
          split at h
          · rename_i hc
            simp only [Bool.and_eq_true, beq_iff_eq] at hc
            obtain ⟨rfl, rfl⟩ := hc
            obtain ⟨hL, h1, h2⟩ := h
            have hk := rlook_known hr (by simp)
            have hlt := rget_lt hk
            have hres : restr (kap 0 (fsts [(k, false)])) res [(k, false)] = [.ro (.store tS eS L)] := by simp [restr, hr, renR]
            cases hb : q_snone L with
            | true =>
              refine CallTo.rdRo (pl := [(k, false)]) (x := nilp) (args0 := [.lp 0 0]) (by simp [knownAll, knownB_iff.2 hk]) (by simpa [okExt, fsts, inNl] using hlt) (by simp) (by simp [renOL, renO, kap, idxOf, fsts]) rfl ?_ (h1 hb)
              rw [hres]
              exact (CallTo.openRS (k := 0) rfl (cl_copy1 L hL)).mono (fun v r hv => kCopy_no hb hv) fun _ _ h => h
            | false =>
              refine CallTo.mkRo (pl := [(k, false)]) (new := .store tS eS L) (F := fun j => .lp j 0) (args0 := [.lp 0 0]) (by simp [knownAll, knownB_iff.2 hk]) (by simpa [okExt, fsts, inNl] using hlt) (by simp) (by simp [renOL, renO, kap, idxOf, fsts]) rfl (by simp) (fun κ => rfl) ?_ (h2 hb)
              rw [hres]
              refine CallTo.openRS (k := 0) rfl (CallTo.shut (cl_copy1 L hL) fun v r hv => ?_)
              obtain ⟨j, r', hj, h1, h2, h3⟩ := kCopy_yes hb hv
              rcases h1 with rfl | h1
              · exact .inl ⟨j, hj, h2, h3⟩
              · exact .inr ⟨j, r', h1, j, hj, h2, h3⟩
          · exact h.elim
        · exact h.elim
      · exact h.elim
    · exact h.elim
  · exact h.elim
theorem vc_unl0 (L : List Sx.Obj) :
  Value.slice none 0 0 = Value.slice none 0 0 := by
  rfl
theorem cl_unl0 (L : List Sx.Obj) : CallTo Try.prog 59 [nilp, .lp 0 0] [.ro (.store tS eS L)] (isV nls) (fun _ _ => False) := vc_call (inl := noInl) (ann := noAnn) (oks_cons ct_none2 oks_nil) (vc_unl0 L) (by kernel_rfl)
theorem vc_unl1 (L M : List Sx.Obj) (hL : L.length ≤ 1000) :
  ((q_snone L || q_snone M || !decide (n2i (llen L) = n2i (llen M))) = true → q_unlNo L M = true) ∧
    ((q_snone L || q_snone M || !decide (n2i (llen L) = n2i (llen M))) = false →
      true = true ∧
        true = true ∧
          ∀ (r0 : Loop),
            (∃ g, q_invU L g ∧ n2i (llen L) = n2i (llen L) ∧ 0 = g ∧ L = L ∧ M = M ∧ r0 = r0 ∧ [] = q_unlG L M g) ∧
              ∀ (g : Int),
                q_invU L g →
                  (decide (g < n2i (llen L)) = true →
                      (0 ≤ g ∧ g < ↑(llen L)) ∧
                        g.toNat < llen L ∧
                          g.toNat < llen L ∧
                            (0 ≤ g ∧ g < ↑(llen M)) ∧
                              g.toNat < llen M ∧
                                g.toNat < llen M ∧
                                  ((!oeq (lget L g.toNat free) (lget M g.toNat free)) = true →
                                      r0 = r0 ∧
                                        r0 = r0 ∧
                                          pFit (llen (q_unlG L M g)) 8 ∧
                                            r0 = r0 ∧
                                              inRo IntKind.i64 (g + 1) ∧
                                                ∃ g',
                                                  q_invU L g' ∧
                                                    (n2i (llen L) - g').toNat < (n2i (llen L) - g).toNat ∧
                                                      n2i (llen L) = n2i (llen L) ∧
                                                        g + 1 = g' ∧
                                                          L = L ∧
                                                            M = M ∧ r0 = r0 ∧ lapp (q_unlG L M g) g = q_unlG L M g') ∧
                                    ((!oeq (lget L g.toNat free) (lget M g.toNat free)) = false →
                                      inRo IntKind.i64 (g + 1) ∧
                                        ∃ g',
                                          q_invU L g' ∧
                                            (n2i (llen L) - g').toNat < (n2i (llen L) - g).toNat ∧
                                              n2i (llen L) = n2i (llen L) ∧
                                                g + 1 = g' ∧ L = L ∧ M = M ∧ r0 = r0 ∧ q_unlG L M g = q_unlG L M g')) ∧
                    (decide (g < n2i (llen L)) = false → q_unlNo L M = false ∧ q_unlG L M g = q_unl L M)) := by
  refine ⟨fun h => h, fun h => ⟨rfl, rfl, fun r0 => ?_⟩⟩
  have hlm : L.length = M.length := by
    have h2 : ((q_snone L || q_snone M) || !decide (n2i (llen L) = n2i (llen M))) = false := h
    rw [Bool.or_eq_false_iff] at h2
    have h3 := h2.2
    rw [len_llen, len_llen] at h3
    have h4 : (L.length : Int) = (M.length : Int) := by simpa using h3
    omega
  have hn := len_llen L
  have hle := len_cast L
  have hle2 := len_cast M
  refine ⟨⟨0, ⟨by omega, by omega⟩, rfl, rfl, rfl, rfl, rfl, rfl⟩, fun g hg => ⟨fun hlt => ?_, fun hge => ?_⟩⟩
  obtain ⟨g0, g1⟩ := hg
  have hlt : g < n2i (llen L) := of_decide_eq_true hlt
  rw [hn] at hlt ⊢
  have ht := unlG_len (L := L) (M := M) (g := g)
  have hr : inRo IntKind.i64 (g + 1) := by simp only [inRo, inR]; omega
  exact ⟨⟨g0, by omega⟩, by omega, by omega, ⟨g0, by omega⟩, by omega, by omega, fun h => ⟨rfl, rfl, few_fit (by omega), rfl, hr, g + 1, ⟨by omega, by omega⟩, by omega, rfl, rfl, rfl, rfl, rfl, unlG_yes g0 h⟩, fun h => ⟨hr, g + 1, ⟨by omega, by omega⟩, by omega, rfl, rfl, rfl, rfl, rfl, unlG_no g0 h⟩⟩
  obtain ⟨g0, g1⟩ := hg
  have hge : ¬ g < n2i (llen L) := of_decide_eq_false hge
  rw [hn] at hge
  exact ⟨h, by unfold q_unl; rw [show g = (llen L : Int) by omega]⟩
theorem cl_unl1 (L M : List Sx.Obj) (hL : L.length ≤ 1000) : CallTo Try.prog 59 [.lp 0 0, .lp 1 0] [.ro (.blk tS (.ag [.sa 2])), .ro (.blk tS (.ag [.sa 4])), .ro (.obs eS 3 L), .gen 2, .ro (.obs eS 5 M), .gen 4] (kUnl L M) (fun _ _ => False) := vc_call (inl := (fun f => f == 59 || f == 97)) (ann := (annL [(6000 + 115, 1, lpV [0, 1, 2, 6] (fun g => [(7, .it .i64 g)]) 6 97 tI 1 (fun g => .it .i64 (q_unlG L M g)) (q_invU L) (n2i (llen L)))])) (oks_cons ct_none2 oks_nil) (vc_unl1 L M hL) (by kernel_rfl)
theorem hc_unl : HOK Try.prog 59 h_unl := by
  intro args res K KP h
  unfold h_unl at h
  split at h
  · rename_i a b
    split at h
    · rename_i j off
      split at h
      · rename_i hoff
        have hoff := beq_iff_eq.1 hoff
        subst hoff
        split at h
        · rename_i t e M hr
          split at h
          · rename_i hc
            simp only [Bool.and_eq_true, beq_iff_eq] at hc
            obtain ⟨rfl, rfl⟩ := hc
            have hj := rlook_known hr (by simp)
            have hjl := rget_lt hj
            split at h
            · split at h
              · have hres : restr (kap 0 (fsts [(j, false)])) res [(j, false)] = [.ro (.store tS eS M)] := by simp [restr, hr, renR]
                refine CallTo.rdRo (pl := [(j, false)]) (x := nls) (args0 := [nilp, .lp 0 0]) (by simp [knownAll, knownB_iff.2 hj]) (by simpa [okExt, fsts, inNl] using hjl) (by simp) (by simp [renOL, renO, kap, idxOf, fsts, nilp]) rfl ?_ h
                rw [hres]
                exact (cl_unl0 M).mono (fun _ _ h => isV_isE h) fun _ _ h => h
              · exact h.elim
            · rename_i k off'
              split at h
              · rename_i hoff
                simp only [Bool.and_eq_true, beq_iff_eq, Bool.not_eq_true', beq_eq_false_iff_ne] at hoff
                obtain ⟨rfl, hkj⟩ := hoff
                split at h
                · rename_i t' e' L hrk
                  split at h
                  · rename_i hc
                    simp only [Bool.and_eq_true, beq_iff_eq] at hc
                    obtain ⟨rfl, rfl⟩ := hc
                    obtain ⟨hL, h1, h2⟩ := h
                    have hk := rlook_known hrk (by simp)
                    have hkl := rget_lt hk
                    have hres : restr (kap 0 (fsts [(k, false), (j, false)])) res [(k, false), (j, false)] = [.ro (.store tS eS L), .ro (.store tS eS M)] := by simp [restr, hr, hrk, renR]
                    have hargs : renOL (kap 0 (fsts [(k, false), (j, false)])) [.lp k 0, .lp j 0] = some [.lp 0 0, .lp 1 0] := by
                      simp [renOL, renO, kap, idxOf, fsts, hkj]
                    have hka : knownAll res [(k, false), (j, false)] = true := by simp [knownAll, knownB_iff.2 hk, knownB_iff.2 hj]
                    have hoe : okExt 0 res.length (fsts [(k, false), (j, false)]) = true := by simpa [okExt, fsts, inNl] using ⟨⟨hkl, Ne.symm hkj⟩, hjl⟩
                    cases hb : q_unlNo L M with
                    | true =>
                      refine CallTo.rdRo (x := nls) hka hoe (by simp) hargs rfl ?_ (h1 hb)
                      rw [hres]
                      exact (CallTo.openRS (k := 0) rfl (CallTo.openRS (k := 1) rfl (cl_unl1 L M hL))).mono (fun v r hv => kUnl_no hb hv) fun _ _ h => h
                    | false =>
                      refine CallTo.mkRo (new := .arr (some tI) 1 (.it .i64 (q_unl L M))) (F := fun j => .sa j) hka hoe (by simp) hargs rfl (by simp) (fun κ => rfl) ?_ (h2 hb)
                      rw [hres]
                      exact (CallTo.openRS (k := 0) rfl (CallTo.openRS (k := 1) rfl (cl_unl1 L M hL))).mono (fun v r hv => kUnl_yes hb hv) fun _ _ h => h
                  · exact h.elim
                · exact h.elim
              · exact h.elim
            · exact h.elim
          · exact h.elim
        · exact h.elim
      · exact h.elim
    · exact h.elim
  · exact h.elim
theorem vc_same00  :
  true = q_same [] [] := by
  rfl
theorem cl_same00 : CallTo Try.prog 42 [nilp, nilp] [] (isV (.bo (q_same [] []))) (fun _ _ => False) := vc_call (inl := noInl) (ann := noAnn) (oks_cons ct_none2 oks_nil) vc_same00 (by kernel_rfl)
theorem vc_same01 (L : List Sx.Obj) :
  q_snone L = q_same [] L := by
  unfold q_same; cases hb : q_snone L with
  | true => rw [snone_iff.1 hb]; rfl
  | false => symm; rw [decide_eq_false_iff_not]; rintro rfl; simp [snone_nil] at hb
theorem cl_same01 (L : List Sx.Obj) : CallTo Try.prog 42 [nilp, .lp 0 0] [.ro (.blk tS (.ag [.sa 1])), .ro (.obs eS 2 L), .gen 1] (isV (.bo (q_same [] L))) (fun _ _ => False) := vc_call (inl := noInl) (ann := noAnn) (oks_cons ct_none2 oks_nil) (vc_same01 L) (by kernel_rfl)
theorem vc_same10 (L : List Sx.Obj) :
  ((q_snone L || true) = true → (q_snone L || false) = q_same L []) ∧ ((q_snone L || true) = false → False) := by
  refine ⟨fun _ => ?_, fun h => by simp at h⟩
  rw [Bool.or_false]; unfold q_same; cases hb : q_snone L with
  | true => rw [snone_iff.1 hb]; rfl
  | false => symm; rw [decide_eq_false_iff_not]; rintro rfl; simp [snone_nil] at hb
theorem cl_same10 (L : List Sx.Obj) : CallTo Try.prog 42 [.lp 0 0, nilp] [.ro (.blk tS (.ag [.sa 1])), .ro (.obs eS 2 L), .gen 1] (isV (.bo (q_same L []))) (fun _ _ => False) := vc_call (inl := noInl) (ann := noAnn) (oks_cons ct_none2 oks_nil) (vc_same10 L) (by kernel_rfl)
theorem vc_same11 (L M : List Sx.Obj) (hL : L.length ≤ 1000) :
  ((q_snone L || q_snone M) = true → (q_snone L && q_snone M) = q_same L M) ∧
    ((q_snone L || q_snone M) = false →
      (decide (n2i (llen L) = n2i (llen M)) = true →
          true = true ∧
            ((q_snone L || q_snone M || !decide (n2i (llen L) = n2i (llen M))) = true → true = q_same L M) ∧
              ((q_snone L || q_snone M || !decide (n2i (llen L) = n2i (llen M))) = false →
                true = true ∧
                  true = true ∧
                    ∀ (r0 : Loop),
                      (∃ g,
                          q_invU L g ∧
                            n2i (llen L) = n2i (llen L) ∧ 0 = g ∧ L = L ∧ M = M ∧ r0 = r0 ∧ [] = q_unlG L M g) ∧
                        ∀ (g : Int),
                          q_invU L g →
                            (decide (g < n2i (llen L)) = true →
                                (0 ≤ g ∧ g < ↑(llen L)) ∧
                                  g.toNat < llen L ∧
                                    g.toNat < llen L ∧
                                      (0 ≤ g ∧ g < ↑(llen M)) ∧
                                        g.toNat < llen M ∧
                                          g.toNat < llen M ∧
                                            ((!oeq (lget L g.toNat free) (lget M g.toNat free)) = true →
                                                r0 = r0 ∧
                                                  r0 = r0 ∧
                                                    pFit (llen (q_unlG L M g)) 8 ∧
                                                      r0 = r0 ∧
                                                        inRo IntKind.i64 (g + 1) ∧
                                                          ∃ g',
                                                            q_invU L g' ∧
                                                              (n2i (llen L) - g').toNat < (n2i (llen L) - g).toNat ∧
                                                                n2i (llen L) = n2i (llen L) ∧
                                                                  g + 1 = g' ∧
                                                                    L = L ∧
                                                                      M = M ∧
                                                                        r0 = r0 ∧
                                                                          lapp (q_unlG L M g) g = q_unlG L M g') ∧
                                              ((!oeq (lget L g.toNat free) (lget M g.toNat free)) = false →
                                                inRo IntKind.i64 (g + 1) ∧
                                                  ∃ g',
                                                    q_invU L g' ∧
                                                      (n2i (llen L) - g').toNat < (n2i (llen L) - g).toNat ∧
                                                        n2i (llen L) = n2i (llen L) ∧
                                                          g + 1 = g' ∧
                                                            L = L ∧ M = M ∧ r0 = r0 ∧ q_unlG L M g = q_unlG L M g')) ∧
                              (decide (g < n2i (llen L)) = false →
                                decide (n2i (llen (q_unlG L M g)) = 0) = q_same L M))) ∧
        (decide (n2i (llen L) = n2i (llen M)) = false → false = q_same L M)) := by
  have hsn : ∀ a b : Bool, (a || b || !decide (n2i (llen L) = n2i (llen M))) = true → (a || b) = false → ¬ (n2i (llen L) = n2i (llen M)) := fun a b h1 h2 => by
    rw [h2] at h1; simpa using h1
  refine ⟨fun h => ?_, fun h0 => ⟨fun he => ⟨rfl, fun h => ?_, fun h => ⟨rfl, rfl, fun r0 => ?_⟩⟩, fun he => ?_⟩⟩
  · unfold q_same
    cases ha : q_snone L <;> cases hb : q_snone M
    · rw [ha, hb] at h; simp at h
    · have := snone_iff.1 hb
      subst this
      symm
      show decide (L = []) = false
      rw [decide_eq_false_iff_not]; rintro rfl; simp [snone_nil] at ha
    · have := snone_iff.1 ha
      subst this
      symm
      show decide ([] = M) = false
      rw [decide_eq_false_iff_not]; rintro rfl; simp [snone_nil] at hb
    · rw [snone_iff.1 ha, snone_iff.1 hb]; rfl
  · exact absurd (of_decide_eq_true he) (hsn _ _ h h0)
  · have hlm : L.length = M.length := by
      have h2 : ((q_snone L || q_snone M) || !decide (n2i (llen L) = n2i (llen M))) = false := h
      rw [Bool.or_eq_false_iff] at h2
      have h3 := h2.2
      rw [len_llen, len_llen] at h3
      have h4 : (L.length : Int) = (M.length : Int) := by simpa using h3
      omega
    have hn := len_llen L
    have hle := len_cast L
    have hle2 := len_cast M
    refine ⟨⟨0, ⟨by omega, by omega⟩, rfl, rfl, rfl, rfl, rfl, rfl⟩, fun g hg => ⟨fun hlt => ?_, fun hge => ?_⟩⟩
    obtain ⟨g0, g1⟩ := hg
    have hlt : g < n2i (llen L) := of_decide_eq_true hlt
    rw [hn] at hlt ⊢
    have ht := unlG_len (L := L) (M := M) (g := g)
    have hr : inRo IntKind.i64 (g + 1) := by simp only [inRo, inR]; omega
    exact ⟨⟨g0, by omega⟩, by omega, by omega, ⟨g0, by omega⟩, by omega, by omega, fun h => ⟨rfl, rfl, few_fit (by omega), rfl, hr, g + 1, ⟨by omega, by omega⟩, by omega, rfl, rfl, rfl, rfl, rfl, unlG_yes g0 h⟩, fun h => ⟨hr, g + 1, ⟨by omega, by omega⟩, by omega, rfl, rfl, rfl, rfl, rfl, unlG_no g0 h⟩⟩
    obtain ⟨g0, g1⟩ := hg
    have hge : ¬ g < n2i (llen L) := of_decide_eq_false hge
    rw [hn] at hge
    rw [show g = (llen L : Int) by omega]
    show decide (n2i (llen (q_unl L M)) = 0) = q_same L M
    unfold q_same
    rw [decide_eq_decide, ← unl_nil hlm, len_llen]
    constructor
    · intro hh; exact List.length_eq_zero_iff.1 (by omega)
    · intro hh; rw [hh]; rfl
  · symm
    unfold q_same
    rw [decide_eq_false_iff_not]
    rintro rfl
    simp at he
theorem cl_same11 (L M : List Sx.Obj) (hL : L.length ≤ 1000) : CallTo Try.prog 42 [.lp 0 0, .lp 1 0] [.ro (.blk tS (.ag [.sa 2])), .ro (.blk tS (.ag [.sa 4])), .ro (.obs eS 3 L), .gen 2, .ro (.obs eS 5 M), .gen 4] (isV (.bo (q_same L M))) (fun _ _ => False) := vc_call (inl := (fun f => f == 59 || f == 97)) (ann := (annL [(6000 + 115, 1, lpV [0, 1, 2, 6] (fun g => [(7, .it .i64 g)]) 6 97 tI 1 (fun g => .it .i64 (q_unlG L M g)) (q_invU L) (n2i (llen L)))])) (oks_cons ct_none2 oks_nil) (vc_same11 L M hL) (by kernel_rfl)
theorem ct_osame : CtOK Try.prog 42 g_osame :=
  mkSS_ok (fun _ _ => rfl) cl_same00 (fun M _ _ => cl_same01 M) (fun L _ _ => cl_same10 L) (fun L M hq _ _ _ _ => cl_same11 L M hq.1)
end Go.Proofs.Ytfalhknkaebfoaa
