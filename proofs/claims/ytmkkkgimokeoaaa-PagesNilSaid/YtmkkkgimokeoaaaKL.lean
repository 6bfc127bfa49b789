/- Is a store a list of objects? No condition. The statements vc_.. are printed by a program of the claimant's own. -/
import Derived.Test.YtmkkkgimokeoaaaKP
import Derived.Test.YtmkkkgimokeoaaaSxF
import Derived.Test.YtmkkkgimokeoaaaKS
namespace Go.Proofs.Ytmkkkgimokeoaaa
open Go.Sx
set_option maxRecDepth 100000
set_option linter.unusedVariables false
set_option linter.unusedSimpArgs false
theorem vc_same0 (M : List Sx.Obj) :
  true = true ∧
    true = true ∧
      true = true ∧
        ∀ (r0 : Loop),
          (∃ g,
              q_invS [] M g ∧
                q_size [] = q_size [] ∧
                  0 = g ∧
                    M = M ∧
                      false = false ∧
                        0 = g ∧
                          Value.pointer none = Value.pointer none ∧ Value.pointer none = Value.pointer none ∧ r0 = r0) ∧
            ∀ (g : Int),
              q_invS [] M g →
                (decide (g < q_size []) = true → False) ∧
                  (decide (g < q_size []) = false → decide (g = n2i (llen M)) = q_same [] M) := by
  refine ⟨rfl, rfl, rfl, fun r0 => ⟨⟨0, ⟨by omega, by unfold llen; omega, by omega, fun j hj => by omega⟩, by (repeat' apply And.intro) <;> rfl⟩, fun g hg => ⟨fun hlt => ?_, fun _ => same_end2 hg (by simp only [llen, List.length_nil]; exact hg.1)⟩⟩⟩
  have h0 : g < 0 := of_decide_eq_true hlt
  exact absurd hg.1 (by omega)
theorem cl_same0 (M : List Sx.Obj) : CallTo Try.prog 12 [nilp, .sa 0] [.ro (.arr none 163 (.ob M))] (isV (.bo (q_same [] M))) (fun _ _ => False) := vc_call (inl := (fun f => f == 22)) (ann := (annL [(6000 + 34, 1, lpR [0, 1, 5] (fun g => [(6, .it .i64 g)]) 3 (fun g => .blk 3 (.it .i64 g)) (q_invS [] M) 0)])) (oks_cons ct_size oks_nil) (vc_same0 M) (by kernel_rfl)
theorem vc_same1 (L M : List Sx.Obj) (hL : L.length ≤ 9223372036854775807) :
  true = true ∧
    true = true ∧
      true = true ∧
        ∀ (r0 : Loop),
          (∃ g, q_invS L M g ∧ q_size L = q_size L ∧ 0 = g ∧ M = M ∧ L = L ∧ false = false ∧ 0 = g ∧ r0 = r0) ∧
            ∀ (g : Int),
              q_invS L M g →
                (decide (g < q_size L) = true →
                    (0 ≤ g ∧ g < ↑(llen L)) ∧
                      g.toNat < llen L ∧
                        g.toNat < llen L ∧
                          r0 = r0 ∧
                            r0 = r0 ∧
                              ((!(!decide (g = g) || decide (n2i (llen M) ≤ g))) = true → 0 ≤ g ∧ g < ↑(llen M)) ∧
                                ((!(!decide (g = g) || decide (n2i (llen M) ≤ g))) = true → g.toNat < llen M) ∧
                                  ((!decide (g = g) || decide (n2i (llen M) ≤ g) ||
                                          !oeq (lget L g.toNat free) (lget M g.toNat free)) =
                                        true →
                                      r0 = r0 ∧ false = q_same L M) ∧
                                    ((!decide (g = g) || decide (n2i (llen M) ≤ g) ||
                                          !oeq (lget L g.toNat free) (lget M g.toNat free)) =
                                        false →
                                      inRo IntKind.i64 (g + 1) ∧
                                        r0 = r0 ∧
                                          inRo IntKind.i64 (g + 1) ∧
                                            ∃ g',
                                              q_invS L M g' ∧
                                                (n2i (llen L) - g').toNat < (n2i (llen L) - g).toNat ∧
                                                  q_size L = q_size L ∧
                                                    g + 1 = g' ∧
                                                      M = M ∧ L = L ∧ false = false ∧ g + 1 = g' ∧ r0 = r0)) ∧
                  (decide (g < q_size L) = false → decide (g = n2i (llen M)) = q_same L M) := by
  refine ⟨rfl, rfl, rfl, fun r0 => ⟨⟨0, ⟨by omega, by unfold llen; omega, by omega, fun j hj => by omega⟩, by (repeat' apply And.intro) <;> rfl⟩, fun g hg => ⟨fun hlt => ?_, fun hge => ?_⟩⟩⟩
  · have hg' := hg
    obtain ⟨g0, g1, g2, g3⟩ := hg
    have hlt : g < q_size L := of_decide_eq_true hlt
    have hle := len_cast L
    have hlm := len_cast M
    have hq : q_size L = (L.length : Int) := rfl
    rw [hq] at hlt
    have hz : ∀ b : Bool, (!decide (g = g) || b) = b := by simp
    rw [hz]
    refine ⟨⟨g0, by omega⟩, by omega, by omega, rfl, rfl, fun h => ?_, fun h => ?_, fun h => ⟨rfl, ?_⟩, fun h => ?_⟩
    · have h : ¬ (n2i (llen M) ≤ g) := by simpa using h
      rw [len_llen] at h; exact ⟨g0, by omega⟩
    · have h : ¬ (n2i (llen M) ≤ g) := by simpa using h
      rw [len_llen] at h; omega
    · unfold q_same
      symm
      rw [decide_eq_false_iff_not]
      rintro rfl
      rw [Bool.or_eq_true, decide_eq_true_eq, len_llen] at h
      rcases h with h | h
      · omega
      · simp [oeq] at h
    · rw [Bool.or_eq_false_iff, decide_eq_false_iff_not, len_llen] at h
      obtain ⟨h1, h2⟩ := h
      have h2 : lget L g.toNat free = lget M g.toNat free := by simpa [oeq] using h2
      have hr : inRo IntKind.i64 (g + 1) := by simp only [inRo, inR]; omega
      refine ⟨hr, rfl, hr, g + 1, ⟨by omega, by omega, by omega, fun j hj => ?_⟩, by rw [len_llen]; omega, by (repeat' apply And.intro) <;> rfl⟩
      by_cases e : (j : Int) < g
      · exact g3 j e
      · rw [show j = g.toNat by omega]; exact h2
  · have hge : ¬ g < q_size L := of_decide_eq_false hge
    exact same_end2 hg (by unfold q_size at hge; omega)
theorem ct_same : CtOK Try.prog 12 g_same :=
  mkSA_ok (fun _ _ => rfl) (fun M _ _ => cl_same0 M) (fun L M _ hL _ _ => vc_call (inl := (fun f => f == 22)) (ann := (annL [(6000 + 34, 1, lpR [0, 1, 5] (fun g => [(6, .it .i64 g)]) 6 (fun g => .blk 3 (.it .i64 g)) (q_invS L M) (n2i (llen L)))])) (oks_cons ct_size oks_nil) (vc_same1 L M hL) (by kernel_rfl))
end Go.Proofs.Ytmkkkgimokeoaaa
/- Layer 10: what its statements call. No condition. The statements vc_.. are printed by a program of the claimant's own. -/
namespace Go.Proofs.Ytmkkkgimokeoaaa
open Go.Sx
set_option maxRecDepth 100000
set_option linter.unusedVariables false
set_option linter.unusedSimpArgs false
theorem hc_of2 : HOK Try.prog 17 (hLit h_of) := hLit_ok hc_of
theorem vc_made (l : List Sx.Obj) :
  ((decide (20 < n2i (llen l)) || !q_right l) = true → q_made l = false ∧ Value.pointer none = Value.pointer none) ∧
    ((decide (20 < n2i (llen l)) || !q_right l) = false →
      true = true ∧
        (q_right l = false → q_made l = false ∧ Value.pointer none = Value.pointer none) ∧
          (q_right l = true →
            q_made l = true ∧
              ∀ (nid : Nat),
                some (V.lp nid 0) = some (V.lp nid 0) ∧ some [Res.store 42 86 l] = some [Res.store 42 86 l])) := by
  refine ⟨fun h => ⟨?_, rfl⟩, fun h => ⟨rfl, fun hr => ⟨?_, rfl⟩, fun hr => ⟨?_, fun nid => ⟨rfl, rfl⟩⟩⟩⟩
  · unfold q_made
    unfold n2i at h
    rw [Bool.or_eq_true, decide_eq_true_eq, Bool.not_eq_true'] at h
    rcases h with h | h
    · rw [decide_eq_false (by omega)]; rfl
    · rw [h]; simp
  · unfold q_made; rw [hr]; simp
  · unfold q_made
    unfold n2i at h
    rw [hr] at h ⊢
    rw [Bool.and_true, decide_eq_true_eq]
    simp at h
    omega
theorem hc_made : HOK Try.prog 8 h_made :=
  hMk_ok (consA_ok liA_ok nilA_ok) (fun _ => rfl) (fun _ => by simp) fun a _ hok => by
    obtain ⟨l, _⟩ := a
    exact vch_call (inl := noInl) (ann := noAnn) (oks_cons ct_right oks_nil) (hoks_cons hc_of hoks_nil) (vc_made l) (by kernel_rfl)
theorem vc_known  :
  true = true ∧
  (q_right [{ kind := 2, count := 1, calls := free.calls, slots := free.slots, bytes := free.bytes }] = false →
      true = true ∧
        (decide
                (q_pwrE []
                    { kind := 3, oid := void.oid, count := 1, call := void.call, rights := void.rights,
                      value := void.value }
                    62
                    (⟨#[97, 98]⟩ : ByteArray) =
                  0) &&
              decide
                (q_preadE []
                    { kind := 3, oid := void.oid, count := 1, call := void.call, rights := void.rights,
                      value := void.value }
                    61 3 =
                  0) &&
            steq
              (q_pread []
                { kind := 3, oid := void.oid, count := 1, call := void.call, rights := void.rights,
                  value := void.value }
                61 3)
              (⟨#[0, 97, 98]⟩ : ByteArray)) =
          true) ∧
    (q_right [{ kind := 2, count := 1, calls := free.calls, slots := free.slots, bytes := free.bytes }] = true →
      true = true ∧
        (q_okL [{ kind := 2, count := 1, calls := free.calls, slots := free.slots, bytes := free.bytes }] ∧
            q_strOk
              (⟨#[97, 98]⟩ : ByteArray)) ∧
          (decide
                  (q_pwrE [{ kind := 2, count := 1, calls := free.calls, slots := free.slots, bytes := free.bytes }]
                      { kind := 3, oid := void.oid, count := 1, call := void.call, rights := void.rights,
                        value := void.value }
                      62
                      (⟨#[97, 98]⟩ : ByteArray) =
                    0) &&
                decide
                  (q_preadE
                      (q_pwrL [{ kind := 2, count := 1, calls := free.calls, slots := free.slots, bytes := free.bytes }]
                        { kind := 3, oid := void.oid, count := 1, call := void.call, rights := void.rights,
                          value := void.value }
                        62
                        (⟨#[97, 98]⟩ : ByteArray))
                      { kind := 3, oid := void.oid, count := 1, call := void.call, rights := void.rights,
                        value := void.value }
                      61 3 =
                    0) &&
              steq
                (q_pread
                  (q_pwrL [{ kind := 2, count := 1, calls := free.calls, slots := free.slots, bytes := free.bytes }]
                    { kind := 3, oid := void.oid, count := 1, call := void.call, rights := void.rights,
                      value := void.value }
                    62
                    (⟨#[97, 98]⟩ : ByteArray))
                  { kind := 3, oid := void.oid, count := 1, call := void.call, rights := void.rights,
                    value := void.value }
                  61 3)
                (⟨#[0, 97, 98]⟩ : ByteArray)) =
            true) := by
  refine ⟨rfl, fun h => absurd h (by decide), fun _ => ⟨rfl, ⟨?_, ?_⟩, ?_⟩⟩
  · unfold q_okL; kernel_rfl
  · unfold q_strOk; decide
  · kernel_rfl
theorem ct_known : CtOK Try.prog 9 g_known := mk0_ok rfl (vch_call (inl := noInl) (ann := noAnn) (oks_cons ct_pread oks_nil) (hoks_cons hc_of2 (hoks_cons hc_pwr hoks_nil)) vc_known (by kernel_rfl))
theorem vc_does (L : List Sx.Obj) (a : Acp) (hL : q_okL L) (ha : q_strOk a.bytes) :
  (decide (a.kind = 1) = true →
      true = true ∧
        ((decide (q_page L a.key false = 0) && !q_inside a.pos a.num) = true →
            (steq (q_pread L a.key a.pos a.num) (⟨#[]⟩ : ByteArray) &&
                  decide (q_preadE L a.key a.pos a.num = 4)) =
                true ∧
              q_pchg L a = false ∧ L = L) ∧
          ((decide (q_page L a.key false = 0) && !q_inside a.pos a.num) = false →
            ((!decide (q_page L a.key false = 0)) = true →
                (steq (q_pread L a.key a.pos a.num) (⟨#[]⟩ : ByteArray) &&
                      decide (q_preadE L a.key a.pos a.num = q_page L a.key false)) =
                    true ∧
                  q_pchg L a = false ∧ L = L) ∧
              ((!decide (q_page L a.key false = 0)) = false →
                (0 ≤ a.key.oid ∧ a.key.oid < ↑(llen L)) ∧
                  inRo IntKind.i64 (a.pos + a.num) ∧
                    pSl a.pos (a.pos + a.num) 64 ∧
                      a.key.oid.toNat < llen L ∧
                        (steq (q_pread L a.key a.pos a.num)
                                (bsub (lget L a.key.oid.toNat free).bytes a.pos.toNat (a.pos + a.num).toNat) &&
                              decide (q_preadE L a.key a.pos a.num = 0)) =
                            true ∧
                          q_pchg L a = false ∧ L = L))) ∧
    (decide (a.kind = 1) = false →
      (decide (a.kind = 2) = true →
          true = true ∧
            (q_okL L ∧ q_strOk a.bytes) ∧
              true = true ∧
                (decide (q_page L a.key true = 0) = true → inRo IntKind.i64 (szI a.bytes)) ∧
                  ((decide (q_page L a.key true = 0) && !q_inside a.pos (szI a.bytes)) = true →
                      decide (q_pwrE L a.key a.pos a.bytes = 4) = true ∧
                        q_pchg L a = false ∧ q_pwrL L a.key a.pos a.bytes = L) ∧
                    ((decide (q_page L a.key true = 0) && !q_inside a.pos (szI a.bytes)) = false →
                      ((!decide (q_page L a.key true = 0)) = true →
                          decide (q_pwrE L a.key a.pos a.bytes = q_page L a.key true) = true ∧
                            q_pchg L a = false ∧ q_pwrL L a.key a.pos a.bytes = L) ∧
                        ((!decide (q_page L a.key true = 0)) = false →
                          (0 ≤ a.key.oid ∧ a.key.oid < ↑(llen L)) ∧
                            a.key.oid.toNat < llen L ∧
                              (∃ g,
                                  q_invZ a.bytes g ∧
                                    a.key = a.key ∧
                                      a.pos = a.pos ∧
                                        a.bytes = a.bytes ∧
                                          Value.slice none 0 0 = Value.slice none 0 0 ∧
                                            q_page L a.key true = q_page L a.key true ∧
                                              0 = g ∧
                                                q_pwrL L a.key a.pos a.bytes = q_pwrL L a.key a.pos a.bytes ∧
                                                  L = L ∧
                                                    a.kind = a.kind ∧
                                                      a.pos = a.pos ∧
                                                        a.num = a.num ∧
                                                          a.key = a.key ∧
                                                            a.other = a.other ∧
                                                              a.bytes = a.bytes ∧
                                                                a.key = a.key ∧
                                                                  lget L a.key.oid.toNat free =
                                                                    q_wr L a.key a.pos a.bytes g) ∧
                                ∀ (g : Int),
                                  q_invZ a.bytes g →
                                    inRo IntKind.i64 (szI a.bytes) ∧
                                      (decide (g < szI a.bytes) = true →
                                          inRo IntKind.i64 (a.pos + g) ∧
                                            pSz a.bytes g ∧
                                              (0 ≤ a.pos + g ∧ a.pos + g < ↑64) ∧
                                                inRo IntKind.i64 (g + 1) ∧
                                                  ∃ g',
                                                    q_invZ a.bytes g' ∧
                                                      q_muZ a.bytes g' < q_muZ a.bytes g ∧
                                                        a.key = a.key ∧
                                                          a.pos = a.pos ∧
                                                            a.bytes = a.bytes ∧
                                                              Value.slice none 0 0 = Value.slice none 0 0 ∧
                                                                q_page L a.key true = q_page L a.key true ∧
                                                                  g + 1 = g' ∧
                                                                    q_pwrL L a.key a.pos a.bytes =
                                                                        q_pwrL L a.key a.pos a.bytes ∧
                                                                      L = L ∧
                                                                        a.kind = a.kind ∧
                                                                          a.pos = a.pos ∧
                                                                            a.num = a.num ∧
                                                                              a.key = a.key ∧
                                                                                a.other = a.other ∧
                                                                                  a.bytes = a.bytes ∧
                                                                                    a.key = a.key ∧
                                                                                      {
                                                                                          kind :=
                                                                                            (q_wr L a.key a.pos a.bytes
                                                                                                g).kind,
                                                                                          count :=
                                                                                            (q_wr L a.key a.pos a.bytes
                                                                                                g).count,
                                                                                          calls :=
                                                                                            (q_wr L a.key a.pos a.bytes
                                                                                                g).calls,
                                                                                          slots :=
                                                                                            (q_wr L a.key a.pos a.bytes
                                                                                                g).slots,
                                                                                          bytes :=
                                                                                            (q_wr L a.key a.pos a.bytes
                                                                                                    g).bytes.put
                                                                                              (a.pos + g).toNat
                                                                                              (sat a.bytes g.toNat) } =
                                                                                        q_wr L a.key a.pos a.bytes g') ∧
                                        (decide (g < szI a.bytes) = false →
                                          q_rputQ L a.key.oid ∧
                                            decide (q_pwrE L a.key a.pos a.bytes = 0) = true ∧
                                              q_pchg L a = true ∧
                                                q_pwrL L a.key a.pos a.bytes = q_pdoL L a ∧
                                                  lset L a.key.oid.toNat (q_wr L a.key a.pos a.bytes g) =
                                                    q_pdoL L a)))) ∧
        (decide (a.kind = 2) = false →
          (decide (a.kind = 3) = true →
              true = true ∧
                q_okL L ∧
                  true = true ∧
                    ((!decide (q_page L a.key true = 0)) = true →
                        decide (q_page L a.key true = q_page L a.key true) = true ∧
                          q_pchg L a = false ∧ q_pclrL L a.key = L) ∧
                      ((!decide (q_page L a.key true = 0)) = false →
                        (0 ≤ a.key.oid ∧ a.key.oid < ↑(llen L)) ∧
                          a.key.oid.toNat < llen L ∧
                            q_rputQ L a.key.oid ∧
                              decide (q_page L a.key true = 0) = true ∧
                                q_pchg L a = true ∧
                                  q_pclrL L a.key = q_pdoL L a ∧
                                    lset L a.key.oid.toNat
                                        { kind := (lget L a.key.oid.toNat free).kind,
                                          count := (lget L a.key.oid.toNat free).count,
                                          calls := (lget L a.key.oid.toNat free).calls,
                                          slots := (lget L a.key.oid.toNat free).slots, bytes := noBytes } =
                                      q_pdoL L a)) ∧
            (decide (a.kind = 3) = false →
              true = true ∧
                q_okL L ∧
                  true = true ∧
                    (decide (q_page L a.key true = 0) = true →
                        ((!decide (q_page L a.other false = 0)) = true →
                            decide (q_pcpE L a.key a.other = q_page L a.other false) = true ∧
                              q_pchg L a = false ∧ q_pcpL L a.key a.other = L) ∧
                          ((!decide (q_page L a.other false = 0)) = false →
                            (0 ≤ a.key.oid ∧ a.key.oid < ↑(llen L)) ∧
                              a.key.oid.toNat < llen L ∧
                                (0 ≤ a.other.oid ∧ a.other.oid < ↑(llen L)) ∧
                                  a.other.oid.toNat < llen L ∧
                                    q_rputQ L a.key.oid ∧
                                      decide (q_pcpE L a.key a.other = 0) = true ∧
                                        q_pchg L a = true ∧
                                          q_pcpL L a.key a.other = q_pdoL L a ∧
                                            lset L a.key.oid.toNat
                                                { kind := (lget L a.key.oid.toNat free).kind,
                                                  count := (lget L a.key.oid.toNat free).count,
                                                  calls := (lget L a.key.oid.toNat free).calls,
                                                  slots := (lget L a.key.oid.toNat free).slots,
                                                  bytes := (lget L a.other.oid.toNat free).bytes } =
                                              q_pdoL L a)) ∧
                      (decide (q_page L a.key true = 0) = false →
                        ((!decide (q_page L a.key true = 0)) = true →
                            decide (q_pcpE L a.key a.other = q_page L a.key true) = true ∧
                              q_pchg L a = false ∧ q_pcpL L a.key a.other = L) ∧
                          ((!decide (q_page L a.key true = 0)) = false →
                            (0 ≤ a.key.oid ∧ a.key.oid < ↑(llen L)) ∧
                              a.key.oid.toNat < llen L ∧
                                (0 ≤ a.other.oid ∧ a.other.oid < ↑(llen L)) ∧
                                  a.other.oid.toNat < llen L ∧
                                    q_rputQ L a.key.oid ∧
                                      decide (q_pcpE L a.key a.other = 0) = true ∧
                                        q_pchg L a = true ∧
                                          q_pcpL L a.key a.other = q_pdoL L a ∧
                                            lset L a.key.oid.toNat
                                                { kind := (lget L a.key.oid.toNat free).kind,
                                                  count := (lget L a.key.oid.toNat free).count,
                                                  calls := (lget L a.key.oid.toNat free).calls,
                                                  slots := (lget L a.key.oid.toNat free).slots,
                                                  bytes := (lget L a.other.oid.toNat free).bytes } =
                                              q_pdoL L a))))) := by
  refine ⟨fun h1 => ?_, fun h1 => ⟨fun h2 => ?_, fun h2 => ⟨fun h3 => ?_, fun h3 => ?_⟩⟩⟩
  · have h1 := of_decide_eq_true h1
    have hc : q_pchg L a = false := by unfold q_pchg; rw [if_pos h1]
    refine ⟨rfl, fun h => ⟨?_, hc, rfl⟩, fun h => ⟨fun h' => ⟨?_, hc, rfl⟩, fun h' => ?_⟩⟩
    · rw [Bool.and_eq_true, decide_eq_true_eq] at h
      obtain ⟨e1, e2⟩ := read_rng h.1 h.2
      rw [← e1, ← e2, steq_self]; rfl
    · have h' : q_page L a.key false ≠ 0 := by simpa using h'
      obtain ⟨e1, e2⟩ := read_bad (i := a.pos) (n := a.num) rfl h'
      rw [← e1, ← e2, steq_self]; simp
    · have h' : q_page L a.key false = 0 := by simpa using h'
      have hi : (!q_inside a.pos a.num) = false := by rw [h'] at h; simpa using h
      obtain ⟨r1, r2, r3, r4⟩ := rputB_ok hL (page_ok h').1
      obtain ⟨e1, e2, e3, e4⟩ := read_ok h' hi
      refine ⟨⟨r2, r3⟩, e1, e2, r4, ?_, hc, rfl⟩
      rw [← e3, ← e4, steq_self]; rfl
  · have h1 := of_decide_eq_false h1
    have h2 := of_decide_eq_true h2
    have hc : q_pchg L a = decide (q_pwrE L a.key a.pos a.bytes = 0) := by unfold q_pchg; rw [if_neg h1, if_pos h2]
    have hd : q_pdoL L a = q_pwrL L a.key a.pos a.bytes := by unfold q_pdoL; rw [if_neg h1, if_pos h2]
    rw [hc, hd]
    have hsz : inRo IntKind.i64 (szI a.bytes) := by unfold q_strOk at ha; simp only [inRo, inR, szI]; omega
    refine ⟨rfl, ⟨hL, ha⟩, rfl, fun _ => hsz, fun h => ?_, fun h => ⟨fun h' => ?_, fun h' => ?_⟩⟩
    · rw [Bool.and_eq_true, decide_eq_true_eq] at h
      obtain ⟨e1, e2⟩ := wr_rng h.1 h.2
      rw [← e1, ← e2]; exact ⟨rfl, rfl, rfl⟩
    · have h' : q_page L a.key true ≠ 0 := by simpa using h'
      obtain ⟨e1, e2⟩ := wr_bad (i := a.pos) (z := a.bytes) rfl h'
      rw [← e1, ← e2]; exact ⟨by simp, by simpa using h', rfl⟩
    · have h' : q_page L a.key true = 0 := by simpa using h'
      have hi : (!q_inside a.pos (szI a.bytes)) = false := by rw [h'] at h; simpa using h
      have hi' : q_inside a.pos (szI a.bytes) = true := by simpa using hi
      obtain ⟨i0, i1, i2, i3⟩ := inside_iff.1 hi'
      have i3 : (a.bytes.size : Int) ≤ 64 - a.pos := i3
      have hE : q_pwrE L a.key a.pos a.bytes = 0 := by unfold q_pwrE; rw [if_pos h', hi']; rfl
      obtain ⟨r1, r2, r3, r4⟩ := rputB_ok hL (page_ok h').1
      refine ⟨⟨r2, r3⟩, r4, ⟨0, ⟨by omega, by omega⟩, ?_⟩, fun g hg => ⟨hsz, fun hlt => ?_, fun hge => ?_⟩⟩
      · have hz := wr_zero (L := L) (k := a.key) (i := a.pos) (s := a.bytes)
        repeat' apply And.intro
        all_goals first | with_reducible rfl | exact hz
      · obtain ⟨g0, g1⟩ := hg
        have hlt : g < (a.bytes.size : Int) := of_decide_eq_true hlt
        have hs := wr_step (L := L) (k := a.key) (i := a.pos) (s := a.bytes) (g := g) i0 g0 (by omega)
        refine ⟨by simp only [inRo, inR]; omega, ⟨g0, hlt⟩, ⟨by omega, by omega⟩, by simp only [inRo, inR]; omega, g + 1, ⟨by omega, by omega⟩, by unfold q_muZ; omega, ?_⟩
        repeat' apply And.intro
        all_goals first | with_reducible rfl | exact hs
      · obtain ⟨g0, g1⟩ := hg
        have hge : ¬ g < (a.bytes.size : Int) := of_decide_eq_false hge
        have hg : g = (a.bytes.size : Int) := by omega
        subst hg
        refine ⟨r1, by simpa using hE, by simpa using hE, rfl, ?_⟩
        unfold q_pwrL
        rw [hE, if_pos rfl]; rfl
  · have h1 := of_decide_eq_false h1
    have h2 := of_decide_eq_false h2
    have h3 := of_decide_eq_true h3
    have hc : q_pchg L a = decide (q_page L a.key true = 0) := by unfold q_pchg; rw [if_neg h1, if_neg h2, if_pos h3]
    have hd : q_pdoL L a = q_pclrL L a.key := by unfold q_pdoL; rw [if_neg h1, if_neg h2, if_pos h3]
    rw [hc, hd]
    refine ⟨rfl, hL, rfl, fun h => ?_, fun h => ?_⟩
    · have h : q_page L a.key true ≠ 0 := by simpa using h
      exact ⟨by simp, by simpa using h, by unfold q_pclrL; rw [if_neg h]⟩
    · have h : q_page L a.key true = 0 := by simpa using h
      obtain ⟨r1, r2, r3, r4⟩ := rputB_ok hL (page_ok h).1
      exact ⟨⟨r2, r3⟩, r4, r1, by simpa using h, by simpa using h, rfl, by unfold q_pclrL; rw [if_pos h]; rfl⟩
  · have h1 := of_decide_eq_false h1
    have h2 := of_decide_eq_false h2
    have h3 := of_decide_eq_false h3
    have hc : q_pchg L a = decide (q_pcpE L a.key a.other = 0) := by unfold q_pchg; rw [if_neg h1, if_neg h2, if_neg h3]
    have hd : q_pdoL L a = q_pcpL L a.key a.other := by unfold q_pdoL; rw [if_neg h1, if_neg h2, if_neg h3]
    rw [hc, hd]
    refine ⟨rfl, hL, rfl, fun h => ⟨fun h' => ?_, fun h' => ?_⟩, fun h => ⟨fun h' => ?_, fun h' => ?_⟩⟩
    · have h := of_decide_eq_true h
      have h' : q_page L a.other false ≠ 0 := by simpa using h'
      obtain ⟨e1, e2⟩ := cp_bad2 h rfl h'
      rw [← e1, ← e2]; exact ⟨by simp, by simpa using h', rfl⟩
    · have h := of_decide_eq_true h
      have h' : q_page L a.other false = 0 := by simpa using h'
      have hE : q_pcpE L a.key a.other = 0 := by unfold q_pcpE; rw [if_pos h]; exact h'
      obtain ⟨r1, r2, r3, r4⟩ := rputB_ok hL (page_ok h).1
      obtain ⟨_, s2, s3, s4⟩ := rputB_ok hL (page_ok h').1
      exact ⟨⟨r2, r3⟩, r4, ⟨s2, s3⟩, s4, r1, by simpa using hE, by simpa using hE, rfl, by unfold q_pcpL; rw [hE, if_pos rfl]; rfl⟩
    · have h := of_decide_eq_false h
      obtain ⟨e1, e2⟩ := cp_bad (f := a.other) rfl h
      rw [← e1, ← e2]; exact ⟨by simp, by simpa using h, rfl⟩
    · rw [h] at h'; simp at h'
theorem cl_does (L : List Sx.Obj) (a : Acp) (hL : q_okL L) (ha : q_strOk a.bytes) : CallTo Try.prog 15 [.lp 0 0, .sa 1, acpV a] [.store tS eS L, .ro (.arr none 163 (.ob L))] (kDo (q_pchg L a) L (q_pdoL L a)) (fun _ _ => False) :=
  vch_call (inl := (fun f => f == 25 || f == 26 || f == 27 || f == 28)) (ann := (annL [(26, 8, lpP [0, 1, 2, 3, 4, 5, 8, 9, 10, 11] (fun g => [(12, .it .i64 g)]) 11 (fun g => .blk tO (.ob (q_wr L a.key a.pos a.bytes g))) (q_invZ a.bytes) (q_muZ a.bytes))])) (oks_cons ct_pread (oks_cons ct_page (oks_cons ct_rinside (oks_cons ct_rput oks_nil)))) (hoks_cons hc_pwr (hoks_cons hc_pclr (hoks_cons hc_pcp hoks_nil))) (vc_does L a hL ha) (by kernel_rfl)
end Go.Proofs.Ytmkkkgimokeoaaa
/- Calls of layer 10, over a store and a list; what its laws turn. No condition. -/
set_option linter.unusedVariables false
set_option linter.unusedSimpArgs false
namespace Go.Sx
def rdAcp (v : V) : Option Acp :=
  match v with
  | .ag l => match l with
    | [a, b, c, d, e, f] => match rI .i64 a with
      | some n => match rI .i64 b with
        | some i => match rI .i64 c with
          | some m => match rK d with
            | some k => match rK e with
              | some k' => match rStr f with
                | some s => some ⟨n, i, m, k, k', s⟩
                | none => none
              | none => none
            | none => none
          | none => none
        | none => none
      | none => none
    | _ => none
  | _ => none
theorem rdAcp_ok : RdOK rdAcp acpV := by
  intro v x h
  unfold rdAcp at h
  split at h
  case h_2 => simp at h
  split at h
  case h_2 => simp at h
  rename_i a b c d e f
  split at h
  case h_2 => simp at h
  rename_i n hn
  split at h
  case h_2 => simp at h
  rename_i i hi
  split at h
  case h_2 => simp at h
  rename_i m hm
  split at h
  case h_2 => simp at h
  rename_i k hk
  split at h
  case h_2 => simp at h
  rename_i k' hk'
  split at h <;> simp only [Option.some.injEq, reduceCtorEq] at h
  rename_i s hs
  subst h
  refine ⟨fun ρ => ?_, fun K hK => ?_⟩
  · simp only [den, acpV, cellsL, (rI_ok .i64 _ _ hn).1 ρ, (rI_ok .i64 _ _ hi).1 ρ, (rI_ok .i64 _ _ hm).1 ρ, (rK_ok _ _ hk).1 ρ, (rK_ok _ _ hk').1 ρ, (rStr_ok _ _ hs).1 ρ]
  · obtain ⟨h1, h2⟩ := hK
    exact ⟨⟨(rI_ok .i64 _ _ hn).2 K h1.1, (rI_ok .i64 _ _ hi).2 K h1.2.1, (rI_ok .i64 _ _ hm).2 K h1.2.2.1, (rK_ok _ _ hk).2 K h1.2.2.2.1, (rK_ok _ _ hk').2 K h1.2.2.2.2.1, (rStr_ok _ _ hs).2 K h1.2.2.2.2.2.1, trivial⟩, by simp [okC]⟩
def h_pdoes : HCt := hDo rdAcp (fun L x => q_okL L ∧ q_strOk x.bytes) q_pchg q_pdoL
def q_inN (n : Nat) (g : Int) : Prop := 0 ≤ g ∧ g ≤ (n : Int)
def q_invPp (n : Nat) (g : Int × List Obj) : Prop := 0 ≤ g.1 ∧ g.1 ≤ (n : Int) ∧ q_okL g.2
def q_muPp (n : Nat) (g : Int × List Obj) : Nat := n - g.1.toNat
def q_inv35 (g : Int) : Prop := 3 ≤ g ∧ g ≤ 5
def q_inv64 (g : Int) : Prop := 0 ≤ g ∧ g ≤ 64
def q_pgB : List Obj := [⟨2, 2, 0, noSlots, noBytes⟩]
def q_pgL (a b : ByteArray) : List Obj := [⟨2, 1, 0, noSlots, bcp noBytes 0 64 a⟩, ⟨2, 2, 0, noSlots, bcp noBytes 0 64 b⟩, ⟨1, 1, 0, noSlots, noBytes⟩]
theorem setB_ok {L : List Obj} {k : Key} {b : Bytes} (hL : q_okL L) (h : q_is L k = true) (h2 : k.kind = 3) : q_okL (q_setB L k b) := (page_put hL h h2).2.2
theorem pdoL_ok {L : List Obj} {a : Acp} (hL : q_okL L) (h : q_pchg L a = true) : q_okL (q_pdoL L a) := by
  unfold q_pchg at h
  unfold q_pdoL
  split at h
  · simp at h
  · rename_i h1
    rw [if_neg h1]
    split at h
    · rename_i h2
      rw [if_pos h2]
      have h := of_decide_eq_true h
      have hp : q_page L a.key true = 0 := by
        unfold q_pwrE at h
        split at h
        · assumption
        · rename_i h3; exact absurd h h3
      obtain ⟨a1, a2, _⟩ := page_ok hp
      unfold q_pwrL
      rw [if_pos h]
      exact setB_ok hL a1 a2
    · rename_i h2
      rw [if_neg h2]
      split at h
      · rename_i h3
        rw [if_pos h3]
        have h := of_decide_eq_true h
        obtain ⟨a1, a2, _⟩ := page_ok h
        unfold q_pclrL
        rw [if_pos h]
        exact setB_ok hL a1 a2
      · rename_i h3
        rw [if_neg h3]
        have h := of_decide_eq_true h
        have hp : q_page L a.key true = 0 := by
          unfold q_pcpE at h
          split at h
          · assumption
          · rename_i h3; exact absurd h h3
        obtain ⟨a1, a2, _⟩ := page_ok hp
        unfold q_pcpL
        rw [if_pos h]
        exact setB_ok hL a1 a2
theorem ba_ext {a b : ByteArray} (h : a.size = b.size) (h2 : ∀ i, i < a.size → sat a i = sat b i) : a = b := by
  obtain ⟨x⟩ := a
  obtain ⟨y⟩ := b
  congr 1
  apply Array.ext h
  intro i hi hj
  have := h2 i hi
  simpa [sat, Array.getD_eq_getD_getElem?, hi, hj] using this
theorem sat_cat (a b : ByteArray) (i : Nat) : sat (scat a b) i = if i < a.size then sat a i else sat b (i - a.size) := by
  unfold sat scat
  rw [ByteArray.data_append]
  simp only [Array.getD_eq_getD_getElem?, Array.getElem?_append, ByteArray.size_data]
  split <;> rfl
theorem cat_size (a b : ByteArray) : (scat a b).size = a.size + b.size := by unfold scat; exact ByteArray.size_append
theorem sub_size (a : ByteArray) (lo hi : Nat) : (ssub a lo hi).size = min hi a.size - lo := by unfold ssub; exact ByteArray.size_extract
theorem sat_sub (a : ByteArray) (lo hi i : Nat) (h : lo + i < hi) : sat (ssub a lo hi) i = sat a (lo + i) := by
  unfold sat ssub
  rw [ByteArray.data_extract]
  simp only [Array.getD_eq_getD_getElem?, Array.getElem?_extract]
  split
  · rfl
  · rw [Array.getElem?_eq_none (by omega)]
theorem bsub_full (b : Bytes) : (bsub b 0 64).size = 64 := by rw [bsub_size]; rfl
theorem put_cat (b : Bytes) (i : Nat) (s : ByteArray) (h : i + s.size ≤ 64) : bsub (bput b i s.size s) 0 64 = scat (scat (ssub (bsub b 0 64) 0 i) s) (ssub (bsub b 0 64) (i + s.size) 64) := by
  have z1 : (ssub (bsub b 0 64) 0 i).size = i := by rw [sub_size, bsub_full]; omega
  have z2 : (ssub (bsub b 0 64) (i + s.size) 64).size = 64 - (i + s.size) := by rw [sub_size, bsub_full]; omega
  refine ba_ext (by rw [bsub_full, cat_size, cat_size, z1, z2]; omega) fun j hj => ?_
  rw [bsub_full] at hj
  rw [sat_bsub _ _ _ _ (by omega) (by omega), bput_at _ _ _ _ _ (by omega), sat_cat, cat_size, z1, sat_cat, z1, Nat.zero_add]
  by_cases h1 : j < i
  · rw [if_neg (by omega), if_pos (by omega), if_pos h1, sat_sub _ _ _ _ (by omega), sat_bsub _ _ _ _ (by omega) (by omega), Nat.zero_add, Nat.zero_add]
  · by_cases h2 : j < i + s.size
    · rw [if_pos (by omega), if_pos h2, if_neg h1]
    · rw [if_neg (by omega), if_neg h2, sat_sub _ _ _ _ (by omega), sat_bsub _ _ _ _ (by omega) (by omega)]
      congr 1; omega
theorem put_sub (b : Bytes) (i : Nat) (s : ByteArray) (h : i + s.size ≤ 64) : bsub (bput b i s.size s) i (i + s.size) = s := by
  refine ba_ext (by rw [bsub_size]; omega) fun j hj => ?_
  rw [bsub_size] at hj
  rw [sat_bsub _ _ _ _ (by omega) (by omega), bput_at _ _ _ _ _ (by omega), if_pos (by omega)]
  congr 1; omega
theorem pwrE_zero {l : List Obj} {k : Key} {i : Int} {s : ByteArray} (h : q_pwrE l k i s = 0) : q_page l k true = 0 ∧ q_inside i (szI s) = true := by
  unfold q_pwrE at h
  split at h
  · rename_i h1
    refine ⟨h1, ?_⟩
    split at h
    · assumption
    · simp at h
  · rename_i h1; exact absurd h h1
theorem page_ff {l : List Obj} {k : Key} (h : q_page l k true = 0) : q_page l k false = 0 := by
  unfold q_page at h ⊢
  split at h
  · rename_i h1
    rw [if_pos h1]; rfl
  · rename_i h1; exact absurd h h1
theorem pread_full {l : List Obj} {k : Key} (h : q_page l k false = 0) : q_preadE l k 0 64 = 0 ∧ q_pread l k 0 64 = bsub (lget l k.oid.toNat free).bytes 0 64 := by
  have e : q_preadE l k 0 64 = 0 := by unfold q_preadE; rw [if_pos h]; rfl
  refine ⟨e, ?_⟩
  unfold q_pread; rw [if_pos e]; rfl
theorem setB_page {l : List Obj} {k : Key} {b : Bytes} (h0 : 0 ≤ k.oid) (h1 : k.oid < (l.length : Int)) (x : Key) (c : Bool) : q_page (q_setB l k b) x c = q_page l x c := by
  have hi : k.oid.toNat < l.length := by omega
  have e := lset_asked (L := l) (i := k.oid.toNat) (x := q_bys (lget l k.oid.toNat free) b) hi rfl rfl rfl x 3 false
  unfold q_page q_setB
  rw [e]
theorem back_facts {l : List Obj} {k : Key} {i : Int} {s : ByteArray} (hL : q_okL l) (h : q_pwrE l k i s = 0) :
    q_preadE l k 0 64 = 0 ∧ q_preadE (q_pwrL l k i s) k 0 64 = 0 ∧ q_preadE (q_pwrL l k i s) k i (szI s) = 0 ∧ q_pread (q_pwrL l k i s) k i (szI s) = s ∧ szI (q_pread (q_pwrL l k i s) k 0 64) = 64 ∧ szI (q_pread l k 0 64) = 64 ∧
    0 ≤ i ∧ i + szI s ≤ 64 ∧ q_pread (q_pwrL l k i s) k 0 64 = scat (scat (ssub (q_pread l k 0 64) (Int.toNat 0) i.toNat) s) (ssub (q_pread l k 0 64) (i + szI s).toNat (szI (q_pread l k 0 64)).toNat) := by
  obtain ⟨p1, p2⟩ := pwrE_zero h
  obtain ⟨i0, i1, i2, i3⟩ := inside_iff.1 p2
  obtain ⟨a1, a2, _⟩ := page_ok p1
  obtain ⟨_, b2, b3, _⟩ := is_all a1
  have hM : q_pwrL l k i s = q_setB l k (bput (lget l k.oid.toNat free).bytes i.toNat s.size s) := by unfold q_pwrL; rw [if_pos h]
  have hpg : ∀ c, q_page (q_pwrL l k i s) k c = q_page l k c := fun c => by
    rw [hM]; exact setB_page b2 b3 k c
  have hg : (lget (q_pwrL l k i s) k.oid.toNat free).bytes = bput (lget l k.oid.toNat free).bytes i.toNat s.size s := by
    rw [hM]; unfold q_setB
    rw [lget_lset (by omega), if_pos rfl]; rfl
  obtain ⟨r1, r2⟩ := pread_full (page_ff p1)
  obtain ⟨s1, s2⟩ := pread_full (l := q_pwrL l k i s) (k := k) (by rw [hpg]; exact page_ff p1)
  have hsz : szI s = (s.size : Int) := rfl
  have e3 : q_preadE (q_pwrL l k i s) k i (szI s) = 0 := by unfold q_preadE; rw [hpg, if_pos (page_ff p1), if_pos p2]
  have z1 : szI (q_pread l k 0 64) = 64 := by rw [r2]; unfold szI; rw [bsub_full]; rfl
  refine ⟨r1, s1, e3, ?_, by rw [s2]; unfold szI; rw [bsub_full]; rfl, z1, i0, by omega, ?_⟩
  · unfold q_pread
    rw [if_pos e3, hg, show (i + szI s).toNat = i.toNat + s.size by omega]
    exact put_sub _ _ _ (by omega)
  · rw [z1, s2, r2, hg, show (i + szI s).toNat = i.toNat + s.size by omega]
    exact put_cat _ _ _ (by omega)
theorem pg_nil (k : Key) (c : Bool) : q_page [] k c = 1 := pg1 (by rfl)
theorem nil_facts (k f : Key) (i n : Int) (s : ByteArray) : q_pread [] k i n = ⟨#[]⟩ ∧ q_preadE [] k i n = 1 ∧ q_pwrE [] k i s = 1 ∧ q_pcpE [] k f = 1 := by
  obtain ⟨a, b⟩ := read_bad (i := i) (n := n) (pg_nil k false) (by omega)
  exact ⟨a.symm, b.symm, (wr_bad (i := i) (z := s) (pg_nil k true) (by omega)).1.symm, (cp_bad (f := f) (pg_nil k true) (by omega)).1.symm⟩
theorem pgB_made : q_made q_pgB = true := by kernel_rfl
theorem pgL_made (a b : ByteArray) : q_made (q_pgL a b) = true := by
  have h1 : q_objOk ⟨2, 1, 0, noSlots, noBytes⟩ 3 = true := by kernel_rfl
  have h2 : q_objOk ⟨2, 2, 0, noSlots, noBytes⟩ 3 = true := by kernel_rfl
  have h3 : q_objOk ⟨1, 1, 0, noSlots, noBytes⟩ 3 = true := by kernel_rfl
  have hr : q_right (q_pgL a b) = true := by
    rw [right_iff]
    refine ⟨by show 1 ≤ 3; omega, by show 3 ≤ 64; omega, fun i hi => ?_⟩
    have hi : i < 3 := hi
    have : i = 0 ∨ i = 1 ∨ i = 2 := by omega
    rcases this with rfl | rfl | rfl
    · exact bys_ok (b := bcp noBytes 0 64 a) h1 (.inr rfl)
    · exact bys_ok (b := bcp noBytes 0 64 b) h2 (.inr rfl)
    · exact h3
  unfold q_made
  rw [hr]; rfl
theorem bofI_ok {n : Int} (h0 : 0 ≤ n) (h1 : n ≤ 100) : q_strOk (bofI (lrep n.toNat 0)) := by
  unfold q_strOk bofI lrep
  simp only [ByteArray.size, List.size_toArray, List.length_map, List.length_replicate]
  omega
theorem imax_in {n : Int} (h : n ≤ 100) : 0 ≤ imax n 0 ∧ imax n 0 ≤ 100 := by unfold imax; split <;> omega
theorem pg_bits {g : Int} (h0 : 0 ≤ g) (h1 : g < 64) {d : Int} (hd : d = 1 ∨ d = 2 ∨ d = 4 ∨ d = 8 ∨ d = 16 ∨ d = 32) : inRo .i64 (g.tdiv d) ∧ inRo .i64 ((g.tdiv d).tmod 2) ∧ inRo .i64 (1 + (g.tdiv d).tmod 2) := by
  have e : g.tdiv d = g / d := by rw [Int.tdiv_eq_ediv_of_nonneg h0]
  have e2 : (g / d).tmod 2 = (g / d) % 2 := Int.tmod_eq_emod_of_nonneg (by rcases hd with rfl | rfl | rfl | rfl | rfl | rfl <;> omega)
  rw [e, e2]
  simp only [inRo, inR]
  rcases hd with rfl | rfl | rfl | rfl | rfl | rfl <;> omega
end Go.Sx
/- The laws of layer 10: what they come to. No condition. The statements vc_.. are printed by a program of the claimant's own. -/
namespace Go.Proofs.Ytmkkkgimokeoaaa
open Go.Sx
set_option maxRecDepth 100000
set_option linter.unusedVariables false
set_option linter.unusedSimpArgs false
theorem hc_does : HOK Try.prog 15 h_pdoes := hDo_ok rdAcp_ok (fun _ => rfl) fun L x hL => cl_does L x hL.1 hL.2
theorem hc_made2 : HOK Try.prog 8 (hLit h_made) := hLit_ok hc_made
theorem vc_pplay (l : List Sx.Obj) (x : List Acp) (hx : ∀ i, i < llen x → q_strOk (lget x i acp0).bytes) :
  true = true ∧ True ∧ (q_made l = false → true = true) ∧ (q_made l = true → (decide (30 < n2i (llen x)) = true → true = true) ∧ (decide (30 < n2i (llen x)) = false → (∃ g, q_inN (llen x) g ∧ false =
    false ∧ 0 = g ∧ l = l ∧ llen x = llen x ∧ ((fun i => V.ag [V.it IntKind.i64 (lget x i acp0).kind, V.it IntKind.i64 (lget x i acp0).pos, V.it IntKind.i64 (lget x i acp0).num, V.key (lget x i acp0).key,
    V.key (lget x i acp0).other, V.st (lget x i acp0).bytes]) = fun i => V.ag [V.it IntKind.i64 (lget x i acp0).kind, V.it IntKind.i64 (lget x i acp0).pos, V.it IntKind.i64 (lget x i acp0).num, V.key (lget
    x i acp0).key, V.key (lget x i acp0).other, V.st (lget x i acp0).bytes]) ∧ l = l) ∧ ∀ (g : Int), q_inN (llen x) g → (decide (g < n2i (llen x)) = true → (0 ≤ g ∧ g < ↑(llen x)) ∧ g.toNat < llen x ∧ inRo
    IntKind.i64 (szI (lget x g.toNat acp0).bytes) ∧ (decide (100 < szI (lget x g.toNat acp0).bytes) = true → true = true) ∧ (decide (100 < szI (lget x g.toNat acp0).bytes) = false → inRo IntKind.i64 (g +
    1) ∧ ∃ g', q_inN (llen x) g' ∧ (n2i (llen x) - g').toNat < (n2i (llen x) - g).toNat ∧ false = false ∧ g + 1 = g' ∧ l = l ∧ llen x = llen x ∧ ((fun i => V.ag [V.it IntKind.i64 (lget x i acp0).kind, V.it
    IntKind.i64 (lget x i acp0).pos, V.it IntKind.i64 (lget x i acp0).num, V.key (lget x i acp0).key, V.key (lget x i acp0).other, V.st (lget x i acp0).bytes]) = fun i => V.ag [V.it IntKind.i64 (lget x i
    acp0).kind, V.it IntKind.i64 (lget x i acp0).pos, V.it IntKind.i64 (lget x i acp0).num, V.key (lget x i acp0).key, V.key (lget x i acp0).other, V.st (lget x i acp0).bytes]) ∧ l = l)) ∧ (decide (g < n2i
    (llen x)) = false → (∃ g, q_invPp (llen x) g ∧ false = false ∧ 0 = g.fst ∧ l = l ∧ llen x = llen x ∧ ((fun i => V.ag [V.it IntKind.i64 (lget x i acp0).kind, V.it IntKind.i64 (lget x i acp0).pos, V.it
    IntKind.i64 (lget x i acp0).num, V.key (lget x i acp0).key, V.key (lget x i acp0).other, V.st (lget x i acp0).bytes]) = fun i => V.ag [V.it IntKind.i64 (lget x i acp0).kind, V.it IntKind.i64 (lget x i
    acp0).pos, V.it IntKind.i64 (lget x i acp0).num, V.key (lget x i acp0).key, V.key (lget x i acp0).other, V.st (lget x i acp0).bytes]) ∧ l = g.snd ∧ l = g.snd) ∧ ∀ (g : Int × List Sx.Obj), q_invPp (llen
    x) g → (decide (g.fst < n2i (llen x)) = true → (0 ≤ g.fst ∧ g.fst < ↑(llen x)) ∧ g.fst.toNat < llen x ∧ true = true ∧ g.snd = g.snd ∧ (q_okL g.snd ∧ q_strOk (lget x g.fst.toNat acp0).bytes) ∧ (q_pchg
    g.snd (lget x g.fst.toNat acp0) = false → ((!true || !q_same g.snd g.snd) = true → false = true) ∧ ((!true || !q_same g.snd g.snd) = false → inRo IntKind.i64 (g.fst + 1) ∧ ∃ g', q_invPp (llen x) g' ∧
    q_muPp (llen x) g' < q_muPp (llen x) g ∧ false = false ∧ g.fst + 1 = g'.fst ∧ l = l ∧ llen x = llen x ∧ ((fun i => V.ag [V.it IntKind.i64 (lget x i acp0).kind, V.it IntKind.i64 (lget x i acp0).pos,
    V.it IntKind.i64 (lget x i acp0).num, V.key (lget x i acp0).key, V.key (lget x i acp0).other, V.st (lget x i acp0).bytes]) = fun i => V.ag [V.it IntKind.i64 (lget x i acp0).kind, V.it IntKind.i64 (lget
    x i acp0).pos, V.it IntKind.i64 (lget x i acp0).num, V.key (lget x i acp0).key, V.key (lget x i acp0).other, V.st (lget x i acp0).bytes]) ∧ g.snd = g'.snd ∧ g.snd = g'.snd)) ∧ (q_pchg g.snd (lget x
    g.fst.toNat acp0) = true → ((!true || !q_same (q_pdoL g.snd (lget x g.fst.toNat acp0)) (q_pdoL g.snd (lget x g.fst.toNat acp0))) = true → false = true) ∧ ((!true || !q_same (q_pdoL g.snd (lget x
    g.fst.toNat acp0)) (q_pdoL g.snd (lget x g.fst.toNat acp0))) = false → inRo IntKind.i64 (g.fst + 1) ∧ ∃ g', q_invPp (llen x) g' ∧ q_muPp (llen x) g' < q_muPp (llen x) g ∧ false = false ∧ g.fst + 1 =
    g'.fst ∧ l = l ∧ llen x = llen x ∧ ((fun i => V.ag [V.it IntKind.i64 (lget x i acp0).kind, V.it IntKind.i64 (lget x i acp0).pos, V.it IntKind.i64 (lget x i acp0).num, V.key (lget x i acp0).key, V.key
    (lget x i acp0).other, V.st (lget x i acp0).bytes]) = fun i => V.ag [V.it IntKind.i64 (lget x i acp0).kind, V.it IntKind.i64 (lget x i acp0).pos, V.it IntKind.i64 (lget x i acp0).num, V.key (lget x i
    acp0).key, V.key (lget x i acp0).other, V.st (lget x i acp0).bytes]) ∧ q_pdoL g.snd (lget x g.fst.toNat acp0) = g'.snd ∧ q_pdoL g.snd (lget x g.fst.toNat acp0) = g'.snd))) ∧ (decide (g.fst < n2i (llen
    x)) = false → true = true)))) := by
  refine ⟨rfl, trivial, fun _ => rfl, fun hm => ⟨fun _ => rfl, fun hlen => ⟨⟨0, ⟨by omega, by omega⟩, (by (repeat' apply And.intro) <;> rfl)⟩, fun g hg => ⟨fun hlt => ?_, fun hge => ⟨⟨(0, l), ⟨by simp, by simp, (made_ok hm).1⟩, (by (repeat' apply And.intro) <;> rfl)⟩, fun g hg => ⟨fun hlt => ?_, fun _ => rfl⟩⟩⟩⟩⟩⟩
  · obtain ⟨g0, g1⟩ := hg
    have hlt : g < (llen x : Int) := of_decide_eq_true hlt
    have hlen : ¬ 30 < (llen x : Int) := of_decide_eq_false hlen
    have hs := hx g.toNat (by omega)
    refine ⟨⟨g0, hlt⟩, by omega, ?_, fun _ => rfl, fun _ => ⟨by simp only [inRo, inR]; omega, g + 1, ⟨by omega, by omega⟩, by unfold n2i; omega, (by (repeat' apply And.intro) <;> rfl)⟩⟩
    unfold q_strOk at hs
    simp only [inRo, inR, szI]; omega
  · obtain ⟨g0, g1, g2⟩ := hg
    have hlt : g.1 < (llen x : Int) := of_decide_eq_true hlt
    have hlen : ¬ 30 < (llen x : Int) := of_decide_eq_false hlen
    have hin : inRo IntKind.i64 (g.1 + 1) := by simp only [inRo, inR]; omega
    have hs := hx g.1.toNat (by omega)
    refine ⟨⟨g0, hlt⟩, by omega, rfl, rfl, ⟨g2, hs⟩, fun hc => ⟨fun h => ?_, fun _ => ⟨hin, (g.1 + 1, g.2), ⟨by simp only; omega, by simp only; omega, g2⟩, by unfold q_muPp; simp only; omega, (by (repeat' apply And.intro) <;> rfl)⟩⟩, fun hc => ⟨fun h => ?_, fun _ => ⟨hin, (g.1 + 1, q_pdoL g.2 (lget x g.1.toNat acp0)), ⟨by simp only; omega, by simp only; omega, pdoL_ok g2 hc⟩, by unfold q_muPp; simp only; omega, (by (repeat' apply And.intro) <;> rfl)⟩⟩⟩
    · rw [same_self] at h; simp at h
    · rw [same_self] at h; simp at h
theorem cl_pplay (l : List Sx.Obj) (x : List Acp) (hx : ∀ i, i < llen x → q_strOk (lget x i acp0).bytes) : CallTo Try.prog 5 [.sa 0, .sa 1] [.ro (.arr none 163 (.ob l)), .ro (.arr none 16 (acps x))] (isV (.bo true)) (fun _ _ => False) :=
  vch_call (inl := noInl) (ann := (annL [(5, 5, lpG [0, 1, 4, 5] (fun g => [(6, .it .i64 g)]) (q_inN (llen x)) (n2i (llen x))), (5, 10, lpAl [1, 4, 5] (fun (g : Int × List Sx.Obj) => [(7, .it .i64 g.1)]) 0 163 (fun g => .ob g.2) (fun g => [(2, .store tS eS g.2)]) (q_invPp (llen x)) (q_muPp (llen x)))])) (oks_cons ct_same (oks_cons ct_known oks_nil)) (hoks_cons hc_made (hoks_cons hc_does hoks_nil)) (vc_pplay l x hx) (by kernel_rfl)
theorem vc_pnil (a : Acp) (hs : q_strOk a.bytes) :
  inRo IntKind.i64 (szI a.bytes) ∧ (decide (100 < szI a.bytes) = true → true = true) ∧ (decide (100 < szI a.bytes) = false → true = true ∧ ((steq (q_pread [] a.key a.pos a.num) (ByteArray.mk (Array.mk
    [])) && decide (q_preadE [] a.key a.pos a.num = 1) && decide (q_pwrE [] a.key a.pos a.bytes = 1)) = true → true = true ∧ (decide (q_page [] a.key true = 1) = true → true = true ∧ (decide (q_pcpE []
    a.key a.other = 1) && true) = true) ∧ (decide (q_page [] a.key true = 1) = false → false = true)) ∧ ((steq (q_pread [] a.key a.pos a.num) (ByteArray.mk (Array.mk [])) && decide (q_preadE [] a.key a.pos
    a.num = 1) && decide (q_pwrE [] a.key a.pos a.bytes = 1)) = false → false = true)) := by
  obtain ⟨h1, h2, h3, h4⟩ := nil_facts a.key a.other a.pos a.num a.bytes
  rw [h1, h2, h3, h4, pg_nil, steq_self]
  refine ⟨by unfold q_strOk at hs; simp only [inRo, inR, szI]; omega, fun _ => rfl, fun _ => ⟨rfl, fun _ => ⟨rfl, fun _ => ⟨rfl, rfl⟩, fun h => by simp at h⟩, fun h => by simp at h⟩⟩
theorem cl_pnil (a : Acp) (hs : q_strOk a.bytes) : CallTo Try.prog 4 [acpV a] [] (isV (.bo true)) (fun _ _ => False) :=
  vch_call (inl := noInl) (ann := noAnn) (oks_cons ct_known (oks_cons ct_pread oks_nil)) (hoks_cons hc_pwr (hoks_cons hc_pclr (hoks_cons hc_pcp hoks_nil))) (vc_pnil a hs) (by kernel_rfl)
theorem vc_pback (l : List Sx.Obj) (k : Key) (i : Int) (s : ByteArray) (hs : q_strOk s) :
  true = true ∧ True ∧ (q_made l = false → true = true) ∧ (q_made l = true → inRo IntKind.i64 (szI s) ∧ (decide (100 < szI s) = true → true = true) ∧ (decide (100 < szI s) = false → true = true ∧ (q_okL
    l ∧ q_strOk s) ∧ ((!decide (q_pwrE l k i s = 0)) = true → (q_same (q_pwrL l k i s) l && true) = true) ∧ ((!decide (q_pwrE l k i s = 0)) = false → inRo IntKind.i64 (szI s) ∧ ((!(!decide (q_preadE l k 0
    64 = 0) || !decide (q_preadE (q_pwrL l k i s) k 0 64 = 0) || !decide (q_preadE (q_pwrL l k i s) k i (szI s) = 0) || !steq (q_pread (q_pwrL l k i s) k i (szI s)) s)) = true → inRo IntKind.i64 (szI
    (q_pread (q_pwrL l k i s) k 0 64))) ∧ ((!(!decide (q_preadE l k 0 64 = 0) || !decide (q_preadE (q_pwrL l k i s) k 0 64 = 0) || !decide (q_preadE (q_pwrL l k i s) k i (szI s) = 0) || !steq (q_pread
    (q_pwrL l k i s) k i (szI s)) s || !decide (szI (q_pread (q_pwrL l k i s) k 0 64) = 64))) = true → inRo IntKind.i64 (szI (q_pread l k 0 64))) ∧ ((!decide (q_preadE l k 0 64 = 0) || !decide (q_preadE
    (q_pwrL l k i s) k 0 64 = 0) || !decide (q_preadE (q_pwrL l k i s) k i (szI s) = 0) || !steq (q_pread (q_pwrL l k i s) k i (szI s)) s || !decide (szI (q_pread (q_pwrL l k i s) k 0 64) = 64) || !decide
    (szI (q_pread l k 0 64) = 64)) = true → false = true) ∧ ((!decide (q_preadE l k 0 64 = 0) || !decide (q_preadE (q_pwrL l k i s) k 0 64 = 0) || !decide (q_preadE (q_pwrL l k i s) k i (szI s) = 0) ||
    !steq (q_pread (q_pwrL l k i s) k i (szI s)) s || !decide (szI (q_pread (q_pwrL l k i s) k 0 64) = 64) || !decide (szI (q_pread l k 0 64) = 64)) = false → pSl 0 i (szI (q_pread l k 0 64)) ∧ pCat (ssub
    (q_pread l k 0 64) (Int.toNat 0) i.toNat) s ∧ inRo IntKind.i64 (szI s) ∧ inRo IntKind.i64 (i + szI s) ∧ pSl (i + szI s) (szI (q_pread l k 0 64)) (szI (q_pread l k 0 64)) ∧ pCat (scat (ssub (q_pread l k
    0 64) (Int.toNat 0) i.toNat) s) (ssub (q_pread l k 0 64) (i + szI s).toNat (szI (q_pread l k 0 64)).toNat) ∧ (steq (q_pread (q_pwrL l k i s) k 0 64) (scat (scat (ssub (q_pread l k 0 64) (Int.toNat 0)
    i.toNat) s) (ssub (q_pread l k 0 64) (i + szI s).toNat (szI (q_pread l k 0 64)).toNat)) && true) = true)))) := by
  have hz : inRo IntKind.i64 (szI s) := by unfold q_strOk at hs; simp only [inRo, inR, szI]; omega
  refine ⟨rfl, trivial, fun _ => rfl, fun hm => ⟨hz, fun _ => rfl, fun hlen => ⟨rfl, ⟨(made_ok hm).1, hs⟩, fun h => ?_, fun h => ?_⟩⟩⟩
  · have h : q_pwrE l k i s ≠ 0 := by simpa using h
    rw [show q_pwrL l k i s = l by unfold q_pwrL; rw [if_neg h], same_self]; rfl
  · have h : q_pwrE l k i s = 0 := by simpa using h
    obtain ⟨b1, b2, b3, b4, b5, b6, b7, b8, b9⟩ := back_facts (made_ok hm).1 h
    have z0 : 0 ≤ szI s := by unfold szI; omega
    have c1 : szI (ssub (q_pread l k 0 64) (Int.toNat 0) i.toNat) = i := by
      unfold szI at b6 ⊢
      rw [sub_size]; omega
    have c2 : szI (ssub (q_pread l k 0 64) (i + szI s).toNat (szI (q_pread l k 0 64)).toNat) = 64 - (i + szI s) := by
      rw [b6]
      unfold szI at b6 b8 z0 ⊢
      rw [sub_size]; omega
    have c3 : szI (scat (ssub (q_pread l k 0 64) (Int.toNat 0) i.toNat) s) = i + szI s := by
      unfold szI at c1 ⊢
      rw [cat_size]; omega
    have hp : ∀ a b, pCat a b ↔ szI a + szI b ≤ 9223372036854775807 := fun _ _ => Iff.rfl
    have hi : ∀ n : Int, 0 ≤ n → n ≤ 64 → inRo IntKind.i64 n := fun n h0 h1 => by simp only [inRo, inR]; omega
    refine ⟨hz, fun _ => hi _ (by omega) (by omega), fun _ => hi _ (by omega) (by omega), fun h' => ?_, fun _ => ⟨⟨by omega, b7, by omega⟩, ?_, hz, hi _ (by omega) (by omega), ⟨by omega, by omega, by omega⟩, ?_, ?_⟩⟩
    · rw [b1, b2, b3, b4, b5, b6, steq_self] at h'
      simp at h'
    · rw [hp, c1]; omega
    · rw [hp, c3, c2]; omega
    · rw [← b9, steq_self]; rfl
theorem cl_pback (l : List Sx.Obj) (k : Key) (i : Int) (s : ByteArray) (hs : q_strOk s) : CallTo Try.prog 3 [.sa 0, .key k, .ag [.it .i64 i, .st s]] [.ro (.arr none 163 (.ob l))] (isV (.bo true)) (fun _ _ => False) :=
  vch_call (inl := noInl) (ann := noAnn) (oks_cons ct_same (oks_cons ct_known (oks_cons ct_pread oks_nil))) (hoks_cons hc_made (hoks_cons hc_pwr hoks_nil)) (vc_pback l k i s hs) (by kernel_rfl)
theorem vc_pbounds (s : List Int) (n : Int) (o : Bool) :
  ((decide (40 < n2i (llen s)) || decide (100 < n)) = true → true = true) ∧ ((decide (40 < n2i (llen s)) || decide (100 < n)) = false → (o = true → mkFit (imax n 0) (imax n 0) 1 ∧ (∃ g, q_inN (llen s) g
    ∧ n = n ∧ false = false ∧ 0 = g ∧ s = s ∧ Key.mk 3 void.oid 2 void.call 1 void.value = Key.mk 3 void.oid 2 void.call 1 void.value ∧ lrep (imax n 0).toNat (0 : Int) = lrep (imax n 0).toNat (0 : Int) ∧
    [Obj.mk 2 2 free.calls free.slots free.bytes] = q_pgB) ∧ ∀ (g : Int), q_inN (llen s) g → (decide (g < n2i (llen s)) = true → true = true ∧ True ∧ (q_made q_pgB = false → (0 ≤ g ∧ g < ↑(llen s)) ∧
    g.toNat < llen s ∧ true = true ∧ False) ∧ (q_made q_pgB = true → (0 ≤ g ∧ g < ↑(llen s)) ∧ g.toNat < llen s ∧ true = true ∧ q_pgB = q_pgB ∧ (q_okL q_pgB ∧ q_strOk (ByteArray.mk (Array.mk []))) ∧
    (q_pchg q_pgB (Acp.mk 1 (lget s g.toNat 0) n (Key.mk 3 void.oid 2 void.call 1 void.value) void (ByteArray.mk (Array.mk []))) = false → (0 ≤ g ∧ g < ↑(llen s)) ∧ g.toNat < llen s ∧ true = true ∧ q_pgB =
    q_pgB ∧ (q_okL q_pgB ∧ q_strOk (bofI (lrep (imax n 0).toNat (0 : Int)))) ∧ (q_pchg q_pgB (Acp.mk 2 (lget s g.toNat 0) 0 (Key.mk 3 void.oid 2 void.call 1 void.value) void (bofI (lrep (imax n 0).toNat (0
    : Int)))) = false → ((!true || !true || !q_same q_pgB q_pgB) = true → false = true) ∧ ((!true || !true || !q_same q_pgB q_pgB) = false → inRo IntKind.i64 (g + 1) ∧ ∃ g', q_inN (llen s) g' ∧ (n2i (llen
    s) - g').toNat < (n2i (llen s) - g).toNat ∧ n = n ∧ false = false ∧ g + 1 = g' ∧ s = s ∧ Key.mk 3 void.oid 2 void.call 1 void.value = Key.mk 3 void.oid 2 void.call 1 void.value ∧ lrep (imax n 0).toNat
    (0 : Int) = lrep (imax n 0).toNat (0 : Int) ∧ q_pgB = q_pgB)) ∧ (q_pchg q_pgB (Acp.mk 2 (lget s g.toNat 0) 0 (Key.mk 3 void.oid 2 void.call 1 void.value) void (bofI (lrep (imax n 0).toNat (0 : Int))))
    = true → ((!true || !true || !q_same (q_pdoL q_pgB (Acp.mk 2 (lget s g.toNat 0) 0 (Key.mk 3 void.oid 2 void.call 1 void.value) void (bofI (lrep (imax n 0).toNat (0 : Int))))) (q_pdoL q_pgB (Acp.mk 2
    (lget s g.toNat 0) 0 (Key.mk 3 void.oid 2 void.call 1 void.value) void (bofI (lrep (imax n 0).toNat (0 : Int)))))) = true → false = true) ∧ ((!true || !true || !q_same (q_pdoL q_pgB (Acp.mk 2 (lget s
    g.toNat 0) 0 (Key.mk 3 void.oid 2 void.call 1 void.value) void (bofI (lrep (imax n 0).toNat (0 : Int))))) (q_pdoL q_pgB (Acp.mk 2 (lget s g.toNat 0) 0 (Key.mk 3 void.oid 2 void.call 1 void.value) void
    (bofI (lrep (imax n 0).toNat (0 : Int)))))) = false → inRo IntKind.i64 (g + 1) ∧ ∃ g', q_inN (llen s) g' ∧ (n2i (llen s) - g').toNat < (n2i (llen s) - g).toNat ∧ n = n ∧ false = false ∧ g + 1 = g' ∧ s
    = s ∧ Key.mk 3 void.oid 2 void.call 1 void.value = Key.mk 3 void.oid 2 void.call 1 void.value ∧ lrep (imax n 0).toNat (0 : Int) = lrep (imax n 0).toNat (0 : Int) ∧ q_pgB = q_pgB))) ∧ (q_pchg q_pgB
    (Acp.mk 1 (lget s g.toNat 0) n (Key.mk 3 void.oid 2 void.call 1 void.value) void (ByteArray.mk (Array.mk []))) = true → (0 ≤ g ∧ g < ↑(llen s)) ∧ g.toNat < llen s ∧ true = true ∧ q_pgB = q_pdoL q_pgB
    (Acp.mk 1 (lget s g.toNat 0) n (Key.mk 3 void.oid 2 void.call 1 void.value) void (ByteArray.mk (Array.mk []))) ∧ (q_okL (q_pdoL q_pgB (Acp.mk 1 (lget s g.toNat 0) n (Key.mk 3 void.oid 2 void.call 1
    void.value) void (ByteArray.mk (Array.mk [])))) ∧ q_strOk (bofI (lrep (imax n 0).toNat (0 : Int)))) ∧ (q_pchg (q_pdoL q_pgB (Acp.mk 1 (lget s g.toNat 0) n (Key.mk 3 void.oid 2 void.call 1 void.value)
    void (ByteArray.mk (Array.mk [])))) (Acp.mk 2 (lget s g.toNat 0) 0 (Key.mk 3 void.oid 2 void.call 1 void.value) void (bofI (lrep (imax n 0).toNat (0 : Int)))) = false → ((!true || !true || !q_same
    (q_pdoL q_pgB (Acp.mk 1 (lget s g.toNat 0) n (Key.mk 3 void.oid 2 void.call 1 void.value) void (ByteArray.mk (Array.mk [])))) q_pgB) = true → false = true) ∧ ((!true || !true || !q_same (q_pdoL q_pgB
    (Acp.mk 1 (lget s g.toNat 0) n (Key.mk 3 void.oid 2 void.call 1 void.value) void (ByteArray.mk (Array.mk [])))) q_pgB) = false → inRo IntKind.i64 (g + 1) ∧ ∃ g', q_inN (llen s) g' ∧ (n2i (llen s) -
    g').toNat < (n2i (llen s) - g).toNat ∧ n = n ∧ false = false ∧ g + 1 = g' ∧ s = s ∧ Key.mk 3 void.oid 2 void.call 1 void.value = Key.mk 3 void.oid 2 void.call 1 void.value ∧ lrep (imax n 0).toNat (0 :
    Int) = lrep (imax n 0).toNat (0 : Int) ∧ q_pgB = q_pgB)) ∧ (q_pchg (q_pdoL q_pgB (Acp.mk 1 (lget s g.toNat 0) n (Key.mk 3 void.oid 2 void.call 1 void.value) void (ByteArray.mk (Array.mk [])))) (Acp.mk
    2 (lget s g.toNat 0) 0 (Key.mk 3 void.oid 2 void.call 1 void.value) void (bofI (lrep (imax n 0).toNat (0 : Int)))) = true → ((!true || !true || !q_same (q_pdoL (q_pdoL q_pgB (Acp.mk 1 (lget s g.toNat
    0) n (Key.mk 3 void.oid 2 void.call 1 void.value) void (ByteArray.mk (Array.mk [])))) (Acp.mk 2 (lget s g.toNat 0) 0 (Key.mk 3 void.oid 2 void.call 1 void.value) void (bofI (lrep (imax n 0).toNat (0 :
    Int))))) (q_pdoL (q_pdoL q_pgB (Acp.mk 1 (lget s g.toNat 0) n (Key.mk 3 void.oid 2 void.call 1 void.value) void (ByteArray.mk (Array.mk [])))) (Acp.mk 2 (lget s g.toNat 0) 0 (Key.mk 3 void.oid 2
    void.call 1 void.value) void (bofI (lrep (imax n 0).toNat (0 : Int)))))) = true → false = true) ∧ ((!true || !true || !q_same (q_pdoL (q_pdoL q_pgB (Acp.mk 1 (lget s g.toNat 0) n (Key.mk 3 void.oid 2
    void.call 1 void.value) void (ByteArray.mk (Array.mk [])))) (Acp.mk 2 (lget s g.toNat 0) 0 (Key.mk 3 void.oid 2 void.call 1 void.value) void (bofI (lrep (imax n 0).toNat (0 : Int))))) (q_pdoL (q_pdoL
    q_pgB (Acp.mk 1 (lget s g.toNat 0) n (Key.mk 3 void.oid 2 void.call 1 void.value) void (ByteArray.mk (Array.mk [])))) (Acp.mk 2 (lget s g.toNat 0) 0 (Key.mk 3 void.oid 2 void.call 1 void.value) void
    (bofI (lrep (imax n 0).toNat (0 : Int)))))) = false → inRo IntKind.i64 (g + 1) ∧ ∃ g', q_inN (llen s) g' ∧ (n2i (llen s) - g').toNat < (n2i (llen s) - g).toNat ∧ n = n ∧ false = false ∧ g + 1 = g' ∧ s
    = s ∧ Key.mk 3 void.oid 2 void.call 1 void.value = Key.mk 3 void.oid 2 void.call 1 void.value ∧ lrep (imax n 0).toNat (0 : Int) = lrep (imax n 0).toNat (0 : Int) ∧ q_pgB = q_pgB))))) ∧ (decide (g < n2i
    (llen s)) = false → true = true)) ∧ (o = false → mkFit (imax n 0) (imax n 0) 1 ∧ (∃ g, q_inN (llen s) g ∧ n = n ∧ false = false ∧ 0 = g ∧ s = s ∧ Key.mk 3 void.oid 2 void.call void.rights void.value =
    Key.mk 3 void.oid 2 void.call void.rights void.value ∧ lrep (imax n 0).toNat (0 : Int) = lrep (imax n 0).toNat (0 : Int) ∧ [Obj.mk 2 2 free.calls free.slots free.bytes] = q_pgB) ∧ ∀ (g : Int), q_inN
    (llen s) g → (decide (g < n2i (llen s)) = true → true = true ∧ True ∧ (q_made q_pgB = false → (0 ≤ g ∧ g < ↑(llen s)) ∧ g.toNat < llen s ∧ true = true ∧ False) ∧ (q_made q_pgB = true → (0 ≤ g ∧ g <
    ↑(llen s)) ∧ g.toNat < llen s ∧ true = true ∧ q_pgB = q_pgB ∧ (q_okL q_pgB ∧ q_strOk (ByteArray.mk (Array.mk []))) ∧ (q_pchg q_pgB (Acp.mk 1 (lget s g.toNat 0) n (Key.mk 3 void.oid 2 void.call
    void.rights void.value) void (ByteArray.mk (Array.mk []))) = false → (0 ≤ g ∧ g < ↑(llen s)) ∧ g.toNat < llen s ∧ true = true ∧ q_pgB = q_pgB ∧ (q_okL q_pgB ∧ q_strOk (bofI (lrep (imax n 0).toNat (0 :
    Int)))) ∧ (q_pchg q_pgB (Acp.mk 2 (lget s g.toNat 0) 0 (Key.mk 3 void.oid 2 void.call void.rights void.value) void (bofI (lrep (imax n 0).toNat (0 : Int)))) = false → ((!true || !true || !q_same q_pgB
    q_pgB) = true → false = true) ∧ ((!true || !true || !q_same q_pgB q_pgB) = false → inRo IntKind.i64 (g + 1) ∧ ∃ g', q_inN (llen s) g' ∧ (n2i (llen s) - g').toNat < (n2i (llen s) - g).toNat ∧ n = n ∧
    false = false ∧ g + 1 = g' ∧ s = s ∧ Key.mk 3 void.oid 2 void.call void.rights void.value = Key.mk 3 void.oid 2 void.call void.rights void.value ∧ lrep (imax n 0).toNat (0 : Int) = lrep (imax n
    0).toNat (0 : Int) ∧ q_pgB = q_pgB)) ∧ (q_pchg q_pgB (Acp.mk 2 (lget s g.toNat 0) 0 (Key.mk 3 void.oid 2 void.call void.rights void.value) void (bofI (lrep (imax n 0).toNat (0 : Int)))) = true →
    ((!true || !true || !q_same (q_pdoL q_pgB (Acp.mk 2 (lget s g.toNat 0) 0 (Key.mk 3 void.oid 2 void.call void.rights void.value) void (bofI (lrep (imax n 0).toNat (0 : Int))))) (q_pdoL q_pgB (Acp.mk 2
    (lget s g.toNat 0) 0 (Key.mk 3 void.oid 2 void.call void.rights void.value) void (bofI (lrep (imax n 0).toNat (0 : Int)))))) = true → false = true) ∧ ((!true || !true || !q_same (q_pdoL q_pgB (Acp.mk 2
    (lget s g.toNat 0) 0 (Key.mk 3 void.oid 2 void.call void.rights void.value) void (bofI (lrep (imax n 0).toNat (0 : Int))))) (q_pdoL q_pgB (Acp.mk 2 (lget s g.toNat 0) 0 (Key.mk 3 void.oid 2 void.call
    void.rights void.value) void (bofI (lrep (imax n 0).toNat (0 : Int)))))) = false → inRo IntKind.i64 (g + 1) ∧ ∃ g', q_inN (llen s) g' ∧ (n2i (llen s) - g').toNat < (n2i (llen s) - g).toNat ∧ n = n ∧
    false = false ∧ g + 1 = g' ∧ s = s ∧ Key.mk 3 void.oid 2 void.call void.rights void.value = Key.mk 3 void.oid 2 void.call void.rights void.value ∧ lrep (imax n 0).toNat (0 : Int) = lrep (imax n
    0).toNat (0 : Int) ∧ q_pgB = q_pgB))) ∧ (q_pchg q_pgB (Acp.mk 1 (lget s g.toNat 0) n (Key.mk 3 void.oid 2 void.call void.rights void.value) void (ByteArray.mk (Array.mk []))) = true → (0 ≤ g ∧ g <
    ↑(llen s)) ∧ g.toNat < llen s ∧ true = true ∧ q_pgB = q_pdoL q_pgB (Acp.mk 1 (lget s g.toNat 0) n (Key.mk 3 void.oid 2 void.call void.rights void.value) void (ByteArray.mk (Array.mk []))) ∧ (q_okL
    (q_pdoL q_pgB (Acp.mk 1 (lget s g.toNat 0) n (Key.mk 3 void.oid 2 void.call void.rights void.value) void (ByteArray.mk (Array.mk [])))) ∧ q_strOk (bofI (lrep (imax n 0).toNat (0 : Int)))) ∧ (q_pchg
    (q_pdoL q_pgB (Acp.mk 1 (lget s g.toNat 0) n (Key.mk 3 void.oid 2 void.call void.rights void.value) void (ByteArray.mk (Array.mk [])))) (Acp.mk 2 (lget s g.toNat 0) 0 (Key.mk 3 void.oid 2 void.call
    void.rights void.value) void (bofI (lrep (imax n 0).toNat (0 : Int)))) = false → ((!true || !true || !q_same (q_pdoL q_pgB (Acp.mk 1 (lget s g.toNat 0) n (Key.mk 3 void.oid 2 void.call void.rights
    void.value) void (ByteArray.mk (Array.mk [])))) q_pgB) = true → false = true) ∧ ((!true || !true || !q_same (q_pdoL q_pgB (Acp.mk 1 (lget s g.toNat 0) n (Key.mk 3 void.oid 2 void.call void.rights
    void.value) void (ByteArray.mk (Array.mk [])))) q_pgB) = false → inRo IntKind.i64 (g + 1) ∧ ∃ g', q_inN (llen s) g' ∧ (n2i (llen s) - g').toNat < (n2i (llen s) - g).toNat ∧ n = n ∧ false = false ∧ g +
    1 = g' ∧ s = s ∧ Key.mk 3 void.oid 2 void.call void.rights void.value = Key.mk 3 void.oid 2 void.call void.rights void.value ∧ lrep (imax n 0).toNat (0 : Int) = lrep (imax n 0).toNat (0 : Int) ∧ q_pgB
    = q_pgB)) ∧ (q_pchg (q_pdoL q_pgB (Acp.mk 1 (lget s g.toNat 0) n (Key.mk 3 void.oid 2 void.call void.rights void.value) void (ByteArray.mk (Array.mk [])))) (Acp.mk 2 (lget s g.toNat 0) 0 (Key.mk 3
    void.oid 2 void.call void.rights void.value) void (bofI (lrep (imax n 0).toNat (0 : Int)))) = true → ((!true || !true || !q_same (q_pdoL (q_pdoL q_pgB (Acp.mk 1 (lget s g.toNat 0) n (Key.mk 3 void.oid
    2 void.call void.rights void.value) void (ByteArray.mk (Array.mk [])))) (Acp.mk 2 (lget s g.toNat 0) 0 (Key.mk 3 void.oid 2 void.call void.rights void.value) void (bofI (lrep (imax n 0).toNat (0 :
    Int))))) (q_pdoL (q_pdoL q_pgB (Acp.mk 1 (lget s g.toNat 0) n (Key.mk 3 void.oid 2 void.call void.rights void.value) void (ByteArray.mk (Array.mk [])))) (Acp.mk 2 (lget s g.toNat 0) 0 (Key.mk 3
    void.oid 2 void.call void.rights void.value) void (bofI (lrep (imax n 0).toNat (0 : Int)))))) = true → false = true) ∧ ((!true || !true || !q_same (q_pdoL (q_pdoL q_pgB (Acp.mk 1 (lget s g.toNat 0) n
    (Key.mk 3 void.oid 2 void.call void.rights void.value) void (ByteArray.mk (Array.mk [])))) (Acp.mk 2 (lget s g.toNat 0) 0 (Key.mk 3 void.oid 2 void.call void.rights void.value) void (bofI (lrep (imax n
    0).toNat (0 : Int))))) (q_pdoL (q_pdoL q_pgB (Acp.mk 1 (lget s g.toNat 0) n (Key.mk 3 void.oid 2 void.call void.rights void.value) void (ByteArray.mk (Array.mk [])))) (Acp.mk 2 (lget s g.toNat 0) 0
    (Key.mk 3 void.oid 2 void.call void.rights void.value) void (bofI (lrep (imax n 0).toNat (0 : Int)))))) = false → inRo IntKind.i64 (g + 1) ∧ ∃ g', q_inN (llen s) g' ∧ (n2i (llen s) - g').toNat < (n2i
    (llen s) - g).toNat ∧ n = n ∧ false = false ∧ g + 1 = g' ∧ s = s ∧ Key.mk 3 void.oid 2 void.call void.rights void.value = Key.mk 3 void.oid 2 void.call void.rights void.value ∧ lrep (imax n 0).toNat (0
    : Int) = lrep (imax n 0).toNat (0 : Int) ∧ q_pgB = q_pgB))))) ∧ (decide (g < n2i (llen s)) = false → true = true))) := by
  have no : ∀ {p : Prop}, q_made q_pgB = false → p := fun h => by rw [pgB_made] at h; simp at h
  have okB := (made_ok pgB_made).1
  refine ⟨fun _ => rfl, fun hb => ⟨fun _ => ?_, fun _ => ?_⟩⟩
  all_goals
    simp only [Bool.or_eq_false_iff, decide_eq_false_iff_not] at hb
    have hb1 : ¬ 40 < (llen s : Int) := hb.1
    obtain ⟨n0, n1⟩ := imax_in (n := n) (by omega)
    refine ⟨⟨rfl, n0, by omega, by omega⟩, ⟨0, ⟨by omega, by omega⟩, (by (repeat' apply And.intro) <;> rfl)⟩, fun g hg => ⟨fun hlt => ?_, fun _ => rfl⟩⟩
    obtain ⟨g0, g1⟩ := hg
    have hlt : g < (llen s : Int) := of_decide_eq_true hlt
    have hi : (0 ≤ g ∧ g < (llen s : Int)) ∧ g.toNat < llen s := ⟨⟨g0, hlt⟩, by omega⟩
    have hin : inRo IntKind.i64 (g + 1) := by simp only [inRo, inR]; omega
    have st := bofI_ok n0 n1
    refine ⟨rfl, trivial, no, fun _ => ⟨hi.1, hi.2, rfl, rfl, ⟨okB, by unfold q_strOk; decide⟩, fun _ => ⟨hi.1, hi.2, rfl, rfl, ⟨okB, st⟩, fun _ => ⟨fun h => by rw [same_self] at h; simp at h, fun _ => ⟨hin, g + 1, ⟨by omega, by omega⟩, by unfold n2i; omega, (by (repeat' apply And.intro) <;> rfl)⟩⟩, fun _ => ⟨fun h => by rw [same_self] at h; simp at h, fun _ => ⟨hin, g + 1, ⟨by omega, by omega⟩, by unfold n2i; omega, (by (repeat' apply And.intro) <;> rfl)⟩⟩⟩, fun hc => absurd hc (by simp [q_pchg])⟩⟩
theorem cl_pbounds (s : List Int) (n : Int) (o : Bool)  : CallTo Try.prog 6 [.sa 0, .it .i64 n, .bo o] [.ro (.arr none 1 (.it .i64 s))] (isV (.bo true)) (fun _ _ => False) :=
  vch_call (inl := noInl) (ann := (annL [(6, 9, lpL [0, 1, 6, 8, 9] (fun g => [(10, .it .i64 g)]) 7 tO q_pgB (q_inN (llen s)) (n2i (llen s)))])) (oks_cons ct_same (oks_cons ct_known oks_nil)) (hoks_cons hc_made (hoks_cons hc_does hoks_nil)) (vc_pbounds s n o) (by kernel_rfl)
theorem vc_ppairs (a b : ByteArray) (ha : q_strOk a) (hb : q_strOk b) :
  inRo IntKind.i64 (szI a) ∧ ((!decide (64 < szI a)) = true → inRo IntKind.i64 (szI b)) ∧ ((decide (64 < szI a) || decide (64 < szI b)) = true → true = true) ∧ ((decide (64 < szI a) || decide (64 < szI
    b)) = false → pSl 0 64 64 ∧ pSl 0 64 64 ∧ (∃ g, q_inv64 g ∧ false = false ∧ 0 = g ∧ [Obj.mk 2 1 free.calls free.slots (bcp free.bytes (Int.toNat 0) (Int.toNat 64) a), Obj.mk 2 2 free.calls free.slots
    (bcp free.bytes (Int.toNat 0) (Int.toNat 64) b), Obj.mk 1 1 free.calls free.slots free.bytes] = q_pgL a b) ∧ ∀ (g : Int), q_inv64 g → (decide (g < 64) = true → (pNe 2 ∧ inRo IntKind.i64 (g.tmod 2)) ∧
    (pNe 2 ∧ inRo IntKind.i64 (g.tdiv 2)) ∧ (pNe 2 ∧ inRo IntKind.i64 ((g.tdiv 2).tmod 2)) ∧ inRo IntKind.i64 (1 + (g.tdiv 2).tmod 2) ∧ (pNe 4 ∧ inRo IntKind.i64 (g.tdiv 4)) ∧ (pNe 2 ∧ inRo IntKind.i64
    ((g.tdiv 4).tmod 2)) ∧ (pNe 8 ∧ inRo IntKind.i64 (g.tdiv 8)) ∧ (pNe 2 ∧ inRo IntKind.i64 ((g.tdiv 8).tmod 2)) ∧ (pNe 16 ∧ inRo IntKind.i64 (g.tdiv 16)) ∧ (pNe 2 ∧ inRo IntKind.i64 ((g.tdiv 16).tmod 2))
    ∧ inRo IntKind.i64 (1 + (g.tdiv 16).tmod 2) ∧ (pNe 32 ∧ inRo IntKind.i64 (g.tdiv 32)) ∧ (pNe 2 ∧ inRo IntKind.i64 ((g.tdiv 32).tmod 2)) ∧ (∃ g_1, q_inv35 g_1 ∧ false = false ∧ g = g ∧ 3 = g_1 ∧ q_pgL a
    b = q_pgL a b ∧ Key.mk 3 (g.tmod 2) (1 + (g.tdiv 2).tmod 2) void.call ((g.tdiv 4).tmod 2) void.value = Key.mk 3 (g.tmod 2) (1 + (g.tdiv 2).tmod 2) void.call ((g.tdiv 4).tmod 2) void.value ∧ Key.mk 3
    ((g.tdiv 8).tmod 2) (1 + (g.tdiv 16).tmod 2) void.call ((g.tdiv 32).tmod 2) void.value = Key.mk 3 ((g.tdiv 8).tmod 2) (1 + (g.tdiv 16).tmod 2) void.call ((g.tdiv 32).tmod 2) void.value) ∧ ∀ (g_1 :
    Int), q_inv35 g_1 → (decide (g_1 < 5) = true → true = true ∧ True ∧ (q_made (q_pgL a b) = false → true = true ∧ False) ∧ (q_made (q_pgL a b) = true → true = true ∧ q_pgL a b = q_pgL a b ∧ (q_okL (q_pgL
    a b) ∧ q_strOk (ByteArray.mk (Array.mk []))) ∧ (q_pchg (q_pgL a b) (Acp.mk g_1 0 0 (Key.mk 3 (g.tmod 2) (1 + (g.tdiv 2).tmod 2) void.call ((g.tdiv 4).tmod 2) void.value) (Key.mk 3 ((g.tdiv 8).tmod 2)
    (1 + (g.tdiv 16).tmod 2) void.call ((g.tdiv 32).tmod 2) void.value) (ByteArray.mk (Array.mk []))) = false → ((!true || !q_same (q_pgL a b) (q_pgL a b)) = true → false = true) ∧ ((!true || !q_same
    (q_pgL a b) (q_pgL a b)) = false → inRo IntKind.i64 (g_1 + 1) ∧ ∃ g', q_inv35 g' ∧ (5 - g').toNat < (5 - g_1).toNat ∧ false = false ∧ g = g ∧ g_1 + 1 = g' ∧ q_pgL a b = q_pgL a b ∧ Key.mk 3 (g.tmod 2)
    (1 + (g.tdiv 2).tmod 2) void.call ((g.tdiv 4).tmod 2) void.value = Key.mk 3 (g.tmod 2) (1 + (g.tdiv 2).tmod 2) void.call ((g.tdiv 4).tmod 2) void.value ∧ Key.mk 3 ((g.tdiv 8).tmod 2) (1 + (g.tdiv
    16).tmod 2) void.call ((g.tdiv 32).tmod 2) void.value = Key.mk 3 ((g.tdiv 8).tmod 2) (1 + (g.tdiv 16).tmod 2) void.call ((g.tdiv 32).tmod 2) void.value)) ∧ (q_pchg (q_pgL a b) (Acp.mk g_1 0 0 (Key.mk 3
    (g.tmod 2) (1 + (g.tdiv 2).tmod 2) void.call ((g.tdiv 4).tmod 2) void.value) (Key.mk 3 ((g.tdiv 8).tmod 2) (1 + (g.tdiv 16).tmod 2) void.call ((g.tdiv 32).tmod 2) void.value) (ByteArray.mk (Array.mk
    []))) = true → ((!true || !q_same (q_pdoL (q_pgL a b) (Acp.mk g_1 0 0 (Key.mk 3 (g.tmod 2) (1 + (g.tdiv 2).tmod 2) void.call ((g.tdiv 4).tmod 2) void.value) (Key.mk 3 ((g.tdiv 8).tmod 2) (1 + (g.tdiv
    16).tmod 2) void.call ((g.tdiv 32).tmod 2) void.value) (ByteArray.mk (Array.mk [])))) (q_pdoL (q_pgL a b) (Acp.mk g_1 0 0 (Key.mk 3 (g.tmod 2) (1 + (g.tdiv 2).tmod 2) void.call ((g.tdiv 4).tmod 2)
    void.value) (Key.mk 3 ((g.tdiv 8).tmod 2) (1 + (g.tdiv 16).tmod 2) void.call ((g.tdiv 32).tmod 2) void.value) (ByteArray.mk (Array.mk []))))) = true → false = true) ∧ ((!true || !q_same (q_pdoL (q_pgL
    a b) (Acp.mk g_1 0 0 (Key.mk 3 (g.tmod 2) (1 + (g.tdiv 2).tmod 2) void.call ((g.tdiv 4).tmod 2) void.value) (Key.mk 3 ((g.tdiv 8).tmod 2) (1 + (g.tdiv 16).tmod 2) void.call ((g.tdiv 32).tmod 2)
    void.value) (ByteArray.mk (Array.mk [])))) (q_pdoL (q_pgL a b) (Acp.mk g_1 0 0 (Key.mk 3 (g.tmod 2) (1 + (g.tdiv 2).tmod 2) void.call ((g.tdiv 4).tmod 2) void.value) (Key.mk 3 ((g.tdiv 8).tmod 2) (1 +
    (g.tdiv 16).tmod 2) void.call ((g.tdiv 32).tmod 2) void.value) (ByteArray.mk (Array.mk []))))) = false → inRo IntKind.i64 (g_1 + 1) ∧ ∃ g', q_inv35 g' ∧ (5 - g').toNat < (5 - g_1).toNat ∧ false = false
    ∧ g = g ∧ g_1 + 1 = g' ∧ q_pgL a b = q_pgL a b ∧ Key.mk 3 (g.tmod 2) (1 + (g.tdiv 2).tmod 2) void.call ((g.tdiv 4).tmod 2) void.value = Key.mk 3 (g.tmod 2) (1 + (g.tdiv 2).tmod 2) void.call ((g.tdiv
    4).tmod 2) void.value ∧ Key.mk 3 ((g.tdiv 8).tmod 2) (1 + (g.tdiv 16).tmod 2) void.call ((g.tdiv 32).tmod 2) void.value = Key.mk 3 ((g.tdiv 8).tmod 2) (1 + (g.tdiv 16).tmod 2) void.call ((g.tdiv
    32).tmod 2) void.value)))) ∧ (decide (g_1 < 5) = false → inRo IntKind.i64 (g + 1) ∧ ∃ g', q_inv64 g' ∧ (64 - g').toNat < (64 - g).toNat ∧ false = false ∧ g + 1 = g' ∧ q_pgL a b = q_pgL a b)) ∧ (decide
    (g < 64) = false → true = true)) := by
  have no : ∀ {p : Prop}, q_made (q_pgL a b) = false → p := fun h => by rw [pgL_made] at h; simp at h
  have okB := (made_ok (pgL_made a b)).1
  have z : ∀ s : ByteArray, q_strOk s → inRo IntKind.i64 (szI s) := fun s hs => by unfold q_strOk at hs; simp only [inRo, inR, szI]; omega
  refine ⟨z a ha, fun _ => z b hb, fun _ => rfl, fun _ => ⟨⟨by omega, by omega, by omega⟩, ⟨by omega, by omega, by omega⟩, ⟨0, ⟨by omega, by omega⟩, (by (repeat' apply And.intro) <;> rfl)⟩, fun g hg => ⟨fun hlt => ?_, fun _ => rfl⟩⟩⟩
  obtain ⟨g0, g1⟩ := hg
  have hlt : g < 64 := of_decide_eq_true hlt
  have b1 := pg_bits g0 hlt (d := 1) (by omega)
  rw [Int.tdiv_one] at b1
  have b2 := pg_bits g0 hlt (d := 2) (by omega)
  have b4 := pg_bits g0 hlt (d := 4) (by omega)
  have b8 := pg_bits g0 hlt (d := 8) (by omega)
  have b16 := pg_bits g0 hlt (d := 16) (by omega)
  have b32 := pg_bits g0 hlt (d := 32) (by omega)
  have n2 : pNe 2 := by unfold pNe; omega
  refine ⟨⟨n2, b1.2.1⟩, ⟨n2, b2.1⟩, ⟨n2, b2.2.1⟩, b2.2.2, ⟨by unfold pNe; omega, b4.1⟩, ⟨n2, b4.2.1⟩, ⟨by unfold pNe; omega, b8.1⟩, ⟨n2, b8.2.1⟩, ⟨by unfold pNe; omega, b16.1⟩, ⟨n2, b16.2.1⟩, b16.2.2, ⟨by unfold pNe; omega, b32.1⟩, ⟨n2, b32.2.1⟩, ⟨3, ⟨by omega, by omega⟩, (by (repeat' apply And.intro) <;> rfl)⟩, fun m hm => ⟨fun hl => ?_, fun _ => ⟨by simp only [inRo, inR]; omega, g + 1, ⟨by omega, by omega⟩, by omega, (by (repeat' apply And.intro) <;> rfl)⟩⟩⟩
  obtain ⟨m0, m1⟩ := hm
  have hl : m < 5 := of_decide_eq_true hl
  have hin : inRo IntKind.i64 (m + 1) := by simp only [inRo, inR]; omega
  refine ⟨rfl, trivial, no, fun _ => ⟨rfl, rfl, ⟨okB, by unfold q_strOk; decide⟩, fun _ => ⟨fun h => by rw [same_self] at h; simp at h, fun _ => ⟨hin, m + 1, ⟨by omega, by omega⟩, by omega, (by (repeat' apply And.intro) <;> rfl)⟩⟩, fun _ => ⟨fun h => by rw [same_self] at h; simp at h, fun _ => ⟨hin, m + 1, ⟨by omega, by omega⟩, by omega, (by (repeat' apply And.intro) <;> rfl)⟩⟩⟩⟩
theorem cl_ppairs (a b : ByteArray) (ha : q_strOk a) (hb : q_strOk b) : CallTo Try.prog 7 [.st a, .st b] [] (isV (.bo true)) (fun _ _ => False) :=
  vch_call (inl := noInl) (ann := (annL [(7, 7, lpL [4] (fun g => [(6, .it .i64 g)]) 5 tO (q_pgL a b) q_inv64 64), (7, 12, lpG [4, 5, 6, 7, 8] (fun g => [(9, .it .i64 g)]) q_inv35 5)])) (oks_cons ct_same (oks_cons ct_known oks_nil)) (hoks_cons hc_made (hoks_cons hc_does hoks_nil)) (vc_ppairs a b ha hb) (by kernel_rfl)
end Go.Proofs.Ytmkkkgimokeoaaa
