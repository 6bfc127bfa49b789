/- Laws of layer 4: what they come to, the last ones. No condition. The statements vc_.. are printed by a program of the claimant's own. -/
import Derived.Test.YtccgpnoiageklaaCtL
import Derived.Test.YtccgpnoiageklaaCtM
import Derived.Test.YtccgpnoiageklaaCtQ
namespace Go.Proofs.Ytccgpnoiageklaa
open Go.Sx
set_option maxRecDepth 100000
set_option linter.unusedVariables false
set_option linter.unusedSimpArgs false
theorem vc_onil (x : Sx.Stp) (k : Sx.Key) :
  true = true ∧
    true = true ∧
      true = true ∧
        true = true ∧
          ∀ (r0 : Loop),
            (∃ g,
                q_inv0 g ∧
                  q_size [] = q_size [] ∧
                    0 = g ∧
                      x.puts = x.puts ∧
                        x.oid = x.oid ∧
                          x.ob = x.ob ∧
                            k = k ∧
                              Value.slice none 0 0 = Value.slice none 0 0 ∧
                                q_get [] x.oid = q_get [] x.oid ∧
                                  q_nobj [] k = q_nobj [] k ∧
                                    0 = g ∧
                                      Value.pointer none = Value.pointer none ∧
                                        Value.pointer none = Value.pointer none ∧ r0 = r0) ∧
              ∀ (g : Int),
                q_inv0 g →
                  (decide (g < q_size []) = true → False) ∧
                    (decide (g < q_size []) = false →
                      true = true ∧
                        (q_newOk 1 = false →
                            ((decide (q_has [] x.oid = 1) && decide (q_put [] x.oid x.ob = 1) && !q_is [] k &&
                                        decide (g = 0) &&
                                      decide (q_size [] = 0) &&
                                    keq (q_prep [] k) void) =
                                  true →
                                true = true ∧
                                  (q_few [] ∧ q_few []) ∧
                                    (q_same [] [] = true → q_few [] ∧ q_few []) ∧
                                      ((q_same [] [] && !q_same [] []) = true → q_few [] ∧ q_few []) ∧
                                        ((q_same [] [] && !q_same [] [] && !q_same [] []) = true →
                                            true = true ∧ False) ∧
                                          ((q_same [] [] && !q_same [] [] && !q_same [] []) = false → false = true)) ∧
                              ((decide (q_has [] x.oid = 1) && decide (q_put [] x.oid x.ob = 1) && !q_is [] k &&
                                        decide (g = 0) &&
                                      decide (q_size [] = 0) &&
                                    keq (q_prep [] k) void) =
                                  false →
                                false = true)) ∧
                          (q_newOk 1 = true →
                            ((decide (q_has [] x.oid = 1) && decide (q_put [] x.oid x.ob = 1) && !q_is [] k &&
                                        decide (g = 0) &&
                                      decide (q_size [] = 0) &&
                                    keq (q_prep [] k) void) =
                                  true →
                                true = true ∧
                                  (q_few [] ∧ q_few []) ∧
                                    (q_same [] [] = true → q_few [] ∧ q_few (q_new 1)) ∧
                                      ((q_same [] [] && !q_same [] (q_new 1)) = true → q_few (q_new 1) ∧ q_few []) ∧
                                        ((q_same [] [] && !q_same [] (q_new 1) && !q_same (q_new 1) []) = true →
                                            true = true ∧ true = true) ∧
                                          ((q_same [] [] && !q_same [] (q_new 1) && !q_same (q_new 1) []) = false →
                                            false = true)) ∧
                              ((decide (q_has [] x.oid = 1) && decide (q_put [] x.oid x.ob = 1) && !q_is [] k &&
                                        decide (g = 0) &&
                                      decide (q_size [] = 0) &&
                                    keq (q_prep [] k) void) =
                                  false →
                                false = true))) := by
  have hs : q_size [] = 0 := rfl
  have h1 : q_few [] := by unfold q_few llen; simp
  have h2 : q_few (q_new 1) := by unfold q_few q_new llen; simp
  have e1 : q_same [] [] = true := by unfold q_same; simp
  have e2 : q_same [] (q_new 1) = false := by unfold q_same q_new; simp
  have e3 : q_same (q_new 1) [] = false := by unfold q_same q_new; simp
  have hc : ∀ g : Int, g = 0 → (decide (q_has [] x.oid = 1) && decide (q_put [] x.oid x.ob = 1) && !q_is [] k && decide (g = 0) && decide (q_size [] = 0) && keq (q_prep [] k) void) = true := by
    rintro g rfl
    have a1 : q_is [] k = false := by unfold q_is; rw [has_nil]; simp
    have a2 : q_prep [] k = void := by unfold q_prep; rw [snone_nil]; simp
    rw [put_nil, has_nil, a1, a2, hs]; simp [keq]
  refine ⟨rfl, rfl, rfl, rfl, fun r0 => ⟨⟨0, rfl, rfl, rfl, rfl, rfl, rfl, rfl, rfl, rfl, rfl, rfl, rfl, rfl, rfl⟩, fun g hg => ⟨fun hlt => ?_, fun hge => ⟨rfl, fun hn => ?_, fun hn => ⟨fun _ => ⟨rfl, ⟨h1, h1⟩, fun _ => ⟨h1, h2⟩, fun _ => ⟨h2, h1⟩, fun _ => ⟨rfl, rfl⟩, fun hh => ?_⟩, fun hh => ?_⟩⟩⟩⟩⟩
  · have hg : g = 0 := hg
    rw [hs, hg] at hlt; simp at hlt
  · simp [q_newOk] at hn
  · rw [e1, e2, e3] at hh; simp at hh
  · rw [hc g hg] at hh; simp at hh
theorem cl_onil (x : Sx.Stp) (k : Sx.Key) : CallTo Try.prog 9 [stpV x, .key k] [] (isV (.bo true)) (fun _ _ => False) := vch_call (inl := (fun f => f == 25)) (ann := (annL [(11000 + 40, 1, lpR [0, 1, 5] (fun g => [(6, .it .i64 g)]) 5 (fun g => .blk 3 (.it .i64 g)) q_inv0 0)])) (oks_cons ct_known (oks_cons ct_get (oks_cons ct_named (oks_cons ct_size (oks_cons ct_prep (oks_cons ct_osame oks_nil)))))) (hoks_cons hc_new (hoks_cons hc_put (hoks_cons hc_copy (hoks_cons hc_unl hoks_nil)))) (vc_onil x k) (by kernel_rfl)
theorem vc_ounl (a b : List Sx.Obj) (x : Sx.Stp) :
  ((decide (20 < n2i (llen a)) || decide (20 < n2i (llen b)) || !q_right a || !q_right b) = true → true = true) ∧
    ((decide (20 < n2i (llen a)) || decide (20 < n2i (llen b)) || !q_right a || !q_right b) = false →
      true = true ∧
        (q_right a = false → true = true ∧ (q_right b = false → false = true) ∧ (q_right b = true → false = true)) ∧
          (q_right a = true →
            true = true ∧
              (q_right b = false → false = true) ∧
                (q_right b = true →
                  (∃ g,
                      q_invV a b g ∧
                        false = false ∧
                          0 = g ∧
                            a = a ∧
                              b = b ∧
                                x.puts = x.puts ∧ x.oid = x.oid ∧ x.ob = x.ob ∧ a = a ∧ b = b ∧ [] = q_unlG a b g) ∧
                    ∀ (g : Int),
                      q_invV a b g →
                        ((decide (g < n2i (llen a)) && decide (n2i (llen a) = n2i (llen b))) = true →
                            (0 ≤ g ∧ g < ↑(llen a)) ∧
                              g.toNat < llen a ∧
                                (0 ≤ g ∧ g < ↑(llen b)) ∧
                                  g.toNat < llen b ∧
                                    ((!oeq (lget a g.toNat free) (lget b g.toNat free)) = true →
                                        pFit (llen (q_unlG a b g)) 8 ∧
                                          inRo IntKind.i64 (g + 1) ∧
                                            ∃ g',
                                              q_invV a b g' ∧
                                                (n2i (llen a) - g').toNat < (n2i (llen a) - g).toNat ∧
                                                  false = false ∧
                                                    g + 1 = g' ∧
                                                      a = a ∧
                                                        b = b ∧
                                                          x.puts = x.puts ∧
                                                            x.oid = x.oid ∧
                                                              x.ob = x.ob ∧
                                                                a = a ∧ b = b ∧ lapp (q_unlG a b g) g = q_unlG a b g') ∧
                                      ((!oeq (lget a g.toNat free) (lget b g.toNat free)) = false →
                                        inRo IntKind.i64 (g + 1) ∧
                                          ∃ g',
                                            q_invV a b g' ∧
                                              (n2i (llen a) - g').toNat < (n2i (llen a) - g).toNat ∧
                                                false = false ∧
                                                  g + 1 = g' ∧
                                                    a = a ∧
                                                      b = b ∧
                                                        x.puts = x.puts ∧
                                                          x.oid = x.oid ∧
                                                            x.ob = x.ob ∧
                                                              a = a ∧ b = b ∧ q_unlG a b g = q_unlG a b g')) ∧
                          ((decide (g < n2i (llen a)) && decide (n2i (llen a) = n2i (llen b))) = false →
                            true = true ∧
                              (llen a).le 1000 ∧
                                (q_unlNo a b = true →
                                    ((!!decide (0 = n2i (llen (q_unlG a b g)))) = true → q_few a ∧ q_few b) ∧
                                      ((!(!decide (0 = n2i (llen (q_unlG a b g))) || !q_same a b == q_same a b)) =
                                            true →
                                          q_few a ∧ q_few a) ∧
                                        ((!decide (0 = n2i (llen (q_unlG a b g))) || !q_same a b == q_same a b ||
                                                !q_same a a) =
                                              true →
                                            false = true) ∧
                                          ((!decide (0 = n2i (llen (q_unlG a b g))) || !q_same a b == q_same a b ||
                                                !q_same a a) =
                                              false →
                                            (∃ g_1,
                                                q_invW (llen (q_unl a b)) g_1 ∧
                                                  false = false ∧
                                                    Value.slice none 0 0 = Value.slice none 0 0 ∧
                                                      0 = g_1 ∧
                                                        a = a ∧
                                                          b = b ∧
                                                            x.puts = x.puts ∧
                                                              x.oid = x.oid ∧
                                                                x.ob = x.ob ∧
                                                                  a = a ∧ b = b ∧ q_unlG a b g = q_unlG a b g) ∧
                                              ∀ (g : Int),
                                                q_invW (llen (q_unl a b)) g →
                                                  (decide (g < 0) = true → False) ∧
                                                    (decide (g < 0) = false →
                                                      true = true ∧
                                                        (llen a).le 1000 ∧
                                                          (q_snone a = true →
                                                              true = true ∧ (q_same a a && true) = true) ∧
                                                            (q_snone a = false →
                                                              true = true ∧ (q_same a a && true) = true)))) ∧
                                  (q_unlNo a b = false →
                                    ((!!decide (n2i (llen (q_unl a b)) = n2i (llen (q_unlG a b g)))) = true →
                                        q_few a ∧ q_few b) ∧
                                      ((!(!decide (n2i (llen (q_unl a b)) = n2i (llen (q_unlG a b g))) ||
                                                !q_same a b == q_same a b)) =
                                            true →
                                          q_few a ∧ q_few a) ∧
                                        ((!decide (n2i (llen (q_unl a b)) = n2i (llen (q_unlG a b g))) ||
                                                  !q_same a b == q_same a b ||
                                                !q_same a a) =
                                              true →
                                            false = true) ∧
                                          ((!decide (n2i (llen (q_unl a b)) = n2i (llen (q_unlG a b g))) ||
                                                  !q_same a b == q_same a b ||
                                                !q_same a a) =
                                              false →
                                            (∃ g_1,
                                                q_invW (llen (q_unl a b)) g_1 ∧
                                                  false = false ∧
                                                    0 = g_1 ∧
                                                      a = a ∧
                                                        b = b ∧
                                                          x.puts = x.puts ∧
                                                            x.oid = x.oid ∧
                                                              x.ob = x.ob ∧
                                                                a = a ∧
                                                                  b = b ∧
                                                                    q_unlG a b g = q_unlG a b g ∧
                                                                      q_unl a b = q_unl a b) ∧
                                              ∀ (g_1 : Int),
                                                q_invW (llen (q_unl a b)) g_1 →
                                                  (decide (g_1 < n2i (llen (q_unl a b))) = true →
                                                      (0 ≤ g_1 ∧ g_1 < ↑(llen (q_unl a b))) ∧
                                                        g_1.toNat < llen (q_unl a b) ∧
                                                          (0 ≤ g_1 ∧ g_1 < ↑(llen (q_unlG a b g))) ∧
                                                            g_1.toNat < llen (q_unlG a b g) ∧
                                                              ((!decide
                                                                        (lget (q_unl a b) g_1.toNat 0 =
                                                                          lget (q_unlG a b g) g_1.toNat 0)) =
                                                                    true →
                                                                  false = true) ∧
                                                                ((!decide
                                                                        (lget (q_unl a b) g_1.toNat 0 =
                                                                          lget (q_unlG a b g) g_1.toNat 0)) =
                                                                    false →
                                                                  inRo IntKind.i64 (g_1 + 1) ∧
                                                                    ∃ g',
                                                                      q_invW (llen (q_unl a b)) g' ∧
                                                                        (n2i (llen (q_unl a b)) - g').toNat <
                                                                            (n2i (llen (q_unl a b)) - g_1).toNat ∧
                                                                          false = false ∧
                                                                            g_1 + 1 = g' ∧
                                                                              a = a ∧
                                                                                b = b ∧
                                                                                  x.puts = x.puts ∧
                                                                                    x.oid = x.oid ∧
                                                                                      x.ob = x.ob ∧
                                                                                        a = a ∧
                                                                                          b = b ∧
                                                                                            q_unlG a b g =
                                                                                                q_unlG a b g ∧
                                                                                              q_unl a b = q_unl a b)) ∧
                                                    (decide (g_1 < n2i (llen (q_unl a b))) = false →
                                                      true = true ∧
                                                        (llen a).le 1000 ∧
                                                          (q_snone a = true →
                                                              true = true ∧ (q_same a a && true) = true) ∧
                                                            (q_snone a = false →
                                                              true = true ∧ (q_same a a && true) = true)))))))) := by
  refine ⟨fun _ => rfl, fun h20 => ⟨rfl, fun ha => ?_, fun ha => ⟨rfl, fun hb => ?_, fun hb => ?_⟩⟩⟩
  · rw [ha] at h20; simp at h20
  · rw [hb] at h20; simp at h20
  have hle := len_cast a
  have hle2 := len_cast b
  have hn := len_llen a
  have hn2 := len_llen b
  have hab : a.length ≤ 20 ∧ b.length ≤ 20 := by
    rw [ha, hb, hn, hn2] at h20; simp at h20; omega
  have hra := right_iff.1 ha
  have hrb := right_iff.1 hb
  have hsa : q_snone a = false := by
    cases h : q_snone a with
    | false => rfl
    | true => have := snone_iff.1 h; subst this; simp at hra
  have hsb : q_snone b = false := by
    cases h : q_snone b with
    | false => rfl
    | true => have := snone_iff.1 h; subst this; simp at hrb
  have hss : q_same a a = true := by unfold q_same; simp
  have hss2 : (q_same a b == q_same a b) = true := by simp
  have fa : q_few a := by unfold q_few; omega
  have fb : q_few b := by unfold q_few; omega
  refine ⟨⟨0, ⟨by omega, by omega, .inl rfl⟩, rfl, rfl, rfl, rfl, rfl, rfl, rfl, rfl, rfl, rfl⟩, fun g hg => ⟨fun hlt => ?_, fun hge => ?_⟩⟩
  · obtain ⟨g0, g1, g2⟩ := hg
    rw [Bool.and_eq_true, decide_eq_true_eq, decide_eq_true_eq, hn, hn2] at hlt
    rw [hn]
    have ht := unlG_len (L := a) (M := b) (g := g)
    have hr : inRo IntKind.i64 (g + 1) := by simp only [inRo, inR]; omega
    have hi : q_invV a b (g + 1) := ⟨by omega, by omega, .inr (by omega)⟩
    exact ⟨⟨g0, by omega⟩, by omega, ⟨g0, by omega⟩, by omega, fun h => ⟨few_fit (by omega), hr, g + 1, hi, by omega, rfl, rfl, rfl, rfl, rfl, rfl, rfl, rfl, rfl, unlG_yes g0 h⟩, fun h => ⟨hr, g + 1, hi, by omega, rfl, rfl, rfl, rfl, rfl, rfl, rfl, rfl, rfl, unlG_no g0 h⟩⟩
  · obtain ⟨g0, g1, g2⟩ := hg
    have hsz : (llen a).le 1000 := fa
    have hno : q_unlNo a b = !decide ((a.length : Int) = (b.length : Int)) := by unfold q_unlNo; rw [hsa, hsb, hle, hle2]; rfl
    refine ⟨rfl, hsz, fun hu => ?_, fun hu => ?_⟩
    · have hg0 : g = 0 := by
        rw [hno] at hu
        have hu : ¬ ((a.length : Int) = (b.length : Int)) := by simpa using hu
        rcases g2 with h | h
        · exact h
        · omega
      subst hg0
      have e : n2i (llen (q_unlG a b 0)) = 0 := rfl
      refine ⟨fun _ => ⟨fa, fb⟩, fun _ => ⟨fa, fa⟩, fun h => ?_, fun _ => ⟨⟨0, ⟨by omega, by omega⟩, rfl, rfl, rfl, rfl, rfl, rfl, rfl, rfl, rfl, rfl, rfl⟩, fun g2 hg2 => ⟨fun hlt => ?_, fun _ => ⟨rfl, hsz, fun _ => ⟨rfl, by rw [hss]; rfl⟩, fun _ => ⟨rfl, by rw [hss]; rfl⟩⟩⟩⟩⟩
      · rw [e, hss, hss2] at h; simp at h
      · have := of_decide_eq_true hlt
        have := hg2.1
        omega
    · have hlen : (a.length : Int) = (b.length : Int) := by rw [hno] at hu; simpa using hu
      have hge2 : ¬ g < (a.length : Int) := by
        rw [hn, hn2, hlen] at hge
        rw [hlen]
        simpa using hge
      have hW : q_unlG a b g = q_unl a b := by unfold q_unl; rw [show g = (llen a : Int) by omega]
      rw [hW]
      have hlu := len_llen (q_unl a b)
      have hlu2 := len_cast (q_unl a b)
      have hlu3 : llen (q_unl a b) ≤ ((llen a : Int)).toNat := unlG_len
      refine ⟨fun _ => ⟨fa, fb⟩, fun _ => ⟨fa, fa⟩, fun h => ?_, fun _ => ⟨⟨0, ⟨by omega, by omega⟩, rfl, rfl, rfl, rfl, rfl, rfl, rfl, rfl, rfl, rfl, rfl⟩, fun g2 hg2 => ⟨fun hlt => ?_, fun _ => ⟨rfl, hsz, fun _ => ⟨rfl, by rw [hss]; rfl⟩, fun _ => ⟨rfl, by rw [hss]; rfl⟩⟩⟩⟩⟩
      · rw [hss, hss2] at h; simp at h
      · obtain ⟨i0, i1⟩ := hg2
        have hlt : g2 < n2i (llen (q_unl a b)) := of_decide_eq_true hlt
        rw [hlu] at hlt ⊢
        exact ⟨⟨i0, by omega⟩, by omega, ⟨i0, by omega⟩, by omega, fun h => by simp at h, fun _ => ⟨by simp only [inRo, inR]; omega, g2 + 1, ⟨by omega, by omega⟩, by omega, rfl, rfl, rfl, rfl, rfl, rfl, rfl, rfl, rfl, rfl, rfl⟩⟩
theorem cl_ounl (a b : List Sx.Obj) (x : Sx.Stp) : CallTo Try.prog 10 [.sa 0, .sa 1, stpV x] [.arr none 163 (.ob a), .arr none 163 (.ob b)] (isV (.bo true)) (fun _ _ => False) := vch_call (inl := noInl) (ann := (annL [(10, 9, lpS [0, 1, 5, 6, 7, 9] (fun g => [(12, .it .i64 g)]) 11 tI 1 (fun g => .it .i64 (q_unlG a b g)) (q_invV a b) (n2i (llen a))), (10, 17, lpG [0, 1, 5, 6, 7, 11, 13] (fun g => [(14, .it .i64 g)]) (q_invW (llen (q_unl a b))) (n2i (llen (q_unl a b))))])) (oks_cons ct_known (oks_cons ct_same (oks_cons ct_right (oks_cons ct_osame (oks_cons ct_rsame oks_nil))))) (hoks_cons hc_of (hoks_cons hc_put (hoks_cons hc_copy (hoks_cons hc_unl hoks_nil)))) (vc_ounl a b x) (by kernel_rfl)
end Go.Proofs.Ytccgpnoiageklaa
