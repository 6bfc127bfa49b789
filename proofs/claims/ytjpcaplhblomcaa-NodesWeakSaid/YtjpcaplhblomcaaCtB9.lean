/- The laws of layer 9: what they come to. No condition. The statements vc_.. are printed by a program of the claimant's own. -/
import Derived.Test.YtjpcaplhblomcaaCtZ
namespace Go.Proofs.Ytjpcaplhblomcaa
open Go.Sx
set_option maxRecDepth 100000
set_option linter.unusedVariables false
set_option linter.unusedSimpArgs false
theorem vc_nputw0 (k : Key) (i : Int) (v : Key) (hq : q_askNo [] k) :
  true = true ∧
    true = true ∧
      ((!decide (0 < q_size [])) = true → void = void ∧ 1 = q_asked [] k 2 true) ∧
        ((!decide (0 < q_size [])) = false →
          true = true ∧
            ((!(q_is [] k && decide (k.kind = 2))) = true → void = void ∧ 190 = q_asked [] k 2 true) ∧
              ((!(q_is [] k && decide (k.kind = 2))) = false →
                true = true ∧
                  ((!decide (bitsI BinOp.and IntKind.i64 k.rights 3 = 0)) = true →
                      void = void ∧ 191 = q_asked [] k 2 true) ∧
                    ((!decide (bitsI BinOp.and IntKind.i64 k.rights 3 = 0)) = false →
                      true = true ∧
                        ((!(decide (0 ≤ i) && decide (i < 16))) = true → void = void ∧ 4 = q_asked [] k 2 true) ∧
                          ((!(decide (0 ≤ i) && decide (i < 16))) = false →
                            true = true ∧
                              ((!(decide (q_chk v = 0) && (!q_named v || decide (q_oid v < q_size [])))) = true →
                                  void = void ∧ 2 = q_asked [] k 2 true) ∧
                                ((!(decide (q_chk v = 0) && (!q_named v || decide (q_oid v < q_size [])))) = false →
                                  q_gotQ k i ∧
                                    true = true ∧
                                      true = true ∧
                                        (0 ≤ i ∧ i < ↑16) ∧
                                          true = true ∧
                                            q_gotO [] (q_nobj [] k) k i = void ∧ 0 = q_asked [] k 2 true))))) := by
  refine ⟨rfl, rfl, fun h => ⟨rfl, (ask1 h).symm⟩, fun h => ⟨rfl, fun h2 => ⟨rfl, (ask2 h h2).symm⟩, fun h2 => ⟨rfl, fun h3 => ⟨rfl, (ask3 h h2 h3).symm⟩, fun h3 => absurd (ask0 h h2 h3) hq⟩⟩⟩
theorem vc_nputw (L : List Sx.Obj) (k : Key) (i : Int) (v : Key) (hq : q_askNo L k) :
  true = true ∧
    true = true ∧
      ((!decide (0 < q_size L)) = true → void = void ∧ 1 = q_asked L k 2 true) ∧
        ((!decide (0 < q_size L)) = false →
          true = true ∧
            ((!(q_is L k && decide (k.kind = 2))) = true → void = void ∧ 190 = q_asked L k 2 true) ∧
              ((!(q_is L k && decide (k.kind = 2))) = false →
                true = true ∧
                  ((!decide (bitsI BinOp.and IntKind.i64 k.rights 3 = 0)) = true →
                      void = void ∧ 191 = q_asked L k 2 true) ∧
                    ((!decide (bitsI BinOp.and IntKind.i64 k.rights 3 = 0)) = false →
                      true = true ∧
                        ((!(decide (0 ≤ i) && decide (i < 16))) = true → void = void ∧ 4 = q_asked L k 2 true) ∧
                          ((!(decide (0 ≤ i) && decide (i < 16))) = false →
                            true = true ∧
                              ((!(decide (q_chk v = 0) && (!q_named v || decide (q_oid v < q_size L)))) = true →
                                  void = void ∧ 2 = q_asked L k 2 true) ∧
                                ((!(decide (q_chk v = 0) && (!q_named v || decide (q_oid v < q_size L)))) = false →
                                  q_gotQ k i ∧ true = true ∧ true = true ∧ (0 ≤ i ∧ i < ↑16) ∧ true = true ∧ False))))) := by
  refine ⟨rfl, rfl, fun h => ⟨rfl, (ask1 h).symm⟩, fun h => ⟨rfl, fun h2 => ⟨rfl, (ask2 h h2).symm⟩, fun h2 => ⟨rfl, fun h3 => ⟨rfl, (ask3 h h2 h3).symm⟩, fun h3 => absurd (ask0 h h2 h3) hq⟩⟩⟩
theorem ct_nputw : CtOK Try.prog 13 g_nputw :=
  mkR_ok (consA_ok sA_ok (consA_ok kA_ok (consA_ok iA_ok (consA_ok kA_ok nilA_ok)))) (fun _ => rfl) fun a hq hok => by
    obtain ⟨S, k, i, v, _⟩ := a
    cases S with
    | none => exact vcd_call (inl := (fun f => f == 32 || f == 31 || f == 35 || f == 36)) (ann := noAnn) (oks_cons ct_size (oks_cons ct_named (oks_cons ct_ngot (oks_cons ct_knames (oks_cons ct_kchk (oks_cons ct_prep oks_nil)))))) (hoks_cons hc_put hoks_nil) (dk_one dc_caught) (vc_nputw0 k i v hq) (by kernel_rfl)
    | some L => exact vcd_call (inl := (fun f => f == 32 || f == 31 || f == 35 || f == 36)) (ann := noAnn) (oks_cons ct_size (oks_cons ct_named (oks_cons ct_ngot (oks_cons ct_knames (oks_cons ct_kchk (oks_cons ct_prep oks_nil)))))) (hoks_cons hc_put hoks_nil) (dk_one dc_caught) (vc_nputw L k i v hq) (by kernel_rfl)
theorem vc_cweak (k : Key) :
  ((!decide (q_chk k = 0)) = true → void = q_weaken k ∧ false = q_keyOk k) ∧
    ((!decide (q_chk k = 0)) = false → q_weak k = q_weaken k ∧ true = q_keyOk k) := by
  unfold q_weaken q_chk; cases q_keyOk k <;> simp
theorem ct_cweak : CtOK Try.prog 18 g_cweak :=
  mk1_ok rK_ok (fun _ => rfl) fun k hk => vc_call (inl := noInl) (ann := noAnn) (oks_cons ct_rchk (oks_cons ct_rweak oks_nil)) (vc_cweak k) (by kernel_rfl)
theorem vc_nweak (l : List Sx.Obj) (k : Key) (s : List Int) (v : Key) :
  true = true ∧
    True ∧
      (q_made l = false → true = true) ∧
        (q_made l = true →
          (decide (6 < n2i (llen s)) = true → true = true) ∧
            (decide (6 < n2i (llen s)) = false →
              ((!q_keyOk k) = true → true = true) ∧
                ((!q_keyOk k) = false →
                  (∃ g,
                      q_invW9 s g ∧
                        k = k ∧
                          false = false ∧ 0 = g.fst ∧ l = l ∧ s = s ∧ k = k ∧ v = v ∧ l = l ∧ q_weaken k = g.snd) ∧
                    ∀ (g : Int × Key),
                      q_invW9 s g →
                        (decide (g.fst < n2i (llen s)) = true →
                            (0 ≤ g.fst ∧ g.fst < ↑(llen s)) ∧
                              g.fst.toNat < llen s ∧
                                ((!decide (q_ngetE l g.snd (lget s g.fst.toNat 0) = 0)) = true → true = true) ∧
                                  ((!decide (q_ngetE l g.snd (lget s g.fst.toNat 0) = 0)) = false →
                                    ((!q_keyOk (q_nget l g.snd (lget s g.fst.toNat 0)) ||
                                            !keq (q_weaken (q_nget l g.snd (lget s g.fst.toNat 0)))
                                                (q_nget l g.snd (lget s g.fst.toNat 0))) =
                                          true →
                                        false = true) ∧
                                      ((!q_keyOk (q_nget l g.snd (lget s g.fst.toNat 0)) ||
                                            !keq (q_weaken (q_nget l g.snd (lget s g.fst.toNat 0)))
                                                (q_nget l g.snd (lget s g.fst.toNat 0))) =
                                          false →
                                        (0 ≤ g.fst ∧ g.fst < ↑(llen s)) ∧
                                          g.fst.toNat < llen s ∧
                                            q_askNo l g.snd ∧
                                              true = true ∧
                                                q_okL l ∧
                                                  true = true ∧
                                                    q_okL (q_nclrL l g.snd) ∧
                                                      ((!decide (q_asked l g.snd 2 true = 191) ||
                                                                  !decide (q_asked l g.snd 2 true = 191) ||
                                                                !decide (q_ncloE (q_nclrL l g.snd) g.snd k = 191) ||
                                                              !q_same (q_ncloL (q_nclrL l g.snd) g.snd k) l) =
                                                            true →
                                                          false = true) ∧
                                                        ((!decide (q_asked l g.snd 2 true = 191) ||
                                                                  !decide (q_asked l g.snd 2 true = 191) ||
                                                                !decide (q_ncloE (q_nclrL l g.snd) g.snd k = 191) ||
                                                              !q_same (q_ncloL (q_nclrL l g.snd) g.snd k) l) =
                                                            false →
                                                          inRo IntKind.i64 (g.fst + 1) ∧
                                                            ∃ g',
                                                              q_invW9 s g' ∧
                                                                q_muW9 s g' < q_muW9 s g ∧
                                                                  k = k ∧
                                                                    false = false ∧
                                                                      g.fst + 1 = g'.fst ∧
                                                                        l = l ∧
                                                                          s = s ∧
                                                                            k = k ∧
                                                                              v = v ∧
                                                                                q_ncloL (q_nclrL l g.snd) g.snd k = l ∧
                                                                                  q_nget l g.snd
                                                                                      (lget s g.fst.toNat 0) =
                                                                                    g'.snd)))) ∧
                          (decide (g.fst < n2i (llen s)) = false → true = true)))) := by
  refine ⟨rfl, trivial, fun _ => rfl, fun hm => ⟨fun _ => rfl, fun hlen => ⟨fun _ => rfl, fun hk => ⟨⟨(0, q_weaken k), ⟨by simp, by simp, ?_⟩, ?_⟩, fun g hg => ⟨fun hlt => ?_, fun _ => rfl⟩⟩⟩⟩⟩
  · have hk : q_keyOk k = true := by simpa using hk
    unfold q_weaken
    rw [hk, if_pos rfl]
    exact wk_weak hk
  · repeat' apply And.intro
    all_goals rfl
  obtain ⟨g0, g1, hw⟩ := hg
  have hlt : g.1 < (llen s : Int) := of_decide_eq_true hlt
  have hlen : ¬ 6 < (llen s : Int) := of_decide_eq_false hlen
  have hi : (0 ≤ g.1 ∧ g.1 < (llen s : Int)) ∧ g.1.toNat < llen s := ⟨⟨g0, hlt⟩, by omega⟩
  refine ⟨hi.1, hi.2, fun _ => rfl, fun hE => ?_⟩
  have hE : q_ngetE l g.2 (lget s g.1.toNat 0) = 0 := by simpa using hE
  obtain ⟨e1, e2⟩ := ngetE_ok hE
  have hv := wk_got (i := lget s g.1.toNat 0) hw e1
  have hwk : q_weaken (q_got l g.2 (lget s g.1.toNat 0)) = q_got l g.2 (lget s g.1.toNat 0) := by
    unfold q_weaken
    rw [hv.1, if_pos rfl]
    exact hv.2
  have hA := wk_asked hw e1
  have hne : q_asked l g.2 2 true ≠ 0 := by omega
  have h1 : q_nclrL l g.2 = l := by unfold q_nclrL; rw [if_neg hne]
  have h2 : q_ncloE l g.2 k = 191 := by unfold q_ncloE; rw [if_neg hne]; exact hA
  have h3 : q_ncloL l g.2 k = l := by unfold q_ncloL; rw [h2]; rfl
  rw [e2, hwk, hv.1, keq_self, h1, h2, h3, hA, same_self]
  refine ⟨fun h => by simp at h, fun _ => ⟨hi.1, hi.2, hne, rfl, (made_ok hm).1, rfl, (made_ok hm).1, fun h => by simp at h, fun _ => ⟨by simp only [inRo, inR]; omega, (g.1 + 1, q_got l g.2 (lget s g.1.toNat 0)), ⟨by simp only; omega, by simp only; omega, hv⟩, by unfold q_muW9; simp only; omega, ?_⟩⟩⟩
  repeat' apply And.intro
  all_goals rfl
theorem cl_nweak (l : List Sx.Obj) (k : Key) (s : List Int) (v : Key) : CallTo Try.prog 4 [.sa 0, .key k, .ag [.sa 1, .key v]] [.ro (.arr none 163 (.ob l)), .ro (.arr none 1 (.it .i64 s))] (isV (.bo true)) (fun _ _ => False) := vch_call (inl := noInl) (ann := (annL [(4, 8, lpP [0, 1, 4, 5, 6, 7, 8] (fun (g : Int × Key) => [(10, .it .i64 g.1)]) 8 (fun g => .blk tK (.key g.2)) (q_invW9 s) (q_muW9 s))])) (oks_cons ct_same (oks_cons ct_known (oks_cons ct_nget (oks_cons ct_cweak (oks_cons ct_nputw oks_nil))))) (hoks_cons hc_made (hoks_cons hc_nclr (hoks_cons hc_nclo hoks_nil))) (vc_nweak l k s v) (by kernel_rfl)
end Go.Proofs.Ytjpcaplhblomcaa
