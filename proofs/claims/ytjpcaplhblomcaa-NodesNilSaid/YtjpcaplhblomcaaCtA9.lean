/- The laws of layer 9: what they come to. No condition. The statements vc_.. are printed by a program of the claimant's own. -/
import Derived.Test.YtjpcaplhblomcaaCtZ
namespace Go.Proofs.Ytjpcaplhblomcaa
open Go.Sx
set_option maxRecDepth 100000
set_option linter.unusedVariables false
set_option linter.unusedSimpArgs false
theorem vc_nplay (l : List Sx.Obj) (x : List Acx) :
  true = true ∧
    True ∧
      (q_made l = false → true = true) ∧
        (q_made l = true →
          (decide (30 < n2i (llen x)) = true → true = true) ∧
            (decide (30 < n2i (llen x)) = false →
              (∃ g,
                  q_invP9 x g ∧
                    false = false ∧
                      0 = g.fst ∧
                        l = l ∧
                          llen x = llen x ∧
                            ((fun i =>
                                  V.ag
                                    [V.it IntKind.i64 (lget x i act0).kind, V.it IntKind.i64 (lget x i act0).slot,
                                      V.key (lget x i act0).key, V.key (lget x i act0).other]) =
                                fun i =>
                                V.ag
                                  [V.it IntKind.i64 (lget x i act0).kind, V.it IntKind.i64 (lget x i act0).slot,
                                    V.key (lget x i act0).key, V.key (lget x i act0).other]) ∧
                              l = g.snd ∧ l = g.snd) ∧
                ∀ (g : Int × List Sx.Obj),
                  q_invP9 x g →
                    (decide (g.fst < n2i (llen x)) = true →
                        (0 ≤ g.fst ∧ g.fst < ↑(llen x)) ∧
                          g.fst.toNat < llen x ∧
                            true = true ∧
                              g.snd = g.snd ∧
                                q_okL g.snd ∧
                                  (q_dchg g.snd
                                          { kind := (lget x g.fst.toNat act0).kind,
                                            slot := (lget x g.fst.toNat act0).slot,
                                            key := (lget x g.fst.toNat act0).key,
                                            other := (lget x g.fst.toNat act0).other } =
                                        false →
                                      ((!true || !q_same g.snd g.snd) = true → false = true) ∧
                                        ((!true || !q_same g.snd g.snd) = false →
                                          inRo IntKind.i64 (g.fst + 1) ∧
                                            ∃ g',
                                              q_invP9 x g' ∧
                                                q_muP9 x g' < q_muP9 x g ∧
                                                  false = false ∧
                                                    g.fst + 1 = g'.fst ∧
                                                      l = l ∧
                                                        llen x = llen x ∧
                                                          ((fun i =>
                                                                V.ag
                                                                  [V.it IntKind.i64 (lget x i act0).kind,
                                                                    V.it IntKind.i64 (lget x i act0).slot,
                                                                    V.key (lget x i act0).key,
                                                                    V.key (lget x i act0).other]) =
                                                              fun i =>
                                                              V.ag
                                                                [V.it IntKind.i64 (lget x i act0).kind,
                                                                  V.it IntKind.i64 (lget x i act0).slot,
                                                                  V.key (lget x i act0).key,
                                                                  V.key (lget x i act0).other]) ∧
                                                            g.snd = g'.snd ∧ g.snd = g'.snd)) ∧
                                    (q_dchg g.snd
                                          { kind := (lget x g.fst.toNat act0).kind,
                                            slot := (lget x g.fst.toNat act0).slot,
                                            key := (lget x g.fst.toNat act0).key,
                                            other := (lget x g.fst.toNat act0).other } =
                                        true →
                                      ((!true ||
                                              !q_same
                                                  (q_doesL g.snd
                                                    { kind := (lget x g.fst.toNat act0).kind,
                                                      slot := (lget x g.fst.toNat act0).slot,
                                                      key := (lget x g.fst.toNat act0).key,
                                                      other := (lget x g.fst.toNat act0).other })
                                                  (q_doesL g.snd
                                                    { kind := (lget x g.fst.toNat act0).kind,
                                                      slot := (lget x g.fst.toNat act0).slot,
                                                      key := (lget x g.fst.toNat act0).key,
                                                      other := (lget x g.fst.toNat act0).other })) =
                                            true →
                                          false = true) ∧
                                        ((!true ||
                                              !q_same
                                                  (q_doesL g.snd
                                                    { kind := (lget x g.fst.toNat act0).kind,
                                                      slot := (lget x g.fst.toNat act0).slot,
                                                      key := (lget x g.fst.toNat act0).key,
                                                      other := (lget x g.fst.toNat act0).other })
                                                  (q_doesL g.snd
                                                    { kind := (lget x g.fst.toNat act0).kind,
                                                      slot := (lget x g.fst.toNat act0).slot,
                                                      key := (lget x g.fst.toNat act0).key,
                                                      other := (lget x g.fst.toNat act0).other })) =
                                            false →
                                          inRo IntKind.i64 (g.fst + 1) ∧
                                            ∃ g',
                                              q_invP9 x g' ∧
                                                q_muP9 x g' < q_muP9 x g ∧
                                                  false = false ∧
                                                    g.fst + 1 = g'.fst ∧
                                                      l = l ∧
                                                        llen x = llen x ∧
                                                          ((fun i =>
                                                                V.ag
                                                                  [V.it IntKind.i64 (lget x i act0).kind,
                                                                    V.it IntKind.i64 (lget x i act0).slot,
                                                                    V.key (lget x i act0).key,
                                                                    V.key (lget x i act0).other]) =
                                                              fun i =>
                                                              V.ag
                                                                [V.it IntKind.i64 (lget x i act0).kind,
                                                                  V.it IntKind.i64 (lget x i act0).slot,
                                                                  V.key (lget x i act0).key,
                                                                  V.key (lget x i act0).other]) ∧
                                                            q_doesL g.snd
                                                                  { kind := (lget x g.fst.toNat act0).kind,
                                                                    slot := (lget x g.fst.toNat act0).slot,
                                                                    key := (lget x g.fst.toNat act0).key,
                                                                    other := (lget x g.fst.toNat act0).other } =
                                                                g'.snd ∧
                                                              q_doesL g.snd
                                                                  { kind := (lget x g.fst.toNat act0).kind,
                                                                    slot := (lget x g.fst.toNat act0).slot,
                                                                    key := (lget x g.fst.toNat act0).key,
                                                                    other := (lget x g.fst.toNat act0).other } =
                                                                g'.snd))) ∧
                      (decide (g.fst < n2i (llen x)) = false → true = true))) := by
  refine ⟨rfl, trivial, fun _ => rfl, fun hm => ⟨fun _ => rfl, fun hlen => ⟨⟨(0, l), ⟨by simp, by simp, (made_ok hm).1⟩, rfl, rfl, rfl, rfl, rfl, rfl, rfl⟩, fun g hg => ⟨fun hlt => ?_, fun _ => rfl⟩⟩⟩⟩
  obtain ⟨g0, g1, g2⟩ := hg
  have hlt : g.1 < (llen x : Int) := of_decide_eq_true hlt
  have hlen : ¬ 30 < (llen x : Int) := of_decide_eq_false hlen
  have hin : inRo IntKind.i64 (g.1 + 1) := by simp only [inRo, inR]; omega
  refine ⟨⟨g0, hlt⟩, by omega, rfl, rfl, g2, fun hc => ⟨fun h => ?_, fun _ => ⟨hin, (g.1 + 1, g.2), ⟨by simp only; omega, by simp only; omega, g2⟩, by unfold q_muP9; simp only; omega, rfl, rfl, rfl, rfl, rfl, rfl, rfl⟩⟩, fun hc => ⟨fun h => ?_, fun _ => ⟨hin, (g.1 + 1, q_doesL g.2 (lget x g.1.toNat act0)), ⟨by simp only; omega, by simp only; omega, doesL_ok g2 hc⟩, by unfold q_muP9; simp only; omega, rfl, rfl, rfl, rfl, rfl, rfl, rfl⟩⟩⟩
  · rw [same_self] at h; simp at h
  · rw [same_self] at h; simp at h
theorem cl_nplay (l : List Sx.Obj) (x : List Acx) : CallTo Try.prog 6 [.sa 0, .sa 1] [.ro (.arr none 163 (.ob l)), .ro (.arr none 14 (acts x))] (isV (.bo true)) (fun _ _ => False) := vch_call (inl := noInl) (ann := (annL [(6, 5, lpAl [1, 4, 5] (fun (g : Int × List Sx.Obj) => [(6, .it .i64 g.1)]) 0 163 (fun g => .ob g.2) (fun g => [(2, .store tS eS g.2)]) (q_invP9 x) (q_muP9 x))])) (oks_cons ct_same (oks_cons ct_known oks_nil)) (hoks_cons hc_made (hoks_cons hc_does hoks_nil)) (vc_nplay l x) (by kernel_rfl)
theorem vc_none (l : List Sx.Obj) (x : List Acx) :
  true = true ∧
    True ∧
      (q_made l = false → true = true) ∧
        (q_made l = true →
          (decide (30 < n2i (llen x)) = true → true = true) ∧
            (decide (30 < n2i (llen x)) = false →
              (∃ g,
                  q_invO9 x g ∧
                    false = false ∧
                      0 = g ∧
                        l = l ∧
                          llen x = llen x ∧
                            ((fun i =>
                                  V.ag
                                    [V.it IntKind.i64 (lget x i act0).kind, V.it IntKind.i64 (lget x i act0).slot,
                                      V.key (lget x i act0).key, V.key (lget x i act0).other]) =
                                fun i =>
                                V.ag
                                  [V.it IntKind.i64 (lget x i act0).kind, V.it IntKind.i64 (lget x i act0).slot,
                                    V.key (lget x i act0).key, V.key (lget x i act0).other]) ∧
                              l = l) ∧
                ∀ (g : Int),
                  q_invO9 x g →
                    (decide (g < n2i (llen x)) = true →
                        true = true ∧
                          True ∧
                            (q_made l = false → (0 ≤ g ∧ g < ↑(llen x)) ∧ g.toNat < llen x ∧ true = true ∧ False) ∧
                              (q_made l = true →
                                (0 ≤ g ∧ g < ↑(llen x)) ∧
                                  g.toNat < llen x ∧
                                    true = true ∧
                                      l = l ∧
                                        q_okL l ∧
                                          (q_dchg l
                                                  { kind := (lget x g.toNat act0).kind,
                                                    slot := (lget x g.toNat act0).slot,
                                                    key := (lget x g.toNat act0).key,
                                                    other := (lget x g.toNat act0).other } =
                                                false →
                                              ((!true || !q_same l l) = true → false = true) ∧
                                                ((!true || !q_same l l) = false →
                                                  inRo IntKind.i64 (g + 1) ∧
                                                    ∃ g',
                                                      q_invO9 x g' ∧
                                                        (n2i (llen x) - g').toNat < (n2i (llen x) - g).toNat ∧
                                                          false = false ∧
                                                            g + 1 = g' ∧
                                                              l = l ∧
                                                                llen x = llen x ∧
                                                                  ((fun i =>
                                                                        V.ag
                                                                          [V.it IntKind.i64 (lget x i act0).kind,
                                                                            V.it IntKind.i64 (lget x i act0).slot,
                                                                            V.key (lget x i act0).key,
                                                                            V.key (lget x i act0).other]) =
                                                                      fun i =>
                                                                      V.ag
                                                                        [V.it IntKind.i64 (lget x i act0).kind,
                                                                          V.it IntKind.i64 (lget x i act0).slot,
                                                                          V.key (lget x i act0).key,
                                                                          V.key (lget x i act0).other]) ∧
                                                                    l = l)) ∧
                                            (q_dchg l
                                                  { kind := (lget x g.toNat act0).kind,
                                                    slot := (lget x g.toNat act0).slot,
                                                    key := (lget x g.toNat act0).key,
                                                    other := (lget x g.toNat act0).other } =
                                                true →
                                              ((!true ||
                                                      !q_same
                                                          (q_doesL l
                                                            { kind := (lget x g.toNat act0).kind,
                                                              slot := (lget x g.toNat act0).slot,
                                                              key := (lget x g.toNat act0).key,
                                                              other := (lget x g.toNat act0).other })
                                                          (q_doesL l
                                                            { kind := (lget x g.toNat act0).kind,
                                                              slot := (lget x g.toNat act0).slot,
                                                              key := (lget x g.toNat act0).key,
                                                              other := (lget x g.toNat act0).other })) =
                                                    true →
                                                  false = true) ∧
                                                ((!true ||
                                                      !q_same
                                                          (q_doesL l
                                                            { kind := (lget x g.toNat act0).kind,
                                                              slot := (lget x g.toNat act0).slot,
                                                              key := (lget x g.toNat act0).key,
                                                              other := (lget x g.toNat act0).other })
                                                          (q_doesL l
                                                            { kind := (lget x g.toNat act0).kind,
                                                              slot := (lget x g.toNat act0).slot,
                                                              key := (lget x g.toNat act0).key,
                                                              other := (lget x g.toNat act0).other })) =
                                                    false →
                                                  inRo IntKind.i64 (g + 1) ∧
                                                    ∃ g',
                                                      q_invO9 x g' ∧
                                                        (n2i (llen x) - g').toNat < (n2i (llen x) - g).toNat ∧
                                                          false = false ∧
                                                            g + 1 = g' ∧
                                                              l = l ∧
                                                                llen x = llen x ∧
                                                                  ((fun i =>
                                                                        V.ag
                                                                          [V.it IntKind.i64 (lget x i act0).kind,
                                                                            V.it IntKind.i64 (lget x i act0).slot,
                                                                            V.key (lget x i act0).key,
                                                                            V.key (lget x i act0).other]) =
                                                                      fun i =>
                                                                      V.ag
                                                                        [V.it IntKind.i64 (lget x i act0).kind,
                                                                          V.it IntKind.i64 (lget x i act0).slot,
                                                                          V.key (lget x i act0).key,
                                                                          V.key (lget x i act0).other]) ∧
                                                                    l = l)))) ∧
                      (decide (g < n2i (llen x)) = false → true = true))) := by
  refine ⟨rfl, trivial, fun _ => rfl, fun hm => ⟨fun _ => rfl, fun hlen => ⟨⟨0, ⟨by simp, by simp⟩, ?_⟩, fun g hg => ⟨fun hlt => ?_, fun _ => rfl⟩⟩⟩⟩
  · repeat' apply And.intro
    all_goals rfl
  obtain ⟨g0, g1⟩ := hg
  have hlt : g < (llen x : Int) := of_decide_eq_true hlt
  have hlen : ¬ 30 < (llen x : Int) := of_decide_eq_false hlen
  have hin : inRo IntKind.i64 (g + 1) := by simp only [inRo, inR]; omega
  have hm' := made_ok hm
  refine ⟨rfl, trivial, fun h => ?_, fun _ => ⟨⟨g0, hlt⟩, by omega, rfl, rfl, hm'.1, fun hc => ⟨fun h => ?_, fun _ => ⟨hin, g + 1, ⟨by omega, by omega⟩, by unfold n2i; omega, ?_⟩⟩, fun hc => ⟨fun h => ?_, fun _ => ⟨hin, g + 1, ⟨by omega, by omega⟩, by unfold n2i; omega, ?_⟩⟩⟩⟩
  · rw [hm] at h; simp at h
  · rw [same_self] at h; simp at h
  · repeat' apply And.intro
    all_goals rfl
  · rw [same_self] at h; simp at h
  · repeat' apply And.intro
    all_goals rfl
theorem cl_none (l : List Sx.Obj) (x : List Acx) : CallTo Try.prog 7 [.sa 0, .sa 1] [.ro (.arr none 163 (.ob l)), .ro (.arr none 14 (acts x))] (isV (.bo true)) (fun _ _ => False) := vch_call (inl := noInl) (ann := (annL [(7, 4, lpG [0, 1, 4] (fun g => [(5, .it .i64 g)]) (q_invO9 x) (n2i (llen x)))])) (oks_cons ct_same (oks_cons ct_known oks_nil)) (hoks_cons hc_made (hoks_cons hc_does hoks_nil)) (vc_none l x) (by kernel_rfl)
theorem vc_nnil (a : Acx) :
  true = true ∧
    true = true ∧
      true = true ∧
        true = true ∧
          True ∧
            (q_allOk [] a.key = false →
                ((decide (q_ngetE [] a.key a.slot = 1) && decide (q_nputE [] a.key a.slot a.other = 1) &&
                            decide (q_asked [] a.key 2 true = 1) &&
                          decide (q_ncloE [] a.key a.other = 1) &&
                        decide (q_asked [] a.key 2 false = 1) ||
                      false) &&
                    true) =
                  true) ∧
              (q_allOk [] a.key = true →
                (!(decide (q_ngetE [] a.key a.slot = 1) && decide (q_nputE [] a.key a.slot a.other = 1) &&
                              decide (q_asked [] a.key 2 true = 1) &&
                            decide (q_ncloE [] a.key a.other = 1)) &&
                        false &&
                      decide (n2i (llen (q_nall [] a.key)) = 0) &&
                    true) =
                  true) := by
  refine ⟨rfl, rfl, rfl, rfl, trivial, fun _ => by rfl, fun h => by rw [show q_allOk [] a.key = false from rfl] at h; simp at h⟩
theorem cl_nnil (a : Acx) : CallTo Try.prog 5 [actV a] [] (isV (.bo true)) (fun _ _ => False) := vch_call (inl := noInl) (ann := noAnn) (oks_cons ct_known (oks_cons ct_nget oks_nil)) (hoks_cons hc_nput (hoks_cons hc_nclr (hoks_cons hc_nclo (hoks_cons hc_nall hoks_nil)))) (vc_nnil a) (by kernel_rfl)
end Go.Proofs.Ytjpcaplhblomcaa
