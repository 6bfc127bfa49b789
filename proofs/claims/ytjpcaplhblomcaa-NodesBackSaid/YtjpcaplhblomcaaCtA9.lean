/- The laws of layer 9: what they come to. No condition. The statements vc_.. are printed by a program of the claimant's own. -/
import Derived.Test.YtjpcaplhblomcaaCtZ
namespace Go.Proofs.Ytjpcaplhblomcaa
open Go.Sx
set_option maxRecDepth 100000
set_option linter.unusedVariables false
set_option linter.unusedSimpArgs false
theorem vc_cweak (k : Key) :
  ((!decide (q_chk k = 0)) = true → void = q_weaken k ∧ false = q_keyOk k) ∧
    ((!decide (q_chk k = 0)) = false → q_weak k = q_weaken k ∧ true = q_keyOk k) := by
  unfold q_weaken q_chk; cases q_keyOk k <;> simp
theorem ct_cweak : CtOK Try.prog 18 g_cweak :=
  mk1_ok rK_ok (fun _ => rfl) fun k hk => vc_call (inl := noInl) (ann := noAnn) (oks_cons ct_rchk (oks_cons ct_rweak oks_nil)) (vc_cweak k) (by kernel_rfl)
theorem vc_nplay (l : List Sx.Obj) (x : List Acx) :
  true = true ∧
    True ∧
      (q_made l = false → true = true) ∧
        (q_made l = true →
          (decide (30 < n2i (llen x)) = true → true = true) ∧
            (decide (30 < n2i (llen x)) = false →
              (∃ g,
                  q_invP9 x g ∧
                    false = false ∧
                      0 = g.fst ∧
                        l = l ∧
                          llen x = llen x ∧
                            ((fun i =>
                                  V.ag
                                    [V.it IntKind.i64 (lget x i act0).kind, V.it IntKind.i64 (lget x i act0).slot,
                                      V.key (lget x i act0).key, V.key (lget x i act0).other]) =
                                fun i =>
                                V.ag
                                  [V.it IntKind.i64 (lget x i act0).kind, V.it IntKind.i64 (lget x i act0).slot,
                                    V.key (lget x i act0).key, V.key (lget x i act0).other]) ∧
                              l = g.snd ∧ l = g.snd) ∧
                ∀ (g : Int × List Sx.Obj),
                  q_invP9 x g →
                    (decide (g.fst < n2i (llen x)) = true →
                        (0 ≤ g.fst ∧ g.fst < ↑(llen x)) ∧
                          g.fst.toNat < llen x ∧
                            true = true ∧
                              g.snd = g.snd ∧
                                q_okL g.snd ∧
                                  (q_dchg g.snd
                                          { kind := (lget x g.fst.toNat act0).kind,
                                            slot := (lget x g.fst.toNat act0).slot,
                                            key := (lget x g.fst.toNat act0).key,
                                            other := (lget x g.fst.toNat act0).other } =
                                        false →
                                      ((!true || !q_same g.snd g.snd) = true → false = true) ∧
                                        ((!true || !q_same g.snd g.snd) = false →
                                          inRo IntKind.i64 (g.fst + 1) ∧
                                            ∃ g',
                                              q_invP9 x g' ∧
                                                q_muP9 x g' < q_muP9 x g ∧
                                                  false = false ∧
                                                    g.fst + 1 = g'.fst ∧
                                                      l = l ∧
                                                        llen x = llen x ∧
                                                          ((fun i =>
                                                                V.ag
                                                                  [V.it IntKind.i64 (lget x i act0).kind,
                                                                    V.it IntKind.i64 (lget x i act0).slot,
                                                                    V.key (lget x i act0).key,
                                                                    V.key (lget x i act0).other]) =
                                                              fun i =>
                                                              V.ag
                                                                [V.it IntKind.i64 (lget x i act0).kind,
                                                                  V.it IntKind.i64 (lget x i act0).slot,
                                                                  V.key (lget x i act0).key,
                                                                  V.key (lget x i act0).other]) ∧
                                                            g.snd = g'.snd ∧ g.snd = g'.snd)) ∧
                                    (q_dchg g.snd
                                          { kind := (lget x g.fst.toNat act0).kind,
                                            slot := (lget x g.fst.toNat act0).slot,
                                            key := (lget x g.fst.toNat act0).key,
                                            other := (lget x g.fst.toNat act0).other } =
                                        true →
                                      ((!true ||
                                              !q_same
                                                  (q_doesL g.snd
                                                    { kind := (lget x g.fst.toNat act0).kind,
                                                      slot := (lget x g.fst.toNat act0).slot,
                                                      key := (lget x g.fst.toNat act0).key,
                                                      other := (lget x g.fst.toNat act0).other })
                                                  (q_doesL g.snd
                                                    { kind := (lget x g.fst.toNat act0).kind,
                                                      slot := (lget x g.fst.toNat act0).slot,
                                                      key := (lget x g.fst.toNat act0).key,
                                                      other := (lget x g.fst.toNat act0).other })) =
                                            true →
                                          false = true) ∧
                                        ((!true ||
                                              !q_same
                                                  (q_doesL g.snd
                                                    { kind := (lget x g.fst.toNat act0).kind,
                                                      slot := (lget x g.fst.toNat act0).slot,
                                                      key := (lget x g.fst.toNat act0).key,
                                                      other := (lget x g.fst.toNat act0).other })
                                                  (q_doesL g.snd
                                                    { kind := (lget x g.fst.toNat act0).kind,
                                                      slot := (lget x g.fst.toNat act0).slot,
                                                      key := (lget x g.fst.toNat act0).key,
                                                      other := (lget x g.fst.toNat act0).other })) =
                                            false →
                                          inRo IntKind.i64 (g.fst + 1) ∧
                                            ∃ g',
                                              q_invP9 x g' ∧
                                                q_muP9 x g' < q_muP9 x g ∧
                                                  false = false ∧
                                                    g.fst + 1 = g'.fst ∧
                                                      l = l ∧
                                                        llen x = llen x ∧
                                                          ((fun i =>
                                                                V.ag
                                                                  [V.it IntKind.i64 (lget x i act0).kind,
                                                                    V.it IntKind.i64 (lget x i act0).slot,
                                                                    V.key (lget x i act0).key,
                                                                    V.key (lget x i act0).other]) =
                                                              fun i =>
                                                              V.ag
                                                                [V.it IntKind.i64 (lget x i act0).kind,
                                                                  V.it IntKind.i64 (lget x i act0).slot,
                                                                  V.key (lget x i act0).key,
                                                                  V.key (lget x i act0).other]) ∧
                                                            q_doesL g.snd
                                                                  { kind := (lget x g.fst.toNat act0).kind,
                                                                    slot := (lget x g.fst.toNat act0).slot,
                                                                    key := (lget x g.fst.toNat act0).key,
                                                                    other := (lget x g.fst.toNat act0).other } =
                                                                g'.snd ∧
                                                              q_doesL g.snd
                                                                  { kind := (lget x g.fst.toNat act0).kind,
                                                                    slot := (lget x g.fst.toNat act0).slot,
                                                                    key := (lget x g.fst.toNat act0).key,
                                                                    other := (lget x g.fst.toNat act0).other } =
                                                                g'.snd))) ∧
                      (decide (g.fst < n2i (llen x)) = false → true = true))) := by
  refine ⟨rfl, trivial, fun _ => rfl, fun hm => ⟨fun _ => rfl, fun hlen => ⟨⟨(0, l), ⟨by simp, by simp, (made_ok hm).1⟩, rfl, rfl, rfl, rfl, rfl, rfl, rfl⟩, fun g hg => ⟨fun hlt => ?_, fun _ => rfl⟩⟩⟩⟩
  obtain ⟨g0, g1, g2⟩ := hg
  have hlt : g.1 < (llen x : Int) := of_decide_eq_true hlt
  have hlen : ¬ 30 < (llen x : Int) := of_decide_eq_false hlen
  have hin : inRo IntKind.i64 (g.1 + 1) := by simp only [inRo, inR]; omega
  refine ⟨⟨g0, hlt⟩, by omega, rfl, rfl, g2, fun hc => ⟨fun h => ?_, fun _ => ⟨hin, (g.1 + 1, g.2), ⟨by simp only; omega, by simp only; omega, g2⟩, by unfold q_muP9; simp only; omega, rfl, rfl, rfl, rfl, rfl, rfl, rfl⟩⟩, fun hc => ⟨fun h => ?_, fun _ => ⟨hin, (g.1 + 1, q_doesL g.2 (lget x g.1.toNat act0)), ⟨by simp only; omega, by simp only; omega, doesL_ok g2 hc⟩, by unfold q_muP9; simp only; omega, rfl, rfl, rfl, rfl, rfl, rfl, rfl⟩⟩⟩
  · rw [same_self] at h; simp at h
  · rw [same_self] at h; simp at h
theorem cl_nplay (l : List Sx.Obj) (x : List Acx) : CallTo Try.prog 6 [.sa 0, .sa 1] [.ro (.arr none 163 (.ob l)), .ro (.arr none 14 (acts x))] (isV (.bo true)) (fun _ _ => False) := vch_call (inl := noInl) (ann := (annL [(6, 5, lpAl [1, 4, 5] (fun (g : Int × List Sx.Obj) => [(6, .it .i64 g.1)]) 0 163 (fun g => .ob g.2) (fun g => [(2, .store tS eS g.2)]) (q_invP9 x) (q_muP9 x))])) (oks_cons ct_same (oks_cons ct_known oks_nil)) (hoks_cons hc_made (hoks_cons hc_does hoks_nil)) (vc_nplay l x) (by kernel_rfl)
theorem vc_none (l : List Sx.Obj) (x : List Acx) :
  true = true ∧
    True ∧
      (q_made l = false → true = true) ∧
        (q_made l = true →
          (decide (30 < n2i (llen x)) = true → true = true) ∧
            (decide (30 < n2i (llen x)) = false →
              (∃ g,
                  q_invO9 x g ∧
                    false = false ∧
                      0 = g ∧
                        l = l ∧
                          llen x = llen x ∧
                            ((fun i =>
                                  V.ag
                                    [V.it IntKind.i64 (lget x i act0).kind, V.it IntKind.i64 (lget x i act0).slot,
                                      V.key (lget x i act0).key, V.key (lget x i act0).other]) =
                                fun i =>
                                V.ag
                                  [V.it IntKind.i64 (lget x i act0).kind, V.it IntKind.i64 (lget x i act0).slot,
                                    V.key (lget x i act0).key, V.key (lget x i act0).other]) ∧
                              l = l) ∧
                ∀ (g : Int),
                  q_invO9 x g →
                    (decide (g < n2i (llen x)) = true →
                        true = true ∧
                          True ∧
                            (q_made l = false → (0 ≤ g ∧ g < ↑(llen x)) ∧ g.toNat < llen x ∧ true = true ∧ False) ∧
                              (q_made l = true →
                                (0 ≤ g ∧ g < ↑(llen x)) ∧
                                  g.toNat < llen x ∧
                                    true = true ∧
                                      l = l ∧
                                        q_okL l ∧
                                          (q_dchg l
                                                  { kind := (lget x g.toNat act0).kind,
                                                    slot := (lget x g.toNat act0).slot,
                                                    key := (lget x g.toNat act0).key,
                                                    other := (lget x g.toNat act0).other } =
                                                false →
                                              ((!true || !q_same l l) = true → false = true) ∧
                                                ((!true || !q_same l l) = false →
                                                  inRo IntKind.i64 (g + 1) ∧
                                                    ∃ g',
                                                      q_invO9 x g' ∧
                                                        (n2i (llen x) - g').toNat < (n2i (llen x) - g).toNat ∧
                                                          false = false ∧
                                                            g + 1 = g' ∧
                                                              l = l ∧
                                                                llen x = llen x ∧
                                                                  ((fun i =>
                                                                        V.ag
                                                                          [V.it IntKind.i64 (lget x i act0).kind,
                                                                            V.it IntKind.i64 (lget x i act0).slot,
                                                                            V.key (lget x i act0).key,
                                                                            V.key (lget x i act0).other]) =
                                                                      fun i =>
                                                                      V.ag
                                                                        [V.it IntKind.i64 (lget x i act0).kind,
                                                                          V.it IntKind.i64 (lget x i act0).slot,
                                                                          V.key (lget x i act0).key,
                                                                          V.key (lget x i act0).other]) ∧
                                                                    l = l)) ∧
                                            (q_dchg l
                                                  { kind := (lget x g.toNat act0).kind,
                                                    slot := (lget x g.toNat act0).slot,
                                                    key := (lget x g.toNat act0).key,
                                                    other := (lget x g.toNat act0).other } =
                                                true →
                                              ((!true ||
                                                      !q_same
                                                          (q_doesL l
                                                            { kind := (lget x g.toNat act0).kind,
                                                              slot := (lget x g.toNat act0).slot,
                                                              key := (lget x g.toNat act0).key,
                                                              other := (lget x g.toNat act0).other })
                                                          (q_doesL l
                                                            { kind := (lget x g.toNat act0).kind,
                                                              slot := (lget x g.toNat act0).slot,
                                                              key := (lget x g.toNat act0).key,
                                                              other := (lget x g.toNat act0).other })) =
                                                    true →
                                                  false = true) ∧
                                                ((!true ||
                                                      !q_same
                                                          (q_doesL l
                                                            { kind := (lget x g.toNat act0).kind,
                                                              slot := (lget x g.toNat act0).slot,
                                                              key := (lget x g.toNat act0).key,
                                                              other := (lget x g.toNat act0).other })
                                                          (q_doesL l
                                                            { kind := (lget x g.toNat act0).kind,
                                                              slot := (lget x g.toNat act0).slot,
                                                              key := (lget x g.toNat act0).key,
                                                              other := (lget x g.toNat act0).other })) =
                                                    false →
                                                  inRo IntKind.i64 (g + 1) ∧
                                                    ∃ g',
                                                      q_invO9 x g' ∧
                                                        (n2i (llen x) - g').toNat < (n2i (llen x) - g).toNat ∧
                                                          false = false ∧
                                                            g + 1 = g' ∧
                                                              l = l ∧
                                                                llen x = llen x ∧
                                                                  ((fun i =>
                                                                        V.ag
                                                                          [V.it IntKind.i64 (lget x i act0).kind,
                                                                            V.it IntKind.i64 (lget x i act0).slot,
                                                                            V.key (lget x i act0).key,
                                                                            V.key (lget x i act0).other]) =
                                                                      fun i =>
                                                                      V.ag
                                                                        [V.it IntKind.i64 (lget x i act0).kind,
                                                                          V.it IntKind.i64 (lget x i act0).slot,
                                                                          V.key (lget x i act0).key,
                                                                          V.key (lget x i act0).other]) ∧
                                                                    l = l)))) ∧
                      (decide (g < n2i (llen x)) = false → true = true))) := by
  refine ⟨rfl, trivial, fun _ => rfl, fun hm => ⟨fun _ => rfl, fun hlen => ⟨⟨0, ⟨by simp, by simp⟩, ?_⟩, fun g hg => ⟨fun hlt => ?_, fun _ => rfl⟩⟩⟩⟩
  · repeat' apply And.intro
    all_goals rfl
  obtain ⟨g0, g1⟩ := hg
  have hlt : g < (llen x : Int) := of_decide_eq_true hlt
  have hlen : ¬ 30 < (llen x : Int) := of_decide_eq_false hlen
  have hin : inRo IntKind.i64 (g + 1) := by simp only [inRo, inR]; omega
  have hm' := made_ok hm
  refine ⟨rfl, trivial, fun h => ?_, fun _ => ⟨⟨g0, hlt⟩, by omega, rfl, rfl, hm'.1, fun hc => ⟨fun h => ?_, fun _ => ⟨hin, g + 1, ⟨by omega, by omega⟩, by unfold n2i; omega, ?_⟩⟩, fun hc => ⟨fun h => ?_, fun _ => ⟨hin, g + 1, ⟨by omega, by omega⟩, by unfold n2i; omega, ?_⟩⟩⟩⟩
  · rw [hm] at h; simp at h
  · rw [same_self] at h; simp at h
  · repeat' apply And.intro
    all_goals rfl
  · rw [same_self] at h; simp at h
  · repeat' apply And.intro
    all_goals rfl
theorem cl_none (l : List Sx.Obj) (x : List Acx) : CallTo Try.prog 7 [.sa 0, .sa 1] [.ro (.arr none 163 (.ob l)), .ro (.arr none 14 (acts x))] (isV (.bo true)) (fun _ _ => False) := vch_call (inl := noInl) (ann := (annL [(7, 4, lpG [0, 1, 4] (fun g => [(5, .it .i64 g)]) (q_invO9 x) (n2i (llen x)))])) (oks_cons ct_same (oks_cons ct_known oks_nil)) (hoks_cons hc_made (hoks_cons hc_does hoks_nil)) (vc_none l x) (by kernel_rfl)
theorem vc_nrights (l : List Sx.Obj) (d : Int) (v : Key) :
  true = true ∧
    True ∧
      (q_made l = false → true = true) ∧
        (q_made l = true →
          ((decide (6 < n2i (llen l)) || decide (d < 0) || decide (n2i (llen l) ≤ d)) = true → true = true) ∧
            ((decide (6 < n2i (llen l)) || decide (d < 0) || decide (n2i (llen l) ≤ d)) = false →
              (∃ g, q_inv8 g ∧ d = d ∧ v = v ∧ 0 = g ∧ l = l ∧ v = v ∧ l = l) ∧
                ∀ (g : Int),
                  q_inv8 g →
                    (decide (g < 8) = true →
                        (0 ≤ d ∧ d < ↑(llen l)) ∧
                          d.toNat < llen l ∧
                            true = true ∧
                              True ∧
                                (q_made l = false →
                                    (∃ g_1,
                                        q_inv16 g_1 ∧
                                          d = d ∧
                                            v = v ∧
                                              g = g ∧
                                                Value.pointer none = Value.pointer none ∧
                                                  0 = g_1 ∧
                                                    l = l ∧
                                                      v = v ∧
                                                        l = l ∧
                                                          ({ kind := 2, oid := d, count := (lget l d.toNat free).count, call := void.call, rights := g, value := void.value } : Sx.Key) =
                                                            ({ kind := 2, oid := d, count := (lget l d.toNat free).count, call := void.call, rights := g, value := void.value } : Sx.Key)) ∧
                                      ∀ (g_1 : Int),
                                        q_inv16 g_1 →
                                          (decide (g_1 < 16) = true → true = true ∧ False) ∧
                                            (decide (g_1 < 16) = false →
                                              (∃ g_2,
                                                  q_inv25 g_2 ∧
                                                    d = d ∧
                                                      v = v ∧
                                                        g = g ∧
                                                          2 = g_2 ∧
                                                            l = l ∧
                                                              v = v ∧
                                                                l = l ∧
                                                                  ({ kind := 2, oid := d, count := (lget l d.toNat free).count, call := void.call, rights := g, value := void.value } : Sx.Key) =
                                                                    ({ kind := 2, oid := d, count := (lget l d.toNat free).count, call := void.call, rights := g, value := void.value } : Sx.Key)) ∧
                                                ∀ (g_2 : Int),
                                                  q_inv25 g_2 →
                                                    (decide (g_2 < 5) = true →
                                                        true = true ∧
                                                          True ∧
                                                            (q_made l = false → true = true ∧ False) ∧
                                                              (q_made l = true →
                                                                true = true ∧
                                                                  l = l ∧
                                                                    q_okL l ∧
                                                                      (q_dchg l
                                                                              { kind := g_2, slot := g,
                                                                                key :=
                                                                                  ({ kind := 2, oid := d, count := (lget l d.toNat free).count, call := void.call, rights := g, value := void.value } : Sx.Key),
                                                                                other := v } =
                                                                            false →
                                                                          ((!true || !q_same l l) = true →
                                                                              false = true) ∧
                                                                            ((!true || !q_same l l) = false →
                                                                              inRo IntKind.i64 (g_2 + 1) ∧
                                                                                ∃ g',
                                                                                  q_inv25 g' ∧
                                                                                    (5 - g').toNat < (5 - g_2).toNat ∧
                                                                                      d = d ∧
                                                                                        v = v ∧
                                                                                          g = g ∧
                                                                                            g_2 + 1 = g' ∧
                                                                                              l = l ∧
                                                                                                v = v ∧
                                                                                                  l = l ∧
                                                                                                    ({ kind := 2, oid := d, count := (lget l d.toNat free).count, call := void.call, rights := g, value := void.value } : Sx.Key) =
                                                                                                      ({ kind := 2, oid := d, count := (lget l d.toNat free).count, call := void.call, rights := g, value := void.value } : Sx.Key))) ∧
                                                                        (q_dchg l
                                                                              { kind := g_2, slot := g,
                                                                                key :=
                                                                                  ({ kind := 2, oid := d, count := (lget l d.toNat free).count, call := void.call, rights := g, value := void.value } : Sx.Key),
                                                                                other := v } =
                                                                            true →
                                                                          ((!true ||
                                                                                  !q_same
                                                                                      (q_doesL l
                                                                                        { kind := g_2, slot := g,
                                                                                          key :=
                                                                                            ({ kind := 2, oid := d, count := (lget l d.toNat free).count, call := void.call, rights := g, value := void.value } : Sx.Key),
                                                                                          other := v })
                                                                                      (q_doesL l
                                                                                        { kind := g_2, slot := g,
                                                                                          key :=
                                                                                            ({ kind := 2, oid := d, count := (lget l d.toNat free).count, call := void.call, rights := g, value := void.value } : Sx.Key),
                                                                                          other := v })) =
                                                                                true →
                                                                              false = true) ∧
                                                                            ((!true ||
                                                                                  !q_same
                                                                                      (q_doesL l
                                                                                        { kind := g_2, slot := g,
                                                                                          key :=
                                                                                            ({ kind := 2, oid := d, count := (lget l d.toNat free).count, call := void.call, rights := g, value := void.value } : Sx.Key),
                                                                                          other := v })
                                                                                      (q_doesL l
                                                                                        { kind := g_2, slot := g,
                                                                                          key :=
                                                                                            ({ kind := 2, oid := d, count := (lget l d.toNat free).count, call := void.call, rights := g, value := void.value } : Sx.Key),
                                                                                          other := v })) =
                                                                                false →
                                                                              inRo IntKind.i64 (g_2 + 1) ∧
                                                                                ∃ g',
                                                                                  q_inv25 g' ∧
                                                                                    (5 - g').toNat < (5 - g_2).toNat ∧
                                                                                      d = d ∧
                                                                                        v = v ∧
                                                                                          g = g ∧
                                                                                            g_2 + 1 = g' ∧
                                                                                              l = l ∧
                                                                                                v = v ∧
                                                                                                  l = l ∧
                                                                                                    ({ kind := 2, oid := d, count := (lget l d.toNat free).count, call := void.call, rights := g, value := void.value } : Sx.Key) =
                                                                                                      ({ kind := 2, oid := d, count := (lget l d.toNat free).count, call := void.call, rights := g, value := void.value } : Sx.Key))))) ∧
                                                      (decide (g_2 < 5) = false →
                                                        inRo IntKind.i64 (g + 1) ∧
                                                          ∃ g',
                                                            q_inv8 g' ∧
                                                              (8 - g').toNat < (8 - g).toNat ∧
                                                                d = d ∧ v = v ∧ g + 1 = g' ∧ l = l ∧ v = v ∧ l = l))) ∧
                                  (q_made l = true →
                                    (∃ g_1,
                                        q_inv16 g_1 ∧
                                          d = d ∧
                                            v = v ∧
                                              g = g ∧
                                                0 = g_1 ∧
                                                  l = l ∧
                                                    v = v ∧
                                                      l = l ∧
                                                        ({ kind := 2, oid := d, count := (lget l d.toNat free).count, call := void.call, rights := g, value := void.value } : Sx.Key) =
                                                            ({ kind := 2, oid := d, count := (lget l d.toNat free).count, call := void.call, rights := g, value := void.value } : Sx.Key) ∧
                                                          l = l) ∧
                                      ∀ (g_1 : Int),
                                        q_inv16 g_1 →
                                          (decide (g_1 < 16) = true →
                                              true = true ∧
                                                l = l ∧
                                                  q_okL l ∧
                                                    (q_dchg l
                                                            { kind := 1, slot := g_1,
                                                              key :=
                                                                ({ kind := 2, oid := d, count := (lget l d.toNat free).count, call := void.call, rights := g, value := void.value } : Sx.Key),
                                                              other := void } =
                                                          false →
                                                        ((!true) = true → false = true) ∧
                                                          ((!true) = false →
                                                            inRo IntKind.i64 (g_1 + 1) ∧
                                                              ∃ g',
                                                                q_inv16 g' ∧
                                                                  (16 - g').toNat < (16 - g_1).toNat ∧
                                                                    d = d ∧
                                                                      v = v ∧
                                                                        g = g ∧
                                                                          g_1 + 1 = g' ∧
                                                                            l = l ∧
                                                                              v = v ∧
                                                                                l = l ∧
                                                                                  ({ kind := 2, oid := d, count := (lget l d.toNat free).count, call := void.call, rights := g, value := void.value } : Sx.Key) =
                                                                                      ({ kind := 2, oid := d, count := (lget l d.toNat free).count, call := void.call, rights := g, value := void.value } : Sx.Key) ∧
                                                                                    l = l)) ∧
                                                      (q_dchg l
                                                            { kind := 1, slot := g_1,
                                                              key :=
                                                                ({ kind := 2, oid := d, count := (lget l d.toNat free).count, call := void.call, rights := g, value := void.value } : Sx.Key),
                                                              other := void } =
                                                          true →
                                                        ((!true) = true → false = true) ∧
                                                          ((!true) = false →
                                                            inRo IntKind.i64 (g_1 + 1) ∧
                                                              ∃ g',
                                                                q_inv16 g' ∧
                                                                  (16 - g').toNat < (16 - g_1).toNat ∧
                                                                    d = d ∧
                                                                      v = v ∧
                                                                        g = g ∧
                                                                          g_1 + 1 = g' ∧
                                                                            l = l ∧
                                                                              v = v ∧
                                                                                l = l ∧
                                                                                  ({ kind := 2, oid := d, count := (lget l d.toNat free).count, call := void.call, rights := g, value := void.value } : Sx.Key) =
                                                                                      ({ kind := 2, oid := d, count := (lget l d.toNat free).count, call := void.call, rights := g, value := void.value } : Sx.Key) ∧
                                                                                    q_doesL l
                                                                                        { kind := 1, slot := g_1,
                                                                                          key :=
                                                                                            ({ kind := 2, oid := d, count := (lget l d.toNat free).count, call := void.call, rights := g, value := void.value } : Sx.Key),
                                                                                          other := void } =
                                                                                      l))) ∧
                                            (decide (g_1 < 16) = false →
                                              (∃ g_2,
                                                  q_inv25 g_2 ∧
                                                    d = d ∧
                                                      v = v ∧
                                                        g = g ∧
                                                          2 = g_2 ∧
                                                            l = l ∧
                                                              v = v ∧
                                                                l = l ∧
                                                                  ({ kind := 2, oid := d, count := (lget l d.toNat free).count, call := void.call, rights := g, value := void.value } : Sx.Key) =
                                                                      ({ kind := 2, oid := d, count := (lget l d.toNat free).count, call := void.call, rights := g, value := void.value } : Sx.Key) ∧
                                                                    l = l) ∧
                                                ∀ (g_2 : Int),
                                                  q_inv25 g_2 →
                                                    (decide (g_2 < 5) = true →
                                                        true = true ∧
                                                          True ∧
                                                            (q_made l = false → true = true ∧ False) ∧
                                                              (q_made l = true →
                                                                true = true ∧
                                                                  l = l ∧
                                                                    q_okL l ∧
                                                                      (q_dchg l
                                                                              { kind := g_2, slot := g,
                                                                                key :=
                                                                                  ({ kind := 2, oid := d, count := (lget l d.toNat free).count, call := void.call, rights := g, value := void.value } : Sx.Key),
                                                                                other := v } =
                                                                            false →
                                                                          ((!true || !q_same l l) = true →
                                                                              false = true) ∧
                                                                            ((!true || !q_same l l) = false →
                                                                              inRo IntKind.i64 (g_2 + 1) ∧
                                                                                ∃ g',
                                                                                  q_inv25 g' ∧
                                                                                    (5 - g').toNat < (5 - g_2).toNat ∧
                                                                                      d = d ∧
                                                                                        v = v ∧
                                                                                          g = g ∧
                                                                                            g_2 + 1 = g' ∧
                                                                                              l = l ∧
                                                                                                v = v ∧
                                                                                                  l = l ∧
                                                                                                    ({ kind := 2, oid := d, count := (lget l d.toNat free).count, call := void.call, rights := g, value := void.value } : Sx.Key) =
                                                                                                        ({ kind := 2, oid := d, count := (lget l d.toNat free).count, call := void.call, rights := g, value := void.value } : Sx.Key) ∧
                                                                                                      l = l)) ∧
                                                                        (q_dchg l
                                                                              { kind := g_2, slot := g,
                                                                                key :=
                                                                                  ({ kind := 2, oid := d, count := (lget l d.toNat free).count, call := void.call, rights := g, value := void.value } : Sx.Key),
                                                                                other := v } =
                                                                            true →
                                                                          ((!true ||
                                                                                  !q_same
                                                                                      (q_doesL l
                                                                                        { kind := g_2, slot := g,
                                                                                          key :=
                                                                                            ({ kind := 2, oid := d, count := (lget l d.toNat free).count, call := void.call, rights := g, value := void.value } : Sx.Key),
                                                                                          other := v })
                                                                                      (q_doesL l
                                                                                        { kind := g_2, slot := g,
                                                                                          key :=
                                                                                            ({ kind := 2, oid := d, count := (lget l d.toNat free).count, call := void.call, rights := g, value := void.value } : Sx.Key),
                                                                                          other := v })) =
                                                                                true →
                                                                              false = true) ∧
                                                                            ((!true ||
                                                                                  !q_same
                                                                                      (q_doesL l
                                                                                        { kind := g_2, slot := g,
                                                                                          key :=
                                                                                            ({ kind := 2, oid := d, count := (lget l d.toNat free).count, call := void.call, rights := g, value := void.value } : Sx.Key),
                                                                                          other := v })
                                                                                      (q_doesL l
                                                                                        { kind := g_2, slot := g,
                                                                                          key :=
                                                                                            ({ kind := 2, oid := d, count := (lget l d.toNat free).count, call := void.call, rights := g, value := void.value } : Sx.Key),
                                                                                          other := v })) =
                                                                                false →
                                                                              inRo IntKind.i64 (g_2 + 1) ∧
                                                                                ∃ g',
                                                                                  q_inv25 g' ∧
                                                                                    (5 - g').toNat < (5 - g_2).toNat ∧
                                                                                      d = d ∧
                                                                                        v = v ∧
                                                                                          g = g ∧
                                                                                            g_2 + 1 = g' ∧
                                                                                              l = l ∧
                                                                                                v = v ∧
                                                                                                  l = l ∧
                                                                                                    ({ kind := 2, oid := d, count := (lget l d.toNat free).count, call := void.call, rights := g, value := void.value } : Sx.Key) =
                                                                                                        ({ kind := 2, oid := d, count := (lget l d.toNat free).count, call := void.call, rights := g, value := void.value } : Sx.Key) ∧
                                                                                                      l = l)))) ∧
                                                      (decide (g_2 < 5) = false →
                                                        inRo IntKind.i64 (g + 1) ∧
                                                          ∃ g',
                                                            q_inv8 g' ∧
                                                              (8 - g').toNat < (8 - g).toNat ∧
                                                                d = d ∧ v = v ∧ g + 1 = g' ∧ l = l ∧ v = v ∧ l = l)))) ∧
                      (decide (g < 8) = false → true = true))) := by
  refine ⟨rfl, trivial, fun _ => rfl, fun hm => ⟨fun _ => rfl, fun hb => ⟨⟨0, ⟨by omega, by omega⟩, ?_⟩, fun g hg => ⟨fun hlt => ?_, fun _ => rfl⟩⟩⟩⟩
  · repeat' apply And.intro
    all_goals rfl
  obtain ⟨g0, g1⟩ := hg
  have hlt := of_decide_eq_true hlt
  have hm' := made_ok hm
  simp only [Bool.or_eq_false_iff, decide_eq_false_iff_not] at hb
  unfold n2i at hb
  have no : ∀ {p : Prop}, q_made l = false → p := fun h => by rw [hm] at h; simp at h
  refine ⟨⟨by omega, by omega⟩, by omega, rfl, trivial, fun h => no h, fun _ => ⟨⟨0, ⟨by omega, by omega⟩, ?_⟩, fun i hi => ⟨fun hl => ?_, fun _ => ⟨⟨2, ⟨by omega, by omega⟩, ?_⟩, fun k hk => ⟨fun hl => ?_, fun _ => ⟨by simp only [inRo, inR]; omega, g + 1, ⟨by omega, by omega⟩, by omega, ?_⟩⟩⟩⟩⟩⟩
  · repeat' apply And.intro
    all_goals rfl
  · obtain ⟨i0, i1⟩ := hi
    have hl := of_decide_eq_true hl
    refine ⟨rfl, rfl, hm'.1, fun _ => ⟨fun h => by simp at h, fun _ => ⟨by simp only [inRo, inR]; omega, i + 1, ⟨by omega, by omega⟩, by omega, ?_⟩⟩, fun hc => by simp [q_dchg] at hc⟩
    repeat' apply And.intro
    all_goals rfl
  · repeat' apply And.intro
    all_goals rfl
  · obtain ⟨i0, i1⟩ := hk
    have hl := of_decide_eq_true hl
    have hin : inRo IntKind.i64 (k + 1) := by simp only [inRo, inR]; omega
    refine ⟨rfl, trivial, fun h => no h, fun _ => ⟨rfl, rfl, hm'.1, fun _ => ⟨fun h => by rw [same_self] at h; simp at h, fun _ => ⟨hin, k + 1, ⟨by omega, by omega⟩, by omega, ?_⟩⟩, fun _ => ⟨fun h => by rw [same_self] at h; simp at h, fun _ => ⟨hin, k + 1, ⟨by omega, by omega⟩, by omega, ?_⟩⟩⟩⟩
    all_goals
      repeat' apply And.intro
      all_goals rfl
  · repeat' apply And.intro
    all_goals rfl
theorem cl_nrights (l : List Sx.Obj) (d : Int) (v : Key) : CallTo Try.prog 8 [.sa 0, .it .i64 d, .key v] [.ro (.arr none 163 (.ob l))] (isV (.bo true)) (fun _ _ => False) := vch_call (inl := noInl) (ann := (annL [(8, 4, lpG [0, 1, 2, 3, 5] (fun g => [(7, .it .i64 g)]) q_inv8 8), (8, 9, lpG [0, 1, 2, 3, 5, 7, 8, 9] (fun g => [(10, .it .i64 g)]) q_inv16 16), (8, 15, lpG [0, 1, 2, 3, 5, 7, 8] (fun g => [(13, .it .i64 g)]) q_inv25 5)])) (oks_cons ct_same (oks_cons ct_known oks_nil)) (hoks_cons hc_made (hoks_cons hc_does hoks_nil)) (vc_nrights l d v) (by kernel_rfl)
theorem vc_nnil (a : Acx) :
  true = true ∧
    true = true ∧
      true = true ∧
        true = true ∧
          True ∧
            (q_allOk [] a.key = false →
                ((decide (q_ngetE [] a.key a.slot = 1) && decide (q_nputE [] a.key a.slot a.other = 1) &&
                            decide (q_asked [] a.key 2 true = 1) &&
                          decide (q_ncloE [] a.key a.other = 1) &&
                        decide (q_asked [] a.key 2 false = 1) ||
                      false) &&
                    true) =
                  true) ∧
              (q_allOk [] a.key = true →
                (!(decide (q_ngetE [] a.key a.slot = 1) && decide (q_nputE [] a.key a.slot a.other = 1) &&
                              decide (q_asked [] a.key 2 true = 1) &&
                            decide (q_ncloE [] a.key a.other = 1)) &&
                        false &&
                      decide (n2i (llen (q_nall [] a.key)) = 0) &&
                    true) =
                  true) := by
  refine ⟨rfl, rfl, rfl, rfl, trivial, fun _ => by rfl, fun h => by rw [show q_allOk [] a.key = false from rfl] at h; simp at h⟩
theorem cl_nnil (a : Acx) : CallTo Try.prog 5 [actV a] [] (isV (.bo true)) (fun _ _ => False) := vch_call (inl := noInl) (ann := noAnn) (oks_cons ct_known (oks_cons ct_nget oks_nil)) (hoks_cons hc_nput (hoks_cons hc_nclr (hoks_cons hc_nclo (hoks_cons hc_nall hoks_nil)))) (vc_nnil a) (by kernel_rfl)
theorem vc_nback (l : List Sx.Obj) (k : Key) (i : Int) (u v : Key) :
  true = true ∧
    True ∧
      (q_made l = false → true = true) ∧
        (q_made l = true →
          ((!q_may l v) = true → true = true) ∧
            ((!q_may l v) = false →
              true = true ∧
                q_okL l ∧
                  ((!decide (q_nputE l k i u = 0)) = true → (q_same (q_nputL l k i u) l && true) = true) ∧
                    ((!decide (q_nputE l k i u = 0)) = false →
                      true = true ∧
                        True ∧
                          (q_allOk (q_nputL l k i u) k = false →
                              true = true ∧
                                q_okL (q_nputL l k i u) ∧
                                  true = true ∧
                                    True ∧
                                      (q_allOk (q_nputL (q_nputL l k i u) k i v) k = false →
                                          ((!decide (q_asked (q_nputL l k i u) k 2 false = 0) ||
                                                              !decide (q_ngetE (q_nputL l k i u) k i = 0) ||
                                                            !decide (q_nputE (q_nputL l k i u) k i v = 0) ||
                                                          !decide
                                                              (q_asked (q_nputL (q_nputL l k i u) k i v) k 2 false =
                                                                0) ||
                                                        !keq (q_nget (q_nputL l k i u) k i)
                                                            (q_prep (q_nputL (q_nputL l k i u) k i v) (q_prep l u)) ||
                                                      !keq (q_nput (q_nputL l k i u) k i v)
                                                          (q_nget (q_nputL l k i u) k i) ||
                                                    true ||
                                                  true) =
                                                true →
                                              false = true) ∧
                                            ((!decide (q_asked (q_nputL l k i u) k 2 false = 0) ||
                                                              !decide (q_ngetE (q_nputL l k i u) k i = 0) ||
                                                            !decide (q_nputE (q_nputL l k i u) k i v = 0) ||
                                                          !decide
                                                              (q_asked (q_nputL (q_nputL l k i u) k i v) k 2 false =
                                                                0) ||
                                                        !keq (q_nget (q_nputL l k i u) k i)
                                                            (q_prep (q_nputL (q_nputL l k i u) k i v) (q_prep l u)) ||
                                                      !keq (q_nput (q_nputL l k i u) k i v)
                                                          (q_nget (q_nputL l k i u) k i) ||
                                                    true ||
                                                  true) =
                                                false →
                                              (∃ g,
                                                  q_inv16 g ∧
                                                    k = k ∧
                                                      false = false ∧
                                                        Value.slice none 0 0 = Value.slice none 0 0 ∧
                                                          Value.slice none 0 0 = Value.slice none 0 0 ∧
                                                            0 = g ∧
                                                              l = l ∧
                                                                k = k ∧
                                                                  i = i ∧
                                                                    u = u ∧
                                                                      v = v ∧
                                                                        q_nputL (q_nputL l k i u) k i v =
                                                                            q_nputL (q_nputL l k i u) k i v ∧
                                                                          q_prep l u = q_prep l u ∧
                                                                            q_prep l v = q_prep l v ∧
                                                                              q_nput l k i u = q_nput l k i u ∧
                                                                                q_nget (q_nputL l k i u) k i =
                                                                                    q_nget (q_nputL l k i u) k i ∧
                                                                                  q_nput (q_nputL l k i u) k i v =
                                                                                    q_nput (q_nputL l k i u) k i v) ∧
                                                ∀ (g : Int),
                                                  q_inv16 g →
                                                    (decide (g < 16) = true → False) ∧
                                                      (decide (g < 16) = false → False))) ∧
                                        (q_allOk (q_nputL (q_nputL l k i u) k i v) k = true →
                                          ((!decide (q_asked (q_nputL l k i u) k 2 false = 0) ||
                                                              !decide (q_ngetE (q_nputL l k i u) k i = 0) ||
                                                            !decide (q_nputE (q_nputL l k i u) k i v = 0) ||
                                                          false ||
                                                        !keq (q_nget (q_nputL l k i u) k i)
                                                            (q_prep (q_nputL (q_nputL l k i u) k i v) (q_prep l u)) ||
                                                      !keq (q_nput (q_nputL l k i u) k i v)
                                                          (q_nget (q_nputL l k i u) k i) ||
                                                    true ||
                                                  !decide
                                                      (n2i (llen (q_nall (q_nputL (q_nputL l k i u) k i v) k)) = 16)) =
                                                true →
                                              false = true) ∧
                                            ((!decide (q_asked (q_nputL l k i u) k 2 false = 0) ||
                                                              !decide (q_ngetE (q_nputL l k i u) k i = 0) ||
                                                            !decide (q_nputE (q_nputL l k i u) k i v = 0) ||
                                                          false ||
                                                        !keq (q_nget (q_nputL l k i u) k i)
                                                            (q_prep (q_nputL (q_nputL l k i u) k i v) (q_prep l u)) ||
                                                      !keq (q_nput (q_nputL l k i u) k i v)
                                                          (q_nget (q_nputL l k i u) k i) ||
                                                    true ||
                                                  !decide
                                                      (n2i (llen (q_nall (q_nputL (q_nputL l k i u) k i v) k)) = 16)) =
                                                false →
                                              (∃ g,
                                                  q_inv16 g ∧
                                                    k = k ∧
                                                      false = false ∧
                                                        Value.slice none 0 0 = Value.slice none 0 0 ∧
                                                          0 = g ∧
                                                            l = l ∧
                                                              k = k ∧
                                                                i = i ∧
                                                                  u = u ∧
                                                                    v = v ∧
                                                                      q_nputL (q_nputL l k i u) k i v =
                                                                          q_nputL (q_nputL l k i u) k i v ∧
                                                                        q_prep l u = q_prep l u ∧
                                                                          q_prep l v = q_prep l v ∧
                                                                            q_nput l k i u = q_nput l k i u ∧
                                                                              q_nget (q_nputL l k i u) k i =
                                                                                  q_nget (q_nputL l k i u) k i ∧
                                                                                q_nput (q_nputL l k i u) k i v =
                                                                                    q_nput (q_nputL l k i u) k i v ∧
                                                                                  q_nall
                                                                                      (q_nputL (q_nputL l k i u) k i v)
                                                                                      k =
                                                                                    q_nall
                                                                                      (q_nputL (q_nputL l k i u) k i v)
                                                                                      k) ∧
                                                ∀ (g : Int),
                                                  q_inv16 g →
                                                    (decide (g < 16) = true → False) ∧
                                                      (decide (g < 16) = false →
                                                        (0 ≤ i ∧
                                                            i < ↑(llen (q_nall (q_nputL (q_nputL l k i u) k i v) k))) ∧
                                                          i.toNat < llen (q_nall (q_nputL (q_nputL l k i u) k i v) k) ∧
                                                            ((!keq
                                                                      (lget (q_nall (q_nputL (q_nputL l k i u) k i v) k)
                                                                        i.toNat void)
                                                                      (q_prep l v)) =
                                                                  true →
                                                                false = true) ∧
                                                              ((!keq
                                                                      (lget (q_nall (q_nputL (q_nputL l k i u) k i v) k)
                                                                        i.toNat void)
                                                                      (q_prep l v)) =
                                                                  false →
                                                                (∃ g,
                                                                    q_invL l g ∧
                                                                      k = k ∧
                                                                        false = false ∧
                                                                          0 = g ∧
                                                                            l = l ∧
                                                                              k = k ∧
                                                                                i = i ∧
                                                                                  u = u ∧
                                                                                    v = v ∧
                                                                                      q_nputL (q_nputL l k i u) k i v =
                                                                                          q_nputL (q_nputL l k i u) k i
                                                                                            v ∧
                                                                                        q_prep l u = q_prep l u ∧
                                                                                          q_prep l v = q_prep l v ∧
                                                                                            q_nput l k i u =
                                                                                                q_nput l k i u ∧
                                                                                              q_nget (q_nputL l k i u) k
                                                                                                    i =
                                                                                                  q_nget
                                                                                                    (q_nputL l k i u) k
                                                                                                    i ∧
                                                                                                q_nput (q_nputL l k i u)
                                                                                                      k i v =
                                                                                                    q_nput
                                                                                                      (q_nputL l k i u)
                                                                                                      k i v ∧
                                                                                                  q_nall
                                                                                                      (q_nputL
                                                                                                        (q_nputL l k i
                                                                                                          u)
                                                                                                        k i v)
                                                                                                      k =
                                                                                                    q_nall
                                                                                                      (q_nputL
                                                                                                        (q_nputL l k i
                                                                                                          u)
                                                                                                        k i v)
                                                                                                      k) ∧
                                                                  ∀ (g : Int),
                                                                    q_invL l g →
                                                                      (decide (g < n2i (llen l)) = true →
                                                                          ((!decide (g = k.oid)) = true →
                                                                              0 ≤ g ∧ g < ↑(llen l)) ∧
                                                                            ((!decide (g = k.oid)) = true →
                                                                                g.toNat < llen l) ∧
                                                                              ((!decide (g = k.oid) &&
                                                                                      !oeq
                                                                                          (q_get
                                                                                            (q_nputL (q_nputL l k i u) k
                                                                                              i v)
                                                                                            g)
                                                                                          (lget l g.toNat free)) =
                                                                                    true →
                                                                                  false = true) ∧
                                                                                ((!decide (g = k.oid) &&
                                                                                      !oeq
                                                                                          (q_get
                                                                                            (q_nputL (q_nputL l k i u) k
                                                                                              i v)
                                                                                            g)
                                                                                          (lget l g.toNat free)) =
                                                                                    false →
                                                                                  inRo IntKind.i64 (g + 1) ∧
                                                                                    ∃ g',
                                                                                      q_invL l g' ∧
                                                                                        (n2i (llen l) - g').toNat <
                                                                                            (n2i (llen l) - g).toNat ∧
                                                                                          k = k ∧
                                                                                            false = false ∧
                                                                                              g + 1 = g' ∧
                                                                                                l = l ∧
                                                                                                  k = k ∧
                                                                                                    i = i ∧
                                                                                                      u = u ∧
                                                                                                        v = v ∧
                                                                                                          q_nputL
                                                                                                                (q_nputL
                                                                                                                  l k i
                                                                                                                  u)
                                                                                                                k i v =
                                                                                                              q_nputL
                                                                                                                (q_nputL
                                                                                                                  l k i
                                                                                                                  u)
                                                                                                                k i v ∧
                                                                                                            q_prep l u =
                                                                                                                q_prep l
                                                                                                                  u ∧
                                                                                                              q_prep l
                                                                                                                    v =
                                                                                                                  q_prep
                                                                                                                    l
                                                                                                                    v ∧
                                                                                                                q_nput l
                                                                                                                      k
                                                                                                                      i
                                                                                                                      u =
                                                                                                                    q_nput
                                                                                                                      l
                                                                                                                      k
                                                                                                                      i
                                                                                                                      u ∧
                                                                                                                  q_nget
                                                                                                                        (q_nputL
                                                                                                                          l
                                                                                                                          k
                                                                                                                          i
                                                                                                                          u)
                                                                                                                        k
                                                                                                                        i =
                                                                                                                      q_nget
                                                                                                                        (q_nputL
                                                                                                                          l
                                                                                                                          k
                                                                                                                          i
                                                                                                                          u)
                                                                                                                        k
                                                                                                                        i ∧
                                                                                                                    q_nput
                                                                                                                          (q_nputL
                                                                                                                            l
                                                                                                                            k
                                                                                                                            i
                                                                                                                            u)
                                                                                                                          k
                                                                                                                          i
                                                                                                                          v =
                                                                                                                        q_nput
                                                                                                                          (q_nputL
                                                                                                                            l
                                                                                                                            k
                                                                                                                            i
                                                                                                                            u)
                                                                                                                          k
                                                                                                                          i
                                                                                                                          v ∧
                                                                                                                      q_nall
                                                                                                                          (q_nputL
                                                                                                                            (q_nputL
                                                                                                                              l
                                                                                                                              k
                                                                                                                              i
                                                                                                                              u)
                                                                                                                            k
                                                                                                                            i
                                                                                                                            v)
                                                                                                                          k =
                                                                                                                        q_nall
                                                                                                                          (q_nputL
                                                                                                                            (q_nputL
                                                                                                                              l
                                                                                                                              k
                                                                                                                              i
                                                                                                                              u)
                                                                                                                            k
                                                                                                                            i
                                                                                                                            v)
                                                                                                                          k)) ∧
                                                                        (decide (g < n2i (llen l)) = false →
                                                                          true = true)))))) ∧
                            (q_allOk (q_nputL l k i u) k = true →
                              true = true ∧
                                q_okL (q_nputL l k i u) ∧
                                  true = true ∧
                                    True ∧
                                      (q_allOk (q_nputL (q_nputL l k i u) k i v) k = false →
                                          ((!decide (q_ngetE (q_nputL l k i u) k i = 0) ||
                                                            !decide (q_nputE (q_nputL l k i u) k i v = 0) ||
                                                          !decide
                                                              (q_asked (q_nputL (q_nputL l k i u) k i v) k 2 false =
                                                                0) ||
                                                        !keq (q_nget (q_nputL l k i u) k i)
                                                            (q_prep (q_nputL (q_nputL l k i u) k i v) (q_prep l u)) ||
                                                      !keq (q_nput (q_nputL l k i u) k i v)
                                                          (q_nget (q_nputL l k i u) k i) ||
                                                    !decide (n2i (llen (q_nall (q_nputL l k i u) k)) = 16) ||
                                                  true) =
                                                true →
                                              false = true) ∧
                                            ((!decide (q_ngetE (q_nputL l k i u) k i = 0) ||
                                                            !decide (q_nputE (q_nputL l k i u) k i v = 0) ||
                                                          !decide
                                                              (q_asked (q_nputL (q_nputL l k i u) k i v) k 2 false =
                                                                0) ||
                                                        !keq (q_nget (q_nputL l k i u) k i)
                                                            (q_prep (q_nputL (q_nputL l k i u) k i v) (q_prep l u)) ||
                                                      !keq (q_nput (q_nputL l k i u) k i v)
                                                          (q_nget (q_nputL l k i u) k i) ||
                                                    !decide (n2i (llen (q_nall (q_nputL l k i u) k)) = 16) ||
                                                  true) =
                                                false →
                                              (∃ g,
                                                  q_inv16 g ∧
                                                    k = k ∧
                                                      false = false ∧
                                                        Value.slice none 0 0 = Value.slice none 0 0 ∧
                                                          0 = g ∧
                                                            l = l ∧
                                                              k = k ∧
                                                                i = i ∧
                                                                  u = u ∧
                                                                    v = v ∧
                                                                      q_nputL (q_nputL l k i u) k i v =
                                                                          q_nputL (q_nputL l k i u) k i v ∧
                                                                        q_prep l u = q_prep l u ∧
                                                                          q_prep l v = q_prep l v ∧
                                                                            q_nput l k i u = q_nput l k i u ∧
                                                                              q_nall (q_nputL l k i u) k =
                                                                                  q_nall (q_nputL l k i u) k ∧
                                                                                q_nget (q_nputL l k i u) k i =
                                                                                    q_nget (q_nputL l k i u) k i ∧
                                                                                  q_nput (q_nputL l k i u) k i v =
                                                                                    q_nput (q_nputL l k i u) k i v) ∧
                                                ∀ (g : Int),
                                                  q_inv16 g →
                                                    (decide (g < 16) = true →
                                                        ((!decide (g = i)) = true →
                                                            0 ≤ g ∧ g < ↑(llen (q_nall (q_nputL l k i u) k))) ∧
                                                          ((!decide (g = i)) = true →
                                                              g.toNat < llen (q_nall (q_nputL l k i u) k)) ∧
                                                            False) ∧
                                                      (decide (g < 16) = false → False))) ∧
                                        (q_allOk (q_nputL (q_nputL l k i u) k i v) k = true →
                                          ((!decide (q_ngetE (q_nputL l k i u) k i = 0) ||
                                                            !decide (q_nputE (q_nputL l k i u) k i v = 0) ||
                                                          false ||
                                                        !keq (q_nget (q_nputL l k i u) k i)
                                                            (q_prep (q_nputL (q_nputL l k i u) k i v) (q_prep l u)) ||
                                                      !keq (q_nput (q_nputL l k i u) k i v)
                                                          (q_nget (q_nputL l k i u) k i) ||
                                                    !decide (n2i (llen (q_nall (q_nputL l k i u) k)) = 16) ||
                                                  !decide
                                                      (n2i (llen (q_nall (q_nputL (q_nputL l k i u) k i v) k)) = 16)) =
                                                true →
                                              false = true) ∧
                                            ((!decide (q_ngetE (q_nputL l k i u) k i = 0) ||
                                                            !decide (q_nputE (q_nputL l k i u) k i v = 0) ||
                                                          false ||
                                                        !keq (q_nget (q_nputL l k i u) k i)
                                                            (q_prep (q_nputL (q_nputL l k i u) k i v) (q_prep l u)) ||
                                                      !keq (q_nput (q_nputL l k i u) k i v)
                                                          (q_nget (q_nputL l k i u) k i) ||
                                                    !decide (n2i (llen (q_nall (q_nputL l k i u) k)) = 16) ||
                                                  !decide
                                                      (n2i (llen (q_nall (q_nputL (q_nputL l k i u) k i v) k)) = 16)) =
                                                false →
                                              (∃ g,
                                                  q_inv16 g ∧
                                                    k = k ∧
                                                      false = false ∧
                                                        0 = g ∧
                                                          l = l ∧
                                                            k = k ∧
                                                              i = i ∧
                                                                u = u ∧
                                                                  v = v ∧
                                                                    q_nputL (q_nputL l k i u) k i v =
                                                                        q_nputL (q_nputL l k i u) k i v ∧
                                                                      q_prep l u = q_prep l u ∧
                                                                        q_prep l v = q_prep l v ∧
                                                                          q_nput l k i u = q_nput l k i u ∧
                                                                            q_nall (q_nputL l k i u) k =
                                                                                q_nall (q_nputL l k i u) k ∧
                                                                              q_nget (q_nputL l k i u) k i =
                                                                                  q_nget (q_nputL l k i u) k i ∧
                                                                                q_nput (q_nputL l k i u) k i v =
                                                                                    q_nput (q_nputL l k i u) k i v ∧
                                                                                  q_nall
                                                                                      (q_nputL (q_nputL l k i u) k i v)
                                                                                      k =
                                                                                    q_nall
                                                                                      (q_nputL (q_nputL l k i u) k i v)
                                                                                      k) ∧
                                                ∀ (g : Int),
                                                  q_inv16 g →
                                                    (decide (g < 16) = true →
                                                        ((!decide (g = i)) = true →
                                                            0 ≤ g ∧ g < ↑(llen (q_nall (q_nputL l k i u) k))) ∧
                                                          ((!decide (g = i)) = true →
                                                              g.toNat < llen (q_nall (q_nputL l k i u) k)) ∧
                                                            ((!decide (g = i)) = true →
                                                                0 ≤ g ∧
                                                                  g <
                                                                    ↑(llen
                                                                        (q_nall (q_nputL (q_nputL l k i u) k i v) k))) ∧
                                                              ((!decide (g = i)) = true →
                                                                  g.toNat <
                                                                    llen (q_nall (q_nputL (q_nputL l k i u) k i v) k)) ∧
                                                                ((!decide (g = i) &&
                                                                        !keq
                                                                            (lget (q_nall (q_nputL l k i u) k) g.toNat
                                                                              void)
                                                                            (lget
                                                                              (q_nall (q_nputL (q_nputL l k i u) k i v)
                                                                                k)
                                                                              g.toNat void)) =
                                                                      true →
                                                                    false = true) ∧
                                                                  ((!decide (g = i) &&
                                                                        !keq
                                                                            (lget (q_nall (q_nputL l k i u) k) g.toNat
                                                                              void)
                                                                            (lget
                                                                              (q_nall (q_nputL (q_nputL l k i u) k i v)
                                                                                k)
                                                                              g.toNat void)) =
                                                                      false →
                                                                    inRo IntKind.i64 (g + 1) ∧
                                                                      ∃ g',
                                                                        q_inv16 g' ∧
                                                                          (16 - g').toNat < (16 - g).toNat ∧
                                                                            k = k ∧
                                                                              false = false ∧
                                                                                g + 1 = g' ∧
                                                                                  l = l ∧
                                                                                    k = k ∧
                                                                                      i = i ∧
                                                                                        u = u ∧
                                                                                          v = v ∧
                                                                                            q_nputL (q_nputL l k i u) k
                                                                                                  i v =
                                                                                                q_nputL
                                                                                                  (q_nputL l k i u) k i
                                                                                                  v ∧
                                                                                              q_prep l u = q_prep l u ∧
                                                                                                q_prep l v =
                                                                                                    q_prep l v ∧
                                                                                                  q_nput l k i u =
                                                                                                      q_nput l k i u ∧
                                                                                                    q_nall
                                                                                                          (q_nputL l k i
                                                                                                            u)
                                                                                                          k =
                                                                                                        q_nall
                                                                                                          (q_nputL l k i
                                                                                                            u)
                                                                                                          k ∧
                                                                                                      q_nget
                                                                                                            (q_nputL l k
                                                                                                              i u)
                                                                                                            k i =
                                                                                                          q_nget
                                                                                                            (q_nputL l k
                                                                                                              i u)
                                                                                                            k i ∧
                                                                                                        q_nput
                                                                                                              (q_nputL l
                                                                                                                k i u)
                                                                                                              k i v =
                                                                                                            q_nput
                                                                                                              (q_nputL l
                                                                                                                k i u)
                                                                                                              k i v ∧
                                                                                                          q_nall
                                                                                                              (q_nputL
                                                                                                                (q_nputL
                                                                                                                  l k i
                                                                                                                  u)
                                                                                                                k i v)
                                                                                                              k =
                                                                                                            q_nall
                                                                                                              (q_nputL
                                                                                                                (q_nputL
                                                                                                                  l k i
                                                                                                                  u)
                                                                                                                k i v)
                                                                                                              k)) ∧
                                                      (decide (g < 16) = false →
                                                        (0 ≤ i ∧
                                                            i < ↑(llen (q_nall (q_nputL (q_nputL l k i u) k i v) k))) ∧
                                                          i.toNat < llen (q_nall (q_nputL (q_nputL l k i u) k i v) k) ∧
                                                            ((!keq
                                                                      (lget (q_nall (q_nputL (q_nputL l k i u) k i v) k)
                                                                        i.toNat void)
                                                                      (q_prep l v)) =
                                                                  true →
                                                                false = true) ∧
                                                              ((!keq
                                                                      (lget (q_nall (q_nputL (q_nputL l k i u) k i v) k)
                                                                        i.toNat void)
                                                                      (q_prep l v)) =
                                                                  false →
                                                                (∃ g,
                                                                    q_invL l g ∧
                                                                      k = k ∧
                                                                        false = false ∧
                                                                          0 = g ∧
                                                                            l = l ∧
                                                                              k = k ∧
                                                                                i = i ∧
                                                                                  u = u ∧
                                                                                    v = v ∧
                                                                                      q_nputL (q_nputL l k i u) k i v =
                                                                                          q_nputL (q_nputL l k i u) k i
                                                                                            v ∧
                                                                                        q_prep l u = q_prep l u ∧
                                                                                          q_prep l v = q_prep l v ∧
                                                                                            q_nput l k i u =
                                                                                                q_nput l k i u ∧
                                                                                              q_nall (q_nputL l k i u)
                                                                                                    k =
                                                                                                  q_nall
                                                                                                    (q_nputL l k i u)
                                                                                                    k ∧
                                                                                                q_nget (q_nputL l k i u)
                                                                                                      k i =
                                                                                                    q_nget
                                                                                                      (q_nputL l k i u)
                                                                                                      k i ∧
                                                                                                  q_nput
                                                                                                        (q_nputL l k i
                                                                                                          u)
                                                                                                        k i v =
                                                                                                      q_nput
                                                                                                        (q_nputL l k i
                                                                                                          u)
                                                                                                        k i v ∧
                                                                                                    q_nall
                                                                                                        (q_nputL
                                                                                                          (q_nputL l k i
                                                                                                            u)
                                                                                                          k i v)
                                                                                                        k =
                                                                                                      q_nall
                                                                                                        (q_nputL
                                                                                                          (q_nputL l k i
                                                                                                            u)
                                                                                                          k i v)
                                                                                                        k) ∧
                                                                  ∀ (g : Int),
                                                                    q_invL l g →
                                                                      (decide (g < n2i (llen l)) = true →
                                                                          ((!decide (g = k.oid)) = true →
                                                                              0 ≤ g ∧ g < ↑(llen l)) ∧
                                                                            ((!decide (g = k.oid)) = true →
                                                                                g.toNat < llen l) ∧
                                                                              ((!decide (g = k.oid) &&
                                                                                      !oeq
                                                                                          (q_get
                                                                                            (q_nputL (q_nputL l k i u) k
                                                                                              i v)
                                                                                            g)
                                                                                          (lget l g.toNat free)) =
                                                                                    true →
                                                                                  false = true) ∧
                                                                                ((!decide (g = k.oid) &&
                                                                                      !oeq
                                                                                          (q_get
                                                                                            (q_nputL (q_nputL l k i u) k
                                                                                              i v)
                                                                                            g)
                                                                                          (lget l g.toNat free)) =
                                                                                    false →
                                                                                  inRo IntKind.i64 (g + 1) ∧
                                                                                    ∃ g',
                                                                                      q_invL l g' ∧
                                                                                        (n2i (llen l) - g').toNat <
                                                                                            (n2i (llen l) - g).toNat ∧
                                                                                          k = k ∧
                                                                                            false = false ∧
                                                                                              g + 1 = g' ∧
                                                                                                l = l ∧
                                                                                                  k = k ∧
                                                                                                    i = i ∧
                                                                                                      u = u ∧
                                                                                                        v = v ∧
                                                                                                          q_nputL
                                                                                                                (q_nputL
                                                                                                                  l k i
                                                                                                                  u)
                                                                                                                k i v =
                                                                                                              q_nputL
                                                                                                                (q_nputL
                                                                                                                  l k i
                                                                                                                  u)
                                                                                                                k i v ∧
                                                                                                            q_prep l u =
                                                                                                                q_prep l
                                                                                                                  u ∧
                                                                                                              q_prep l
                                                                                                                    v =
                                                                                                                  q_prep
                                                                                                                    l
                                                                                                                    v ∧
                                                                                                                q_nput l
                                                                                                                      k
                                                                                                                      i
                                                                                                                      u =
                                                                                                                    q_nput
                                                                                                                      l
                                                                                                                      k
                                                                                                                      i
                                                                                                                      u ∧
                                                                                                                  q_nall
                                                                                                                        (q_nputL
                                                                                                                          l
                                                                                                                          k
                                                                                                                          i
                                                                                                                          u)
                                                                                                                        k =
                                                                                                                      q_nall
                                                                                                                        (q_nputL
                                                                                                                          l
                                                                                                                          k
                                                                                                                          i
                                                                                                                          u)
                                                                                                                        k ∧
                                                                                                                    q_nget
                                                                                                                          (q_nputL
                                                                                                                            l
                                                                                                                            k
                                                                                                                            i
                                                                                                                            u)
                                                                                                                          k
                                                                                                                          i =
                                                                                                                        q_nget
                                                                                                                          (q_nputL
                                                                                                                            l
                                                                                                                            k
                                                                                                                            i
                                                                                                                            u)
                                                                                                                          k
                                                                                                                          i ∧
                                                                                                                      q_nput
                                                                                                                            (q_nputL
                                                                                                                              l
                                                                                                                              k
                                                                                                                              i
                                                                                                                              u)
                                                                                                                            k
                                                                                                                            i
                                                                                                                            v =
                                                                                                                          q_nput
                                                                                                                            (q_nputL
                                                                                                                              l
                                                                                                                              k
                                                                                                                              i
                                                                                                                              u)
                                                                                                                            k
                                                                                                                            i
                                                                                                                            v ∧
                                                                                                                        q_nall
                                                                                                                            (q_nputL
                                                                                                                              (q_nputL
                                                                                                                                l
                                                                                                                                k
                                                                                                                                i
                                                                                                                                u)
                                                                                                                              k
                                                                                                                              i
                                                                                                                              v)
                                                                                                                            k =
                                                                                                                          q_nall
                                                                                                                            (q_nputL
                                                                                                                              (q_nputL
                                                                                                                                l
                                                                                                                                k
                                                                                                                                i
                                                                                                                                u)
                                                                                                                              k
                                                                                                                              i
                                                                                                                              v)
                                                                                                                            k)) ∧
                                                                        (decide (g < n2i (llen l)) = false →
                                                                          true = true))))))))) := by
  refine ⟨rfl, trivial, fun _ => rfl, fun hm => ⟨fun _ => rfl, fun hv => ⟨rfl, (made_ok hm).1, fun hE => ?_, fun hE => ⟨rfl, trivial, fun hA => ?_, fun hA => ⟨rfl, ?_, rfl, trivial, fun hB => ?_, fun hB => ⟨fun h => ?_, fun h => ⟨⟨0, ⟨by omega, by omega⟩, ?_⟩, fun g hg => ⟨fun hlt => ?_, fun hge => ?_⟩⟩⟩⟩⟩⟩⟩⟩
  · have hE : q_nputE l k i u ≠ 0 := by simpa using hE
    rw [show q_nputL l k i u = l by unfold q_nputL; rw [if_neg hE], same_self]; rfl
  all_goals
    have hE : q_nputE l k i u = 0 := by simpa using hE
    have hv : q_may l v = true := by simpa using hv
    have hL := (made_ok hm).1
    have hll := (made_ok hm).2
    have p2 := put_again hL hE hv
    obtain ⟨f1, f2, f3, f4, f5, f6, f7, f8⟩ := put_facts hL hE
    obtain ⟨s1, s2, s3, s4, s5, s6, s7, s8⟩ := put_facts f1 p2
    obtain ⟨e1, e2, e3⟩ := nputE_zero hE
    have e4 := asked_ff e1
  · unfold q_allOk at hA
    rw [f4, e4] at hA; simp at hA
  · exact f1
  · unfold q_allOk at hB
    rw [s4, f4, e4] at hB; simp at hB
  · have hg1 : q_ngetE (q_nputL l k i u) k i = 0 := (nget_ok (by rw [f4]; exact e4) (by omega)).1
    have hg2 : q_nget (q_nputL l k i u) k i = q_prep l u := by rw [(nget_ok (by rw [f4]; exact e4) (by omega)).2, f6 i e2 e3, if_pos rfl]
    have hg3 : q_nput (q_nputL l k i u) k i v = q_prep l u := by rw [show q_nput (q_nputL l k i u) k i v = q_got (q_nputL l k i u) k i by unfold q_nput; rw [if_pos p2], f6 i e2 e3, if_pos rfl]
    rw [hg1, hg2, hg3, p2, s3, f3, prep_idem, nall_len, nall_len, keq_self] at h
    simp [n2i] at h
  · repeat' apply And.intro
    all_goals rfl
  · obtain ⟨g0, g1⟩ := hg
    have hlt := of_decide_eq_true hlt
    have hn : ∀ M : List Sx.Obj, lget (q_nall M k) g.toNat void = q_got M k g := fun M => by
      rw [nall_at (by omega), show ((g.toNat : Nat) : Int) = g by omega]
    rw [nall_len, nall_len, hn, hn]
    have hin : inRo IntKind.i64 (g + 1) := by simp only [inRo, inR]; omega
    refine ⟨fun _ => ⟨g0, by omega⟩, fun _ => by omega, fun _ => ⟨g0, by omega⟩, fun _ => by omega, fun h => ?_, fun _ => ⟨hin, g + 1, ⟨by omega, by omega⟩, by omega, ?_⟩⟩
    · simp only [Bool.and_eq_true, Bool.not_eq_true', decide_eq_false_iff_not] at h
      rw [f6 g g0 (by omega), s6 g g0 (by omega), if_neg h.1, if_neg h.1, f3, f7, Slots.at_put _ _ _ _ (by omega), if_neg (by omega), keq_self] at h
      simp at h
    · repeat' apply And.intro
      all_goals rfl
  · rw [nall_len]
    have hn : lget (q_nall (q_nputL (q_nputL l k i u) k i v) k) i.toNat void = q_prep l v := by
      rw [nall_at (by omega), show ((i.toNat : Nat) : Int) = i by omega, s6 i e2 e3, if_pos rfl, f3]
    rw [hn, keq_self]
    refine ⟨⟨e2, by omega⟩, by omega, fun h => by simp at h, fun _ => ⟨⟨0, ⟨by omega, by omega⟩, ?_⟩, fun j hj => ⟨fun hlt => ?_, fun _ => rfl⟩⟩⟩
    · repeat' apply And.intro
      all_goals rfl
    · obtain ⟨j0, j1⟩ := hj
      have hlt : j < (l.length : Int) := of_decide_eq_true hlt
      refine ⟨fun _ => ⟨j0, hlt⟩, fun _ => by unfold llen; omega, fun h => ?_, fun _ => ⟨by simp only [inRo, inR]; omega, j + 1, ⟨by omega, by unfold llen; omega⟩, by unfold n2i llen; omega, ?_⟩⟩
      · simp only [Bool.and_eq_true, Bool.not_eq_true', decide_eq_false_iff_not] at h
        have hk := (is_all (asked_ok e1).1).2.1
        rw [get_lget j0 (by rw [s2, f2]; exact hlt), s8 _ (by omega), f8 _ (by omega)] at h
        simp [oeq] at h
      · repeat' apply And.intro
        all_goals rfl
theorem cl_nback (l : List Sx.Obj) (k : Key) (i : Int) (u v : Key) : CallTo Try.prog 3 [.sa 0, .key k, .ag [.it .i64 i, .key u, .key v]] [.ro (.arr none 163 (.ob l))] (isV (.bo true)) (fun _ _ => False) := vch_call (inl := noInl) (ann := (annL [(3, 15, lpG [0, 1, 4, 5, 6, 7, 9, 12, 18] (fun g => [(20, .it .i64 g)]) q_inv16 16), (3, 22, lpG [0, 1, 4, 5, 6, 7] (fun g => [(21, .it .i64 g)]) (q_invL l) (n2i (llen l)))])) (oks_cons ct_same (oks_cons ct_known (oks_cons ct_nget (oks_cons ct_prep (oks_cons ct_may (oks_cons ct_get oks_nil)))))) (hoks_cons hc_made (hoks_cons hc_nput (hoks_cons hc_nall hoks_nil))) (vc_nback l k i u v) (by kernel_rfl)
end Go.Proofs.Ytjpcaplhblomcaa
