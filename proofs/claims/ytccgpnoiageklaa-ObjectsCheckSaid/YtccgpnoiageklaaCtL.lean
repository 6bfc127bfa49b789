/- The laws of layer 4: what they come to. No condition. The statements vc_.. are printed by a program of the claimant's own. -/
import Derived.Test.YtccgpnoiageklaaCtP
namespace Go.Proofs.Ytccgpnoiageklaa
open Go.Sx
set_option maxRecDepth 100000
set_option linter.unusedVariables false
set_option linter.unusedSimpArgs false
theorem vc_known  :
  true = true ∧
  (q_newOk 2 = false → true = true ∧ false = true) ∧
    (q_newOk 2 = true →
      true = true ∧
        (decide
                    (q_put (q_new 2) 1
                        { kind := 1, count := 3, calls := free.calls, slots := free.slots, bytes := free.bytes } =
                      0) &&
                  decide
                    (q_has
                        (q_putL (q_new 2) 1
                          { kind := 1, count := 3, calls := free.calls, slots := free.slots, bytes := free.bytes })
                        1 =
                      0) &&
                decide
                  ((q_get
                        (q_putL (q_new 2) 1
                          { kind := 1, count := 3, calls := free.calls, slots := free.slots, bytes := free.bytes })
                        1).count =
                    3) &&
              decide
                (q_size
                    (q_putL (q_new 2) 1
                      { kind := 1, count := 3, calls := free.calls, slots := free.slots, bytes := free.bytes }) =
                  2) &&
            decide
              ((q_prep
                    (q_putL (q_new 2) 1
                      { kind := 1, count := 3, calls := free.calls, slots := free.slots, bytes := free.bytes })
                    { kind := 2, oid := 1, count := 3, call := void.call, rights := void.rights,
                      value := void.value }).oid =
                1)) =
          true) := by
  refine ⟨rfl, fun h => absurd h (by decide), fun _ => ⟨rfl, ?_⟩⟩
  kernel_rfl
theorem ct_known : CtOK Try.prog 11 g_known := mk0_ok rfl (vch_call (inl := noInl) (ann := noAnn) (oks_cons ct_size (oks_cons ct_get (oks_cons ct_prep oks_nil))) (hoks_cons hc_new (hoks_cons hc_put hoks_nil)) vc_known (by kernel_rfl))
theorem vc_ocheck (l : List Sx.Obj) (n : Int) (hl : l.length ≤ 9223372036854775807) :
  (decide (20 < n2i (llen l)) = true → true = true) ∧
    (decide (20 < n2i (llen l)) = false →
      (∃ g, q_invL l g ∧ n = n ∧ false = false ∧ 0 = g ∧ l = l) ∧
        ∀ (g : Int),
          q_invL l g →
            (decide (g < n2i (llen l)) = true →
                (0 ≤ g ∧ g < ↑(llen l)) ∧
                  g.toNat < llen l ∧
                    (0 ≤ g ∧ g < ↑(llen l)) ∧
                      g.toNat < llen l ∧
                        ((!decide (q_ochk (lget l g.toNat free) n = q_ochk (lget l g.toNat free) n)) = true →
                            false = true) ∧
                          ((!decide (q_ochk (lget l g.toNat free) n = q_ochk (lget l g.toNat free) n)) = false →
                            inRo IntKind.i64 (g + 1) ∧
                              ∃ g',
                                q_invL l g' ∧
                                  (n2i (llen l) - g').toNat < (n2i (llen l) - g).toNat ∧
                                    n = n ∧ false = false ∧ g + 1 = g' ∧ l = l)) ∧
              (decide (g < n2i (llen l)) = false → true = true)) := by
  refine ⟨fun _ => rfl, fun _ => ⟨⟨0, ⟨by omega, by unfold llen; omega⟩, rfl, rfl, rfl, rfl⟩, fun g hg => ⟨fun hlt => ?_, fun _ => rfl⟩⟩⟩
  obtain ⟨g0, g1⟩ := hg
  have hlt := of_decide_eq_true hlt
  unfold n2i at hlt ⊢
  have hl' : (llen l : Int) ≤ 9223372036854775807 := by unfold llen; omega
  refine ⟨⟨g0, hlt⟩, by omega, ⟨g0, hlt⟩, by omega, fun h => by simp at h, fun _ => ⟨?_, g + 1, ⟨by omega, by omega⟩, by omega, rfl, rfl, rfl, rfl⟩⟩
  simp only [inRo, inR]; omega
theorem cl_ocheck (l : List Sx.Obj) (n : Int) : CallTo Try.prog 3 [.sa 0, .it .i64 n] [.arr none 163 (.ob l)] (isV (.bo true)) (fun _ _ => False) :=
  CallTo.factA (k := 0) rfl fun _ hl => vc_call (inl := noInl) (ann := (annL [(3, 4, lpG [0, 1, 4] (fun g => [(5, .it .i64 g)]) (q_invL l) (n2i (llen l)))])) (oks_cons ct_known (oks_cons ct_ochk (oks_cons ct_rochk oks_nil))) (vc_ocheck l n hl) (by kernel_rfl)
end Go.Proofs.Ytccgpnoiageklaa
