/- The laws of layer 4: what they come to. No condition. The statements vc_.. are printed by a program of the claimant's own. -/
import Derived.Test.YtccgpnoiageklaaCtP
namespace Go.Proofs.Ytccgpnoiageklaa
open Go.Sx
set_option maxRecDepth 100000
set_option linter.unusedVariables false
set_option linter.unusedSimpArgs false
theorem vc_known  :
  true = true ∧
  (q_newOk 2 = false → true = true ∧ false = true) ∧
    (q_newOk 2 = true →
      true = true ∧
        (decide
                    (q_put (q_new 2) 1
                        { kind := 1, count := 3, calls := free.calls, slots := free.slots, bytes := free.bytes } =
                      0) &&
                  decide
                    (q_has
                        (q_putL (q_new 2) 1
                          { kind := 1, count := 3, calls := free.calls, slots := free.slots, bytes := free.bytes })
                        1 =
                      0) &&
                decide
                  ((q_get
                        (q_putL (q_new 2) 1
                          { kind := 1, count := 3, calls := free.calls, slots := free.slots, bytes := free.bytes })
                        1).count =
                    3) &&
              decide
                (q_size
                    (q_putL (q_new 2) 1
                      { kind := 1, count := 3, calls := free.calls, slots := free.slots, bytes := free.bytes }) =
                  2) &&
            decide
              ((q_prep
                    (q_putL (q_new 2) 1
                      { kind := 1, count := 3, calls := free.calls, slots := free.slots, bytes := free.bytes })
                    { kind := 2, oid := 1, count := 3, call := void.call, rights := void.rights,
                      value := void.value }).oid =
                1)) =
          true) := by
  refine ⟨rfl, fun h => absurd h (by decide), fun _ => ⟨rfl, ?_⟩⟩
  kernel_rfl
theorem ct_known : CtOK Try.prog 11 g_known := mk0_ok rfl (vch_call (inl := noInl) (ann := noAnn) (oks_cons ct_size (oks_cons ct_get (oks_cons ct_prep oks_nil))) (hoks_cons hc_new (hoks_cons hc_put hoks_nil)) vc_known (by kernel_rfl))
theorem vc_ocheck (l : List Sx.Obj) (n : Int) (hl : l.length ≤ 9223372036854775807) :
  (decide (20 < n2i (llen l)) = true → true = true) ∧
    (decide (20 < n2i (llen l)) = false →
      (∃ g, q_invL l g ∧ n = n ∧ false = false ∧ 0 = g ∧ l = l) ∧
        ∀ (g : Int),
          q_invL l g →
            (decide (g < n2i (llen l)) = true →
                (0 ≤ g ∧ g < ↑(llen l)) ∧
                  g.toNat < llen l ∧
                    (0 ≤ g ∧ g < ↑(llen l)) ∧
                      g.toNat < llen l ∧
                        ((!decide (q_ochk (lget l g.toNat free) n = q_ochk (lget l g.toNat free) n)) = true →
                            false = true) ∧
                          ((!decide (q_ochk (lget l g.toNat free) n = q_ochk (lget l g.toNat free) n)) = false →
                            inRo IntKind.i64 (g + 1) ∧
                              ∃ g',
                                q_invL l g' ∧
                                  (n2i (llen l) - g').toNat < (n2i (llen l) - g).toNat ∧
                                    n = n ∧ false = false ∧ g + 1 = g' ∧ l = l)) ∧
              (decide (g < n2i (llen l)) = false → true = true)) := by
  refine ⟨fun _ => rfl, fun _ => ⟨⟨0, ⟨by omega, by unfold llen; omega⟩, rfl, rfl, rfl, rfl⟩, fun g hg => ⟨fun hlt => ?_, fun _ => rfl⟩⟩⟩
  obtain ⟨g0, g1⟩ := hg
  have hlt := of_decide_eq_true hlt
  unfold n2i at hlt ⊢
  have hl' : (llen l : Int) ≤ 9223372036854775807 := by unfold llen; omega
  refine ⟨⟨g0, hlt⟩, by omega, ⟨g0, hlt⟩, by omega, fun h => by simp at h, fun _ => ⟨?_, g + 1, ⟨by omega, by omega⟩, by omega, rfl, rfl, rfl, rfl⟩⟩
  simp only [inRo, inR]; omega
theorem cl_ocheck (l : List Sx.Obj) (n : Int) : CallTo Try.prog 3 [.sa 0, .it .i64 n] [.arr none 163 (.ob l)] (isV (.bo true)) (fun _ _ => False) :=
  CallTo.factA (k := 0) rfl fun _ hl => vc_call (inl := noInl) (ann := (annL [(3, 4, lpG [0, 1, 4] (fun g => [(5, .it .i64 g)]) (q_invL l) (n2i (llen l)))])) (oks_cons ct_known (oks_cons ct_ochk (oks_cons ct_rochk oks_nil))) (vc_ocheck l n hl) (by kernel_rfl)
theorem vc_onear (o : Sx.Obj) (n : Int) :
  (∃ g, q_inv40 g ∧ o = o ∧ n = n ∧ false = false ∧ imax (-9) (imin n 100) = imax (-9) (imin n 100) ∧ 0 = g ∧ o = o) ∧
    ∀ (g : Int),
      q_inv40 g →
        (decide (g < 40) = true →
            (decide (g < 5) = true →
                inRo IntKind.i64 (g - 1) ∧
                  ((!decide
                            (q_ochk
                                { kind := g - 1, count := o.count, calls := o.calls, slots := o.slots,
                                  bytes := o.bytes }
                                n =
                              q_ochk
                                { kind := g - 1, count := o.count, calls := o.calls, slots := o.slots,
                                  bytes := o.bytes }
                                n)) =
                        true →
                      false = true) ∧
                    ((!decide
                            (q_ochk
                                { kind := g - 1, count := o.count, calls := o.calls, slots := o.slots,
                                  bytes := o.bytes }
                                n =
                              q_ochk
                                { kind := g - 1, count := o.count, calls := o.calls, slots := o.slots,
                                  bytes := o.bytes }
                                n)) =
                        false →
                      inRo IntKind.i64 (g + 1) ∧
                        ∃ g',
                          q_inv40 g' ∧
                            (40 - g').toNat < (40 - g).toNat ∧
                              o = o ∧
                                n = n ∧
                                  false = false ∧
                                    imax (-9) (imin n 100) = imax (-9) (imin n 100) ∧ g + 1 = g' ∧ o = o)) ∧
              (decide (g < 5) = false →
                (decide (g < 8) = true →
                    inRo IntKind.i64 (g - 5) ∧
                      (0 ≤ g - 5 ∧ g - 5 < ↑3) ∧
                        ((!decide
                                  (q_ochk
                                      { kind := o.kind, count := lget [-1, 4294967295, 4294967296] (g - 5).toNat 0,
                                        calls := o.calls, slots := o.slots, bytes := o.bytes }
                                      n =
                                    q_ochk
                                      { kind := o.kind, count := lget [-1, 4294967295, 4294967296] (g - 5).toNat 0,
                                        calls := o.calls, slots := o.slots, bytes := o.bytes }
                                      n)) =
                              true →
                            false = true) ∧
                          ((!decide
                                  (q_ochk
                                      { kind := o.kind, count := lget [-1, 4294967295, 4294967296] (g - 5).toNat 0,
                                        calls := o.calls, slots := o.slots, bytes := o.bytes }
                                      n =
                                    q_ochk
                                      { kind := o.kind, count := lget [-1, 4294967295, 4294967296] (g - 5).toNat 0,
                                        calls := o.calls, slots := o.slots, bytes := o.bytes }
                                      n)) =
                              false →
                            inRo IntKind.i64 (g + 1) ∧
                              ∃ g',
                                q_inv40 g' ∧
                                  (40 - g').toNat < (40 - g).toNat ∧
                                    o = o ∧
                                      n = n ∧
                                        false = false ∧
                                          imax (-9) (imin n 100) = imax (-9) (imin n 100) ∧ g + 1 = g' ∧ o = o)) ∧
                  (decide (g < 8) = false →
                    (decide (g < 12) = true →
                        inRo IntKind.i64 (g - 8) ∧
                          (0 ≤ g - 8 ∧ g - 8 < ↑4) ∧
                            ((!decide
                                      (q_ochk
                                          { kind := o.kind, count := o.count,
                                            calls := lget [-1, 1, 4294967295, 4294967296] (g - 8).toNat 0,
                                            slots := o.slots, bytes := o.bytes }
                                          n =
                                        q_ochk
                                          { kind := o.kind, count := o.count,
                                            calls := lget [-1, 1, 4294967295, 4294967296] (g - 8).toNat 0,
                                            slots := o.slots, bytes := o.bytes }
                                          n)) =
                                  true →
                                false = true) ∧
                              ((!decide
                                      (q_ochk
                                          { kind := o.kind, count := o.count,
                                            calls := lget [-1, 1, 4294967295, 4294967296] (g - 8).toNat 0,
                                            slots := o.slots, bytes := o.bytes }
                                          n =
                                        q_ochk
                                          { kind := o.kind, count := o.count,
                                            calls := lget [-1, 1, 4294967295, 4294967296] (g - 8).toNat 0,
                                            slots := o.slots, bytes := o.bytes }
                                          n)) =
                                  false →
                                inRo IntKind.i64 (g + 1) ∧
                                  ∃ g',
                                    q_inv40 g' ∧
                                      (40 - g').toNat < (40 - g).toNat ∧
                                        o = o ∧
                                          n = n ∧
                                            false = false ∧
                                              imax (-9) (imin n 100) = imax (-9) (imin n 100) ∧ g + 1 = g' ∧ o = o)) ∧
                      (decide (g < 12) = false →
                        (decide (g < 24) = true →
                            inRo IntKind.i64 (g - 10) ∧
                              inRo IntKind.i64 (g - 12) ∧
                                inRo IntKind.i64 (imax (-9) (imin n 100) - 1) ∧
                                  (0 ≤ g - 10 ∧ g - 10 < ↑16) ∧
                                    ((!decide
                                              (q_ochk
                                                  { kind := o.kind, count := o.count, calls := o.calls,
                                                    slots :=
                                                      o.slots.put (g - 10).toNat
                                                        { kind := g - 12, oid := imax (-9) (imin n 100) - 1,
                                                          count := void.count, call := void.call, rights := void.rights,
                                                          value := void.value },
                                                    bytes := o.bytes }
                                                  n =
                                                q_ochk
                                                  { kind := o.kind, count := o.count, calls := o.calls,
                                                    slots :=
                                                      o.slots.put (g - 10).toNat
                                                        { kind := g - 12, oid := imax (-9) (imin n 100) - 1,
                                                          count := void.count, call := void.call, rights := void.rights,
                                                          value := void.value },
                                                    bytes := o.bytes }
                                                  n)) =
                                          true →
                                        false = true) ∧
                                      ((!decide
                                              (q_ochk
                                                  { kind := o.kind, count := o.count, calls := o.calls,
                                                    slots :=
                                                      o.slots.put (g - 10).toNat
                                                        { kind := g - 12, oid := imax (-9) (imin n 100) - 1,
                                                          count := void.count, call := void.call, rights := void.rights,
                                                          value := void.value },
                                                    bytes := o.bytes }
                                                  n =
                                                q_ochk
                                                  { kind := o.kind, count := o.count, calls := o.calls,
                                                    slots :=
                                                      o.slots.put (g - 10).toNat
                                                        { kind := g - 12, oid := imax (-9) (imin n 100) - 1,
                                                          count := void.count, call := void.call, rights := void.rights,
                                                          value := void.value },
                                                    bytes := o.bytes }
                                                  n)) =
                                          false →
                                        inRo IntKind.i64 (g + 1) ∧
                                          ∃ g',
                                            q_inv40 g' ∧
                                              (40 - g').toNat < (40 - g).toNat ∧
                                                o = o ∧
                                                  n = n ∧
                                                    false = false ∧
                                                      imax (-9) (imin n 100) = imax (-9) (imin n 100) ∧
                                                        g + 1 = g' ∧ o = o)) ∧
                          (decide (g < 24) = false →
                            (decide (g < 30) = true →
                                inRo IntKind.i64 (g - 24) ∧
                                  inRo IntKind.i64 (imax (-9) (imin n 100) + g) ∧
                                    inRo IntKind.i64 (imax (-9) (imin n 100) + g - 27) ∧
                                      (0 ≤ g - 24 ∧ g - 24 < ↑16) ∧
                                        ((!decide
                                                  (q_ochk
                                                      { kind := o.kind, count := o.count, calls := o.calls,
                                                        slots :=
                                                          o.slots.put (g - 24).toNat
                                                            { kind := 2, oid := imax (-9) (imin n 100) + g - 27,
                                                              count := void.count, call := void.call,
                                                              rights := void.rights, value := void.value },
                                                        bytes := o.bytes }
                                                      n =
                                                    q_ochk
                                                      { kind := o.kind, count := o.count, calls := o.calls,
                                                        slots :=
                                                          o.slots.put (g - 24).toNat
                                                            { kind := 2, oid := imax (-9) (imin n 100) + g - 27,
                                                              count := void.count, call := void.call,
                                                              rights := void.rights, value := void.value },
                                                        bytes := o.bytes }
                                                      n)) =
                                              true →
                                            false = true) ∧
                                          ((!decide
                                                  (q_ochk
                                                      { kind := o.kind, count := o.count, calls := o.calls,
                                                        slots :=
                                                          o.slots.put (g - 24).toNat
                                                            { kind := 2, oid := imax (-9) (imin n 100) + g - 27,
                                                              count := void.count, call := void.call,
                                                              rights := void.rights, value := void.value },
                                                        bytes := o.bytes }
                                                      n =
                                                    q_ochk
                                                      { kind := o.kind, count := o.count, calls := o.calls,
                                                        slots :=
                                                          o.slots.put (g - 24).toNat
                                                            { kind := 2, oid := imax (-9) (imin n 100) + g - 27,
                                                              count := void.count, call := void.call,
                                                              rights := void.rights, value := void.value },
                                                        bytes := o.bytes }
                                                      n)) =
                                              false →
                                            inRo IntKind.i64 (g + 1) ∧
                                              ∃ g',
                                                q_inv40 g' ∧
                                                  (40 - g').toNat < (40 - g).toNat ∧
                                                    o = o ∧
                                                      n = n ∧
                                                        false = false ∧
                                                          imax (-9) (imin n 100) = imax (-9) (imin n 100) ∧
                                                            g + 1 = g' ∧ o = o)) ∧
                              (decide (g < 30) = false →
                                (0 ≤ g ∧ g < ↑64) ∧
                                  ((!decide
                                            (q_ochk
                                                { kind := o.kind, count := o.count, calls := o.calls, slots := o.slots,
                                                  bytes :=
                                                    o.bytes.put g.toNat
                                                      {
                                                        toBitVec :=
                                                          {
                                                            toFin :=
                                                              ⟨1,
                                                                Nat.mod_lt (Int.toNat 1)
                                                                  (BitVec.ofNat._proof_1 8)⟩ } } }
                                                n =
                                              q_ochk
                                                { kind := o.kind, count := o.count, calls := o.calls, slots := o.slots,
                                                  bytes :=
                                                    o.bytes.put g.toNat
                                                      {
                                                        toBitVec :=
                                                          {
                                                            toFin :=
                                                              ⟨1,
                                                                Nat.mod_lt (Int.toNat 1)
                                                                  (BitVec.ofNat._proof_1 8)⟩ } } }
                                                n)) =
                                        true →
                                      false = true) ∧
                                    ((!decide
                                            (q_ochk
                                                { kind := o.kind, count := o.count, calls := o.calls, slots := o.slots,
                                                  bytes :=
                                                    o.bytes.put g.toNat
                                                      {
                                                        toBitVec :=
                                                          {
                                                            toFin :=
                                                              ⟨1,
                                                                Nat.mod_lt (Int.toNat 1)
                                                                  (BitVec.ofNat._proof_1 8)⟩ } } }
                                                n =
                                              q_ochk
                                                { kind := o.kind, count := o.count, calls := o.calls, slots := o.slots,
                                                  bytes :=
                                                    o.bytes.put g.toNat
                                                      {
                                                        toBitVec :=
                                                          {
                                                            toFin :=
                                                              ⟨1,
                                                                Nat.mod_lt (Int.toNat 1)
                                                                  (BitVec.ofNat._proof_1 8)⟩ } } }
                                                n)) =
                                        false →
                                      inRo IntKind.i64 (g + 1) ∧
                                        ∃ g',
                                          q_inv40 g' ∧
                                            (40 - g').toNat < (40 - g).toNat ∧
                                              o = o ∧
                                                n = n ∧
                                                  false = false ∧
                                                    imax (-9) (imin n 100) = imax (-9) (imin n 100) ∧
                                                      g + 1 = g' ∧ o = o))))))) ∧
          (decide (g < 40) = false → true = true) := by
  refine ⟨⟨0, ⟨by omega, by omega⟩, rfl, rfl, rfl, rfl, rfl, rfl⟩, fun g hg => ⟨fun hlt => ?_, fun _ => rfl⟩⟩
  obtain ⟨g0, g1⟩ := hg
  have hlt := of_decide_eq_true hlt
  have T : inRo IntKind.i64 (g + 1) ∧ ∃ g', q_inv40 g' ∧ (40 - g').toNat < (40 - g).toNat ∧ o = o ∧ n = n ∧ false = false ∧ imax (-9) (imin n 100) = imax (-9) (imin n 100) ∧ g + 1 = g' ∧ o = o :=
    ⟨by simp only [inRo, inR]; omega, g + 1, ⟨by omega, by omega⟩, by omega, rfl, rfl, rfl, rfl, rfl, rfl⟩
  have E : ∀ e : Int, ((!decide (e = e)) = true → false = true) ∧ ((!decide (e = e)) = false → inRo IntKind.i64 (g + 1) ∧ ∃ g', q_inv40 g' ∧ (40 - g').toNat < (40 - g).toNat ∧ o = o ∧ n = n ∧ false = false ∧ imax (-9) (imin n 100) = imax (-9) (imin n 100) ∧ g + 1 = g' ∧ o = o) :=
    fun e => ⟨fun h => by simp at h, fun _ => T⟩
  have hm : -9 ≤ imax (-9) (imin n 100) ∧ imax (-9) (imin n 100) ≤ 100 := by
    unfold imax imin
    split <;> split <;> omega
  clear T
  generalize imax (-9) (imin n 100) = m at *
  repeat' first | exact E _ | apply And.intro | (intro h; first | replace h := of_decide_eq_true h | replace h := of_decide_eq_false h)
  all_goals (try simp only [inRo, inR])
  all_goals omega
theorem cl_onear (o : Sx.Obj) (n : Int) : CallTo Try.prog 4 [.ob o, .it .i64 n] [] (isV (.bo true)) (fun _ _ => False) :=
  vc_call (inl := noInl) (ann := (annL [(4, 3, lpG [0, 1, 2, 4, 5] (fun g => [(6, .it .i64 g)]) q_inv40 40)])) (oks_cons ct_known (oks_cons ct_ochk (oks_cons ct_rochk oks_nil))) (vc_onear o n) (by kernel_rfl)
theorem vc_okeys (l : List Sx.Obj) (k : List Sx.Key) (hk : k.length ≤ 9223372036854775807) :
  ((decide (20 < n2i (llen l)) || decide (40 < n2i (llen k)) || !q_right l) = true → true = true) ∧
    ((decide (20 < n2i (llen l)) || decide (40 < n2i (llen k)) || !q_right l) = false →
      true = true ∧
        (q_right l = false → false = true) ∧
          (q_right l = true →
            (∃ g, q_invK k g ∧ false = false ∧ 0 = g ∧ l = l ∧ k = k ∧ l = l) ∧
              ∀ (g : Int),
                q_invK k g →
                  (decide (g < n2i (llen k)) = true →
                      (0 ≤ g ∧ g < ↑(llen k)) ∧
                        g.toNat < llen k ∧
                          (0 ≤ g ∧ g < ↑(llen k)) ∧
                            g.toNat < llen k ∧
                              (0 ≤ g ∧ g < ↑(llen k)) ∧
                                g.toNat < llen k ∧
                                  ((q_is l (lget k g.toNat void) &&
                                          !!q_is l (lget k g.toNat void) == q_is l (lget k g.toNat void)) =
                                        true →
                                      0 ≤ g ∧ g < ↑(llen k)) ∧
                                    ((q_is l (lget k g.toNat void) &&
                                            !!q_is l (lget k g.toNat void) == q_is l (lget k g.toNat void)) =
                                          true →
                                        g.toNat < llen k) ∧
                                      ((q_is l (lget k g.toNat void) &&
                                              !!q_is l (lget k g.toNat void) == q_is l (lget k g.toNat void)) =
                                            true →
                                          0 ≤ q_names (lget k g.toNat void) ∧
                                            q_names (lget k g.toNat void) < ↑(llen l)) ∧
                                        ((q_is l (lget k g.toNat void) &&
                                                !!q_is l (lget k g.toNat void) == q_is l (lget k g.toNat void)) =
                                              true →
                                            (q_names (lget k g.toNat void)).toNat < llen l) ∧
                                          ((!(!q_is l (lget k g.toNat void) == q_is l (lget k g.toNat void) ||
                                                      q_is l (lget k g.toNat void) &&
                                                        !oeq (q_nobj l (lget k g.toNat void))
                                                            (lget l (q_names (lget k g.toNat void)).toNat free) ||
                                                    !q_is l (lget k g.toNat void) &&
                                                      !oeq (q_nobj l (lget k g.toNat void)) free)) =
                                                true →
                                              0 ≤ g ∧ g < ↑(llen k)) ∧
                                            ((!(!q_is l (lget k g.toNat void) == q_is l (lget k g.toNat void) ||
                                                        q_is l (lget k g.toNat void) &&
                                                          !oeq (q_nobj l (lget k g.toNat void))
                                                              (lget l (q_names (lget k g.toNat void)).toNat free) ||
                                                      !q_is l (lget k g.toNat void) &&
                                                        !oeq (q_nobj l (lget k g.toNat void)) free)) =
                                                  true →
                                                g.toNat < llen k) ∧
                                              ((!q_is l (lget k g.toNat void) == q_is l (lget k g.toNat void) ||
                                                            q_is l (lget k g.toNat void) &&
                                                              !oeq (q_nobj l (lget k g.toNat void))
                                                                  (lget l (q_names (lget k g.toNat void)).toNat free) ||
                                                          !q_is l (lget k g.toNat void) &&
                                                            !oeq (q_nobj l (lget k g.toNat void)) free ||
                                                        !keq (q_prep l (lget k g.toNat void))
                                                            (q_prep l (lget k g.toNat void)) ||
                                                      !keq (q_prep l (q_prep l (lget k g.toNat void)))
                                                          (q_prep l (lget k g.toNat void))) =
                                                    true →
                                                  false = true) ∧
                                                ((!q_is l (lget k g.toNat void) == q_is l (lget k g.toNat void) ||
                                                            q_is l (lget k g.toNat void) &&
                                                              !oeq (q_nobj l (lget k g.toNat void))
                                                                  (lget l (q_names (lget k g.toNat void)).toNat free) ||
                                                          !q_is l (lget k g.toNat void) &&
                                                            !oeq (q_nobj l (lget k g.toNat void)) free ||
                                                        !keq (q_prep l (lget k g.toNat void))
                                                            (q_prep l (lget k g.toNat void)) ||
                                                      !keq (q_prep l (q_prep l (lget k g.toNat void)))
                                                          (q_prep l (lget k g.toNat void))) =
                                                    false →
                                                  inRo IntKind.i64 (g + 1) ∧
                                                    ∃ g',
                                                      q_invK k g' ∧
                                                        (n2i (llen k) - g').toNat < (n2i (llen k) - g).toNat ∧
                                                          false = false ∧ g + 1 = g' ∧ l = l ∧ k = k ∧ l = l)) ∧
                    (decide (g < n2i (llen k)) = false → true = true))) := by
  refine ⟨fun _ => rfl, fun h0 => ⟨rfl, fun hr => ?_, fun hr => ⟨⟨0, ⟨by omega, by omega⟩, rfl, rfl, rfl, rfl, rfl⟩, fun g hg => ⟨fun hlt => ?_, fun _ => rfl⟩⟩⟩⟩
  · rw [hr] at h0; simp at h0
  · obtain ⟨g0, g1⟩ := hg
    have hlt := of_decide_eq_true hlt
    have hle := len_cast k
    have hle2 := len_cast l
    simp only [len_llen] at hlt ⊢
    have hb : 0 ≤ g ∧ g < ↑(llen k) := ⟨g0, by omega⟩
    have hn : g.toNat < llen k := by omega
    generalize lget k g.toNat void = x
    have hi : ∀ b : Bool, (q_is l x && b) = true → 0 ≤ q_names x ∧ q_names x < ↑(llen l) ∧ (q_names x).toNat < llen l := fun b h => by
      simp only [Bool.and_eq_true] at h
      have := is_names h.1
      omega
    exact ⟨hb, hn, hb, hn, hb, hn, fun _ => hb, fun _ => hn, fun h => ⟨(hi _ h).1, (hi _ h).2.1⟩, fun h => (hi _ h).2.2, fun _ => hb, fun _ => hn, fun h => by rw [keys_law] at h; simp at h,
      fun _ => ⟨by simp only [inRo, inR]; omega, g + 1, ⟨by omega, by omega⟩, by omega, trivial, rfl, trivial, trivial, trivial⟩⟩
theorem cl_okeys (l : List Sx.Obj) (k : List Sx.Key) : CallTo Try.prog 6 [.sa 0, .sa 1] [.arr none 163 (.ob l), .arr none 6 (.key k)] (isV (.bo true)) (fun _ _ => False) :=
  CallTo.factL (k := 1) rfl fun hk => vch_call (inl := noInl) (ann := (annL [(6, 7, lpG [0, 1, 4, 5, 6] (fun g => [(7, .it .i64 g)]) (q_invK k) (n2i (llen k)))])) (oks_cons ct_known (oks_cons ct_right (oks_cons ct_rnames (oks_cons ct_lcounts (oks_cons ct_lprep (oks_cons ct_named (oks_cons ct_prep oks_nil))))))) (hoks_cons hc_of hoks_nil) (vc_okeys l k hk) (by kernel_rfl)
end Go.Proofs.Ytccgpnoiageklaa
