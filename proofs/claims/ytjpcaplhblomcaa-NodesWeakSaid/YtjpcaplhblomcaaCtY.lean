/- Layer 9: what its statements call. No condition. The statements vc_.. are printed by a program of the claimant's own. -/
import Derived.Test.YtjpcaplhblomcaaCtM9
import Derived.Test.YtjpcaplhblomcaaSx20
namespace Go.Proofs.Ytjpcaplhblomcaa
open Go.Sx
set_option maxRecDepth 100000
set_option linter.unusedVariables false
set_option linter.unusedSimpArgs false
theorem hc_of2 : HOK Try.prog 23 (hLit h_of) := hLit_ok hc_of
theorem vc_made (l : List Sx.Obj) :
  ((decide (20 < n2i (llen l)) || !q_right l) = true → q_made l = false ∧ Value.pointer none = Value.pointer none) ∧
    ((decide (20 < n2i (llen l)) || !q_right l) = false →
      true = true ∧
        (q_right l = false → q_made l = false ∧ Value.pointer none = Value.pointer none) ∧
          (q_right l = true →
            q_made l = true ∧
              ∀ (nid : Nat),
                some (V.lp nid 0) = some (V.lp nid 0) ∧ some [Res.store 62 93 l] = some [Res.store 62 93 l])) := by
  refine ⟨fun h => ⟨?_, rfl⟩, fun h => ⟨rfl, fun hr => ⟨?_, rfl⟩, fun hr => ⟨?_, fun nid => ⟨rfl, rfl⟩⟩⟩⟩
  · unfold q_made
    unfold n2i at h
    rw [Bool.or_eq_true, decide_eq_true_eq, Bool.not_eq_true'] at h
    rcases h with h | h
    · rw [decide_eq_false (by omega)]; rfl
    · rw [h]; simp
  · unfold q_made; rw [hr]; simp
  · unfold q_made
    unfold n2i at h
    rw [hr] at h ⊢
    rw [Bool.and_true, decide_eq_true_eq]
    simp at h
    omega
theorem hc_made : HOK Try.prog 9 h_made :=
  hMk_ok (consA_ok liA_ok nilA_ok) (fun _ => rfl) (fun _ => by simp) fun a _ hok => by
    obtain ⟨l, _⟩ := a
    exact vch_call (inl := noInl) (ann := noAnn) (oks_cons ct_right oks_nil) (hoks_cons hc_of hoks_nil) (vc_made l) (by kernel_rfl)
theorem vc_known  :
  true = true ∧
  (q_right [{ kind := 1, count := 1, calls := free.calls, slots := free.slots, bytes := free.bytes }] = false →
      true = true ∧
        (decide
                (q_nputE []
                    { kind := 2, oid := void.oid, count := 1, call := void.call, rights := void.rights,
                      value := void.value }
                    3
                    { kind := 1, oid := void.oid, count := void.count, call := void.call, rights := void.rights,
                      value := 7 } =
                  0) &&
              decide
                (q_ngetE []
                    { kind := 2, oid := void.oid, count := 1, call := void.call, rights := void.rights,
                      value := void.value }
                    3 =
                  0) &&
            decide
              ((q_nget []
                    { kind := 2, oid := void.oid, count := 1, call := void.call, rights := void.rights,
                      value := void.value }
                    3).value =
                7)) =
          true) ∧
    (q_right [{ kind := 1, count := 1, calls := free.calls, slots := free.slots, bytes := free.bytes }] = true →
      true = true ∧
        q_okL [{ kind := 1, count := 1, calls := free.calls, slots := free.slots, bytes := free.bytes }] ∧
          (decide
                  (q_nputE [{ kind := 1, count := 1, calls := free.calls, slots := free.slots, bytes := free.bytes }]
                      { kind := 2, oid := void.oid, count := 1, call := void.call, rights := void.rights,
                        value := void.value }
                      3
                      { kind := 1, oid := void.oid, count := void.count, call := void.call, rights := void.rights,
                        value := 7 } =
                    0) &&
                decide
                  (q_ngetE
                      (q_nputL
                        [{ kind := 1, count := 1, calls := free.calls, slots := free.slots, bytes := free.bytes }]
                        { kind := 2, oid := void.oid, count := 1, call := void.call, rights := void.rights,
                          value := void.value }
                        3
                        { kind := 1, oid := void.oid, count := void.count, call := void.call, rights := void.rights,
                          value := 7 })
                      { kind := 2, oid := void.oid, count := 1, call := void.call, rights := void.rights,
                        value := void.value }
                      3 =
                    0) &&
              decide
                ((q_nget
                      (q_nputL
                        [{ kind := 1, count := 1, calls := free.calls, slots := free.slots, bytes := free.bytes }]
                        { kind := 2, oid := void.oid, count := 1, call := void.call, rights := void.rights,
                          value := void.value }
                        3
                        { kind := 1, oid := void.oid, count := void.count, call := void.call, rights := void.rights,
                          value := 7 })
                      { kind := 2, oid := void.oid, count := 1, call := void.call, rights := void.rights,
                        value := void.value }
                      3).value =
                  7)) =
            true) := by
  refine ⟨rfl, fun h => absurd h (by decide), fun _ => ⟨rfl, ?_, ?_⟩⟩
  · unfold q_okL; kernel_rfl
  · kernel_rfl
theorem ct_known : CtOK Try.prog 11 g_known := mk0_ok rfl (vch_call (inl := noInl) (ann := noAnn) (oks_cons ct_nget oks_nil) (hoks_cons hc_of2 (hoks_cons hc_nput hoks_nil)) vc_known (by kernel_rfl))
theorem vc_does (L : List Sx.Obj) (a : Acx) (hL : q_okL L) :
  (decide (a.kind = 1) = true →
      true = true ∧
        ((decide (q_asked L a.key 2 false = 0) && (decide (a.slot < 0) || decide (15 < a.slot))) = true →
            (keq (q_nget L a.key a.slot) void && decide (q_ngetE L a.key a.slot = 4)) = true ∧
              q_dchg L a = false ∧ L = L) ∧
          ((decide (q_asked L a.key 2 false = 0) && (decide (a.slot < 0) || decide (15 < a.slot))) = false →
            ((!decide (q_asked L a.key 2 false = 0)) = true →
                (keq (q_nget L a.key a.slot) void && decide (q_ngetE L a.key a.slot = q_asked L a.key 2 false)) =
                    true ∧
                  q_dchg L a = false ∧ L = L) ∧
              ((!decide (q_asked L a.key 2 false = 0)) = false →
                q_dgotQ L a.key a.slot ∧
                  (keq (q_nget L a.key a.slot) (q_got L a.key a.slot) && decide (q_ngetE L a.key a.slot = 0)) = true ∧
                    q_dchg L a = false ∧ L = L))) ∧
    (decide (a.kind = 1) = false →
      (decide (a.kind = 2) = true →
          true = true ∧
            q_okL L ∧
              true = true ∧
                ((decide (q_asked L a.key 2 true = 0) && (decide (a.slot < 0) || decide (15 < a.slot))) = true →
                    (keq (q_nput L a.key a.slot a.other) void && decide (q_nputE L a.key a.slot a.other = 4)) = true ∧
                      q_dchg L a = false ∧ q_nputL L a.key a.slot a.other = L) ∧
                  ((decide (q_asked L a.key 2 true = 0) && (decide (a.slot < 0) || decide (15 < a.slot))) = false →
                    ((decide (q_asked L a.key 2 true = 0) && !q_may L a.other) = true →
                        (keq (q_nput L a.key a.slot a.other) void && decide (q_nputE L a.key a.slot a.other = 2)) =
                            true ∧
                          q_dchg L a = false ∧ q_nputL L a.key a.slot a.other = L) ∧
                      ((decide (q_asked L a.key 2 true = 0) && !q_may L a.other) = false →
                        ((!decide (q_asked L a.key 2 true = 0)) = true →
                            (keq (q_nput L a.key a.slot a.other) void &&
                                  decide (q_nputE L a.key a.slot a.other = q_asked L a.key 2 true)) =
                                true ∧
                              q_dchg L a = false ∧ q_nputL L a.key a.slot a.other = L) ∧
                          ((!decide (q_asked L a.key 2 true = 0)) = false →
                            q_dgotQ L a.key a.slot ∧
                              (0 ≤ a.key.oid ∧ a.key.oid < ↑(llen L)) ∧
                                a.key.oid.toNat < llen L ∧
                                  (0 ≤ a.slot ∧ a.slot < ↑16) ∧
                                    q_rputQ L a.key.oid ∧
                                      (keq (q_nput L a.key a.slot a.other) (q_got L a.key a.slot) &&
                                            decide (q_nputE L a.key a.slot a.other = 0)) =
                                          true ∧
                                        q_dchg L a = true ∧
                                          q_nputL L a.key a.slot a.other = q_doesL L a ∧
                                            lset L a.key.oid.toNat
                                                { kind := (lget L a.key.oid.toNat free).kind,
                                                  count := (lget L a.key.oid.toNat free).count,
                                                  calls := (lget L a.key.oid.toNat free).calls,
                                                  slots :=
                                                    (lget L a.key.oid.toNat free).slots.put a.slot.toNat
                                                      (q_prep L a.other),
                                                  bytes := (lget L a.key.oid.toNat free).bytes } =
                                              q_doesL L a)))) ∧
        (decide (a.kind = 2) = false →
          (decide (a.kind = 3) = true →
              true = true ∧
                q_okL L ∧
                  true = true ∧
                    ((!decide (q_asked L a.key 2 true = 0)) = true →
                        decide (q_asked L a.key 2 true = q_asked L a.key 2 true) = true ∧
                          q_dchg L a = false ∧ q_nclrL L a.key = L) ∧
                      ((!decide (q_asked L a.key 2 true = 0)) = false →
                        (0 ≤ a.key.oid ∧ a.key.oid < ↑(llen L)) ∧
                          a.key.oid.toNat < llen L ∧
                            q_rputQ L a.key.oid ∧
                              decide (q_asked L a.key 2 true = 0) = true ∧
                                q_dchg L a = true ∧
                                  q_nclrL L a.key = q_doesL L a ∧
                                    lset L a.key.oid.toNat
                                        { kind := (lget L a.key.oid.toNat free).kind,
                                          count := (lget L a.key.oid.toNat free).count,
                                          calls := (lget L a.key.oid.toNat free).calls, slots := noSlots,
                                          bytes := (lget L a.key.oid.toNat free).bytes } =
                                      q_doesL L a)) ∧
            (decide (a.kind = 3) = false →
              (decide (a.kind = 4) = true →
                  true = true ∧
                    q_okL L ∧
                      true = true ∧
                        (decide (q_asked L a.key 2 true = 0) = true →
                            ((!decide (q_asked L a.other 2 false = 0)) = true →
                                decide (q_ncloE L a.key a.other = q_asked L a.other 2 false) = true ∧
                                  q_dchg L a = false ∧ q_ncloL L a.key a.other = L) ∧
                              ((!decide (q_asked L a.other 2 false = 0)) = false →
                                (0 ≤ a.key.oid ∧ a.key.oid < ↑(llen L)) ∧
                                  a.key.oid.toNat < llen L ∧
                                    (∃ g,
                                        q_inv16 g ∧
                                          a.key = a.key ∧
                                            a.other = a.other ∧
                                              Value.slice none 0 0 = Value.slice none 0 0 ∧
                                                q_asked L a.other 2 false = q_asked L a.other 2 false ∧
                                                  0 = g ∧
                                                    q_ncloL L a.key a.other = q_ncloL L a.key a.other ∧
                                                      L = L ∧
                                                        a.kind = a.kind ∧
                                                          a.slot = a.slot ∧
                                                            a.key = a.key ∧
                                                              a.other = a.other ∧
                                                                a.key = a.key ∧
                                                                  a.other = a.other ∧
                                                                    lget L a.key.oid.toNat free =
                                                                      q_sls (lget L a.key.oid.toNat free)
                                                                        (q_cloS L a.key a.other g)) ∧
                                      ∀ (g : Int),
                                        q_inv16 g →
                                          (decide (g < 16) = true →
                                              q_dgotQ L a.other g ∧
                                                (0 ≤ g ∧ g < ↑16) ∧
                                                  inRo IntKind.i64 (g + 1) ∧
                                                    ∃ g',
                                                      q_inv16 g' ∧
                                                        q_mu16 g' < q_mu16 g ∧
                                                          a.key = a.key ∧
                                                            a.other = a.other ∧
                                                              Value.slice none 0 0 = Value.slice none 0 0 ∧
                                                                q_asked L a.other 2 false = q_asked L a.other 2 false ∧
                                                                  g + 1 = g' ∧
                                                                    q_ncloL L a.key a.other = q_ncloL L a.key a.other ∧
                                                                      L = L ∧
                                                                        a.kind = a.kind ∧
                                                                          a.slot = a.slot ∧
                                                                            a.key = a.key ∧
                                                                              a.other = a.other ∧
                                                                                a.key = a.key ∧
                                                                                  a.other = a.other ∧
                                                                                    {
                                                                                        kind :=
                                                                                          (q_sls
                                                                                              (lget L a.key.oid.toNat
                                                                                                free)
                                                                                              (q_cloS L a.key a.other
                                                                                                g)).kind,
                                                                                        count :=
                                                                                          (q_sls
                                                                                              (lget L a.key.oid.toNat
                                                                                                free)
                                                                                              (q_cloS L a.key a.other
                                                                                                g)).count,
                                                                                        calls :=
                                                                                          (q_sls
                                                                                              (lget L a.key.oid.toNat
                                                                                                free)
                                                                                              (q_cloS L a.key a.other
                                                                                                g)).calls,
                                                                                        slots :=
                                                                                          (q_sls
                                                                                                  (lget L
                                                                                                    a.key.oid.toNat
                                                                                                    free)
                                                                                                  (q_cloS L a.key
                                                                                                    a.other
                                                                                                    g)).slots.put
                                                                                            g.toNat (q_got L a.other g),
                                                                                        bytes :=
                                                                                          (q_sls
                                                                                              (lget L a.key.oid.toNat
                                                                                                free)
                                                                                              (q_cloS L a.key a.other
                                                                                                g)).bytes } =
                                                                                      q_sls
                                                                                        (lget L a.key.oid.toNat free)
                                                                                        (q_cloS L a.key a.other g')) ∧
                                            (decide (g < 16) = false →
                                              q_rputQ L a.key.oid ∧
                                                decide (q_ncloE L a.key a.other = 0) = true ∧
                                                  q_dchg L a = true ∧
                                                    q_ncloL L a.key a.other = q_doesL L a ∧
                                                      lset L a.key.oid.toNat
                                                          (q_sls (lget L a.key.oid.toNat free)
                                                            (q_cloS L a.key a.other g)) =
                                                        q_doesL L a))) ∧
                          (decide (q_asked L a.key 2 true = 0) = false →
                            ((!decide (q_asked L a.key 2 true = 0)) = true →
                                decide (q_ncloE L a.key a.other = q_asked L a.key 2 true) = true ∧
                                  q_dchg L a = false ∧ q_ncloL L a.key a.other = L) ∧
                              ((!decide (q_asked L a.key 2 true = 0)) = false →
                                (0 ≤ a.key.oid ∧ a.key.oid < ↑(llen L)) ∧
                                  a.key.oid.toNat < llen L ∧
                                    (∃ g,
                                        q_inv16 g ∧
                                          a.key = a.key ∧
                                            a.other = a.other ∧
                                              Value.slice none 0 0 = Value.slice none 0 0 ∧
                                                q_asked L a.key 2 true = q_asked L a.key 2 true ∧
                                                  0 = g ∧
                                                    q_ncloL L a.key a.other = q_ncloL L a.key a.other ∧
                                                      L = L ∧
                                                        a.kind = a.kind ∧
                                                          a.slot = a.slot ∧
                                                            a.key = a.key ∧
                                                              a.other = a.other ∧
                                                                a.key = a.key ∧
                                                                  a.other = a.other ∧
                                                                    lget L a.key.oid.toNat free =
                                                                      q_sls (lget L a.key.oid.toNat free)
                                                                        (q_cloS L a.key a.other g)) ∧
                                      ∀ (g : Int),
                                        q_inv16 g →
                                          (decide (g < 16) = true →
                                              q_dgotQ L a.other g ∧
                                                (0 ≤ g ∧ g < ↑16) ∧
                                                  inRo IntKind.i64 (g + 1) ∧
                                                    ∃ g',
                                                      q_inv16 g' ∧
                                                        q_mu16 g' < q_mu16 g ∧
                                                          a.key = a.key ∧
                                                            a.other = a.other ∧
                                                              Value.slice none 0 0 = Value.slice none 0 0 ∧
                                                                q_asked L a.key 2 true = q_asked L a.key 2 true ∧
                                                                  g + 1 = g' ∧
                                                                    q_ncloL L a.key a.other = q_ncloL L a.key a.other ∧
                                                                      L = L ∧
                                                                        a.kind = a.kind ∧
                                                                          a.slot = a.slot ∧
                                                                            a.key = a.key ∧
                                                                              a.other = a.other ∧
                                                                                a.key = a.key ∧
                                                                                  a.other = a.other ∧
                                                                                    {
                                                                                        kind :=
                                                                                          (q_sls
                                                                                              (lget L a.key.oid.toNat
                                                                                                free)
                                                                                              (q_cloS L a.key a.other
                                                                                                g)).kind,
                                                                                        count :=
                                                                                          (q_sls
                                                                                              (lget L a.key.oid.toNat
                                                                                                free)
                                                                                              (q_cloS L a.key a.other
                                                                                                g)).count,
                                                                                        calls :=
                                                                                          (q_sls
                                                                                              (lget L a.key.oid.toNat
                                                                                                free)
                                                                                              (q_cloS L a.key a.other
                                                                                                g)).calls,
                                                                                        slots :=
                                                                                          (q_sls
                                                                                                  (lget L
                                                                                                    a.key.oid.toNat
                                                                                                    free)
                                                                                                  (q_cloS L a.key
                                                                                                    a.other
                                                                                                    g)).slots.put
                                                                                            g.toNat (q_got L a.other g),
                                                                                        bytes :=
                                                                                          (q_sls
                                                                                              (lget L a.key.oid.toNat
                                                                                                free)
                                                                                              (q_cloS L a.key a.other
                                                                                                g)).bytes } =
                                                                                      q_sls
                                                                                        (lget L a.key.oid.toNat free)
                                                                                        (q_cloS L a.key a.other g')) ∧
                                            (decide (g < 16) = false →
                                              q_rputQ L a.key.oid ∧
                                                decide (q_ncloE L a.key a.other = 0) = true ∧
                                                  q_dchg L a = true ∧
                                                    q_ncloL L a.key a.other = q_doesL L a ∧
                                                      lset L a.key.oid.toNat
                                                          (q_sls (lget L a.key.oid.toNat free)
                                                            (q_cloS L a.key a.other g)) =
                                                        q_doesL L a)))) ∧
                (decide (a.kind = 4) = false →
                  true = true ∧
                    True ∧
                      (q_allOk L a.key = false →
                          ((!decide (q_asked L a.key 2 false = q_asked L a.key 2 false) ||
                                  !decide (q_asked L a.key 2 false = 0)) =
                                true →
                              (decide (q_asked L a.key 2 false = q_asked L a.key 2 false) || false) = true ∧
                                q_dchg L a = false ∧ L = L) ∧
                            ((!decide (q_asked L a.key 2 false = q_asked L a.key 2 false) ||
                                  !decide (q_asked L a.key 2 false = 0)) =
                                false →
                              (∃ g,
                                  q_inv16 g ∧
                                    a.kind = a.kind ∧
                                      a.slot = a.slot ∧
                                        a.key = a.key ∧
                                          a.other = a.other ∧
                                            Value.slice none 0 0 = Value.slice none 0 0 ∧
                                              q_asked L a.key 2 false = q_asked L a.key 2 false ∧
                                                q_asked L a.key 2 false = q_asked L a.key 2 false ∧
                                                  0 = g ∧
                                                    L = L ∧
                                                      L = L ∧
                                                        a.kind = a.kind ∧
                                                          a.slot = a.slot ∧ a.key = a.key ∧ a.other = a.other) ∧
                                ∀ (g : Int),
                                  q_inv16 g →
                                    (decide (g < 0) = true → False) ∧
                                      (decide (g < 0) = false → false = true ∧ q_dchg L a = false ∧ L = L))) ∧
                        (q_allOk L a.key = true →
                          ((!decide (0 = q_asked L a.key 2 false) || !decide (q_asked L a.key 2 false = 0)) = true →
                              (decide (0 = q_asked L a.key 2 false) && decide (n2i (llen (q_nall L a.key)) = 0)) =
                                  true ∧
                                q_dchg L a = false ∧ L = L) ∧
                            ((!decide (0 = q_asked L a.key 2 false) || !decide (q_asked L a.key 2 false = 0)) =
                                false →
                              (∃ g,
                                  q_inv16 g ∧
                                    a.kind = a.kind ∧
                                      a.slot = a.slot ∧
                                        a.key = a.key ∧
                                          a.other = a.other ∧
                                            q_asked L a.key 2 false = q_asked L a.key 2 false ∧
                                              0 = g ∧
                                                L = L ∧
                                                  L = L ∧
                                                    a.kind = a.kind ∧
                                                      a.slot = a.slot ∧
                                                        a.key = a.key ∧
                                                          a.other = a.other ∧ q_nall L a.key = q_nall L a.key) ∧
                                ∀ (g : Int),
                                  q_inv16 g →
                                    (decide (g < n2i (llen (q_nall L a.key))) = true →
                                        (0 ≤ g ∧ g < ↑(llen (q_nall L a.key))) ∧
                                          g.toNat < llen (q_nall L a.key) ∧
                                            q_dgotQ L a.key g ∧
                                              ((!keq (lget (q_nall L a.key) g.toNat void) (q_got L a.key g)) = true →
                                                  false = true ∧ q_dchg L a = false ∧ L = L) ∧
                                                ((!keq (lget (q_nall L a.key) g.toNat void) (q_got L a.key g)) = false →
                                                  inRo IntKind.i64 (g + 1) ∧
                                                    ∃ g',
                                                      q_inv16 g' ∧
                                                        (16 - g').toNat < (16 - g).toNat ∧
                                                          a.kind = a.kind ∧
                                                            a.slot = a.slot ∧
                                                              a.key = a.key ∧
                                                                a.other = a.other ∧
                                                                  q_asked L a.key 2 false = q_asked L a.key 2 false ∧
                                                                    g + 1 = g' ∧
                                                                      L = L ∧
                                                                        L = L ∧
                                                                          a.kind = a.kind ∧
                                                                            a.slot = a.slot ∧
                                                                              a.key = a.key ∧
                                                                                a.other = a.other ∧
                                                                                  q_nall L a.key = q_nall L a.key)) ∧
                                      (decide (g < n2i (llen (q_nall L a.key))) = false →
                                        decide (n2i (llen (q_nall L a.key)) = 16) = true ∧
                                          q_dchg L a = false ∧ L = L))))))) := by
  refine ⟨fun h1 => ?_, fun h1 => ⟨fun h2 => ?_, fun h2 => ⟨fun h3 => ?_, fun h3 => ⟨fun h4 => ?_, fun h4 => ?_⟩⟩⟩⟩
  · have h1 := of_decide_eq_true h1
    have hc : q_dchg L a = false := by unfold q_dchg; rw [if_pos h1]
    refine ⟨rfl, fun h => ⟨?_, hc, rfl⟩, fun h => ⟨fun h' => ⟨?_, hc, rfl⟩, fun h' => ⟨?_, ?_, hc, rfl⟩⟩⟩
    · simp only [Bool.and_eq_true, Bool.or_eq_true, decide_eq_true_eq] at h
      obtain ⟨e1, e2⟩ := nget_rng h.1 h.2
      rw [e1, e2, keq_self]; rfl
    · have h' : q_asked L a.key 2 false ≠ 0 := by simpa using h'
      obtain ⟨e1, e2⟩ := nget_bad (i := a.slot) h'
      rw [e1, e2, keq_self]; simp
    · have h' : q_asked L a.key 2 false = 0 := by simpa using h'
      have hr : ¬ (a.slot < 0 ∨ 15 < a.slot) := by rw [h'] at h; simpa using h
      obtain ⟨_, b2, b3, _⟩ := is_all (asked_ok h').1
      exact ⟨by omega, by omega, b2, b3⟩
    · have h' : q_asked L a.key 2 false = 0 := by simpa using h'
      have hr : ¬ (a.slot < 0 ∨ 15 < a.slot) := by rw [h'] at h; simpa using h
      obtain ⟨e1, e2⟩ := nget_ok h' hr
      rw [e1, e2, keq_self]; rfl
  · have h1 := of_decide_eq_false h1
    have h2 := of_decide_eq_true h2
    have hc : q_dchg L a = decide (q_nputE L a.key a.slot a.other = 0) := by unfold q_dchg; rw [if_neg h1, if_pos h2]
    have hd : q_doesL L a = q_nputL L a.key a.slot a.other := by unfold q_doesL; rw [if_neg h1, if_pos h2]
    rw [hc, hd]
    refine ⟨rfl, hL, rfl, fun h => ?_, fun h => ⟨fun h' => ?_, fun h' => ⟨fun h'' => ?_, fun h'' => ?_⟩⟩⟩
    · simp only [Bool.and_eq_true, Bool.or_eq_true, decide_eq_true_eq] at h
      obtain ⟨e1, e2, e3⟩ := nput_rng (v := a.other) h.1 h.2
      rw [e1, e2, e3, keq_self]; exact ⟨rfl, rfl, rfl⟩
    · simp only [Bool.and_eq_true, Bool.not_eq_true', decide_eq_true_eq] at h'
      have hr : ¬ (a.slot < 0 ∨ 15 < a.slot) := by rw [h'.1] at h; simpa using h
      obtain ⟨e1, e2, e3⟩ := nput_arg h'.1 hr h'.2
      rw [e1, e2, e3, keq_self]; exact ⟨rfl, rfl, rfl⟩
    · have h'' : q_asked L a.key 2 true ≠ 0 := by simpa using h''
      obtain ⟨e1, e2, e3⟩ := nput_bad (i := a.slot) (v := a.other) h''
      rw [e1, e2, e3, keq_self]; exact ⟨by simp, by simpa using h'', rfl⟩
    · have h'' : q_asked L a.key 2 true = 0 := by simpa using h''
      have hr : ¬ (a.slot < 0 ∨ 15 < a.slot) := by rw [h''] at h; simpa using h
      have hm : q_may L a.other = true := by rw [h''] at h'; simpa using h'
      obtain ⟨e1, e2, e3⟩ := nput_ok h'' hr hm
      obtain ⟨r1, r2, r3, r4⟩ := rput_ok hL (asked_ok h'').1
      rw [e1, e2, e3, keq_self]
      exact ⟨⟨by omega, by omega, r2, r3⟩, ⟨r2, r3⟩, r4, ⟨by omega, by omega⟩, r1, rfl, rfl, rfl, rfl⟩
  · have h1 := of_decide_eq_false h1
    have h2 := of_decide_eq_false h2
    have h3 := of_decide_eq_true h3
    have hc : q_dchg L a = decide (q_asked L a.key 2 true = 0) := by unfold q_dchg; rw [if_neg h1, if_neg h2, if_pos h3]
    have hd : q_doesL L a = q_nclrL L a.key := by unfold q_doesL; rw [if_neg h1, if_neg h2, if_pos h3]
    rw [hc, hd]
    refine ⟨rfl, hL, rfl, fun h => ?_, fun h => ?_⟩
    · have h : q_asked L a.key 2 true ≠ 0 := by simpa using h
      exact ⟨by simp, by simpa using h, by unfold q_nclrL; rw [if_neg h]⟩
    · have h : q_asked L a.key 2 true = 0 := by simpa using h
      obtain ⟨r1, r2, r3, r4⟩ := rput_ok hL (asked_ok h).1
      exact ⟨⟨r2, r3⟩, r4, r1, by simpa using h, by simpa using h, rfl, by unfold q_nclrL; rw [if_pos h]; rfl⟩
  · have h1 := of_decide_eq_false h1
    have h2 := of_decide_eq_false h2
    have h3 := of_decide_eq_false h3
    have h4 := of_decide_eq_true h4
    have hc : q_dchg L a = decide (q_ncloE L a.key a.other = 0) := by unfold q_dchg; rw [if_neg h1, if_neg h2, if_neg h3, if_pos h4]
    have hd : q_doesL L a = q_ncloL L a.key a.other := by unfold q_doesL; rw [if_neg h1, if_neg h2, if_neg h3, if_pos h4]
    rw [hc, hd]
    have no : ∀ e, q_ncloE L a.key a.other = e → e ≠ 0 → decide (q_ncloE L a.key a.other = e) = true ∧ decide (q_ncloE L a.key a.other = 0) = false ∧ q_ncloL L a.key a.other = L := fun e h h0 => by
      refine ⟨by simpa using h, by rw [h]; simpa using h0, by unfold q_ncloL; rw [h, if_neg h0]⟩
    refine ⟨rfl, hL, rfl, fun h => ⟨fun h' => ?_, fun h' => ?_⟩, fun h => ⟨fun h' => ?_, fun h' => ?_⟩⟩
    · have h := of_decide_eq_true h
      have h' : q_asked L a.other 2 false ≠ 0 := by simpa using h'
      exact no _ (by unfold q_ncloE; rw [if_pos h]) h'
    · have h := of_decide_eq_true h
      have h' : q_asked L a.other 2 false = 0 := by simpa using h'
      have hE : q_ncloE L a.key a.other = 0 := by unfold q_ncloE; rw [if_pos h]; exact h'
      obtain ⟨r1, r2, r3, r4⟩ := rput_ok hL (asked_ok h).1
      obtain ⟨_, s2, s3, _⟩ := rput_ok hL (asked_ok h').1
      have hk := (is_all (asked_ok h).1).2.2.2.1
      have ho := (is_all (asked_ok h').1).2.2.2.1
      refine ⟨⟨r2, r3⟩, r4, ⟨0, ⟨by omega, by omega⟩, ?_⟩, fun g hg => ⟨fun hlt => ?_, fun hge => ?_⟩⟩
      · have hz := clo_zero (f := a.other) hk
        rw [hk] at hz
        repeat' apply And.intro
        all_goals first | rfl | exact hz
      · obtain ⟨g0, g1⟩ := hg
        have hlt := of_decide_eq_true hlt
        have hs := clo_step (t := a.key) g0 ho (lget L a.key.oid.toNat free) noSlots
        rw [ho] at hs
        refine ⟨⟨g0, by omega, s2, s3⟩, ⟨g0, by omega⟩, by simp only [inRo, inR]; omega, g + 1, ⟨by omega, by omega⟩, by unfold q_mu16; omega, ?_⟩
        repeat' apply And.intro
        all_goals first | rfl | exact hs
      · obtain ⟨g0, g1⟩ := hg
        have hge := of_decide_eq_false hge
        have : g = 16 := by omega
        subst this
        exact ⟨r1, by simpa using hE, by simpa using hE, rfl, by unfold q_ncloL; rw [hE, if_pos rfl]; rfl⟩
    · have h := of_decide_eq_false h
      exact no _ (by unfold q_ncloE; rw [if_neg h]) h
    · rw [h] at h'; simp at h'
  · have h1 := of_decide_eq_false h1
    have h2 := of_decide_eq_false h2
    have h3 := of_decide_eq_false h3
    have h4 := of_decide_eq_false h4
    have hc : q_dchg L a = false := by unfold q_dchg; rw [if_neg h1, if_neg h2, if_neg h3, if_neg h4]
    refine ⟨rfl, trivial, fun h => ⟨fun h' => ⟨by simp, hc, rfl⟩, fun h' => ?_⟩, fun h => ⟨fun h' => ?_, fun h' => ⟨⟨0, ⟨by omega, by omega⟩, ?_⟩, fun g hg => ?_⟩⟩⟩
    · unfold q_allOk at h
      simp [h] at h'
    · unfold q_allOk at h
      have h := of_decide_eq_true h
      rw [h] at h'; simp at h'
    · repeat' apply And.intro
      all_goals rfl
    · unfold q_allOk at h
      have h := of_decide_eq_true h
      obtain ⟨_, s2, s3, _⟩ := rput_ok hL (asked_ok h).1
      rw [nall_len]
      obtain ⟨g0, g1⟩ := hg
      refine ⟨fun hlt => ?_, fun hge => ⟨rfl, hc, rfl⟩⟩
      have hlt := of_decide_eq_true hlt
      have hn : n2i 16 = 16 := rfl
      rw [hn] at hlt
      have e : lget (q_nall L a.key) g.toNat void = q_got L a.key g := by
        rw [nall_at (L := L) (k := a.key) (j := g.toNat) (by omega), show ((g.toNat : Nat) : Int) = g by omega]
      rw [e, keq_self]
      refine ⟨⟨g0, by omega⟩, by omega, ⟨g0, by omega, s2, s3⟩, fun h => by simp at h, fun _ => ⟨by simp only [inRo, inR]; omega, g + 1, ⟨by omega, by omega⟩, by omega, ?_⟩⟩
      repeat' apply And.intro
      all_goals rfl
theorem cl_does (L : List Sx.Obj) (a : Acx) (hL : q_okL L) : CallTo Try.prog 21 [.lp 0 0, .sa 1, actV a] [.store tS eS L, .ro (.arr none 163 (.ob L))] (kDo (q_dchg L a) L (q_doesL L a)) (fun _ _ => False) :=
  vch_call (inl := (fun f => f == 42 || f == 43 || f == 44 || f == 45)) (ann := (annL [(45, 8, lpP [0, 1, 2, 3, 4, 5, 6, 7, 8, 9] (fun g => [(10, .it .i64 g)]) 9 (fun g => .blk tO (.ob (q_sls (lget L (i2n a.key.oid) free) (q_cloS L a.key a.other g)))) q_inv16 q_mu16), (21, 23, lpG [0, 1, 2, 3, 4, 5, 23, 24, 25] (fun g => [(26, .it .i64 g)]) q_inv16 16)])) (oks_cons ct_nget (oks_cons ct_asked (oks_cons ct_dgot (oks_cons ct_may (oks_cons ct_rput (oks_cons ct_lprep oks_nil)))))) (hoks_cons hc_nput (hoks_cons hc_nclr (hoks_cons hc_nclo (hoks_cons hc_nall hoks_nil)))) (vc_does L a hL) (by kernel_rfl)
end Go.Proofs.Ytjpcaplhblomcaa
