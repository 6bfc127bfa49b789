/- Nodes: what puts, clears, clones, tells all. No condition. The statements vc_.. are printed by a program of the claimant's own. -/
import Derived.Test.YtjpcaplhblomcaaCtW
namespace Go.Proofs.Ytjpcaplhblomcaa
open Go.Sx
set_option maxRecDepth 100000
set_option linter.unusedVariables false
set_option linter.unusedSimpArgs false
theorem vc_nput0 (k : Key) (i : Int) (v : Key) :
  true = true ∧
    true = true ∧
      ((!decide (0 < q_size [])) = true → void = q_nput [] k i v ∧ 1 = q_nputE [] k i v) ∧
        ((!decide (0 < q_size [])) = false →
          true = true ∧
            ((!(q_is [] k && decide (k.kind = 2))) = true → void = q_nput [] k i v ∧ 190 = q_nputE [] k i v) ∧
              ((!(q_is [] k && decide (k.kind = 2))) = false →
                true = true ∧
                  ((!decide (bitsI BinOp.and IntKind.i64 k.rights 3 = 0)) = true →
                      void = q_nput [] k i v ∧ 191 = q_nputE [] k i v) ∧
                    ((!decide (bitsI BinOp.and IntKind.i64 k.rights 3 = 0)) = false →
                      true = true ∧
                        ((!(decide (0 ≤ i) && decide (i < 16))) = true →
                            void = q_nput [] k i v ∧ 4 = q_nputE [] k i v) ∧
                          ((!(decide (0 ≤ i) && decide (i < 16))) = false →
                            true = true ∧
                              ((!(decide (q_chk v = 0) && (!q_named v || decide (q_oid v < q_size [])))) = true →
                                  void = q_nput [] k i v ∧ 2 = q_nputE [] k i v) ∧
                                ((!(decide (q_chk v = 0) && (!q_named v || decide (q_oid v < q_size [])))) = false →
                                  q_gotQ k i ∧
                                    true = true ∧
                                      true = true ∧
                                        (0 ≤ i ∧ i < ↑16) ∧
                                          true = true ∧
                                            q_gotO [] (q_nobj [] k) k i = q_nput [] k i v ∧ 0 = q_nputE [] k i v))))) := by
  refine ⟨rfl, rfl, fun _ => ⟨rfl, rfl⟩, fun h => absurd h (by decide)⟩
theorem vc_nputz (k : Key) (i : Int) (v : Key) :
  true = true ∧
    true = true ∧
      ((!decide (0 < q_size [])) = true → void = q_nput [] k i v ∧ 1 = q_nputE [] k i v) ∧
        ((!decide (0 < q_size [])) = false →
          true = true ∧
            ((!(q_is [] k && decide (k.kind = 2))) = true → void = q_nput [] k i v ∧ 190 = q_nputE [] k i v) ∧
              ((!(q_is [] k && decide (k.kind = 2))) = false →
                true = true ∧
                  ((!decide (bitsI BinOp.and IntKind.i64 k.rights 3 = 0)) = true →
                      void = q_nput [] k i v ∧ 191 = q_nputE [] k i v) ∧
                    ((!decide (bitsI BinOp.and IntKind.i64 k.rights 3 = 0)) = false →
                      true = true ∧
                        ((!(decide (0 ≤ i) && decide (i < 16))) = true →
                            void = q_nput [] k i v ∧ 4 = q_nputE [] k i v) ∧
                          ((!(decide (0 ≤ i) && decide (i < 16))) = false →
                            true = true ∧
                              ((!(decide (q_chk v = 0) && (!q_named v || decide (q_oid v < q_size [])))) = true →
                                  void = q_nput [] k i v ∧ 2 = q_nputE [] k i v) ∧
                                ((!(decide (q_chk v = 0) && (!q_named v || decide (q_oid v < q_size [])))) = false →
                                  q_gotQ k i ∧ true = true ∧ true = true ∧ (0 ≤ i ∧ i < ↑16) ∧ true = true ∧ False))))) := by
  refine ⟨rfl, rfl, fun _ => ⟨rfl, rfl⟩, fun h => absurd h (by decide)⟩
theorem vc_nput (L : List Sx.Obj) (k : Key) (i : Int) (v : Key) (hL : q_okL L) :
  true = true ∧
    true = true ∧
      ((!decide (0 < q_size L)) = true → (void = q_nput L k i v ∧ 1 = q_nputE L k i v) ∧ L = q_nputL L k i v) ∧
        ((!decide (0 < q_size L)) = false →
          true = true ∧
            ((!(q_is L k && decide (k.kind = 2))) = true →
                (void = q_nput L k i v ∧ 190 = q_nputE L k i v) ∧ L = q_nputL L k i v) ∧
              ((!(q_is L k && decide (k.kind = 2))) = false →
                true = true ∧
                  ((!decide (bitsI BinOp.and IntKind.i64 k.rights 3 = 0)) = true →
                      (void = q_nput L k i v ∧ 191 = q_nputE L k i v) ∧ L = q_nputL L k i v) ∧
                    ((!decide (bitsI BinOp.and IntKind.i64 k.rights 3 = 0)) = false →
                      true = true ∧
                        ((!(decide (0 ≤ i) && decide (i < 16))) = true →
                            (void = q_nput L k i v ∧ 4 = q_nputE L k i v) ∧ L = q_nputL L k i v) ∧
                          ((!(decide (0 ≤ i) && decide (i < 16))) = false →
                            true = true ∧
                              ((!(decide (q_chk v = 0) && (!q_named v || decide (q_oid v < q_size L)))) = true →
                                  (void = q_nput L k i v ∧ 2 = q_nputE L k i v) ∧ L = q_nputL L k i v) ∧
                                ((!(decide (q_chk v = 0) && (!q_named v || decide (q_oid v < q_size L)))) = false →
                                  q_gotQ k i ∧
                                    true = true ∧
                                      true = true ∧
                                        (0 ≤ i ∧ i < ↑16) ∧
                                          true = true ∧
                                            (q_gotO L (q_nobj L k) k i = q_nput L k i v ∧ 0 = q_nputE L k i v) ∧
                                              q_putL L k.oid
                                                  { kind := (q_nobj L k).kind, count := (q_nobj L k).count,
                                                    calls := (q_nobj L k).calls,
                                                    slots := (q_nobj L k).slots.put i.toNat (q_prep L v),
                                                    bytes := (q_nobj L k).bytes } =
                                                q_nputL L k i v))))) := by
  have fin : ∀ e, q_nputE L k i v = e → e ≠ 0 → (void = q_nput L k i v ∧ e = q_nputE L k i v) ∧ L = q_nputL L k i v := fun e h h0 => by
    unfold q_nput q_nputL
    rw [h, if_neg h0, if_neg h0]
    exact ⟨⟨rfl, rfl⟩, rfl⟩
  have bad : ∀ e, q_asked L k 2 true = e → e ≠ 0 → q_nputE L k i v = e := fun e h h0 => by unfold q_nputE; rw [h, if_neg h0]
  refine ⟨rfl, rfl, fun h => fin _ (bad _ (ask1 h) (by omega)) (by omega), fun h => ⟨rfl, fun h2 => fin _ (bad _ (ask2 h h2) (by omega)) (by omega), fun h2 => ⟨rfl, fun h3 => fin _ (bad _ (ask3 h h2 h3) (by omega)) (by omega), fun h3 => ⟨rfl, fun h4 => fin 4 ?_ (by omega), fun h4 => ⟨rfl, fun h5 => fin 2 ?_ (by omega), fun h5 => ?_⟩⟩⟩⟩⟩
  · rw [Bool.not_eq_true'] at h4
    unfold q_nputE q_nrng
    rw [ask0 h h2 h3, if_pos rfl, h4]
    rfl
  · rw [Bool.not_eq_false'] at h4
    have hm : q_may L v = false := by rw [← may_law]; rw [Bool.not_eq_true'] at h5; exact h5
    unfold q_nputE q_nrng
    rw [ask0 h h2 h3, if_pos rfl, h4, hm]
    rfl
  · rw [Bool.not_eq_false'] at h4
    have h4' : 0 ≤ i ∧ i < 16 := by simpa using h4
    have hm : q_may L v = true := by rw [← may_law]; rw [Bool.not_eq_false'] at h5; exact h5
    have hE : q_nputE L k i v = 0 := by
      unfold q_nputE q_nrng
      rw [ask0 h h2 h3, if_pos rfl, h4, hm]
      rfl
    obtain ⟨a1, a2⟩ := ask_is h2
    obtain ⟨b1, b2, b3, b4, _⟩ := is_all a1
    have hp := (node_put hL a1 a2 (putS_fit (v := v) hL a1 a2 h4'.1 h4'.2)).1
    unfold q_nput q_nputL
    rw [hE, if_pos rfl, if_pos rfl, ← hp, b4]
    exact ⟨⟨h4'.1, h4'.2, b1⟩, rfl, rfl, ⟨h4'.1, by omega⟩, rfl, ⟨rfl, rfl⟩, rfl⟩
theorem cl_nput (L : List Sx.Obj) (k : Key) (i : Int) (v : Key) (hL : q_okL L) : CallTo Try.prog 13 [.lp 0 0, .key k, .it .i64 i, .key v] [.store tS eS L] (kS2 (.tp [.key (q_nput L k i v), .it .i64 (q_nputE L k i v)]) (q_nputL L k i v)) (fun _ _ => False) :=
  vcd_call (inl := (fun f => f == 32 || f == 31 || f == 35 || f == 36)) (ann := noAnn) (oks_cons ct_size (oks_cons ct_named (oks_cons ct_ngot (oks_cons ct_knames (oks_cons ct_kchk (oks_cons ct_prep oks_nil)))))) (hoks_cons hc_put hoks_nil) (dk_one dc_caught) (vc_nput L k i v hL) (by kernel_rfl)
theorem hc_nput : HOK Try.prog 13 h_nput :=
  hSt_ok (m := fun x => [.key x.1, .it .i64 x.2.1, .key x.2.2]) rdKIK_ok (fun _ => rfl) (fun _ _ => rfl) (fun x => vcd_call (inl := (fun f => f == 32 || f == 31 || f == 35 || f == 36)) (ann := noAnn) (oks_cons ct_size (oks_cons ct_named (oks_cons ct_ngot (oks_cons ct_knames (oks_cons ct_kchk (oks_cons ct_prep oks_nil)))))) (hoks_cons hc_put hoks_nil) (dk_one dc_caught) (vc_nput0 x.1 x.2.1 x.2.2) (by kernel_rfl)) (fun x => vcd_call (inl := (fun f => f == 32 || f == 31 || f == 35 || f == 36)) (ann := noAnn) (oks_cons ct_size (oks_cons ct_named (oks_cons ct_ngot (oks_cons ct_knames (oks_cons ct_kchk (oks_cons ct_prep oks_nil)))))) (hoks_cons hc_put hoks_nil) (dk_one dc_caught) (vc_nputz x.1 x.2.1 x.2.2) (by kernel_rfl)) fun L x hL _ _ => cl_nput L x.1 x.2.1 x.2.2 hL
theorem vc_nclr0 (k : Key) :
  true = true ∧
    true = true ∧
      ((!decide (0 < q_size [])) = true → 1 = q_asked [] k 2 true) ∧
        ((!decide (0 < q_size [])) = false →
          true = true ∧
            ((!(q_is [] k && decide (k.kind = 2))) = true → 190 = q_asked [] k 2 true) ∧
              ((!(q_is [] k && decide (k.kind = 2))) = false →
                true = true ∧
                  ((!decide (bitsI BinOp.and IntKind.i64 k.rights 3 = 0)) = true → 191 = q_asked [] k 2 true) ∧
                    ((!decide (bitsI BinOp.and IntKind.i64 k.rights 3 = 0)) = false →
                      true = true ∧ true = true ∧ true = true ∧ 0 = q_asked [] k 2 true))) := by
  refine ⟨rfl, rfl, fun _ => rfl, fun h => absurd h (by decide)⟩
theorem vc_nclrz (k : Key) :
  true = true ∧
    true = true ∧
      ((!decide (0 < q_size [])) = true → 1 = q_asked [] k 2 true) ∧
        ((!decide (0 < q_size [])) = false →
          true = true ∧
            ((!(q_is [] k && decide (k.kind = 2))) = true → 190 = q_asked [] k 2 true) ∧
              ((!(q_is [] k && decide (k.kind = 2))) = false →
                true = true ∧
                  ((!decide (bitsI BinOp.and IntKind.i64 k.rights 3 = 0)) = true → 191 = q_asked [] k 2 true) ∧
                    ((!decide (bitsI BinOp.and IntKind.i64 k.rights 3 = 0)) = false →
                      true = true ∧ true = true ∧ true = true ∧ False))) := by
  refine ⟨rfl, rfl, fun _ => rfl, fun h => absurd h (by decide)⟩
theorem vc_nclr (L : List Sx.Obj) (k : Key) (hL : q_okL L) :
  true = true ∧
    true = true ∧
      ((!decide (0 < q_size L)) = true → 1 = q_asked L k 2 true ∧ L = q_nclrL L k) ∧
        ((!decide (0 < q_size L)) = false →
          true = true ∧
            ((!(q_is L k && decide (k.kind = 2))) = true → 190 = q_asked L k 2 true ∧ L = q_nclrL L k) ∧
              ((!(q_is L k && decide (k.kind = 2))) = false →
                true = true ∧
                  ((!decide (bitsI BinOp.and IntKind.i64 k.rights 3 = 0)) = true →
                      191 = q_asked L k 2 true ∧ L = q_nclrL L k) ∧
                    ((!decide (bitsI BinOp.and IntKind.i64 k.rights 3 = 0)) = false →
                      true = true ∧
                        true = true ∧
                          true = true ∧
                            0 = q_asked L k 2 true ∧
                              q_putL L k.oid
                                  { kind := (q_nobj L k).kind, count := (q_nobj L k).count, calls := (q_nobj L k).calls,
                                    slots := noSlots, bytes := (q_nobj L k).bytes } =
                                q_nclrL L k))) := by
  have fin : ∀ e, q_asked L k 2 true = e → e ≠ 0 → e = q_asked L k 2 true ∧ L = q_nclrL L k := fun e h h0 => by
    unfold q_nclrL
    rw [h, if_neg h0]
    exact ⟨rfl, rfl⟩
  refine ⟨rfl, rfl, fun h => fin _ (ask1 h) (by omega), fun h => ⟨rfl, fun h2 => fin _ (ask2 h h2) (by omega), fun h2 => ⟨rfl, fun h3 => fin _ (ask3 h h2 h3) (by omega), fun h3 => ⟨rfl, rfl, rfl, ?_⟩⟩⟩⟩
  obtain ⟨a1, a2⟩ := ask_is h2
  have hp := (node_put hL a1 a2 (noS_fit (by omega))).1
  unfold q_nclrL
  rw [ask0 h h2 h3, if_pos rfl, ← hp]
  exact ⟨rfl, rfl⟩
theorem cl_nclr (L : List Sx.Obj) (k : Key) (hL : q_okL L) : CallTo Try.prog 19 [.lp 0 0, .key k] [.store tS eS L] (kS2 (.it .i64 (q_asked L k 2 true)) (q_nclrL L k)) (fun _ _ => False) :=
  vcd_call (inl := (fun f => f == 32 || f == 31 || f == 35 || f == 40)) (ann := noAnn) (oks_cons ct_size (oks_cons ct_named oks_nil)) (hoks_cons hc_put hoks_nil) (dk_one dc_caught) (vc_nclr L k hL) (by kernel_rfl)
theorem hc_nclr : HOK Try.prog 19 h_nclr :=
  hSt_ok (m := fun x => [.key x]) rdK_ok (fun _ => rfl) (fun _ _ => rfl) (fun x => vcd_call (inl := (fun f => f == 32 || f == 31 || f == 35 || f == 40)) (ann := noAnn) (oks_cons ct_size (oks_cons ct_named oks_nil)) (hoks_cons hc_put hoks_nil) (dk_one dc_caught) (vc_nclr0 x) (by kernel_rfl)) (fun x => vcd_call (inl := (fun f => f == 32 || f == 31 || f == 35 || f == 40)) (ann := noAnn) (oks_cons ct_size (oks_cons ct_named oks_nil)) (hoks_cons hc_put hoks_nil) (dk_one dc_caught) (vc_nclrz x) (by kernel_rfl)) fun L x hL _ _ => cl_nclr L x hL
theorem vc_nclo0 (t f : Key) :
  true = true ∧
    true = true ∧
      ((!decide (0 < q_size [])) = true → 1 = q_ncloE [] t f) ∧
        ((!decide (0 < q_size [])) = false →
          true = true ∧
            ((!(q_is [] t && decide (t.kind = 2))) = true → 190 = q_ncloE [] t f) ∧
              ((!(q_is [] t && decide (t.kind = 2))) = false →
                true = true ∧
                  ((!decide (bitsI BinOp.and IntKind.i64 t.rights 3 = 0)) = true → 191 = q_ncloE [] t f) ∧
                    ((!decide (bitsI BinOp.and IntKind.i64 t.rights 3 = 0)) = false →
                      true = true ∧
                        true = true ∧
                          ((!decide (0 < q_size [])) = true → 1 = q_ncloE [] t f) ∧
                            ((!decide (0 < q_size [])) = false →
                              true = true ∧
                                ((!(q_is [] f && decide (f.kind = 2))) = true → 190 = q_ncloE [] t f) ∧
                                  ((!(q_is [] f && decide (f.kind = 2))) = false →
                                    true = true ∧ true = true ∧ true = true ∧ False))))) := by
  refine ⟨rfl, rfl, fun _ => rfl, fun h => absurd h (by decide)⟩
theorem vc_ncloz (t f : Key) :
  true = true ∧
    true = true ∧
      ((!decide (0 < q_size [])) = true → 1 = q_ncloE [] t f) ∧
        ((!decide (0 < q_size [])) = false →
          true = true ∧
            ((!(q_is [] t && decide (t.kind = 2))) = true → 190 = q_ncloE [] t f) ∧
              ((!(q_is [] t && decide (t.kind = 2))) = false →
                true = true ∧
                  ((!decide (bitsI BinOp.and IntKind.i64 t.rights 3 = 0)) = true → 191 = q_ncloE [] t f) ∧
                    ((!decide (bitsI BinOp.and IntKind.i64 t.rights 3 = 0)) = false →
                      true = true ∧
                        true = true ∧
                          ((!decide (0 < q_size [])) = true → 1 = q_ncloE [] t f) ∧
                            ((!decide (0 < q_size [])) = false →
                              true = true ∧
                                ((!(q_is [] f && decide (f.kind = 2))) = true → 190 = q_ncloE [] t f) ∧
                                  ((!(q_is [] f && decide (f.kind = 2))) = false →
                                    true = true ∧ true = true ∧ true = true ∧ False))))) := by
  refine ⟨rfl, rfl, fun _ => rfl, fun h => absurd h (by decide)⟩
theorem vc_nclo (L : List Sx.Obj) (t f : Key) (hL : q_okL L) :
  true = true ∧
    true = true ∧
      ((!decide (0 < q_size L)) = true → 1 = q_ncloE L t f ∧ L = q_ncloL L t f) ∧
        ((!decide (0 < q_size L)) = false →
          true = true ∧
            ((!(q_is L t && decide (t.kind = 2))) = true → 190 = q_ncloE L t f ∧ L = q_ncloL L t f) ∧
              ((!(q_is L t && decide (t.kind = 2))) = false →
                true = true ∧
                  ((!decide (bitsI BinOp.and IntKind.i64 t.rights 3 = 0)) = true →
                      191 = q_ncloE L t f ∧ L = q_ncloL L t f) ∧
                    ((!decide (bitsI BinOp.and IntKind.i64 t.rights 3 = 0)) = false →
                      true = true ∧
                        true = true ∧
                          ((!decide (0 < q_size L)) = true → 1 = q_ncloE L t f ∧ L = q_ncloL L t f) ∧
                            ((!decide (0 < q_size L)) = false →
                              true = true ∧
                                ((!(q_is L f && decide (f.kind = 2))) = true →
                                    190 = q_ncloE L t f ∧ L = q_ncloL L t f) ∧
                                  ((!(q_is L f && decide (f.kind = 2))) = false →
                                    true = true ∧
                                      true = true ∧
                                        true = true ∧
                                          (∃ g,
                                              q_inv16 g ∧
                                                0 = g ∧
                                                  L = L ∧
                                                    t = t ∧
                                                      f = f ∧
                                                        t = t ∧
                                                          q_nobj L t = q_nobj L t ∧
                                                            t = t ∧
                                                              q_nobj L t = q_nobj L t ∧
                                                                q_nobj L t = q_nobj L t ∧
                                                                  t = t ∧
                                                                    f = f ∧
                                                                      q_nobj L f = q_nobj L f ∧
                                                                        f = f ∧
                                                                          q_nobj L f = q_nobj L f ∧
                                                                            q_nobj L f = q_nobj L f ∧
                                                                              f = f ∧
                                                                                q_nobj L t =
                                                                                    q_sls (q_nobj L t)
                                                                                      (q_cloS L t f g) ∧
                                                                                  t = t) ∧
                                            ∀ (g : Int),
                                              q_inv16 g →
                                                (decide (g < 16) = true →
                                                    q_gotQ f g ∧
                                                      (0 ≤ g ∧ g < ↑16) ∧
                                                        inRo IntKind.i64 (g + 1) ∧
                                                          ∃ g',
                                                            q_inv16 g' ∧
                                                              q_mu16 g' < q_mu16 g ∧
                                                                g + 1 = g' ∧
                                                                  L = L ∧
                                                                    t = t ∧
                                                                      f = f ∧
                                                                        t = t ∧
                                                                          q_nobj L t = q_nobj L t ∧
                                                                            t = t ∧
                                                                              q_nobj L t = q_nobj L t ∧
                                                                                q_nobj L t = q_nobj L t ∧
                                                                                  t = t ∧
                                                                                    f = f ∧
                                                                                      q_nobj L f = q_nobj L f ∧
                                                                                        f = f ∧
                                                                                          q_nobj L f = q_nobj L f ∧
                                                                                            q_nobj L f = q_nobj L f ∧
                                                                                              f = f ∧
                                                                                                {
                                                                                                      kind :=
                                                                                                        (q_sls
                                                                                                            (q_nobj L t)
                                                                                                            (q_cloS L t
                                                                                                              f
                                                                                                              g)).kind,
                                                                                                      count :=
                                                                                                        (q_sls
                                                                                                            (q_nobj L t)
                                                                                                            (q_cloS L t
                                                                                                              f
                                                                                                              g)).count,
                                                                                                      calls :=
                                                                                                        (q_sls
                                                                                                            (q_nobj L t)
                                                                                                            (q_cloS L t
                                                                                                              f
                                                                                                              g)).calls,
                                                                                                      slots :=
                                                                                                        (q_sls
                                                                                                                (q_nobj
                                                                                                                  L t)
                                                                                                                (q_cloS
                                                                                                                  L t f
                                                                                                                  g)).slots.put
                                                                                                          g.toNat
                                                                                                          (q_gotO L
                                                                                                            (q_nobj L f)
                                                                                                            f g),
                                                                                                      bytes :=
                                                                                                        (q_sls
                                                                                                            (q_nobj L t)
                                                                                                            (q_cloS L t
                                                                                                              f
                                                                                                              g)).bytes } =
                                                                                                    q_sls (q_nobj L t)
                                                                                                      (q_cloS L t f
                                                                                                        g') ∧
                                                                                                  t = t) ∧
                                                  (decide (g < 16) = false →
                                                    true = true ∧
                                                      0 = q_ncloE L t f ∧
                                                        q_putL L t.oid (q_sls (q_nobj L t) (q_cloS L t f g)) =
                                                          q_ncloL L t f)))))) := by
  have fin : ∀ e, q_ncloE L t f = e → e ≠ 0 → e = q_ncloE L t f ∧ L = q_ncloL L t f := fun e h h0 => by
    unfold q_ncloL
    rw [h, if_neg h0]
    exact ⟨rfl, rfl⟩
  have bad : ∀ e, q_asked L t 2 true = e → e ≠ 0 → q_ncloE L t f = e := fun e h h0 => by unfold q_ncloE; rw [h, if_neg h0]
  refine ⟨rfl, rfl, fun h => fin _ (bad _ (ask1 h) (by omega)) (by omega), fun h => ⟨rfl, fun h2 => fin _ (bad _ (ask2 h h2) (by omega)) (by omega), fun h2 => ⟨rfl, fun h3 => fin _ (bad _ (ask3 h h2 h3) (by omega)) (by omega), fun h3 => ⟨rfl, rfl, fun h4 => ?_, fun h4 => ⟨rfl, fun h5 => fin 190 ?_ (by omega), fun h5 => ⟨rfl, rfl, rfl, ?_, fun g hg => ⟨fun hlt => ?_, fun hge => ?_⟩⟩⟩⟩⟩⟩⟩
  · rw [h] at h4; simp at h4
  · unfold q_ncloE
    rw [ask0 h h2 h3, if_pos rfl, ask2 h h5]
  · obtain ⟨a1, a2⟩ := ask_is h2
    refine ⟨0, ⟨by omega, by omega⟩, ?_⟩
    have := clo_zero (f := f) (is_all a1).2.2.2.1
    repeat' apply And.intro
    all_goals first | rfl | exact this
  · obtain ⟨g0, g1⟩ := hg
    have hlt := of_decide_eq_true hlt
    obtain ⟨a1, a2⟩ := ask_is h5
    have hs := clo_step (t := t) g0 (is_all a1).2.2.2.1 (q_nobj L t) noSlots
    refine ⟨⟨g0, by omega, (is_all a1).1⟩, ⟨g0, by omega⟩, by simp only [inRo, inR]; omega, g + 1, ⟨by omega, by omega⟩, by unfold q_mu16; omega, ?_⟩
    repeat' apply And.intro
    all_goals first | rfl | exact hs
  · obtain ⟨g0, g1⟩ := hg
    have hge := of_decide_eq_false hge
    have : g = 16 := by omega
    subst this
    obtain ⟨a1, a2⟩ := ask_is h2
    have hE : q_ncloE L t f = 0 := by unfold q_ncloE; rw [ask0 h h2 h3, if_pos rfl, ask0f h h5]
    have hp := (node_put hL a1 a2 (cloS_fit (f := f) hL a1 a2 16 (by omega))).1
    unfold q_ncloL
    rw [hE, if_pos rfl]
    exact ⟨rfl, rfl, hp⟩
theorem cl_nclo (L : List Sx.Obj) (t f : Key) (hL : q_okL L) : CallTo Try.prog 20 [.lp 0 0, .key t, .key f] [.store tS eS L] (kS2 (.it .i64 (q_ncloE L t f)) (q_ncloL L t f)) (fun _ _ => False) :=
  vcd_call (inl := (fun f => f == 32 || f == 31 || f == 35 || f == 41)) (ann := (annL [(41, 1, lpP [0, 1, 2] (fun g => [(4, .it .i64 g)]) 0 (clR L t f) q_inv16 q_mu16)])) (oks_cons ct_size (oks_cons ct_named (oks_cons ct_ngot oks_nil))) (hoks_cons hc_put hoks_nil) (dk_one dc_caught) (vc_nclo L t f hL) (by kernel_rfl)
theorem hc_nclo : HOK Try.prog 20 h_nclo :=
  hSt_ok (m := fun x => [.key x.1, .key x.2]) rdKK_ok (fun _ => rfl) (fun _ _ => rfl) (fun x => vcd_call (inl := (fun f => f == 32 || f == 31 || f == 35 || f == 41)) (ann := noAnn) (oks_cons ct_size (oks_cons ct_named (oks_cons ct_ngot oks_nil))) (hoks_cons hc_put hoks_nil) (dk_one dc_caught) (vc_nclo0 x.1 x.2) (by kernel_rfl)) (fun x => vcd_call (inl := (fun f => f == 32 || f == 31 || f == 35 || f == 41)) (ann := noAnn) (oks_cons ct_size (oks_cons ct_named (oks_cons ct_ngot oks_nil))) (hoks_cons hc_put hoks_nil) (dk_one dc_caught) (vc_ncloz x.1 x.2) (by kernel_rfl)) fun L x hL _ _ => cl_nclo L x.1 x.2 hL
theorem vc_nall0 (k : Key) :
  true = true ∧
    true = true ∧
      ((!decide (0 < q_size [])) = true →
          q_allOk [] k = false ∧ Value.slice none 0 0 = Value.slice none 0 0 ∧ 1 = q_asked [] k 2 false) ∧
        ((!decide (0 < q_size [])) = false →
          true = true ∧
            ((!(q_is [] k && decide (k.kind = 2))) = true →
                q_allOk [] k = false ∧ Value.slice none 0 0 = Value.slice none 0 0 ∧ 190 = q_asked [] k 2 false) ∧
              ((!(q_is [] k && decide (k.kind = 2))) = false → true = true ∧ False)) := by
  exact ⟨rfl, rfl, fun h => ⟨rfl, rfl, (ask1 h).symm⟩, fun h => absurd h (by decide)⟩
theorem vc_nall (L : List Sx.Obj) (k : Key) :
  true = true ∧
    true = true ∧
      ((!decide (0 < q_size L)) = true →
          q_allOk L k = false ∧ Value.slice none 0 0 = Value.slice none 0 0 ∧ 1 = q_asked L k 2 false) ∧
        ((!decide (0 < q_size L)) = false →
          true = true ∧
            ((!(q_is L k && decide (k.kind = 2))) = true →
                q_allOk L k = false ∧ Value.slice none 0 0 = Value.slice none 0 0 ∧ 190 = q_asked L k 2 false) ∧
              ((!(q_is L k && decide (k.kind = 2))) = false →
                true = true ∧
                  (∃ g,
                      q_inv16 g ∧
                        k = k ∧
                          Value.slice none 0 0 = Value.slice none 0 0 ∧
                            0 = g ∧
                              L = L ∧
                                k = k ∧
                                  k = k ∧
                                    q_nobj L k = q_nobj L k ∧
                                      k = k ∧
                                        q_nobj L k = q_nobj L k ∧
                                          q_nobj L k = q_nobj L k ∧ k = k ∧ [] = q_nallG L k g) ∧
                    ∀ (g : Int),
                      q_inv16 g →
                        (decide (g < 16) = true →
                            q_gotQ k g ∧
                              pFit (llen (q_nallG L k g)) 48 ∧
                                inRo IntKind.i64 (g + 1) ∧
                                  ∃ g',
                                    q_inv16 g' ∧
                                      (16 - g').toNat < (16 - g).toNat ∧
                                        k = k ∧
                                          Value.slice none 0 0 = Value.slice none 0 0 ∧
                                            g + 1 = g' ∧
                                              L = L ∧
                                                k = k ∧
                                                  k = k ∧
                                                    q_nobj L k = q_nobj L k ∧
                                                      k = k ∧
                                                        q_nobj L k = q_nobj L k ∧
                                                          q_nobj L k = q_nobj L k ∧
                                                            k = k ∧
                                                              lapp (q_nallG L k g) (q_gotO L (q_nobj L k) k g) =
                                                                q_nallG L k g') ∧
                          (decide (g < 16) = false →
                            q_allOk L k = true ∧
                              ∀ (nid : Nat),
                                some (V.tp [V.sa nid, V.ci IntKind.i64 0]) =
                                    some (V.tp [V.sa nid, V.ci IntKind.i64 0]) ∧
                                  some [Res.arr (some 26) 6 (TL.key (q_nallG L k g))] =
                                    some [Res.arr (some 26) 6 (TL.key (q_nall L k))]))) := by
  refine ⟨rfl, rfl, fun h => ⟨by unfold q_allOk; rw [ask1 h]; rfl, rfl, (ask1 h).symm⟩, fun h => ⟨rfl, fun h2 => ⟨by unfold q_allOk; rw [ask2 h h2]; rfl, rfl, (ask2 h h2).symm⟩, fun h2 => ⟨rfl, ?_, fun g hg => ⟨fun hlt => ?_, fun hge => ?_⟩⟩⟩⟩
  · refine ⟨0, ⟨by omega, by omega⟩, ?_⟩
    repeat' apply And.intro
    all_goals rfl
  · obtain ⟨g0, g1⟩ := hg
    have hlt := of_decide_eq_true hlt
    obtain ⟨a1, a2⟩ := ask_is h2
    have hs := nall_succ g0 (is_all a1).2.2.2.1
    refine ⟨⟨g0, by omega, (is_all a1).1⟩, by rw [nallG_len]; unfold pFit; simp only [maxLen]; omega, by simp only [inRo, inR]; omega, g + 1, ⟨by omega, by omega⟩, by omega, ?_⟩
    repeat' apply And.intro
    all_goals first | rfl | exact hs
  · obtain ⟨g0, g1⟩ := hg
    have hge := of_decide_eq_false hge
    have : g = 16 := by omega
    subst this
    exact ⟨by unfold q_allOk; rw [ask0f h h2]; rfl, fun nid => ⟨rfl, rfl⟩⟩
theorem cl_nall (L : List Sx.Obj) (k : Key) : CallTo Try.prog 15 [.lp 0 0, .key k] [.ro (.store tS eS L)] (kMkV (q_allOk L k) (.tp [nlS, .it .i64 (q_asked L k 2 false)]) (fun n => .tp [.sa n, .ci .i64 0]) (.arr (some tK) 6 (.key (q_nall L k)))) (fun _ _ => False) :=
  vcd_call (inl := (fun f => f == 32 || f == 31)) (ann := (annL [(15, 5, lpS [0, 1, 2, 3, 4, 5, 6] (fun g => [(12, .it .i64 g)]) 7 tK 6 (fun g => .key (q_nallG L k g)) q_inv16 16)])) (oks_cons ct_size (oks_cons ct_named (oks_cons ct_ngot oks_nil))) hoks_nil (dk_one dc_caught) (vc_nall L k) (by kernel_rfl)
theorem hc_nall : HOK Try.prog 15 h_nall :=
  hMk_ok (consA_ok sA_ok (consA_ok kA_ok nilA_ok)) (fun _ => rfl) (fun _ => by simp) fun a _ hok => by
    obtain ⟨S, k, _⟩ := a
    cases S with
    | none => exact vcd_call (inl := (fun f => f == 32 || f == 31)) (ann := noAnn) (oks_cons ct_size (oks_cons ct_named (oks_cons ct_ngot oks_nil))) hoks_nil (dk_one dc_caught) (vc_nall0 k) (by kernel_rfl)
    | some L => exact cl_nall L k
end Go.Proofs.Ytjpcaplhblomcaa
