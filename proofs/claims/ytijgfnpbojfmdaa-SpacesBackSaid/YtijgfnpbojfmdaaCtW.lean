/- Nodes: what is asked, got, put; the document's. No condition. The statements vc_.. are printed by a program of the claimant's own. -/
import Derived.Test.YtijgfnpbojfmdaaCtU
import Derived.Test.YtijgfnpbojfmdaaCtV
namespace Go.Proofs.Ytijgfnpbojfmdaa
open Go.Sx
set_option maxRecDepth 100000
set_option linter.unusedVariables false
set_option linter.unusedSimpArgs false
theorem vc_ngot0 (o : Sx.Obj) (k : Key) (i : Int) (hq : q_gotQ k i) :
  (0 ≤ i ∧ i < ↑16) ∧
    ((!decide (bitsI BinOp.and IntKind.i64 k.rights 2 = 0)) = true →
        q_weaken (q_prep [] (o.slots.at i.toNat)) = q_gotO [] o k i) ∧
      ((!decide (bitsI BinOp.and IntKind.i64 k.rights 2 = 0)) = false →
        q_prep [] (o.slots.at i.toNat) = q_gotO [] o k i) := by
  exact got_law hq
theorem vc_ngot (o : Sx.Obj) (L : List Sx.Obj) (k : Key) (i : Int) (hq : q_gotQ k i) :
  (0 ≤ i ∧ i < ↑16) ∧
    ((!decide (bitsI BinOp.and IntKind.i64 k.rights 2 = 0)) = true →
        q_weaken (q_prep L (o.slots.at i.toNat)) = q_gotO L o k i) ∧
      ((!decide (bitsI BinOp.and IntKind.i64 k.rights 2 = 0)) = false → q_prep L (o.slots.at i.toNat) = q_gotO L o k i) := by
  exact got_law hq
theorem ct_ngot : CtOK Try.prog 72 g_ngot :=
  mkR_ok (consA_ok (agA_ok nB_ok) (consA_ok iA_ok nilA_ok)) (fun _ => rfl) fun a hq hok => by
    obtain ⟨⟨o, S, k, _⟩, i, _⟩ := a
    cases S with
    | none => exact vc_call (inl := noInl) (ann := noAnn) (oks_cons ct_prep (oks_cons ct_weaken oks_nil)) (vc_ngot0 o k i hq) (by kernel_rfl)
    | some L => exact vc_call (inl := noInl) (ann := noAnn) (oks_cons ct_prep (oks_cons ct_weaken oks_nil)) (vc_ngot o L k i hq) (by kernel_rfl)
theorem vc_asked (L : List Sx.Obj) (k : Key) (d : Int) (c : Bool) :
  (decide (n2i (llen L) = 0) = true → 1 = q_asked L k d c) ∧
    (decide (n2i (llen L) = 0) = false →
      ((!q_is L k || !decide (k.kind = d)) = true → 190 = q_asked L k d c) ∧
        ((!q_is L k || !decide (k.kind = d)) = false →
          (c = true → pNe 4 ∧ inRo IntKind.i64 (k.rights.tmod 4)) ∧
            ((c && !decide (k.rights.tmod 4 = 0)) = true → 191 = q_asked L k d c) ∧
              ((c && !decide (k.rights.tmod 4 = 0)) = false → 0 = q_asked L k d c))) := by
  unfold q_asked
  refine ⟨fun h => ?_, fun h => ⟨fun h2 => ?_, fun h2 => ⟨fun hc => ⟨by unfold pNe; omega, ?_⟩, fun h3 => ?_, fun h3 => ?_⟩⟩⟩
  · rw [if_pos (by simpa [n2i] using h)]
  · rw [if_neg (by simpa [n2i] using h), if_pos h2]
  · have h1 := Int.tmod_lt_of_pos k.rights (show (0 : Int) < 4 by omega)
    have h2 := Int.lt_tmod_of_pos k.rights (show (0 : Int) < 4 by omega)
    simp only [inRo, inR]; omega
  · rw [if_neg (by simpa [n2i] using h), if_neg (by rw [h2]; simp), if_pos h3]
  · rw [if_neg (by simpa [n2i] using h), if_neg (by rw [h2]; simp), if_neg (by rw [h3]; simp)]
theorem ct_asked : CtOK Try.prog 75 g_asked :=
  mkR_ok (consA_ok liA_ok (consA_ok kA_ok (consA_ok iA_ok (consA_ok bA_ok nilA_ok)))) (fun _ => rfl) fun a hq hok => by
    obtain ⟨L, k, d, c, _⟩ := a
    exact vc_call (inl := noInl) (ann := noAnn) (oks_cons ct_lcounts oks_nil) (vc_asked L k d c) (by kernel_rfl)
theorem vc_dgot (L : List Sx.Obj) (k : Key) (i : Int) (hk : inR .i64 k.rights) (hq : q_dgotQ L k i) :
  (0 ≤ k.oid ∧ k.oid < ↑(llen L)) ∧
    (0 ≤ i ∧ i < ↑16) ∧
      k.oid.toNat < llen L ∧
        (pNe 2 ∧ inRo IntKind.i64 (k.rights.tdiv 2)) ∧
          (pNe 2 ∧ inRo IntKind.i64 ((k.rights.tdiv 2).tmod 2)) ∧
            (decide ((k.rights.tdiv 2).tmod 2 = 1) = true →
                q_weak (q_prep L ((lget L k.oid.toNat free).slots.at i.toNat)) = q_got L k i) ∧
              (decide ((k.rights.tdiv 2).tmod 2 = 1) = false →
                q_prep L ((lget L k.oid.toNat free).slots.at i.toNat) = q_got L k i) := by
  obtain ⟨h0, h1, h2, h3⟩ := hq
  have e2 : pNe 2 := by unfold pNe; omega
  refine ⟨⟨h2, h3⟩, ⟨h0, by omega⟩, by omega, ⟨e2, tdiv_in hk (.inr (.inl rfl))⟩, ⟨e2, tmod2_in _⟩, fun h => ?_, fun h => ?_⟩
  · unfold q_got q_gotO q_weakBit; rw [if_pos h]
  · unfold q_got q_gotO q_weakBit; rw [if_neg (by rw [h]; simp)]
theorem ct_dgot : CtOK Try.prog 34 g_dgot :=
  mkR_ok (consA_ok liA_ok (consA_ok kA_ok (consA_ok iA_ok nilA_ok))) (fun _ => rfl) fun a hq hok => by
    obtain ⟨L, k, i, _⟩ := a
    exact vc_call (inl := noInl) (ann := noAnn) (oks_cons ct_lprep (oks_cons ct_rweak oks_nil)) (vc_dgot L k i hok.2.1.2.2.2.2.1 hq) (by kernel_rfl)
theorem vc_may (L : List Sx.Obj) (k : Key) :
  (decide (q_chk k = 0) && decide (q_names k < n2i (llen L))) = q_may L k := by
  unfold q_may q_chk n2i; cases q_keyOk k <;> simp
theorem ct_may : CtOK Try.prog 31 g_may :=
  mkR_ok (consA_ok liA_ok (consA_ok kA_ok nilA_ok)) (fun _ => rfl) fun a hq hok => by
    obtain ⟨L, k, _⟩ := a
    exact vc_call (inl := noInl) (ann := noAnn) (oks_cons ct_rchk (oks_cons ct_rnames oks_nil)) (vc_may L k) (by kernel_rfl)
theorem vc_rput (L : List Sx.Obj) (i : Int) (o : Sx.Obj) (hq : q_rputQ L i) :
  pFitW (llen L) 856 ∧
    (0 ≤ i ∧ i < ↑(llen L)) ∧
      i.toNat < llen L ∧
        ∀ (nid : Nat),
          some (V.sa nid) = some (V.sa nid) ∧
            some [Res.arr (some tO) 163 (TL.ob (lset L i.toNat o))] =
              some [Res.arr (some tO) 163 (TL.ob (lset L i.toNat o))] := by
  obtain ⟨h0, h1, h2⟩ := hq
  exact ⟨⟨by simp only [maxLen]; omega, by omega⟩, ⟨h0, h1⟩, by omega, fun nid => ⟨rfl, rfl⟩⟩
theorem ct_rput : CtOK Try.prog 67 g_rput :=
  mkRN_ok (π := fun _ => [2]) (consA_ok liA_ok (consA_ok iA_ok (consA_ok oA_ok nilA_ok))) (fun _ => by simp) (fun _ _ => rfl) fun a hq hok => by
    obtain ⟨L, i, o, _⟩ := a
    exact vc_call (inl := noInl) (ann := noAnn) oks_nil (vc_rput L i o hq) (by kernel_rfl)
theorem vc_nget0 (k : Key) (i : Int) :
  true = true ∧
    true = true ∧
      ((!decide (0 < q_size [])) = true → void = q_nget [] k i ∧ 1 = q_ngetE [] k i) ∧
        ((!decide (0 < q_size [])) = false →
          true = true ∧
            ((!(q_is [] k && decide (k.kind = 2))) = true → void = q_nget [] k i ∧ 190 = q_ngetE [] k i) ∧
              ((!(q_is [] k && decide (k.kind = 2))) = false →
                true = true ∧
                  true = true ∧
                    ((!(decide (0 ≤ i) && decide (i < 16))) = true → void = q_nget [] k i ∧ 4 = q_ngetE [] k i) ∧
                      ((!(decide (0 ≤ i) && decide (i < 16))) = false →
                        q_gotQ k i ∧ q_gotO [] (q_nobj [] k) k i = q_nget [] k i ∧ 0 = q_ngetE [] k i))) := by
  have hE : ∀ e, q_asked [] k 2 false = e → e ≠ 0 → void = q_nget [] k i ∧ e = q_ngetE [] k i := fun e h h0 => by
    unfold q_nget q_ngetE
    rw [h, if_neg h0, if_neg h0]
    exact ⟨rfl, rfl⟩
  refine ⟨rfl, rfl, fun h => hE _ ?_ (by omega), fun h => ⟨rfl, fun h2 => hE _ ?_ (by omega), fun h2 => ⟨rfl, rfl, fun h3 => ?_, fun h3 => ?_⟩⟩⟩
  · unfold q_asked
    unfold q_size at h
    rw [if_pos (by simp at h; omega)]
  · unfold q_asked
    unfold q_size at h
    rw [if_neg (by simp at h; omega), if_pos (by simpa using h2)]
  · have hA : q_asked [] k 2 false = 0 := by
      unfold q_asked
      unfold q_size at h
      rw [if_neg (by simp at h; omega), if_neg (by simpa using h2), if_neg (by simp)]
    rw [Bool.not_eq_true'] at h3
    unfold q_nget q_ngetE q_nrng
    rw [hA, if_pos rfl, h3]
    exact ⟨rfl, rfl⟩
  · have hA : q_asked [] k 2 false = 0 := by
      unfold q_asked
      unfold q_size at h
      rw [if_neg (by simp at h; omega), if_neg (by simpa using h2), if_neg (by simp)]
    obtain ⟨a1, _, _⟩ := asked_ok hA
    obtain ⟨b1, b2, b3, b4, _⟩ := is_all a1
    rw [Bool.not_eq_false'] at h3
    have h3' : 0 ≤ i ∧ i < 16 := by simpa using h3
    unfold q_nget q_ngetE q_nrng
    rw [hA, if_pos rfl, h3, if_pos rfl, if_pos rfl, b4]
    exact ⟨⟨h3'.1, h3'.2, b1⟩, rfl, rfl⟩
theorem vc_nget (L : List Sx.Obj) (k : Key) (i : Int) :
  true = true ∧
    true = true ∧
      ((!decide (0 < q_size L)) = true → void = q_nget L k i ∧ 1 = q_ngetE L k i) ∧
        ((!decide (0 < q_size L)) = false →
          true = true ∧
            ((!(q_is L k && decide (k.kind = 2))) = true → void = q_nget L k i ∧ 190 = q_ngetE L k i) ∧
              ((!(q_is L k && decide (k.kind = 2))) = false →
                true = true ∧
                  true = true ∧
                    ((!(decide (0 ≤ i) && decide (i < 16))) = true → void = q_nget L k i ∧ 4 = q_ngetE L k i) ∧
                      ((!(decide (0 ≤ i) && decide (i < 16))) = false →
                        q_gotQ k i ∧ q_gotO L (q_nobj L k) k i = q_nget L k i ∧ 0 = q_ngetE L k i))) := by
  have hE : ∀ e, q_asked L k 2 false = e → e ≠ 0 → void = q_nget L k i ∧ e = q_ngetE L k i := fun e h h0 => by
    unfold q_nget q_ngetE
    rw [h, if_neg h0, if_neg h0]
    exact ⟨rfl, rfl⟩
  refine ⟨rfl, rfl, fun h => hE _ ?_ (by omega), fun h => ⟨rfl, fun h2 => hE _ ?_ (by omega), fun h2 => ⟨rfl, rfl, fun h3 => ?_, fun h3 => ?_⟩⟩⟩
  · unfold q_asked
    unfold q_size at h
    rw [if_pos (by simp at h; omega)]
  · unfold q_asked
    unfold q_size at h
    rw [if_neg (by simp at h; omega), if_pos (by simpa using h2)]
  · have hA : q_asked L k 2 false = 0 := by
      unfold q_asked
      unfold q_size at h
      rw [if_neg (by simp at h; omega), if_neg (by simpa using h2), if_neg (by simp)]
    rw [Bool.not_eq_true'] at h3
    unfold q_nget q_ngetE q_nrng
    rw [hA, if_pos rfl, h3]
    exact ⟨rfl, rfl⟩
  · have hA : q_asked L k 2 false = 0 := by
      unfold q_asked
      unfold q_size at h
      rw [if_neg (by simp at h; omega), if_neg (by simpa using h2), if_neg (by simp)]
    obtain ⟨a1, _, _⟩ := asked_ok hA
    obtain ⟨b1, b2, b3, b4, _⟩ := is_all a1
    rw [Bool.not_eq_false'] at h3
    have h3' : 0 ≤ i ∧ i < 16 := by simpa using h3
    unfold q_nget q_ngetE q_nrng
    rw [hA, if_pos rfl, h3, if_pos rfl, if_pos rfl, b4]
    exact ⟨⟨h3'.1, h3'.2, b1⟩, rfl, rfl⟩
theorem ct_nget : CtOK Try.prog 90 g_nget :=
  mkR_ok (consA_ok sA_ok (consA_ok kA_ok (consA_ok iA_ok nilA_ok))) (fun _ => rfl) fun a hq hok => by
    obtain ⟨S, k, i, _⟩ := a
    cases S with
    | none => exact vcd_call (inl := (fun f => f == 71 || f == 70)) (ann := noAnn) (oks_cons ct_size (oks_cons ct_named (oks_cons ct_ngot oks_nil))) hoks_nil (dk_one dc_caught) (vc_nget0 k i) (by kernel_rfl)
    | some L => exact vcd_call (inl := (fun f => f == 71 || f == 70)) (ann := noAnn) (oks_cons ct_size (oks_cons ct_named (oks_cons ct_ngot oks_nil))) hoks_nil (dk_one dc_caught) (vc_nget L k i) (by kernel_rfl)
end Go.Proofs.Ytijgfnpbojfmdaa
