/- The laws of layer 13: Play, One, Nil. No condition. The statements vc_.. are printed by a program of the claimant's own. -/
import Derived.Test.YtfalhknkaebfoaaCtQf
import Derived.Test.YtfalhknkaebfoaaCtMq
namespace Go.Proofs.Ytfalhknkaebfoaa
open Go.Sx
set_option maxRecDepth 100000
set_option linter.unusedVariables false
set_option linter.unusedSimpArgs false
theorem vc_qplay (l : List Sx.Obj) (x : List Pac) (hx : ∀ i, i < llen x → q_strOk (lget x i pac0).msg.data) :
  true = true ∧ True ∧ (q_made l = false → true = true) ∧ (q_made l = true → q_vastQ (pcas x) ∧ (q_vast (pcas x) = true → true = true) ∧ (q_vast (pcas x) = false → (∃ g, q_invQ (llen x) g ∧ false = false
    ∧ 0 = g.fst ∧ l = l ∧ llen x = llen x ∧ (pcF x = pcF x) ∧ l = g.snd ∧ l = g.snd) ∧ ∀ (g : Int × List Sx.Obj), q_invQ (llen x) g → (decide (g.fst < n2i (llen x)) = true → (0 ≤ g.fst ∧ g.fst < ↑(llen x))
    ∧ g.fst.toNat < llen x ∧ true = true ∧ g.snd = g.snd ∧ (q_okL g.snd ∧ q_strOk (lget x g.fst.toNat pac0).msg.data) ∧ (q_qchg g.snd (lget x g.fst.toNat pac0) = false → ((!(!true || !q_same g.snd g.snd))
    = true → some g.snd = some g.snd ∧ q_shortL g.snd) ∧ ((!true || !q_same g.snd g.snd || !true) = true → false = true) ∧ ((!true || !q_same g.snd g.snd || !true) = false → inRo IntKind.i64 (g.fst + 1) ∧
    ∃ g', q_invQ (llen x) g' ∧ q_muQ (llen x) g' < q_muQ (llen x) g ∧ false = false ∧ g.fst + 1 = g'.fst ∧ l = l ∧ llen x = llen x ∧ (pcF x = pcF x) ∧ g.snd = g'.snd ∧ g.snd = g'.snd)) ∧ (q_qchg g.snd
    (lget x g.fst.toNat pac0) = true → ((!(!true || !q_same (q_qdoL g.snd (lget x g.fst.toNat pac0)) (q_qdoL g.snd (lget x g.fst.toNat pac0)))) = true → some (q_qdoL g.snd (lget x g.fst.toNat pac0)) = some
    (q_qdoL g.snd (lget x g.fst.toNat pac0)) ∧ q_shortL (q_qdoL g.snd (lget x g.fst.toNat pac0))) ∧ ((!true || !q_same (q_qdoL g.snd (lget x g.fst.toNat pac0)) (q_qdoL g.snd (lget x g.fst.toNat pac0)) ||
    !true) = true → false = true) ∧ ((!true || !q_same (q_qdoL g.snd (lget x g.fst.toNat pac0)) (q_qdoL g.snd (lget x g.fst.toNat pac0)) || !true) = false → inRo IntKind.i64 (g.fst + 1) ∧ ∃ g', q_invQ
    (llen x) g' ∧ q_muQ (llen x) g' < q_muQ (llen x) g ∧ false = false ∧ g.fst + 1 = g'.fst ∧ l = l ∧ llen x = llen x ∧ (pcF x = pcF x) ∧ q_qdoL g.snd (lget x g.fst.toNat pac0) = g'.snd ∧ q_qdoL g.snd
    (lget x g.fst.toNat pac0) = g'.snd))) ∧ (decide (g.fst < n2i (llen x)) = false → true = true))) := by
  have hq : q_vastQ (pcas x) := ⟨x, rfl, hx⟩
  refine ⟨rfl, trivial, fun _ => rfl, fun hm => ⟨hq, fun _ => rfl, fun hv => ⟨⟨(0, l), ⟨by simp, by simp, (made_ok hm).1⟩, (by (repeat' apply And.intro) <;> rfl)⟩, fun g hg => ⟨fun hlt => ?_, fun _ => rfl⟩⟩⟩⟩
  obtain ⟨g0, g1, g2⟩ := hg
  have hlt : g.1 < (llen x : Int) := of_decide_eq_true hlt
  have hlen : ¬ 30 < (llen x : Int) := vast_le hv
  have hin : inRo IntKind.i64 (g.1 + 1) := by simp only [inRo, inR]; omega
  have hs := hx g.1.toNat (by omega)
  have g3 := qdoL_ok (a := lget x g.1.toNat pac0) g2
  refine ⟨⟨g0, hlt⟩, by omega, rfl, rfl, ⟨g2, hs⟩, fun hc => ⟨fun _ => ⟨rfl, okL_short g2⟩, fun h => ?_, fun _ => ⟨hin, (g.1 + 1, g.2), ⟨by simp only; omega, by simp only; omega, g2⟩, by unfold q_muQ; simp only; omega, (by (repeat' apply And.intro) <;> rfl)⟩⟩, fun hc => ⟨fun _ => ⟨rfl, okL_short g3⟩, fun h => ?_, fun _ => ⟨hin, (g.1 + 1, q_qdoL g.2 (lget x g.1.toNat pac0)), ⟨by simp only; omega, by simp only; omega, g3⟩, by unfold q_muQ; simp only; omega, (by (repeat' apply And.intro) <;> rfl)⟩⟩⟩
  · rw [same_self] at h; simp at h
  · rw [same_self] at h; simp at h
theorem cl_qplay (l : List Sx.Obj) (x : List Pac) (hx : ∀ i, i < llen x → q_strOk (lget x i pac0).msg.data) : CallTo Try.prog 9 [.sa 0, .sa 1] [.ro (.arr none 163 (.ob l)), .ro (.arr none 30 (pcas x))] (isV (.bo true)) (fun _ _ => False) :=
  vch_call (inl := noInl) (ann := (annL [(9, 5, lpAl [1, 4, 5] (fun (g : Int × List Sx.Obj) => [(6, .it .i64 g.1)]) 0 163 (fun g => .ob g.2) (fun g => [(2, .store tS eS g.2)]) (q_invQ (llen x)) (q_muQ (llen x)))])) (oks_cons ct_same (oks_cons ct_known (oks_cons ct_states (oks_cons ct_vast oks_nil)))) (hoks_cons hc_made (hoks_cons hc_does hoks_nil)) (vc_qplay l x hx) (by kernel_rfl)
theorem vc_qone (l : List Sx.Obj) (x : List Pac) (hx : ∀ i, i < llen x → q_strOk (lget x i pac0).msg.data) :
  true = true ∧ True ∧ (q_made l = false → true = true) ∧ (q_made l = true → q_vastQ (pcas x) ∧ (q_vast (pcas x) = true → true = true) ∧ (q_vast (pcas x) = false → (∃ g, q_inQ (llen x) g ∧ false = false
    ∧ 0 = g ∧ l = l ∧ llen x = llen x ∧ (pcF x = pcF x) ∧ l = l) ∧ ∀ (g : Int), q_inQ (llen x) g → (decide (g < n2i (llen x)) = true → true = true ∧ True ∧ (q_made l = false → (0 ≤ g ∧ g < ↑(llen x)) ∧
    g.toNat < llen x ∧ true = true ∧ False) ∧ (q_made l = true → (0 ≤ g ∧ g < ↑(llen x)) ∧ g.toNat < llen x ∧ true = true ∧ l = l ∧ (q_okL l ∧ q_strOk (lget x g.toNat pac0).msg.data) ∧ (q_qchg l (lget x
    g.toNat pac0) = false → ((!true || !q_same l l) = true → false = true) ∧ ((!true || !q_same l l) = false → inRo IntKind.i64 (g + 1) ∧ ∃ g', q_inQ (llen x) g' ∧ (n2i (llen x) - g').toNat < (n2i (llen x)
    - g).toNat ∧ false = false ∧ g + 1 = g' ∧ l = l ∧ llen x = llen x ∧ (pcF x = pcF x) ∧ l = l)) ∧ (q_qchg l (lget x g.toNat pac0) = true → ((!true || !q_same (q_qdoL l (lget x g.toNat pac0)) (q_qdoL l
    (lget x g.toNat pac0))) = true → false = true) ∧ ((!true || !q_same (q_qdoL l (lget x g.toNat pac0)) (q_qdoL l (lget x g.toNat pac0))) = false → inRo IntKind.i64 (g + 1) ∧ ∃ g', q_inQ (llen x) g' ∧
    (n2i (llen x) - g').toNat < (n2i (llen x) - g).toNat ∧ false = false ∧ g + 1 = g' ∧ l = l ∧ llen x = llen x ∧ (pcF x = pcF x) ∧ l = l)))) ∧ (decide (g < n2i (llen x)) = false → true = true ∧ True ∧
    (q_made l = false → (none = some l ∧ q_shortL l) ∧ (true && true) = true) ∧ (q_made l = true → (some l = some l ∧ q_shortL l) ∧ (true && true) = true)))) := by
  have hq : q_vastQ (pcas x) := ⟨x, rfl, hx⟩
  refine ⟨rfl, trivial, fun _ => rfl, fun hm => ⟨hq, fun _ => rfl, fun hv => ⟨⟨0, ⟨by omega, by omega⟩, (by (repeat' apply And.intro) <;> rfl)⟩, fun g hg => ⟨fun hlt => ?_, fun _ => ⟨rfl, trivial, fun h => by rw [hm] at h; simp at h, fun _ => ⟨⟨rfl, okL_short (made_ok hm).1⟩, rfl⟩⟩⟩⟩⟩⟩
  obtain ⟨g0, g1⟩ := hg
  have hlt : g < (llen x : Int) := of_decide_eq_true hlt
  have hlen : ¬ 30 < (llen x : Int) := vast_le hv
  have hin : inRo IntKind.i64 (g + 1) := by simp only [inRo, inR]; omega
  have hs := hx g.toNat (by omega)
  have hL := (made_ok hm).1
  refine ⟨rfl, trivial, fun h => by rw [hm] at h; simp at h, fun _ => ⟨⟨g0, hlt⟩, by omega, rfl, rfl, ⟨hL, hs⟩, fun hc => ⟨fun h => ?_, fun _ => ⟨hin, g + 1, ⟨by omega, by omega⟩, by unfold n2i; omega, (by (repeat' apply And.intro) <;> rfl)⟩⟩, fun hc => ⟨fun h => ?_, fun _ => ⟨hin, g + 1, ⟨by omega, by omega⟩, by unfold n2i; omega, (by (repeat' apply And.intro) <;> rfl)⟩⟩⟩⟩
  · rw [same_self] at h; simp at h
  · rw [same_self] at h; simp at h
theorem cl_qone (l : List Sx.Obj) (x : List Pac) (hx : ∀ i, i < llen x → q_strOk (lget x i pac0).msg.data) : CallTo Try.prog 10 [.sa 0, .sa 1] [.ro (.arr none 163 (.ob l)), .ro (.arr none 30 (pcas x))] (isV (.bo true)) (fun _ _ => False) :=
  vch_call (inl := noInl) (ann := (annL [(10, 4, lpG [0, 1, 4] (fun g => [(5, .it .i64 g)]) (q_inQ (llen x)) (n2i (llen x)))])) (oks_cons ct_same (oks_cons ct_known (oks_cons ct_states (oks_cons ct_vast oks_nil)))) (hoks_cons hc_made (hoks_cons hc_does hoks_nil)) (vc_qone l x hx) (by kernel_rfl)
theorem vc_qnil (a : Pac) (hs : q_strOk a.msg.data) :
  true = true ∧ inRo IntKind.i64 (szI a.msg.data) ∧ (decide (100 < szI a.msg.data) = true → true = true) ∧ (decide (100 < szI a.msg.data) = false → true = true ∧ q_strOk a.msg.data ∧ true = true ∧
    q_strOk a.msg.data ∧ ((!q_psB [] a.oid && decide (q_ivE [] a.oid a.key a.mode a.msg = 1) && decide (q_anE [] a.oid a.msg = 1) && (decide ((q_tdM [] a.oid).code = 0) && (steq (q_tdM [] a.oid).data
    (ByteArray.mk (Array.mk [])) && (keq (q_tdM [] a.oid).k0 void && (keq (q_tdM [] a.oid).k1 void && (keq (q_tdM [] a.oid).k2 void && true)) && true))) && decide (q_tdE [] a.oid = 1)) = true → true = true
    ∧ (decide (q_bcE [] a.oid a.state = 1) = true → true = true ∧ q_shortL [] ∧ (true = false → False) ∧ (true = true → (decide (n2i (llen (q_runG [] (n2i (llen ([] : List Sx.Obj))))) = 0) && true) =
    true)) ∧ (decide (q_bcE [] a.oid a.state = 1) = false → false = true)) ∧ ((!q_psB [] a.oid && decide (q_ivE [] a.oid a.key a.mode a.msg = 1) && decide (q_anE [] a.oid a.msg = 1) && (decide ((q_tdM []
    a.oid).code = 0) && (steq (q_tdM [] a.oid).data (ByteArray.mk (Array.mk [])) && (keq (q_tdM [] a.oid).k0 void && (keq (q_tdM [] a.oid).k1 void && (keq (q_tdM [] a.oid).k2 void && true)) && true))) &&
    decide (q_tdE [] a.oid = 1)) = false → false = true)) := by
  have hb : q_psB [] a.oid = false := by
    cases h : q_psB [] a.oid with
    | false => rfl
    | true => have h0 := (psB_in h).1; have h1 := (psB_in h).2.1; simp at h1; omega
  have h1 : q_ivE [] a.oid a.key a.mode a.msg = 1 := rfl
  have h2 : q_anE [] a.oid a.msg = 1 := rfl
  have h3 : q_tdE [] a.oid = 1 := rfl
  have h4 : q_tdM [] a.oid = msg0 := rfl
  have h5 : q_bcE [] a.oid a.state = 1 := rfl
  rw [hb, h1, h2, h3, h4, h5]
  refine ⟨rfl, by unfold q_strOk at hs; simp only [inRo, inR, szI]; omega, fun _ => rfl, fun _ => ⟨rfl, hs, rfl, hs, fun _ => ⟨rfl, fun _ => ⟨rfl, by unfold q_shortL; simp, fun h => by simp at h, fun _ => rfl⟩, fun h => by simp at h⟩, fun h => absurd h (by decide)⟩⟩
theorem cl_qnil (a : Pac) (hs : q_strOk a.msg.data) : CallTo Try.prog 11 [pcaV a] [] (isV (.bo true)) (fun _ _ => False) :=
  vch_call (inl := (fun f => f == 35)) (ann := (annL [(35, 4, lpU 2)])) (oks_cons ct_known (oks_cons ct_pst (oks_cons ct_told oks_nil))) (hoks_cons hc_inv (hoks_cons hc_ans (hoks_cons hc_bec (hoks_cons hc_run hoks_nil)))) (vc_qnil a hs) (by kernel_rfl)
end Go.Proofs.Ytfalhknkaebfoaa
