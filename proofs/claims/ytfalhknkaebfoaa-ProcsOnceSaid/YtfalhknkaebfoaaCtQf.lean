/- Layer 13: what its statements call. No condition. The statements vc_.. are printed by a program of the claimant's own. -/
import Derived.Test.YtfalhknkaebfoaaCtQe
import Derived.Test.YtfalhknkaebfoaaSpQl
import Derived.Test.YtfalhknkaebfoaaSxF
namespace Go.Proofs.Ytfalhknkaebfoaa
open Go.Sx
set_option maxRecDepth 100000
set_option linter.unusedVariables false
set_option linter.unusedSimpArgs false
theorem hc_of2 : HOK Try.prog 43 (hLit h_of) := hLit_ok hc_of
theorem vc_made (l : List Sx.Obj) :
  ((decide (20 < n2i (llen l)) || !q_right l) = true → q_made l = false ∧ Value.pointer none = Value.pointer none) ∧ ((decide (20 < n2i (llen l)) || !q_right l) = false → true = true ∧ (q_right l = false
    → q_made l = false ∧ Value.pointer none = Value.pointer none) ∧ (q_right l = true → q_made l = true ∧ ∀ (nid : Nat), some (V.lp nid 0) = some (V.lp nid 0) ∧ some [Res.store 75 118 l] = some [Res.store
    75 118 l])) := by
  refine ⟨fun h => ⟨?_, rfl⟩, fun h => ⟨rfl, fun hr => ⟨?_, rfl⟩, fun hr => ⟨?_, fun nid => ⟨rfl, rfl⟩⟩⟩⟩
  · unfold q_made
    unfold n2i at h
    rw [Bool.or_eq_true, decide_eq_true_eq, Bool.not_eq_true'] at h
    rcases h with h | h
    · rw [decide_eq_false (by omega)]; rfl
    · rw [h]; simp
  · unfold q_made; rw [hr]; simp
  · unfold q_made
    unfold n2i at h
    rw [hr] at h ⊢
    rw [Bool.and_true, decide_eq_true_eq]
    simp at h
    omega
theorem hc_made : HOK Try.prog 24 h_made :=
  hMk_ok (consA_ok liA_ok nilA_ok) (fun _ => rfl) (fun _ => by simp) fun a _ hok => by
    obtain ⟨l, _⟩ := a
    exact vch_call (inl := noInl) (ann := noAnn) (oks_cons ct_right oks_nil) (hoks_cons hc_of hoks_nil) (vc_made l) (by kernel_rfl)
theorem vc_known  :
  true = true ∧ (q_right [Obj.mk 1 1 free.calls (free.slots.put 2 (Key.mk 1 void.oid void.count void.call void.rights 1)) free.bytes, Obj.mk 1 1 free.calls (free.slots.put 2 (Key.mk 1 void.oid void.count
    void.call void.rights void.value)) free.bytes] = false → true = true ∧ q_strOk (ByteArray.mk (Array.mk [(104 : UInt8), (105 : UInt8)])) ∧ (decide (q_ivE [] 0 (Key.mk 6 1 1 void.call void.rights
    void.value) 1 (Msg.mk 5 (ByteArray.mk (Array.mk [(104 : UInt8), (105 : UInt8)])) void void void) = 0) && decide (q_tdE [] 1 = 0) && decide ((q_tdM [] 1).code = 5) && steq (q_tdM [] 1).data
    (ByteArray.mk (Array.mk [(104 : UInt8), (105 : UInt8)])) && q_psB [] 0 && decide (q_psV [] 0 = 2)) = true) ∧ (q_right [Obj.mk 1 1 free.calls (free.slots.put 2 (Key.mk 1 void.oid void.count void.call
    void.rights 1)) free.bytes, Obj.mk 1 1 free.calls (free.slots.put 2 (Key.mk 1 void.oid void.count void.call void.rights void.value)) free.bytes] = true → true = true ∧ q_strOk (ByteArray.mk (Array.mk
    [(104 : UInt8), (105 : UInt8)])) ∧ (q_okL [Obj.mk 1 1 free.calls (free.slots.put 2 (Key.mk 1 void.oid void.count void.call void.rights 1)) free.bytes, Obj.mk 1 1 free.calls (free.slots.put 2 (Key.mk 1
    void.oid void.count void.call void.rights void.value)) free.bytes] ∧ q_strOk (ByteArray.mk (Array.mk [(104 : UInt8), (105 : UInt8)]))) ∧ (decide (q_ivE [Obj.mk 1 1 free.calls (free.slots.put 2 (Key.mk
    1 void.oid void.count void.call void.rights 1)) free.bytes, Obj.mk 1 1 free.calls (free.slots.put 2 (Key.mk 1 void.oid void.count void.call void.rights void.value)) free.bytes] 0 (Key.mk 6 1 1
    void.call void.rights void.value) 1 (Msg.mk 5 (ByteArray.mk (Array.mk [(104 : UInt8), (105 : UInt8)])) void void void) = 0) && decide (q_tdE (q_ivL [Obj.mk 1 1 free.calls (free.slots.put 2 (Key.mk 1
    void.oid void.count void.call void.rights 1)) free.bytes, Obj.mk 1 1 free.calls (free.slots.put 2 (Key.mk 1 void.oid void.count void.call void.rights void.value)) free.bytes] 0 (Key.mk 6 1 1 void.call
    void.rights void.value) 1 (Msg.mk 5 (ByteArray.mk (Array.mk [(104 : UInt8), (105 : UInt8)])) void void void)) 1 = 0) && decide ((q_tdM (q_ivL [Obj.mk 1 1 free.calls (free.slots.put 2 (Key.mk 1 void.oid
    void.count void.call void.rights 1)) free.bytes, Obj.mk 1 1 free.calls (free.slots.put 2 (Key.mk 1 void.oid void.count void.call void.rights void.value)) free.bytes] 0 (Key.mk 6 1 1 void.call
    void.rights void.value) 1 (Msg.mk 5 (ByteArray.mk (Array.mk [(104 : UInt8), (105 : UInt8)])) void void void)) 1).code = 5) && steq (q_tdM (q_ivL [Obj.mk 1 1 free.calls (free.slots.put 2 (Key.mk 1
    void.oid void.count void.call void.rights 1)) free.bytes, Obj.mk 1 1 free.calls (free.slots.put 2 (Key.mk 1 void.oid void.count void.call void.rights void.value)) free.bytes] 0 (Key.mk 6 1 1 void.call
    void.rights void.value) 1 (Msg.mk 5 (ByteArray.mk (Array.mk [(104 : UInt8), (105 : UInt8)])) void void void)) 1).data (ByteArray.mk (Array.mk [(104 : UInt8), (105 : UInt8)])) && q_psB (q_ivL [Obj.mk 1
    1 free.calls (free.slots.put 2 (Key.mk 1 void.oid void.count void.call void.rights 1)) free.bytes, Obj.mk 1 1 free.calls (free.slots.put 2 (Key.mk 1 void.oid void.count void.call void.rights
    void.value)) free.bytes] 0 (Key.mk 6 1 1 void.call void.rights void.value) 1 (Msg.mk 5 (ByteArray.mk (Array.mk [(104 : UInt8), (105 : UInt8)])) void void void)) 0 && decide (q_psV (q_ivL [Obj.mk 1 1
    free.calls (free.slots.put 2 (Key.mk 1 void.oid void.count void.call void.rights 1)) free.bytes, Obj.mk 1 1 free.calls (free.slots.put 2 (Key.mk 1 void.oid void.count void.call void.rights void.value))
    free.bytes] 0 (Key.mk 6 1 1 void.call void.rights void.value) 1 (Msg.mk 5 (ByteArray.mk (Array.mk [(104 : UInt8), (105 : UInt8)])) void void void)) 0 = 2)) = true) := by
  have st : q_strOk (ByteArray.mk (Array.mk [(104 : UInt8), (105 : UInt8)])) := by unfold q_strOk; decide
  refine ⟨rfl, fun h => absurd h (by decide), fun _ => ⟨rfl, st, ⟨?_, st⟩, ?_⟩⟩
  · unfold q_okL; kernel_rfl
  · kernel_rfl
theorem ct_known : CtOK Try.prog 22 g_known := mk0_ok rfl (vch_call (inl := noInl) (ann := noAnn) (oks_cons ct_told (oks_cons ct_pst oks_nil)) (hoks_cons hc_of2 (hoks_cons hc_inv hoks_nil)) vc_known (by kernel_rfl))
theorem vc_vast (x : List Pac) (hx : ∀ i, i < llen x → q_strOk (lget x i pac0).msg.data) :
  (decide (30 < n2i (llen x)) = true → true = q_vast (pcas x)) ∧ (decide (30 < n2i (llen x)) = false → (∃ g, q_invVa x g ∧ 0 = g ∧ llen x = llen x ∧ pcF x = pcF x) ∧ ∀ (g : Int), q_invVa x g → (decide (g
    < n2i (llen x)) = true → (0 ≤ g ∧ g < ↑(llen x)) ∧ g.toNat < llen x ∧ inRo IntKind.i64 (szI (lget x g.toNat pac0).msg.data) ∧ (decide (100 < szI (lget x g.toNat pac0).msg.data) = true → true = q_vast
    (pcas x)) ∧ (decide (100 < szI (lget x g.toNat pac0).msg.data) = false → inRo IntKind.i64 (g + 1) ∧ ∃ g', q_invVa x g' ∧ (n2i (llen x) - g').toNat < (n2i (llen x) - g).toNat ∧ g + 1 = g' ∧ llen x =
    llen x ∧ pcF x = pcF x)) ∧ (decide (g < n2i (llen x)) = false → false = q_vast (pcas x))) := by
  refine ⟨fun h => ?_, fun h => ⟨⟨0, ⟨by omega, by omega, rfl⟩, rfl, rfl, rfl⟩, fun g hg => ⟨fun hlt => ?_, fun hge => ?_⟩⟩⟩
  · unfold q_vast pcas; simp only; rw [h]; rfl
  · obtain ⟨g0, g1, g2⟩ := hg
    have hlt : g < (llen x : Int) := of_decide_eq_true hlt
    have hs := hx g.toNat (by omega)
    have h30 : ¬ 30 < (llen x : Int) := of_decide_eq_false h
    have e : pacD (pcaV (lget x g.toNat pac0)) = szI (lget x g.toNat pac0).msg.data := rfl
    refine ⟨⟨g0, hlt⟩, by omega, by unfold q_strOk at hs; simp only [inRo, inR, szI]; omega, fun h1 => ?_, fun h1 => ⟨by simp only [inRo, inR]; omega, g + 1, ⟨by omega, by omega, ?_⟩, by unfold n2i; omega, rfl, rfl, rfl⟩⟩
    · have h1 := of_decide_eq_true h1
      unfold q_vast pcas
      simp only
      rw [vastN_hit (F := fun i => pcaV (lget x i pac0)) (j := g.toNat) (by omega) (by rw [e]; exact h1) (llen x) (by omega), Bool.or_true]
    · have h1 := of_decide_eq_false h1
      rw [show (g + 1).toNat = g.toNat + 1 by omega]
      exact vastN_step g2 (by rw [e]; exact h1)
  · obtain ⟨g0, g1, g2⟩ := hg
    have hge : ¬ g < (llen x : Int) := of_decide_eq_false hge
    rw [show g.toNat = llen x by omega] at g2
    unfold q_vast pcas
    simp only
    rw [h, g2]; rfl
theorem ct_vast : CtOK Try.prog 35 g_vast :=
  mkR_ok (consA_ok tlA_ok nilA_ok) (fun _ => rfl) fun a hq hok => by
    obtain ⟨_, _⟩ := a
    obtain ⟨x, rfl, hx⟩ := hq
    exact vc_call (inl := noInl) (ann := (annL [(35, 4, lpG [0] (fun g => [(3, .it .i64 g)]) (q_invVa x) (n2i (llen x)))])) oks_nil (vc_vast x hx) (by kernel_rfl)
theorem vc_states (L : List Sx.Obj) (hl : q_shortL L) :
  (∃ g, q_invSt L g ∧ -1 = g ∧ L = L ∧ L = L) ∧ ∀ (g : Int), q_invSt L g → (decide (g ≤ n2i (llen L)) = true → ((!q_psB L g == decide (0 ≤ q_pst L g) || !decide (q_psV L g = imax (q_pst L g) 0) ||
    !(decide ((q_tdM L g).code = (q_tdM L g).code) && (steq (q_tdM L g).data (q_tdM L g).data && (keq (q_tdM L g).k0 (q_tdM L g).k0 && (keq (q_tdM L g).k1 (q_tdM L g).k1 && (keq (q_tdM L g).k2 (q_tdM L
    g).k2 && true)) && true))) || !decide (q_tdE L g = q_tdE L g)) = true → false = true) ∧ ((!q_psB L g == decide (0 ≤ q_pst L g) || !decide (q_psV L g = imax (q_pst L g) 0) || !(decide ((q_tdM L g).code
    = (q_tdM L g).code) && (steq (q_tdM L g).data (q_tdM L g).data && (keq (q_tdM L g).k0 (q_tdM L g).k0 && (keq (q_tdM L g).k1 (q_tdM L g).k1 && (keq (q_tdM L g).k2 (q_tdM L g).k2 && true)) && true))) ||
    !decide (q_tdE L g = q_tdE L g)) = false → inRo IntKind.i64 (g + 1) ∧ ∃ g', q_invSt L g' ∧ (n2i (llen L).succ - g').toNat < (n2i (llen L).succ - g).toNat ∧ g + 1 = g' ∧ L = L ∧ L = L)) ∧ (decide (g ≤
    n2i (llen L)) = false → true = true ∧ q_shortL L ∧ (true = false → true = true ∧ q_shortL L ∧ (true = false → False) ∧ (true = true → False)) ∧ (true = true → true = true ∧ q_shortL L ∧ (true = false →
    False) ∧ (true = true → ((!decide (n2i (llen (q_runG L (n2i (llen L)))) = n2i (llen (q_runG L (n2i (llen L)))))) = true → false = true) ∧ ((!decide (n2i (llen (q_runG L (n2i (llen L)))) = n2i (llen
    (q_runG L (n2i (llen L)))))) = false → (∃ g, q_invSr L g ∧ 0 = g ∧ L = L ∧ L = L ∧ q_runG L (n2i (llen L)) = q_runG L (n2i (llen L)) ∧ q_runG L (n2i (llen L)) = q_runG L (n2i (llen L))) ∧ ∀ (g : Int),
    q_invSr L g → (decide (g < n2i (llen (q_runG L (n2i (llen L))))) = true → (0 ≤ g ∧ g < ↑(llen (q_runG L (n2i (llen L))))) ∧ g.toNat < llen (q_runG L (n2i (llen L))) ∧ (0 ≤ g ∧ g < ↑(llen (q_runG L (n2i
    (llen L))))) ∧ g.toNat < llen (q_runG L (n2i (llen L))) ∧ ((!decide (lget (q_runG L (n2i (llen L))) g.toNat 0 = lget (q_runG L (n2i (llen L))) g.toNat 0)) = true → false = true) ∧ ((!decide (lget
    (q_runG L (n2i (llen L))) g.toNat 0 = lget (q_runG L (n2i (llen L))) g.toNat 0)) = false → inRo IntKind.i64 (g + 1) ∧ ∃ g', q_invSr L g' ∧ (n2i (llen (q_runG L (n2i (llen L)))) - g').toNat < (n2i (llen
    (q_runG L (n2i (llen L)))) - g).toNat ∧ g + 1 = g' ∧ L = L ∧ L = L ∧ q_runG L (n2i (llen L)) = q_runG L (n2i (llen L)) ∧ q_runG L (n2i (llen L)) = q_runG L (n2i (llen L)))) ∧ (decide (g < n2i (llen
    (q_runG L (n2i (llen L))))) = false → true = true))))) := by
  have e1 : ∀ g, (q_psB L g == decide (0 ≤ q_pst L g)) = true := fun g => by
    have := pst_B (L := L) (i := g)
    cases hb : q_psB L g with
    | true => rw [decide_eq_true (this.1.2 hb)]; rfl
    | false => rw [decide_eq_false (by have := this.2.2 hb; omega)]; rfl
  have e2 : ∀ g, decide (q_psV L g = imax (q_pst L g) 0) = true := fun g => by
    rw [decide_eq_true_eq]
    cases hb : q_psB L g with
    | true =>
      have := pst_B.1.2 hb
      rw [pst_V hb]; unfold imax; omega
    | false => rw [(pst_no hb).1, (pst_no hb).2]; rfl
  simp only [e1, e2]
  simp only [keq_self, steq_self, oeq_self, same_self, decide_true, Bool.and_true, Bool.not_true, Bool.or_false, Bool.not_false, Bool.false_eq_true, Bool.true_eq_false, false_implies, implies_true, true_implies, true_and, and_true, and_self]
  have hlL : llen L = L.length := rfl
  have hl' : L.length ≤ 1000 := hl
  have hsu : n2i (llen L).succ = (L.length : Int) + 1 := by unfold n2i llen; omega
  have hn : n2i (llen L) = (L.length : Int) := rfl
  have hrl := runG_len L (n2i (llen L))
  rw [hsu]
  refine ⟨⟨-1, ⟨by omega, by omega⟩, rfl⟩, fun g hg => ⟨fun hlt => ?_, fun _ => ⟨hl, hl, ⟨0, ⟨by omega, by omega⟩, rfl⟩, fun g hg => ?_⟩⟩⟩
  · have hlt : g ≤ (L.length : Int) := of_decide_eq_true hlt
    obtain ⟨g0, g1⟩ := hg
    exact ⟨by simp only [inRo, inR]; omega, g + 1, ⟨by omega, by omega⟩, by omega, rfl⟩
  · intro hlt
    obtain ⟨g0, g1⟩ := hg
    have hlt : g < (llen (q_runG L (n2i (llen L))) : Int) := of_decide_eq_true hlt
    rw [hn] at hrl hlt ⊢
    exact ⟨⟨g0, hlt⟩, by omega, ⟨g0, hlt⟩, by omega, by simp only [inRo, inR]; omega, g + 1, ⟨by omega, by rw [hn]; omega⟩, by unfold n2i; omega, rfl⟩
theorem ct_states : CtOK Try.prog 38 g_states :=
  mkR_ok (consA_ok sA_ok (consA_ok liA_ok nilA_ok)) (fun _ => rfl) fun a hq hok => by
    obtain ⟨S, L, _⟩ := a
    obtain ⟨h, hl⟩ := hq
    have h : S = some L := h
    subst h
    exact vch_call (inl := noInl) (ann := (annL [(38, 2, lpG [0, 1] (fun g => [(5, .it .i64 g)]) (q_invSt L) (n2i (llen L + 1))), (38, 14, lpG [13, 14] (fun g => [(15, .it .i64 g)]) (q_invSr L) (n2i (llen (q_runG L (n2i (llen L))))))])) (oks_cons ct_pst (oks_cons ct_rpst (oks_cons ct_told (oks_cons ct_rtold oks_nil)))) (hoks_cons hc_run (hoks_cons hc_rrun hoks_nil)) (vc_states L hl) (by kernel_rfl)
theorem vc_does (L : List Sx.Obj) (a : Pac) (hL : q_okL L) (ha : q_strOk a.msg.data) :
  (decide (a.kind = 1) = true → true = true ∧ q_strOk a.msg.data ∧ (q_okL L ∧ q_strOk a.msg.data) ∧ true = true ∧ (q_okL L ∧ q_strOk a.msg.data) ∧ (q_ivC L a.oid a.key a.mode a.msg = false → decide
    (q_ivE L a.oid a.key a.mode a.msg = q_ivE L a.oid a.key a.mode a.msg) = true ∧ q_qchg L a = false ∧ q_ivL L a.oid a.key a.mode a.msg = L) ∧ (q_ivC L a.oid a.key a.mode a.msg = true → decide (q_ivE L
    a.oid a.key a.mode a.msg = q_ivE L a.oid a.key a.mode a.msg) = true ∧ q_qchg L a = true ∧ q_ivL L a.oid a.key a.mode a.msg = q_qdoL L a ∧ q_ivL L a.oid a.key a.mode a.msg = q_qdoL L a)) ∧ (decide
    (a.kind = 1) = false → (decide (a.kind = 2) = true → true = true ∧ q_strOk a.msg.data ∧ (q_okL L ∧ q_strOk a.msg.data) ∧ true = true ∧ (q_okL L ∧ q_strOk a.msg.data) ∧ (q_anC L a.oid a.msg = false →
    decide (q_anE L a.oid a.msg = q_anE L a.oid a.msg) = true ∧ q_qchg L a = false ∧ q_anL L a.oid a.msg = L) ∧ (q_anC L a.oid a.msg = true → decide (q_anE L a.oid a.msg = q_anE L a.oid a.msg) = true ∧
    q_qchg L a = true ∧ q_anL L a.oid a.msg = q_qdoL L a ∧ q_anL L a.oid a.msg = q_qdoL L a)) ∧ (decide (a.kind = 2) = false → true = true ∧ q_okL L ∧ true = true ∧ q_okL L ∧ (q_bcC L a.oid a.state = false
    → decide (q_bcE L a.oid a.state = q_bcE L a.oid a.state) = true ∧ q_qchg L a = false ∧ q_bcL L a.oid a.state = L) ∧ (q_bcC L a.oid a.state = true → decide (q_bcE L a.oid a.state = q_bcE L a.oid
    a.state) = true ∧ q_qchg L a = true ∧ q_bcL L a.oid a.state = q_qdoL L a ∧ q_bcL L a.oid a.state = q_qdoL L a))) := by
  refine ⟨fun h1 => ?_, fun h1 => ⟨fun h2 => ?_, fun h2 => ?_⟩⟩
  · have h1 := of_decide_eq_true h1
    have hc : q_qchg L a = q_ivC L a.oid a.key a.mode a.msg := by unfold q_qchg; rw [if_pos h1]
    have hd : q_qdoL L a = q_ivL L a.oid a.key a.mode a.msg := by unfold q_qdoL; rw [if_pos h1]
    exact ⟨rfl, ha, ⟨hL, ha⟩, rfl, ⟨hL, ha⟩, fun h => ⟨by simp, hc.trans h, ivL_no h⟩, fun h => ⟨by simp, hc.trans h, hd.symm, hd.symm⟩⟩
  · have h1 := of_decide_eq_false h1
    have h2 := of_decide_eq_true h2
    have hc : q_qchg L a = q_anC L a.oid a.msg := by unfold q_qchg; rw [if_neg h1, if_pos h2]
    have hd : q_qdoL L a = q_anL L a.oid a.msg := by unfold q_qdoL; rw [if_neg h1, if_pos h2]
    exact ⟨rfl, ha, ⟨hL, ha⟩, rfl, ⟨hL, ha⟩, fun h => ⟨by simp, hc.trans h, anL_no h⟩, fun h => ⟨by simp, hc.trans h, hd.symm, hd.symm⟩⟩
  · have h1 := of_decide_eq_false h1
    have h2 := of_decide_eq_false h2
    have hc : q_qchg L a = q_bcC L a.oid a.state := by unfold q_qchg; rw [if_neg h1, if_neg h2]
    have hd : q_qdoL L a = q_bcL L a.oid a.state := by unfold q_qdoL; rw [if_neg h1, if_neg h2]
    exact ⟨rfl, hL, rfl, hL, fun h => ⟨by simp, hc.trans h, bcL_no2 h⟩, fun h => ⟨by simp, hc.trans h, hd.symm, hd.symm⟩⟩
theorem cl_does (L : List Sx.Obj) (a : Pac) (hL : q_okL L) (ha : q_strOk a.msg.data) : CallTo Try.prog 36 [.lp 0 0, .sa 1, pcaV a] [.store tS eS L, .ro (.arr none 163 (.ob L))] (kDo (q_qchg L a) L (q_qdoL L a)) (fun _ _ => False) :=
  vch_call (inl := noInl) (ann := noAnn) oks_nil (hoks_cons hc_rinv (hoks_cons hc_rans (hoks_cons hc_rbec (hoks_cons hc_inv (hoks_cons hc_ans (hoks_cons hc_bec hoks_nil)))))) (vc_does L a hL ha) (by kernel_rfl)
theorem hc_does : HOK Try.prog 36 h_qdoes := hDo_ok rPac_ok (fun _ => rfl) fun L x hL => cl_does L x hL.1 hL.2
theorem hc_made2 : HOK Try.prog 24 (hLit h_made) := hLit_ok hc_made
theorem hc_does2 : HOK Try.prog 36 (hLit h_qdoes) := hLit_ok hc_does
end Go.Proofs.Ytfalhknkaebfoaa
