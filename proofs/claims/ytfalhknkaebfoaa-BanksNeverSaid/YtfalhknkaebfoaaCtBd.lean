/- Layer 12: what its statements call. No condition. The statements vc_.. are printed by a program of the claimant's own. -/
import Derived.Test.YtfalhknkaebfoaaCtBc
import Derived.Test.YtfalhknkaebfoaaSxF
namespace Go.Proofs.Ytfalhknkaebfoaa
open Go.Sx
set_option maxRecDepth 100000
set_option linter.unusedVariables false
set_option linter.unusedSimpArgs false
theorem hc_of2 : HOK Try.prog 43 (hLit h_of) := hLit_ok hc_of
theorem vc_made (l : List Sx.Obj) :
  ((decide (20 < n2i (llen l)) || !q_right l) = true → q_made l = false ∧ Value.pointer none = Value.pointer none) ∧ ((decide (20 < n2i (llen l)) || !q_right l) = false → true = true ∧ (q_right l = false
    → q_made l = false ∧ Value.pointer none = Value.pointer none) ∧ (q_right l = true → q_made l = true ∧ ∀ (nid : Nat), some (V.lp nid 0) = some (V.lp nid 0) ∧ some [Res.store 75 118 l] = some [Res.store
    75 118 l])) := by
  refine ⟨fun h => ⟨?_, rfl⟩, fun h => ⟨rfl, fun hr => ⟨?_, rfl⟩, fun hr => ⟨?_, fun nid => ⟨rfl, rfl⟩⟩⟩⟩
  · unfold q_made
    unfold n2i at h
    rw [Bool.or_eq_true, decide_eq_true_eq, Bool.not_eq_true'] at h
    rcases h with h | h
    · rw [decide_eq_false (by omega)]; rfl
    · rw [h]; simp
  · unfold q_made; rw [hr]; simp
  · unfold q_made
    unfold n2i at h
    rw [hr] at h ⊢
    rw [Bool.and_true, decide_eq_true_eq]
    simp at h
    omega
theorem hc_made : HOK Try.prog 15 h_made :=
  hMk_ok (consA_ok liA_ok nilA_ok) (fun _ => rfl) (fun _ => by simp) fun a _ hok => by
    obtain ⟨l, _⟩ := a
    exact vch_call (inl := noInl) (ann := noAnn) (oks_cons ct_right oks_nil) (hoks_cons hc_of hoks_nil) (vc_made l) (by kernel_rfl)
theorem vc_known  :
  true = true ∧ (q_right [Obj.mk 1 1 free.calls ((free.slots.put 0 (Key.mk 1 void.oid void.count void.call void.rights 1)).put 1 (Key.mk 1 void.oid void.count void.call void.rights 2)) free.bytes, Obj.mk
    free.kind 4 free.calls free.slots free.bytes, free] = false → true = true ∧ (decide (q_bmkE [] (Key.mk 4 void.oid 1 void.call void.rights void.value) 1 = 0) && keq (q_bmkK [] (Key.mk 4 void.oid 1
    void.call void.rights void.value) 1) (Key.mk 2 1 5 void.call void.rights void.value)) = true) ∧ (q_right [Obj.mk 1 1 free.calls ((free.slots.put 0 (Key.mk 1 void.oid void.count void.call void.rights
    1)).put 1 (Key.mk 1 void.oid void.count void.call void.rights 2)) free.bytes, Obj.mk free.kind 4 free.calls free.slots free.bytes, free] = true → true = true ∧ q_okL [Obj.mk 1 1 free.calls
    ((free.slots.put 0 (Key.mk 1 void.oid void.count void.call void.rights 1)).put 1 (Key.mk 1 void.oid void.count void.call void.rights 2)) free.bytes, Obj.mk free.kind 4 free.calls free.slots free.bytes,
    free] ∧ (decide (q_bmkE [Obj.mk 1 1 free.calls ((free.slots.put 0 (Key.mk 1 void.oid void.count void.call void.rights 1)).put 1 (Key.mk 1 void.oid void.count void.call void.rights 2)) free.bytes,
    Obj.mk free.kind 4 free.calls free.slots free.bytes, free] (Key.mk 4 void.oid 1 void.call void.rights void.value) 1 = 0) && keq (q_bmkK [Obj.mk 1 1 free.calls ((free.slots.put 0 (Key.mk 1 void.oid
    void.count void.call void.rights 1)).put 1 (Key.mk 1 void.oid void.count void.call void.rights 2)) free.bytes, Obj.mk free.kind 4 free.calls free.slots free.bytes, free] (Key.mk 4 void.oid 1 void.call
    void.rights void.value) 1) (Key.mk 2 1 5 void.call void.rights void.value)) = true) := by
  refine ⟨rfl, fun h => absurd h (by decide), fun _ => ⟨rfl, by unfold q_okL; kernel_rfl, by kernel_rfl⟩⟩
theorem ct_known : CtOK Try.prog 14 g_known := mk0_ok rfl (vch_call (inl := noInl) (ann := noAnn) oks_nil (hoks_cons hc_of2 (hoks_cons hc_bmake hoks_nil)) vc_known (by kernel_rfl))
end Go.Proofs.Ytfalhknkaebfoaa
