/- The deferred function that catches what procs' functions give up with. No condition. -/
import Derived.Test.YtfalhknkaebfoaaCtV0
set_option linter.unusedVariables false
set_option linter.unusedSimpArgs false
set_option maxRecDepth 100000
namespace Go.Proofs.Ytfalhknkaebfoaa
open Go.Sx
open Go.RowKit (Below)

theorem run_assert_procs (k : IntKind) (n : Int) (w : World) (t : Nat) : (Instr.typeAssert (.iface 176 (.agg #[.int k n])) t 176 true).run Try.prog w = .ok (.tuple #[.agg #[.int k n], .bool true]) w := by
  simp [Instr.typeAssert, go_sem]

theorem dc_procs : CatchOK Try.prog 61 176 36 := by
  refine ⟨fun p w => ?_, fun b off ty cs₁ cs' k n w hb hs => ?_⟩
  · refine callsDIn_of_wpSIn Go.Proofs.Try.func61 rfl (by show (Try.prog.funcs[61]?).isSome = true; kernel_rfl) fun c₀ cs hu => ?_
    apply wpSIn_seq
    apply wpSIn_region
    simp [wpOpsSIn, go_sem, recoverD, hu, Exit.thenS]
    refine wpSIn_of_wpIn rfl (wpIn_block (wpIn_seq (wpIn_region ?_)))
    simp [wpOpsIn, go_sem, Exit.then, ff_round]
    refine wpIn_cond_true (by simp [Act.eval, Array.replicate]) (wpIn_region ?_)
    simp [wpOpsIn, go_sem, Exit.inBlock, ff_round]
    cases c₀
    simp_all [bodyPostS, results, Go.Proofs.Try.f61]
  · refine callsDIn_of_wpSIn Go.Proofs.Try.func61 rfl (by show (Try.prog.funcs[61]?).isSome = true; kernel_rfl) fun c₀ cs hu => ?_
    apply wpSIn_seq
    apply wpSIn_region
    simp [wpOpsSIn, go_sem, recoverD, hu, Exit.thenS]
    refine wpSIn_of_wpIn rfl (wpIn_block (wpIn_seq (wpIn_region ?_)))
    simp [wpOpsIn, go_sem, Exit.then, ff_round]
    refine wpIn_cond_false (by simp [Act.eval, Array.replicate]) ?_
    refine wpIn_seq (wpIn_region ?_)
    generalize hA : ({ tmps := _, defers := [] } : Act) = A
    have hz : A.tmps.size = 15 := by subst hA; simp
    have hdf : A.defers = [] := by subst hA; rfl
    have h0 : A.eval (.tmp 0) = .pointer (some ⟨b, off, none⟩) := by subst hA; simp [Act.eval]
    have h5 : A.eval (.tmp 5) = .iface 176 (.agg #[.int k n]) := by subst hA; simp [Act.eval]
    clear hA
    have hbl : b < w.heap.size := (Array.getElem?_eq_some_iff.1 hb).1
    have hb1 : (w.alloc (.cells #[.int k n] 176)).heap[b]? = some (.cells cs₁ ty (0, 0)) :=
      (((Below.refl _ w).alloc (Nat.le_refl _) _).block b hbl).trans hb
    refine ops_val (P := Try.prog) rfl rfl (v := .tuple #[.agg #[.int k n], .bool true]) (w' := w) (by simp [execOp, h5, run_assert_procs]) (by intro c; simp) ?_
    refine ops_val (P := Try.prog) rfl rfl (v := .bool true) (w' := w) (by simp [execOp, pe_some, pe_none, pe_size, hz, Instr.extract]) (by intro c; simp) ?_
    refine ops_val (P := Try.prog) rfl rfl (v := .agg #[.int k n]) (w' := w) (by simp [execOp, pe_some, pe_none, pe_size, hz, Instr.extract]) (by intro c; simp) ?_
    show Code.wpIn _ _ _ _ _ _ _
    refine wpIn_cond_true (by simp [pe_some, pe_size, hz]) ?_
    refine wpIn_seq (wpIn_region ?_)
    refine ops_val (P := Try.prog) rfl rfl (v := .pointer (some ⟨w.heap.size, 0, none⟩)) (w' := w.alloc (.cells #[.int .i64 0] 176)) (by simp [execOp, Instr.alloc, go_sem]) (by intro c; simp) ?_
    refine ops_skip (P := Try.prog) rfl rfl (w' := w.alloc (.cells #[.int k n] 176)) (by simp [execOp, pe_some, pe_none, pe_size, hz, go_sem]) (by intro c; simp) ?_
    show Code.wpIn _ _ _ _ _ _ _
    refine wpIn_region ?_
    refine ops_val (P := Try.prog) rfl rfl (v := .pointer (some ⟨b, off, none⟩)) (w' := w.alloc (.cells #[.int k n] 176)) (by simp [execOp, pe_some, pe_none, pe_size, hz, h0]) (by intro c; simp) ?_
    refine ops_val (P := Try.prog) rfl rfl (v := .pointer (some ⟨w.heap.size, 0, none⟩)) (w' := w.alloc (.cells #[.int k n] 176)) (by simp [execOp, pe_some, pe_none, pe_size, hz, go_sem]) (by intro c; simp) ?_
    refine ops_val (P := Try.prog) rfl rfl (v := .int k n) (w' := w.alloc (.cells #[.int k n] 176)) (by simp [execOp, pe_some, pe_none, pe_size, hz, go_sem]) (by intro c; simp) ?_
    refine ops_val (P := Try.prog) rfl rfl (v := .pointer (some ⟨b, off, none⟩)) (w' := w.alloc (.cells #[.int k n] 176)) (by simp [execOp, pe_some, pe_none, pe_size, hz]) (by intro c; simp) ?_
    refine ops_skip (P := Try.prog) rfl rfl (w' := (w.alloc (.cells #[.int k n] 176)).setRow b cs') (by simp [execOp, pe_some, pe_none, pe_size, hz, hs _ hb1]) (by intro c; simp) ?_
    have hbe : Below w.heap.size (w.setRow b cs') ((w.alloc (.cells #[.int k n] 176)).setRow b cs') := by
      have hs1 : ∀ (v : World) (c : Array Value), (v.setRow b c).heap.size = v.heap.size := fun v c => by simp [World.setRow]
      refine ⟨rfl, rfl, rfl, by rw [hs1, hs1]; exact ((Below.refl _ w).alloc (Nat.le_refl _) _).size, fun j hj => ?_⟩
      by_cases e : j = b
      · subst e
        rw [setRow_at _ _ _ _ _ hb1, setRow_at _ _ _ _ _ hb]
      · rw [setRow_other _ _ _ _ e, setRow_other _ _ _ _ e]
        exact ((Below.refl _ w).alloc (Nat.le_refl _) _).block j hj
    refine ⟨by simp only [put_defers]; exact hdf, _, rfl, .tuple #[], by simp [results, Go.Proofs.Try.f61], ⟨_, rfl⟩, rfl, hbe⟩
end Go.Proofs.Ytfalhknkaebfoaa
