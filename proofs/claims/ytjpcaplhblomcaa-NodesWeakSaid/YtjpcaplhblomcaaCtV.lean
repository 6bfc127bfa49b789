/- The deferred function that catches what nodes' functions give up with. No condition. -/
import Derived.Test.YtjpcaplhblomcaaSx18
import Derived.RecoverIn
set_option linter.unusedVariables false
set_option linter.unusedSimpArgs false
set_option maxRecDepth 100000
namespace Go.Proofs.Ytjpcaplhblomcaa
open Go.Sx
open Go.RowKit (Below)

theorem ops_val {P : Program} {ops : Array Oper} {Q : Exit → Act → World → Prop} {i : Nat} {rest : List Nat} {a : Act} {w w' : World} {o : Oper} {v : Value} (ho : ops[i]? = some o) (hg : o.guard = none)
    (hr : (execOp a.eval o).run P w = .ok (.value v) w') (h : wpOpsIn Fence.wide 0 P ops Q rest (a.put o.dst v) w') : wpOpsIn Fence.wide 0 P ops Q (i :: rest) a w := by
  simp only [wpOpsIn, ho]
  rw [if_pos (by simp [Region.wanted, hg])]
  refine oper_in (ro := none) (by simp) ?_
  unfold Oper.wp
  rw [hr]
  exact h
theorem ops_skip {P : Program} {ops : Array Oper} {Q : Exit → Act → World → Prop} {i : Nat} {rest : List Nat} {a : Act} {w w' : World} {o : Oper} (ho : ops[i]? = some o) (hg : o.guard = none)
    (hr : (execOp a.eval o).run P w = .ok .skip w') (h : wpOpsIn Fence.wide 0 P ops Q rest (a.put o.dst undef) w') : wpOpsIn Fence.wide 0 P ops Q (i :: rest) a w := by
  simp only [wpOpsIn, ho]
  rw [if_pos (by simp [Region.wanted, hg])]
  refine oper_in (ro := none) (by simp) ?_
  unfold Oper.wp
  rw [hr]
  exact h

theorem pe_size (a : Act) (d : Option Nat) (v : Value) : (a.put d v).tmps.size = a.tmps.size := by cases d <;> simp [Act.put]
theorem pe_none (a : Act) (v : Value) (o : Operand) : (a.put none v).eval o = a.eval o := rfl
theorem pe_some (a : Act) (i j : Nat) (v : Value) (h : i < a.tmps.size) : (a.put (some i) v).eval (.tmp j) = if i = j then v else a.eval (.tmp j) := by
  simp only [Act.put, Act.eval]
  by_cases e : i = j
  · subst e; simp [h]
  · simp [e]

theorem run_assert (k : IntKind) (n : Int) (w : World) (t : Nat) : (Instr.typeAssert (.iface 114 (.agg #[.int k n])) t 114 true).run Try.prog w = .ok (.tuple #[.agg #[.int k n], .bool true]) w := by
  simp [Instr.typeAssert, go_sem]

theorem dk_one {P : Program} {f a b : Nat} (h : CatchOK P f a b) : ∀ p ∈ [(f, a, b)], CatchOK P p.1 p.2.1 p.2.2 := fun p hp => by
  simp only [List.mem_singleton] at hp
  subst hp
  exact h

theorem dc_caught : CatchOK Try.prog 30 114 34 := by
  refine ⟨fun p w => ?_, fun b off ty cs₁ cs' k n w hb hs => ?_⟩
  · refine callsDIn_of_wpSIn Go.Proofs.Try.func30 rfl (by simp [Fence.wide]) fun c₀ cs hu => ?_
    apply wpSIn_seq
    apply wpSIn_region
    simp [wpOpsSIn, go_sem, recoverD, hu, Exit.thenS]
    refine wpSIn_of_wpIn rfl (wpIn_block (wpIn_seq (wpIn_region ?_)))
    simp [wpOpsIn, go_sem, Exit.then]
    refine wpIn_cond_true (by simp [Act.eval, Array.replicate]) (wpIn_region ?_)
    simp [wpOpsIn, go_sem, Exit.inBlock]
    cases c₀
    simp_all [bodyPostS, results, Go.Proofs.Try.f30]
  · refine callsDIn_of_wpSIn Go.Proofs.Try.func30 rfl (by simp [Fence.wide]) fun c₀ cs hu => ?_
    apply wpSIn_seq
    apply wpSIn_region
    simp [wpOpsSIn, go_sem, recoverD, hu, Exit.thenS]
    refine wpSIn_of_wpIn rfl (wpIn_block (wpIn_seq (wpIn_region ?_)))
    simp [wpOpsIn, go_sem, Exit.then]
    refine wpIn_cond_false (by simp [Act.eval, Array.replicate]) ?_
    refine wpIn_seq (wpIn_region ?_)
    generalize hA : ({ tmps := _, defers := [] } : Act) = A
    have hz : A.tmps.size = 15 := by subst hA; simp
    have hdf : A.defers = [] := by subst hA; rfl
    have h0 : A.eval (.tmp 0) = .pointer (some ⟨b, off, none⟩) := by subst hA; simp [Act.eval]
    have h5 : A.eval (.tmp 5) = .iface 114 (.agg #[.int k n]) := by subst hA; simp [Act.eval]
    clear hA
    have hbl : b < w.heap.size := (Array.getElem?_eq_some_iff.1 hb).1
    have hb1 : (w.alloc (.cells #[.int k n] 114)).heap[b]? = some (.cells cs₁ ty (0, 0)) :=
      (((Below.refl _ w).alloc (Nat.le_refl _) _).block b hbl).trans hb
    refine ops_val rfl rfl (v := .tuple #[.agg #[.int k n], .bool true]) (w' := w) (by simp [execOp, h5, run_assert]) ?_
    refine ops_val rfl rfl (v := .bool true) (w' := w) (by simp [execOp, pe_some, pe_none, pe_size, hz, Instr.extract]) ?_
    refine ops_val rfl rfl (v := .agg #[.int k n]) (w' := w) (by simp [execOp, pe_some, pe_none, pe_size, hz, Instr.extract]) ?_
    show Code.wpIn _ _ _ _ _ _ _
    refine wpIn_cond_true (by simp [pe_some, pe_size, hz]) ?_
    refine wpIn_seq (wpIn_region ?_)
    refine ops_val rfl rfl (v := .pointer (some ⟨w.heap.size, 0, none⟩)) (w' := w.alloc (.cells #[.int .i64 0] 114)) (by simp [execOp, Instr.alloc, go_sem]) ?_
    refine ops_skip rfl rfl (w' := w.alloc (.cells #[.int k n] 114)) (by simp [execOp, pe_some, pe_none, pe_size, hz, go_sem]) ?_
    show Code.wpIn _ _ _ _ _ _ _
    refine wpIn_region ?_
    refine ops_val rfl rfl (v := .pointer (some ⟨b, off, none⟩)) (w' := w.alloc (.cells #[.int k n] 114)) (by simp [execOp, pe_some, pe_none, pe_size, hz, h0]) ?_
    refine ops_val rfl rfl (v := .pointer (some ⟨w.heap.size, 0, none⟩)) (w' := w.alloc (.cells #[.int k n] 114)) (by simp [execOp, pe_some, pe_none, pe_size, hz, go_sem]) ?_
    refine ops_val rfl rfl (v := .int k n) (w' := w.alloc (.cells #[.int k n] 114)) (by simp [execOp, pe_some, pe_none, pe_size, hz, go_sem]) ?_
    refine ops_val rfl rfl (v := .pointer (some ⟨b, off, none⟩)) (w' := w.alloc (.cells #[.int k n] 114)) (by simp [execOp, pe_some, pe_none, pe_size, hz]) ?_
    refine ops_skip rfl rfl (w' := (w.alloc (.cells #[.int k n] 114)).setRow b cs') (by simp [execOp, pe_some, pe_none, pe_size, hz, hs _ hb1]) ?_
    have hbe : Below w.heap.size (w.setRow b cs') ((w.alloc (.cells #[.int k n] 114)).setRow b cs') := by
      have hs1 : ∀ (v : World) (c : Array Value), (v.setRow b c).heap.size = v.heap.size := fun v c => by simp [World.setRow]
      refine ⟨rfl, rfl, rfl, by rw [hs1, hs1]; exact ((Below.refl _ w).alloc (Nat.le_refl _) _).size, fun j hj => ?_⟩
      by_cases e : j = b
      · subst e
        rw [setRow_at _ _ _ _ _ hb1, setRow_at _ _ _ _ _ hb]
      · rw [setRow_other _ _ _ _ e, setRow_other _ _ _ _ e]
        exact ((Below.refl _ w).alloc (Nat.le_refl _) _).block j hj
    refine ⟨by simp only [put_defers]; exact hdf, _, rfl, .tuple #[], by simp [results, Go.Proofs.Try.f30], ⟨_, rfl⟩, rfl, hbe⟩
end Go.Proofs.Ytjpcaplhblomcaa
