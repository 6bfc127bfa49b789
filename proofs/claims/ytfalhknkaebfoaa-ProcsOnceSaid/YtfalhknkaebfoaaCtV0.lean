/- Steps of deferred functions that catch. No condition. -/
import Derived.Test.YtfalhknkaebfoaaSxF
import Derived.RecoverIn
set_option linter.unusedVariables false
set_option linter.unusedSimpArgs false
set_option maxRecDepth 100000
namespace Go.Proofs.Ytfalhknkaebfoaa
open Go.Sx
open Go.RowKit (Below)

theorem ff_round {P : Program} {ro : Option Nat} : (FF P ro).round = ro := rfl
theorem ops_val {P : Program} {ops : Array Oper} {Q : Exit → Act → World → Prop} {i : Nat} {rest : List Nat} {a : Act} {w w' : World} {o : Oper} {v : Value} (ho : ops[i]? = some o) (hg : o.guard = none)
    (hr : (execOp a.eval o).run P w = .ok (.value v) w') (hc : ∀ c, o.op ≠ .call c) (h : wpOpsIn (FF P none) 0 P ops Q rest (a.put o.dst v) w') : wpOpsIn (FF P none) 0 P ops Q (i :: rest) a w := by
  simp only [wpOpsIn, ho]
  rw [if_pos (by simp [Region.wanted, hg])]
  refine oper_in (ro := none) (by simp) (fun f hf => by
    unfold Oper.about at hf
    split at hf
    · rename_i c hc'; exact absurd hc' (hc c)
    · simp at hf) ?_
  rw [hr]
  exact h
theorem ops_skip {P : Program} {ops : Array Oper} {Q : Exit → Act → World → Prop} {i : Nat} {rest : List Nat} {a : Act} {w w' : World} {o : Oper} (ho : ops[i]? = some o) (hg : o.guard = none)
    (hr : (execOp a.eval o).run P w = .ok .skip w') (hc : ∀ c, o.op ≠ .call c) (h : wpOpsIn (FF P none) 0 P ops Q rest (a.put o.dst undef) w') : wpOpsIn (FF P none) 0 P ops Q (i :: rest) a w := by
  simp only [wpOpsIn, ho]
  rw [if_pos (by simp [Region.wanted, hg])]
  refine oper_in (ro := none) (by simp) (fun f hf => by
    unfold Oper.about at hf
    split at hf
    · rename_i c hc'; exact absurd hc' (hc c)
    · simp at hf) ?_
  rw [hr]
  exact h

theorem pe_size (a : Act) (d : Option Nat) (v : Value) : (a.put d v).tmps.size = a.tmps.size := by cases d <;> simp [Act.put]
theorem pe_none (a : Act) (v : Value) (o : Operand) : (a.put none v).eval o = a.eval o := rfl
theorem pe_some (a : Act) (i j : Nat) (v : Value) (h : i < a.tmps.size) : (a.put (some i) v).eval (.tmp j) = if i = j then v else a.eval (.tmp j) := by
  simp only [Act.put, Act.eval]
  by_cases e : i = j
  · subst e; simp [h]
  · simp [e]

theorem dk_one {P : Program} {f a b : Nat} (h : CatchOK P f a b) : ∀ p ∈ [(f, a, b)], CatchOK P p.1 p.2.1 p.2.2 := fun p hp => by
  simp only [List.mem_singleton] at hp
  subst hp
  exact h

end Go.Proofs.Ytfalhknkaebfoaa
