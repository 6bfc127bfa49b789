/- The seat's arguments, opened: objects, keys, lists. No condition. -/
import Derived.Test.YtjpcaplhblomcaaGl2
import Derived.ProofKit
set_option linter.unusedVariables false
set_option linter.unusedSimpArgs false
set_option maxRecDepth 100000
namespace Go.Proofs.Ytjpcaplhblomcaa
open Go.Sx Go.ChangeShapes Go.WideShapes

theorem ownP : ownKnob Try.prog.godebug = none := by kernel_rfl
theorem laidP : laidOutB Try.prog = true := by kernel_rfl
theorem flatOb : flatK Try.prog 8 46 = some kOb := by kernel_rfl
theorem flatKey : flatK Try.prog 8 26 = some kKey := by kernel_rfl
theorem celOb : Try.prog.cellsOf 46 = 163 := by kernel_rfl
theorem celKey : Try.prog.cellsOf 26 = 6 := by kernel_rfl

section
variable {H : Type} {enc : TypeId × Value → H} {W : World} {base : Nat} {v : Value} {d : DataW H} {ps : List MemPlace}

theorem elOb {n : Nat} {cs : List Value} {x : DataW H × List MemPlace} (h : DataW.trod enc Try.prog W 0 (fun _ => true) true n 46 cs = some x) : ∃ o : Sx.Obj, o.wf ∧ cs = cells Env.zero (.ob o) := by
  obtain ⟨o, h1, h2⟩ := open_ob (flat_trod 8 _ _ flatOb n cs x h)
  exact ⟨o, h1, by rw [cells_ob]; exact h2⟩
theorem elKey {n : Nat} {cs : List Value} {x : DataW H × List MemPlace} (h : DataW.trod enc Try.prog W 0 (fun _ => true) true n 26 cs = some x) : ∃ o : Sx.Key, o.wf ∧ cs = cells Env.zero (.key o) := by
  obtain ⟨o, h1, h2⟩ := open_key1 (flat_trod 8 _ _ flatKey n cs x h)
  exact ⟨o, h1, by rw [cells_key]; exact h2⟩

theorem arg_obs {t : TypeId} (ht : Try.prog.underlying t = some (.slice 46)) (hval : Value.okWide Try.prog W .any base t v) (hd : DataW.Trod enc Try.prog W 0 (fun _ => true) true t v d ps) :
    ∃ l : List Sx.Obj, (∀ o ∈ l, o.wf) ∧ ArgTL W v 163 (.ob l) :=
  open_list (esz := 163) ht celOb (by decide) hval hd V.ob Sx.Obj.wf TL.ob free (fun l => ⟨rfl, fun i => rfl⟩) (fun y hy => ⟨hy, rfl, rfl⟩) fun n cs x hx => elOb hx
theorem arg_keys {t : TypeId} (ht : Try.prog.underlying t = some (.slice 26)) (hval : Value.okWide Try.prog W .any base t v) (hd : DataW.Trod enc Try.prog W 0 (fun _ => true) true t v d ps) :
    ∃ l : List Sx.Key, (∀ o ∈ l, o.wf) ∧ ArgTL W v 6 (.key l) :=
  open_list (esz := 6) ht celKey (by decide) hval hd V.key Sx.Key.wf TL.key void (fun l => ⟨rfl, fun i => rfl⟩) (fun y hy => ⟨hy, rfl, rfl⟩) fun n cs x hx => elKey hx
theorem arg_ob {t : TypeId} {fs : Array Field} (ht : Try.prog.underlying t = some (.struct fs)) (hf : flatK Try.prog 8 t = some kOb) (hval : Value.okWide Try.prog W .any base t v) (hd : DataW.Trod enc Try.prog W 0 (fun _ => true) true t v d ps) :
    ∃ o : Sx.Obj, o.wf ∧ ∀ ρ, v = den ρ (.ob o) := by
  unfold Value.okWide at hval
  rw [ht] at hval
  obtain ⟨cs, rfl, _⟩ := hval
  obtain ⟨n, hx⟩ := hd
  obtain ⟨o, h1, h2⟩ := open_ob (flat_trod 8 _ _ hf n _ _ hx)
  refine ⟨o, h1, fun ρ => ?_⟩
  simp only [Value.cells] at h2
  simp only [den, ← h2]
theorem arg_key {t : TypeId} {fs : Array Field} (ht : Try.prog.underlying t = some (.struct fs)) (hf : flatK Try.prog 8 t = some kKey) (hval : Value.okWide Try.prog W .any base t v) (hd : DataW.Trod enc Try.prog W 0 (fun _ => true) true t v d ps) :
    ∃ o : Sx.Key, o.wf ∧ ∀ ρ, v = den ρ (.key o) := by
  unfold Value.okWide at hval
  rw [ht] at hval
  obtain ⟨cs, rfl, _⟩ := hval
  obtain ⟨n, hx⟩ := hd
  obtain ⟨o, h1, h2⟩ := open_key1 (flat_trod 8 _ _ hf n _ _ hx)
  refine ⟨o, h1, fun ρ => ?_⟩
  simp only [Value.cells] at h2
  simp only [den, ← h2]
end
end Go.Proofs.Ytjpcaplhblomcaa
