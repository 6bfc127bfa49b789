/- The layer's steps, as arguments. No condition. -/
import Derived.Test.YtccgpnoiageklaaGl3
import Derived.Test.YtccgpnoiageklaaSpS
set_option linter.unusedVariables false
set_option linter.unusedSimpArgs false
namespace Go.Proofs.Ytccgpnoiageklaa
open Go.Sx Go.ChangeShapes Go.WideShapes

theorem flatStp : flatK Try.prog 8 45 = some (.b :: .i .i64 :: kOb) := by kernel_rfl
theorem celStp : Try.prog.cellsOf 45 = 165 := by kernel_rfl
theorem open_stp {cs : List Value} (h : TyR (.b :: .i .i64 :: kOb) cs) : ∃ x : Stp, x.wf ∧ cs = cells Env.zero (stpV x) := by
  match cs, h with
  | a :: b :: rest, h =>
    obtain ⟨⟨p, rfl⟩, ⟨n, rfl, hn⟩, h⟩ := h
    obtain ⟨o, h1, rfl⟩ := open_ob h
    refine ⟨⟨p, n, o⟩, ⟨hn, h1⟩, ?_⟩
    simp only [stpV, cells_ag, cellsL, den, Value.cells]
    simp
  | [], h => exact h.elim
  | [_], h => exact h.2.elim

section
variable {H : Type} {enc : TypeId × Value → H} {W : World} {base : Nat} {v : Value} {d : DataW H} {ps : List MemPlace}
theorem stp_ok {x : Stp} (h : x.wf) : ok (fun _ => False) (stpV x) ∧ isTp (stpV x) = false ∧ vsz (stpV x) = 165 := ⟨⟨⟨trivial, h.1, h.2, trivial⟩, trivial, trivial, trivial, trivial⟩, rfl, rfl⟩
theorem elStp {n : Nat} {cs : List Value} {x : DataW H × List MemPlace} (h : DataW.trod enc Try.prog W 0 (fun _ => true) true n 45 cs = some x) : ∃ o : Stp, o.wf ∧ cs = cells Env.zero (stpV o) :=
  open_stp (flat_trod 8 _ _ flatStp n cs x h)
theorem arg_steps {t : TypeId} (ht : Try.prog.underlying t = some (.slice 45)) (hval : Value.okWide Try.prog W .any base t v) (hd : DataW.Trod enc Try.prog W 0 (fun _ => true) true t v d ps) :
    ∃ l : List Stp, (∀ o ∈ l, o.wf) ∧ ArgTL W v 165 (stps l) :=
  open_list (esz := 165) ht celStp (by decide) hval hd stpV Stp.wf stps stp0 (fun l => ⟨rfl, fun i => rfl⟩) (fun y hy => stp_ok hy) fun n cs x hx => elStp hx
theorem arg_step {t : TypeId} {fs : Array Field} (ht : Try.prog.underlying t = some (.struct fs)) (hf : flatK Try.prog 8 t = some (.b :: .i .i64 :: kOb)) (hval : Value.okWide Try.prog W .any base t v) (hd : DataW.Trod enc Try.prog W 0 (fun _ => true) true t v d ps) :
    ∃ o : Stp, o.wf ∧ ∀ ρ, v = den ρ (stpV o) := by
  unfold Value.okWide at hval
  rw [ht] at hval
  obtain ⟨cs, rfl, _⟩ := hval
  obtain ⟨n, hx⟩ := hd
  obtain ⟨o, h1, h2⟩ := open_stp (flat_trod 8 _ _ hf n _ _ hx)
  refine ⟨o, h1, fun ρ => ?_⟩
  simp only [Value.cells] at h2
  rw [← cells_agree (N := fun _ => False) (ρ' := ρ) (fun _ h => h.elim) _ (stp_ok h1).1] at h2
  simp only [stpV, cells_ag] at h2
  simp only [stpV, den, ← h2]
end
end Go.Proofs.Ytccgpnoiageklaa
