/- Arguments of layer 12. No condition. -/
import Derived.Test.YtfalhknkaebfoaaGlA
import Derived.ChangeSame
import Derived.Test.YtfalhknkaebfoaaCtBd
import Derived.Test.YtfalhknkaebfoaaSpB
set_option linter.unusedVariables false
set_option linter.unusedSimpArgs false
set_option maxRecDepth 100000
namespace Go.Proofs.Ytfalhknkaebfoaa
open Go.Sx Go.ChangeShapes Go.WideShapes
def kAcb : List Kd := [.i .i64] ++ ([.i .i64] ++ (kKey ++ (kKey ++ ([.i .i64] ++ []))))
theorem opnAcb : Opn kAcb (fun x : Acb => inR .i64 x.kind ∧ inR .i64 x.num ∧ x.bank.wf ∧ x.key.wf ∧ inR .i64 x.obj ∧ True) acbV :=
  opn_map (opn_ag (opnL_cons (opn_i .i64) (opnL_cons (opn_i .i64) (opnL_cons opn_key (opnL_cons opn_key (opnL_cons (opn_i .i64) opnL_nil))))))
    (fun x => (⟨x.1, x.2.1, x.2.2.1, x.2.2.2.1, x.2.2.2.2.1⟩ : Acb)) (fun y : Acb => (y.kind, y.num, y.bank, y.key, y.obj, ())) (fun _ => rfl) (fun _ => rfl)
section
variable {H : Type} {enc : TypeId × Value → H} {W : World} {base : Nat} {v : Value} {d : DataW H} {ps : List MemPlace}
theorem arg_part {t e : TypeId} {f0 f1 : Field} (ht : Try.prog.underlying t = some (.struct #[f0, f1])) (o0 : f0.offset = 0) (o1 : f1.offset = 1) (c0 : Try.prog.cellsOf f0.type = 1) (c1 : Try.prog.cellsOf f1.type = 1) (ct : Try.prog.cellsOf t = 2)
    (hf0 : flatK Try.prog 8 f0.type = some [.i .i64]) (ht1 : Try.prog.underlying f1.type = some (.slice e)) (he : flatK Try.prog 8 e = some [.i .i64]) (hce : Try.prog.cellsOf e = 1)
    (hval : Value.okWide Try.prog W .any base t v) (hd : DataW.Trod enc Try.prog W 0 (fun _ => true) true t v d ps) :
    ∃ (n : Int) (x : List Int) (u : Value), inR .i64 n ∧ (∀ y ∈ x, inR .i64 y) ∧ v = .agg #[.int .i64 n, u] ∧ u.cells = #[u] ∧ ArgTL W u 1 (.it .i64 x) := by
  unfold Value.okWide at hval
  rw [ht] at hval
  obtain ⟨cs, rfl, _⟩ := hval
  obtain ⟨fuel, hx⟩ := hd
  obtain ⟨y0, y1, m, _, hl, h0, h1⟩ := trod_struct2 ht hx
  have hcs : (Value.agg cs).cells.toList = cs.toList := rfl
  rw [hcs, ct] at hl
  rw [hcs, o0, c0] at h0
  rw [hcs, o1, c1] at h1
  rcases hcl : cs.toList with _ | ⟨a, _ | ⟨u, _ | ⟨b, l⟩⟩⟩ <;> rw [hcl] at hl <;> simp at hl
  rw [hcl] at h0 h1
  have h0' := flat_trod 8 _ _ hf0 m _ _ h0
  obtain ⟨⟨n, rfl, hn⟩, _⟩ := h0'
  have h1' : DataW.trod enc Try.prog W 0 (fun _ => true) true m f1.type [u] = some y1 := h1
  have hu : ∃ a0 ln cp, u = .slice a0 ln cp := by
    rcases Go.Deep.open_slice ht1 h1' with ⟨hc, _⟩ | ⟨a, len, cap, _, _, _, _, hc, _⟩
    · simp only [List.cons.injEq, and_true] at hc; exact ⟨_, _, _, hc⟩
    · simp only [List.cons.injEq, and_true] at hc; exact ⟨_, _, _, hc⟩
  have huc : u.cells = #[u] := by obtain ⟨a0, ln, cp, rfl⟩ := hu; rfl
  obtain ⟨x, x1, x2⟩ := open_list0 (enc := enc) (W := W) (d := y1.1) (ps := y1.2) ht1 hce (by decide) hu ⟨m, by rw [huc]; exact h1'⟩ (V.it .i64) (inR .i64) (TL.it .i64) 0 (fun l => ⟨rfl, fun i => rfl⟩) (fun y hy => ⟨hy, rfl, rfl⟩)
    fun n cs x hx => (opn_i .i64).1 _ (flat_trod 8 _ _ he n cs x hx)
  refine ⟨n, x, u, hn, x1, ?_, huc, x2⟩
  have : cs = #[.int .i64 n, u] := by
    have := congrArg List.toArray hcl
    simpa using this
  rw [this]
theorem den_part {ρ : Env} {j : Nat} {n : Int} {u : Value} (h : den ρ (.sa j) = u) (hu : u.cells = #[u]) : den ρ (.ag [.it .i64 n, .sa j]) = .agg #[.int .i64 n, u] := by
  have e : cellsL ρ [.it .i64 n, .sa j] = [.int .i64 n] ++ ((den ρ (.sa j)).cells.toList ++ []) := rfl
  show Value.agg (cellsL ρ [.it .i64 n, .sa j]).toArray = _
  rw [e, h, hu]; rfl
end
end Go.Proofs.Ytfalhknkaebfoaa
