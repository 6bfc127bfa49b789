/- Calls of layer 9, as arguments; lists that are only read. No condition. -/
import Derived.Test.YtjpcaplhblomcaaGl3
import Derived.Test.YtjpcaplhblomcaaSpN
set_option linter.unusedVariables false
set_option linter.unusedSimpArgs false
set_option maxRecDepth 100000
namespace Go.Proofs.Ytjpcaplhblomcaa
open Go.Sx Go.ChangeShapes Go.WideShapes

def kAct : List Kd := .i .i64 :: .i .i64 :: (kKey ++ kKey)
theorem flatAct : flatK Try.prog 8 59 = some kAct := by kernel_rfl
theorem celAct : Try.prog.cellsOf 59 = 14 := by kernel_rfl
theorem open_2keys {cs : List Value} (h : TyR (kKey ++ kKey) cs) : ∃ a b : Key, a.wf ∧ b.wf ∧ cs = keyCells a ++ keyCells b := by
  obtain ⟨h1, h2⟩ := TyR.split h
  obtain ⟨a, a1, a2⟩ := open_key1 h1
  obtain ⟨b, b1, b2⟩ := open_key1 h2
  exact ⟨a, b, a1, b1, by rw [← a2, ← b2, List.take_append_drop]⟩
theorem open_act {cs : List Value} (h : TyR kAct cs) : ∃ x : Acx, x.wf ∧ cs = cells Env.zero (actV x) := by
  match cs, h with
  | a :: b :: rest, h =>
    obtain ⟨⟨p, rfl, hp⟩, ⟨n, rfl, hn⟩, h⟩ := h
    obtain ⟨k, k', h1, h2, rfl⟩ := open_2keys h
    refine ⟨⟨p, n, k, k'⟩, ⟨hp, hn, h1, h2⟩, ?_⟩
    simp only [actV, cells_ag, cellsL, den, Value.cells]
    simp
  | [], h => exact h.elim
  | [_], h => exact h.2.elim

section
variable {H : Type} {enc : TypeId × Value → H} {W : World} {base : Nat} {v : Value} {d : DataW H} {ps : List MemPlace}
theorem act_ok {x : Acx} (h : x.wf) : ok (fun _ => False) (actV x) ∧ isTp (actV x) = false ∧ vsz (actV x) = 14 := ⟨⟨⟨h.1, h.2.1, h.2.2.1, h.2.2.2, trivial⟩, trivial, trivial, trivial, trivial, trivial⟩, rfl, rfl⟩
theorem elAct {n : Nat} {cs : List Value} {x : DataW H × List MemPlace} (h : DataW.trod enc Try.prog W 0 (fun _ => true) true n 59 cs = some x) : ∃ o : Acx, o.wf ∧ cs = cells Env.zero (actV o) :=
  open_act (flat_trod 8 _ _ flatAct n cs x h)
theorem arg_acts {t : TypeId} (ht : Try.prog.underlying t = some (.slice 59)) (hval : Value.okWide Try.prog W .any base t v) (hd : DataW.Trod enc Try.prog W 0 (fun _ => true) true t v d ps) :
    ∃ l : List Acx, (∀ o ∈ l, o.wf) ∧ ArgTL W v 14 (acts l) :=
  open_list (esz := 14) ht celAct (by decide) hval hd actV Acx.wf acts act0 (fun l => ⟨rfl, fun i => rfl⟩) (fun y hy => act_ok hy) fun n cs x hx => elAct hx
theorem arg_act {t : TypeId} {fs : Array Field} (ht : Try.prog.underlying t = some (.struct fs)) (hf : flatK Try.prog 8 t = some kAct) (hval : Value.okWide Try.prog W .any base t v) (hd : DataW.Trod enc Try.prog W 0 (fun _ => true) true t v d ps) :
    ∃ o : Acx, o.wf ∧ ∀ ρ, v = den ρ (actV o) := by
  unfold Value.okWide at hval
  rw [ht] at hval
  obtain ⟨cs, rfl, _⟩ := hval
  obtain ⟨n, hx⟩ := hd
  obtain ⟨o, h1, h2⟩ := open_act (flat_trod 8 _ _ hf n _ _ hx)
  refine ⟨o, h1, fun ρ => ?_⟩
  simp only [Value.cells] at h2
  rw [← cells_agree (N := fun _ => False) (ρ' := ρ) (fun _ h => h.elim) _ (act_ok h1).1] at h2
  simp only [actV, cells_ag] at h2
  simp only [actV, den, ← h2]
end

def kTwo : List Kd := .i .i64 :: (kKey ++ kKey)
theorem flatTwo : flatK Try.prog 8 28 = some kTwo := by kernel_rfl
section
variable {H : Type} {enc : TypeId × Value → H} {W : World} {base : Nat} {v : Value} {d : DataW H} {ps : List MemPlace}
theorem arg_two {t : TypeId} {fs : Array Field} (ht : Try.prog.underlying t = some (.struct fs)) (hf : flatK Try.prog 8 t = some kTwo) (hval : Value.okWide Try.prog W .any base t v) (hd : DataW.Trod enc Try.prog W 0 (fun _ => true) true t v d ps) :
    ∃ (i : Int) (a b : Key), ok (fun _ => False) (.ag [.it .i64 i, .key a, .key b]) ∧ ∀ ρ, v = den ρ (.ag [.it .i64 i, .key a, .key b]) := by
  unfold Value.okWide at hval
  rw [ht] at hval
  obtain ⟨cs, rfl, _⟩ := hval
  obtain ⟨n, hx⟩ := hd
  have h := flat_trod 8 _ _ hf n _ _ hx
  have hcs : (Value.agg cs).cells.toList = cs.toList := rfl
  rw [hcs] at h
  cases hc : cs.toList with
  | nil => rw [hc] at h; exact h.elim
  | cons x rest =>
    rw [hc] at h
    obtain ⟨⟨p, rfl, hp⟩, h⟩ := h
    obtain ⟨a, b, h1, h2, rfl⟩ := open_2keys h
    refine ⟨p, a, b, ⟨⟨hp, h1, h2, trivial⟩, trivial, trivial, trivial, trivial⟩, fun ρ => ?_⟩
    have : cs = (Value.int .i64 p :: (keyCells a ++ keyCells b)).toArray := by rw [← hc]
    rw [this]
    simp only [den, cellsL, Value.cells]
    simp
end

/-- Lists that were handed in are only read. -/
theorem ro_hrep {ρ : Env} {res : List Res} {W : World} (h : HRep ρ (fun _ _ => False) res (known res) W (fun _ => False) W) (hk : ∀ i, i < res.length → known res i) : HRep ρ (fun _ _ => False) (rosOf res) (known (rosOf res)) W (fun _ => False) W := by
  have hg : ∀ i, rget (rosOf res) i = if i < res.length then .ro (rget res i) else .yet := fun i => by
    rw [rget_eq, rget_eq]
    unfold rosOf
    by_cases hi : i < res.length
    · simp [List.getD_eq_getElem?_getD, hi]
    · simp [List.getD_eq_getElem?_getD, hi]
  have hkn : ∀ i, known (rosOf res) i ↔ i < res.length := fun i => by
    unfold known
    rw [hg]
    split <;> simp_all
  refine ⟨fun i hi => hi, Nat.le_refl _, rfl, rfl, rfl, fun i hi => ?_, fun i b _ h => h.elim, fun i j b _ _ _ h => h.elim, fun i b _ h => h.elim, fun _ _ _ => rfl⟩
  have hlt := (hkn i).1 hi
  rw [hg, if_pos hlt]
  exact ⟨fun _ => False, Res.holds_K _ (h.holds i (hk i hlt)) fun j hj => (hkn j).2 (rget_lt hj), fun b hb => hb.elim⟩
theorem arg_known {A : List (Value × Nat × TL)} : ∀ i, i < (argRes A).length → known (argRes A) i := fun i hi => by
  rw [argRes_length] at hi
  unfold known
  rw [argRes_get, List.getElem?_eq_getElem hi]
  simp
theorem known_ro {l : List Res} {i : Nat} {r : Res} (h : rget l i = .ro r) : known l i := by
  unfold known; rw [h]; simp
theorem flatInt : flatK Try.prog 8 3 = some [.i .i64] := by kernel_rfl
theorem celInt : Try.prog.cellsOf 3 = 1 := by kernel_rfl
theorem celInts : Try.prog.cellsOf 50 = 1 := by kernel_rfl
section
variable {H : Type} {enc : TypeId × Value → H} {W : World} {base : Nat} {v : Value} {d : DataW H} {ps : List MemPlace}
theorem elInt {n : Nat} {cs : List Value} {x : DataW H × List MemPlace} (h : DataW.trod enc Try.prog W 0 (fun _ => true) true n 3 cs = some x) : ∃ y : Int, inR .i64 y ∧ cs = cells Env.zero (.it .i64 y) := by
  have := flat_trod 8 _ _ flatInt n cs x h
  clear h
  cases cs with
  | nil => exact this.elim
  | cons a rest =>
    obtain ⟨⟨y, e, hy⟩, hr⟩ := this
    cases rest with
    | nil => exact ⟨y, hy, by rw [e]; rfl⟩
    | cons _ _ => exact hr.elim
theorem arg_way {t : TypeId} {f0 f1 : Field} (ht : Try.prog.underlying t = some (.struct #[f0, f1])) (h0 : f0.type = 50 ∧ f0.offset = 0) (h1 : f1.type = 26 ∧ f1.offset = 1) (hct : Try.prog.cellsOf t = 7)
    (hval : Value.okWide Try.prog W .any base t v) (hd : DataW.Trod enc Try.prog W 0 (fun _ => true) true t v d ps) :
    ∃ (s : List Int) (b : Key) (v0 : Value), b.wf ∧ ArgTL W v0 1 (.it .i64 s) ∧ v = .agg (v0 :: keyCells b).toArray := by
  unfold Value.okWide at hval
  rw [ht] at hval
  obtain ⟨cs, rfl, _⟩ := hval
  obtain ⟨n, hx⟩ := hd
  have hcs : (Value.agg cs).cells.toList = cs.toList := rfl
  rw [hcs] at hx
  obtain ⟨xs, m, _, _, hl, hxl, hall⟩ := DataW.trod_struct ht hx
  have a0 := hall 0 f0 rfl
  have a1 := hall 1 f1 rfl
  rw [h0.1, h0.2, celInts] at a0
  rw [h1.1, h1.2, celKey] at a1
  rw [hct] at hl
  cases hc : cs.toList with
  | nil => rw [hc] at hl; simp at hl
  | cons v0 rest =>
    rw [hc] at a0 a1 hl
    simp only [List.drop_zero, List.take_succ_cons, List.take_zero] at a0
    have hr : (v0 :: rest).drop 1 = rest := rfl
    rw [hr, List.take_of_length_le (by simp at hl; omega)] at a1
    have hx0 : ∃ x0, xs[0]? = some x0 := ⟨xs[0]'(by rw [hxl]; simp), List.getElem?_eq_getElem _⟩
    have hx1 : ∃ x1, xs[1]? = some x1 := ⟨xs[1]'(by rw [hxl]; simp), List.getElem?_eq_getElem _⟩
    obtain ⟨x0, hx0⟩ := hx0
    obtain ⟨x1, hx1⟩ := hx1
    rw [hx0] at a0
    rw [hx1] at a1
    obtain ⟨b, b1, b2⟩ := open_key1 (flat_trod 8 _ _ flatKey m rest x1 a1)
    have hsl : ∃ q ln cp, v0 = .slice q ln cp := by
      rcases Go.Deep.open_slice Try.underlying50 a0 with ⟨h, _⟩ | ⟨q, ln, cp, _, _, _, _, h, _⟩
      · simp at h; exact ⟨_, _, _, h⟩
      · simp at h; exact ⟨_, _, _, h⟩
    have hv0 : v0.cells.toList = [v0] := by obtain ⟨q, ln, cp, rfl⟩ := hsl; rfl
    obtain ⟨s, _, s2⟩ := open_list0 (esz := 1) (v := v0) (d := x0.1) (ps := x0.2) Try.underlying50 celInt (by decide) hsl ⟨m, by rw [hv0]; exact a0⟩ (V.it .i64) (inR .i64) (TL.it .i64) 0 (fun l => ⟨rfl, fun i => rfl⟩) (fun y hy => ⟨hy, rfl, rfl⟩) fun n cs x hx => elInt hx
    refine ⟨s, b, v0, b1, s2, ?_⟩
    have : cs = (v0 :: rest).toArray := by rw [← hc]
    rw [this, b2]
theorem way_den {ρ : Env} {v0 : Value} {b : Key} {i esz : Nat} {l : TL} (h : ArgTL W v0 esz l) (hd : den ρ (.sa i) = v0) : den ρ (.ag [.sa i, .key b]) = .agg (v0 :: keyCells b).toArray := by
  obtain ⟨_, _, sa, cap, hv, _⟩ := h
  simp only [den, cellsL] at hd ⊢
  rw [hd, hv]
  simp [Value.cells]
end
end Go.Proofs.Ytjpcaplhblomcaa
