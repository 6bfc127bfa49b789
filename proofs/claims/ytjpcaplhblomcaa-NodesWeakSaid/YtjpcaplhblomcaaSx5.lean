/- Equality of plain structs and arrays, as the model has it: cell by cell. No condition. -/
import Derived.Test.YtjpcaplhblomcaaSx4
set_option linter.unusedVariables false
set_option linter.unusedSimpArgs false
namespace Go.Sx

/-- The kind of a plain cell. -/
inductive Kd where
  | b
  | s
  | i (k : IntKind)
  deriving DecidableEq

def Kd.of : Kd → Value → Prop
  | .b, v => ∃ x, v = .bool x
  | .s, v => ∃ x, v = .string x
  | .i k, v => ∃ n, v = .int k n

/-- Cells of these kinds. -/
def TyC : List Kd → List Value → Prop
  | [], [] => True
  | k :: ks, v :: vs => k.of v ∧ TyC ks vs
  | _, _ => False

theorem TyC.length : ∀ {ks : List Kd} {vs : List Value}, TyC ks vs → vs.length = ks.length
  | [], [], _ => rfl
  | _ :: _, _ :: _, h => by simp [TyC.length h.2]
  | [], _ :: _, h => h.elim
  | _ :: _, [], h => h.elim

theorem TyC.split : ∀ {a b : List Kd} {vs : List Value}, TyC (a ++ b) vs → TyC a (vs.take a.length) ∧ TyC b (vs.drop a.length)
  | [], b, vs, h => by simpa [TyC] using h
  | k :: a, b, [], h => h.elim
  | k :: a, b, v :: vs, h => by
    obtain ⟨h1, h2⟩ := TyC.split (a := a) h.2
    exact ⟨by simpa [TyC] using ⟨h.1, h1⟩, by simpa using h2⟩

theorem TyC.join : ∀ {a b : List Kd} {vs us : List Value}, TyC a vs → TyC b us → TyC (a ++ b) (vs ++ us)
  | [], _, [], _, _, h => by simpa using h
  | k :: a, _, v :: vs, _, h, h' => ⟨h.1, TyC.join h.2 h'⟩
  | [], _, _ :: _, _, h, _ => h.elim
  | _ :: _, _, [], _, h, _ => h.elim

/-- The kinds of the fields, one behind the other. -/
def flatFs (g : Nat → Option (List Kd)) : Nat → List Field → Option (List Kd)
  | _, [] => some []
  | off, f :: fs => if f.name != "_" && f.offset == off then
      match g f.type with
      | none => none
      | some ks => (flatFs g (off + ks.length) fs).map (ks ++ ·)
    else none

/-- The kinds of a plain type's cells. -/
def flatK (P : Program) : Nat → Nat → Option (List Kd)
  | 0, _ => none
  | f + 1, t => match P.underlying t with
    | some .bool => some [.b]
    | some .string => some [.s]
    | some (.int k) => some [.i k]
    | some (.struct fs) => if P.stoodInHeld t then none else
        match flatFs (flatK P f) 0 fs.toList with
        | none => none
        | some ks => if tsz P t == some ks.length then some ks else none
    | some (.array n e) => match flatK P f e with
        | none => none
        | some ks => if tsz P e == some ks.length && tsz P t == some (n * ks.length) then some (List.replicate n ks).flatten else none
    | _ => none

theorem beq_bytes (x y : ByteArray) : (x == y) = decide (x = y) := by
  rw [beq_toListBytes, ByteArray.toList_eq, ByteArray.toList_eq]
  obtain ⟨⟨x⟩⟩ := x
  obtain ⟨⟨y⟩⟩ := y
  rw [Bool.eq_iff_iff]
  simp

section
variable {P : Program}

theorem flatK_tsz_agg {f t : Nat} {ks : List Kd} {a : Bool} (h : flatK P f t = some ks) (ha : aggT P t = some a) : (a = true → tsz P t = some ks.length) ∧ (a = false → ks.length = 1) := by
  cases f with
  | zero => simp [flatK] at h
  | succ f =>
    unfold flatK at h
    unfold aggT at ha
    split at h
    · rename_i hu; rw [hu] at ha; simp at ha h; subst ha; subst h; simp
    · rename_i hu; rw [hu] at ha; simp at ha h; subst ha; subst h; simp
    · rename_i hu; rw [hu] at ha; simp at ha h; subst ha; subst h; simp
    · rename_i hu; rw [hu] at ha; simp at ha; subst ha
      split at h
      · simp at h
      · split at h
        · simp at h
        · split at h
          · rename_i hs; simp at h; subst h; simpa using hs
          · simp at h
    · rename_i hu; rw [hu] at ha; simp at ha; subst ha
      split at h
      · simp at h
      · split at h
        · rename_i hs; simp at h; subst h
          simp only [Bool.and_eq_true, beq_iff_eq] at hs
          simp [hs.2]
        · simp at h
    · simp at h

theorem flatK_agg {f t : Nat} {ks : List Kd} (h : flatK P f t = some ks) : ∃ a, aggT P t = some a := by
  cases f with
  | zero => simp [flatK] at h
  | succ f =>
    unfold flatK at h
    unfold aggT
    split at h <;> first | (rename_i hu; rw [hu]; exact ⟨_, rfl⟩) | (simp at h)

/-- The part of the cells that a type takes. -/
theorem run_part_flat {f t off : Nat} {ks : List Kd} {a : Bool} {xs : List Value} (w : World) (h : flatK P f t = some ks) (ha : aggT P t = some a)
    (hl : off + ks.length ≤ xs.length) : (part t xs.toArray off).run P w = .ok (asPart a ((xs.drop off).take ks.length)) w := by
  obtain ⟨h1, h2⟩ := flatK_tsz_agg h ha
  unfold part
  rw [Sem.run_bind, run_isAgg w ha]
  cases a with
  | true =>
    simp only [Result.andThen_ok, if_true, Sem.run_bind, run_tsz w (h1 rfl), Sem.run_pure, asPart]
    congr 2
    apply Array.ext'
    simp [List.extract_eq_take_drop]
  | false =>
    have h2 := h2 rfl
    have hlt : off < xs.length := by omega
    simp only [Result.andThen_ok, Bool.false_eq_true, if_false, List.getElem?_toArray, List.getElem?_eq_getElem hlt, Sem.run_pure, asPart, h2]
    congr 1
    rw [List.getD_eq_getElem?_getD, List.getElem?_take_of_lt (by omega), List.getElem?_drop]
    simp [List.getElem?_eq_getElem hlt]

/-- What equality tells. -/
def Eqs (P : Program) (d t : Nat) (a : Bool) (xs ys : List Value) : Prop :=
  ∀ w, ∃ b, (Op.equalIn d t (asPart a xs) (asPart a ys)).run P w = .ok b w ∧ (b = true ↔ xs = ys)

theorem eq_take_drop {α : Type} (n : Nat) (xs ys : List α) : xs = ys ↔ xs.take n = ys.take n ∧ xs.drop n = ys.drop n :=
  ⟨fun h => by subst h; exact ⟨rfl, rfl⟩, fun ⟨h1, h2⟩ => by rw [← List.take_append_drop n xs, ← List.take_append_drop n ys, h1, h2]⟩

theorem run_eqFields (f d : Nat) (hd : ∀ t ks a xs ys, flatK P f t = some ks → aggT P t = some a → TyC ks xs → TyC ks ys → Eqs P d t a xs ys) (X Y : List Value) (hXY : X.length = Y.length) (w : World) :
    ∀ (fs : List Field) (off : Nat) (ks : List Kd), flatFs (flatK P f) off fs = some ks → off + ks.length = X.length → TyC ks (X.drop off) → TyC ks (Y.drop off) →
    ∃ b, (Op.eqFields d X.toArray Y.toArray fs).run P w = .ok b w ∧ (b = true ↔ X.drop off = Y.drop off)
  | [], off, ks, h, hl, hx, hy => by
    simp only [flatFs, Option.some.injEq] at h
    subst h
    refine ⟨true, rfl, ?_⟩
    simp only [List.length_nil, Nat.add_zero] at hl
    simp [List.drop_eq_nil_of_le (show X.length ≤ off by omega), List.drop_eq_nil_of_le (show Y.length ≤ off by omega)]
  | g :: fs, off, ks, h, hl, hx, hy => by
    simp only [flatFs] at h
    split at h
    · rename_i hc
      simp only [Bool.and_eq_true, bne_iff_ne, ne_eq, beq_iff_eq] at hc
      obtain ⟨hn, ho⟩ := hc
      cases hg : flatK P f g.type with
      | none => simp [hg] at h
      | some k1 =>
        simp only [hg] at h
        cases hr : flatFs (flatK P f) (off + k1.length) fs with
        | none => simp [hr] at h
        | some k2 =>
          simp only [hr, Option.map_some, Option.some.injEq] at h
          subst h
          simp only [List.length_append] at hl
          obtain ⟨a, ha⟩ := flatK_agg hg
          obtain ⟨x1, x2⟩ := TyC.split hx
          obtain ⟨y1, y2⟩ := TyC.split hy
          obtain ⟨b, hb, hbi⟩ := hd _ _ _ _ _ hg ha x1 y1 w
          simp only [List.drop_drop] at x2 y2
          obtain ⟨b', hb', hbi'⟩ := run_eqFields f d hd X Y hXY w fs (off + k1.length) k2 hr (by omega) x2 y2
          have e1 := run_part_flat (xs := X) (off := off) w hg ha (by omega)
          have e2 := run_part_flat (xs := Y) (off := off) w hg ha (by omega)
          simp only [Op.eqFields, if_pos hn, ho, Sem.run_bind, e1, e2, hb, Result.andThen_ok, Sem.run_ite]
          rw [eq_take_drop k1.length (X.drop off) (Y.drop off)]
          simp only [List.drop_drop]
          cases b with
          | false => exact ⟨false, by simp, by simp; exact fun h => absurd (hbi.2 h) (by simp)⟩
          | true => exact ⟨b', by simpa using hb', by rw [hbi']; exact ⟨fun h => ⟨hbi.1 rfl, h⟩, fun h => h.2⟩⟩
    · simp at h

theorem flat_rep_length (n : Nat) (ks : List Kd) : (List.replicate n ks).flatten.length = n * ks.length := by simp

def eqArr (d e n : Nat) (X Y : Array Value) : List Nat → Sem Bool
  | [] => pure true
  | i :: is => do
    let a ← part e X (i * n)
    let b ← part e Y (i * n)
    let r ← Op.equalIn d e a b
    if (!r) = true then pure false else eqArr d e n X Y is

theorem run_eqArr (f d : Nat) (hd : ∀ t ks a xs ys, flatK P f t = some ks → aggT P t = some a → TyC ks xs → TyC ks ys → Eqs P d t a xs ys) {e : Nat} {ks : List Kd} {a : Bool} (he : flatK P f e = some ks) (ha : aggT P e = some a)
    (X Y : List Value) (hXY : X.length = Y.length) (w : World) : ∀ (m j : Nat), j * ks.length + m * ks.length = X.length → TyC (List.replicate m ks).flatten (X.drop (j * ks.length)) → TyC (List.replicate m ks).flatten (Y.drop (j * ks.length)) →
    ∃ b, (eqArr d e ks.length X.toArray Y.toArray (List.range' j m)).run P w = .ok b w ∧ (b = true ↔ X.drop (j * ks.length) = Y.drop (j * ks.length))
  | 0, j, hl, hx, hy => by
    refine ⟨true, rfl, ?_⟩
    simp only [Nat.zero_mul, Nat.add_zero] at hl
    simp [List.drop_eq_nil_of_le (show X.length ≤ j * ks.length by omega), List.drop_eq_nil_of_le (show Y.length ≤ j * ks.length by omega)]
  | m + 1, j, hl, hx, hy => by
    rw [List.replicate_succ, List.flatten_cons] at hx hy
    obtain ⟨x1, x2⟩ := TyC.split hx
    obtain ⟨y1, y2⟩ := TyC.split hy
    rw [Nat.succ_mul] at hl
    obtain ⟨b, hb, hbi⟩ := hd _ _ _ _ _ he ha x1 y1 w
    simp only [List.drop_drop, show j * ks.length + ks.length = (j + 1) * ks.length by rw [Nat.succ_mul]] at x2 y2
    obtain ⟨b', hb', hbi'⟩ := run_eqArr f d hd he ha X Y hXY w m (j + 1) (by rw [Nat.succ_mul]; omega) x2 y2
    have e1 := run_part_flat (xs := X) (off := j * ks.length) w he ha (by omega)
    have e2 := run_part_flat (xs := Y) (off := j * ks.length) w he ha (by omega)
    simp only [List.range'_succ, eqArr, Sem.run_bind, e1, e2, hb, Result.andThen_ok, Sem.run_ite]
    rw [eq_take_drop ks.length (X.drop (j * ks.length)) (Y.drop (j * ks.length))]
    simp only [List.drop_drop, show j * ks.length + ks.length = (j + 1) * ks.length by rw [Nat.succ_mul]]
    cases b with
    | false => exact ⟨false, by simp, by simp; exact fun h => absurd (hbi.2 h) (by simp)⟩
    | true => exact ⟨b', by simpa using hb', by rw [hbi']; exact ⟨fun h => ⟨hbi.1 rfl, h⟩, fun h => h.2⟩⟩

theorem run_equalIn_array (d t len e n : Nat) (X Y : Array Value) (w : World) (hu : P.underlying t = some (.array len e)) (hn : tsz P e = some n) :
    (Op.equalIn (d + 1) t (.agg X) (.agg Y)).run P w = (eqArr d e n X Y (List.range' 0 len)).run P w := by
  simp only [Op.equalIn, Sem.run_bind, run_und w hu, Result.andThen_ok, run_tsz w hn]
  rw [Std.Legacy.Range.forIn_eq_forIn_range']
  simp only [Std.Legacy.Range.size, Nat.sub_zero, Nat.add_sub_cancel, Nat.div_one]
  generalize List.range' 0 len = is
  induction is generalizing w with
  | nil => simp [eqArr]
  | cons i is ih =>
    simp only [List.forIn_cons, eqArr, Sem.run_bind, Sem.run_ite]
    generalize (part e X (i * n)).run P w = r1
    cases r1 with
    | ok a w1 =>
      simp only [Result.andThen_ok]
      generalize (part e Y (i * n)).run P w1 = r2
      cases r2 with
      | ok b w2 =>
        simp only [Result.andThen_ok]
        generalize (Op.equalIn d e a b).run P w2 = r3
        cases r3 with
        | ok r w3 =>
          cases r
          · simp only [Result.andThen_ok, Bool.not_false, if_true, Sem.run_pure]
          · simp only [Result.andThen_ok, Bool.not_true, Bool.false_eq_true, if_false, Sem.run_pure]
            exact ih w3
        | halt x w3 => simp [Result.andThen]
      | halt x w2 => simp [Result.andThen]
    | halt x w1 => simp [Result.andThen]

theorem run_eq_flat : ∀ (f d : Nat), f ≤ d → ∀ t ks a xs ys, flatK P f t = some ks → aggT P t = some a → TyC ks xs → TyC ks ys → Eqs P d t a xs ys
  | 0, _, _, _, _, _, _, _, h, _, _, _ => by simp [flatK] at h
  | f + 1, 0, hfd, _, _, _, _, _, _, _, _, _ => by omega
  | f + 1, d + 1, hfd, t, ks, a, xs, ys, h, ha, hx, hy => by
    intro w
    have ih := fun t ks a xs ys => run_eq_flat f d (by omega) t ks a xs ys
    unfold flatK at h
    split at h
    · rename_i hu
      simp only [aggT, hu, Option.some.injEq] at ha h
      subst ha; subst h
      match xs, ys, hx, hy with
      | [_], [_], ⟨⟨x, rfl⟩, _⟩, ⟨⟨y, rfl⟩, _⟩ =>
        exact ⟨x == y, by simp [asPart, Op.equalIn, run_und w hu], by simp⟩
    · rename_i hu
      simp only [aggT, hu, Option.some.injEq] at ha h
      subst ha; subst h
      match xs, ys, hx, hy with
      | [_], [_], ⟨⟨x, rfl⟩, _⟩, ⟨⟨y, rfl⟩, _⟩ =>
        refine ⟨x == y, by simp [asPart, Op.equalIn, run_und w hu], ?_⟩
        rw [beq_bytes]
        simp
    · rename_i k hu
      simp only [aggT, hu, Option.some.injEq] at ha h
      subst ha; subst h
      match xs, ys, hx, hy with
      | [_], [_], ⟨⟨x, rfl⟩, _⟩, ⟨⟨y, rfl⟩, _⟩ =>
        exact ⟨x == y, by simp [asPart, Op.equalIn, run_und w hu], by simp⟩
    · rename_i fs hu
      simp only [aggT, hu, Option.some.injEq] at ha
      subst ha
      split at h
      · simp at h
      · rename_i hst
        split at h
        · simp at h
        · rename_i k hk
          split at h <;> simp only [Option.some.injEq, reduceCtorEq] at h
          subst h
          have hlx := hx.length
          have hly := hy.length
          obtain ⟨b, hb, hbi⟩ := run_eqFields f d ih xs ys (by omega) w fs.toList 0 k hk (by omega) (by simpa using hx) (by simpa using hy)
          have hff : P.fieldsOf t = fs := by simp [Program.fieldsOf, hu]
          refine ⟨b, ?_, by simpa using hbi⟩
          rw [← hb]
          have := run_equalIn_struct (P := P) w d t xs.toArray ys.toArray (by rw [hu, hff]) (by simpa using hst)
          rw [hff] at this
          simpa [asPart] using this
    · rename_i n e hu
      simp only [aggT, hu, Option.some.injEq] at ha
      subst ha
      split at h
      · simp at h
      · rename_i k hk
        split at h <;> simp only [Option.some.injEq, reduceCtorEq] at h
        rename_i hs
        simp only [Bool.and_eq_true, beq_iff_eq] at hs
        subst h
        have hlx := hx.length
        have hly := hy.length
        rw [flat_rep_length] at hlx hly
        obtain ⟨a, ha⟩ := flatK_agg hk
        obtain ⟨b, hb, hbi⟩ := run_eqArr f d ih hk ha xs ys (by omega) w n 0 (by omega) (by simpa using hx) (by simpa using hy)
        refine ⟨b, ?_, by simpa using hbi⟩
        rw [← hb]
        simpa [asPart] using run_equalIn_array (P := P) d t n e k.length xs.toArray ys.toArray w hu hs.1
    · simp at h

end
end Go.Sx
