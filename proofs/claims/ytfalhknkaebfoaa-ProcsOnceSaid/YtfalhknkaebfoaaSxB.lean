/- Equality of plain structs and arrays, as the model has it: cell by cell. No condition. -/
import Derived.Test.YtfalhknkaebfoaaSxA
set_option linter.unusedVariables false
set_option linter.unusedSimpArgs false
namespace Go.Sx

/-- The kind of a plain cell. -/
inductive Kd where
  | b
  | s
  | i (k : IntKind)
  deriving DecidableEq

def Kd.of : Kd → Value → Prop
  | .b, v => ∃ x, v = .bool x
  | .s, v => ∃ x, v = .string x
  | .i k, v => ∃ n, v = .int k n

/-- Cells of these kinds. -/
def TyC : List Kd → List Value → Prop
  | [], [] => True
  | k :: ks, v :: vs => k.of v ∧ TyC ks vs
  | _, _ => False

theorem TyC.length : ∀ {ks : List Kd} {vs : List Value}, TyC ks vs → vs.length = ks.length
  | [], [], _ => rfl
  | _ :: _, _ :: _, h => by simp [TyC.length h.2]
  | [], _ :: _, h => h.elim
  | _ :: _, [], h => h.elim

theorem TyC.split : ∀ {a b : List Kd} {vs : List Value}, TyC (a ++ b) vs → TyC a (vs.take a.length) ∧ TyC b (vs.drop a.length)
  | [], b, vs, h => by simpa [TyC] using h
  | k :: a, b, [], h => h.elim
  | k :: a, b, v :: vs, h => by
    obtain ⟨h1, h2⟩ := TyC.split (a := a) h.2
    exact ⟨by simpa [TyC] using ⟨h.1, h1⟩, by simpa using h2⟩

theorem TyC.join : ∀ {a b : List Kd} {vs us : List Value}, TyC a vs → TyC b us → TyC (a ++ b) (vs ++ us)
  | [], _, [], _, _, h => by simpa using h
  | k :: a, _, v :: vs, _, h, h' => ⟨h.1, TyC.join h.2 h'⟩
  | [], _, _ :: _, _, h, _ => h.elim
  | _ :: _, _, [], _, h, _ => h.elim

/-- The kinds of the fields, one behind the other. -/
def flatFs (g : Nat → Option (List Kd)) : Nat → List Field → Option (List Kd)
  | _, [] => some []
  | off, f :: fs => if f.name != "_" && f.offset == off then
      match g f.type with
      | none => none
      | some ks => (flatFs g (off + ks.length) fs).map (ks ++ ·)
    else none

/-- The kinds of a plain type's cells. -/
def flatK (P : Program) : Nat → Nat → Option (List Kd)
  | 0, _ => none
  | f + 1, t => match P.underlying t with
    | some .bool => some [.b]
    | some .string => some [.s]
    | some (.int k) => some [.i k]
    | some (.struct fs) => if P.stoodInHeld t then none else
        match flatFs (flatK P f) 0 fs.toList with
        | none => none
        | some ks => if tsz P t == some ks.length then some ks else none
    | some (.array n e) => match flatK P f e with
        | none => none
        | some ks => if tsz P e == some ks.length && tsz P t == some (n * ks.length) then some (List.replicate n ks).flatten else none
    | _ => none

theorem beq_bytes (x y : ByteArray) : (x == y) = decide (x = y) := by
  rw [beq_toListBytes, ByteArray.toList_eq, ByteArray.toList_eq]
  obtain ⟨⟨x⟩⟩ := x
  obtain ⟨⟨y⟩⟩ := y
  rw [Bool.eq_iff_iff]
  simp

section
variable {P : Program}

theorem flatK_tsz_agg {f t : Nat} {ks : List Kd} {a : Bool} (h : flatK P f t = some ks) (ha : aggT P t = some a) : (a = true → tsz P t = some ks.length) ∧ (a = false → ks.length = 1) := by
  cases f with
  | zero => simp [flatK] at h
  | succ f =>
    unfold flatK at h
    unfold aggT at ha
    split at h
    · rename_i hu; rw [hu] at ha; simp at ha h; subst ha; subst h; simp
    · rename_i hu; rw [hu] at ha; simp at ha h; subst ha; subst h; simp
    · rename_i hu; rw [hu] at ha; simp at ha h; subst ha; subst h; simp
    · rename_i hu; rw [hu] at ha; simp at ha; subst ha
      split at h
      · simp at h
      · split at h
        · simp at h
        · split at h
          · rename_i hs; simp at h; subst h; simpa using hs
          · simp at h
    · rename_i hu; rw [hu] at ha; simp at ha; subst ha
      split at h
      · simp at h
      · split at h
        · rename_i hs; simp at h; subst h
          simp only [Bool.and_eq_true, beq_iff_eq] at hs
          simp [hs.2]
        · simp at h
    · simp at h

theorem flatK_agg {f t : Nat} {ks : List Kd} (h : flatK P f t = some ks) : ∃ a, aggT P t = some a := by
  cases f with
  | zero => simp [flatK] at h
  | succ f =>
    unfold flatK at h
    unfold aggT
    split at h <;> first | (rename_i hu; rw [hu]; exact ⟨_, rfl⟩) | (simp at h)

/-- The part of the cells that a type takes. -/
theorem run_part_flat {f t off : Nat} {ks : List Kd} {a : Bool} {xs : List Value} (w : World) (h : flatK P f t = some ks) (ha : aggT P t = some a)
    (hl : off + ks.length ≤ xs.length) : (part t xs.toArray off).run P w = .ok (asPart a ((xs.drop off).take ks.length)) w := by
  obtain ⟨h1, h2⟩ := flatK_tsz_agg h ha
  unfold part
  rw [Sem.run_bind, run_isAgg w ha]
  cases a with
  | true =>
    simp only [Result.andThen_ok, if_true, Sem.run_bind, run_tsz w (h1 rfl), Sem.run_pure, asPart]
    congr 2
    apply Array.ext'
    simp [List.extract_eq_take_drop]
  | false =>
    have h2 := h2 rfl
    have hlt : off < xs.length := by omega
    simp only [Result.andThen_ok, Bool.false_eq_true, if_false, List.getElem?_toArray, List.getElem?_eq_getElem hlt, Sem.run_pure, asPart, h2]
    congr 1
    rw [List.getD_eq_getElem?_getD, List.getElem?_take_of_lt (by omega), List.getElem?_drop]
    simp [List.getElem?_eq_getElem hlt]

/-- What equality tells. -/
def Eqs (P : Program) (d t : Nat) (a : Bool) (xs ys : List Value) : Prop :=
  ∀ w, ∃ b, (Op.equalIn d t (asPart a xs) (asPart a ys)).run P w = .ok b w ∧ (b = true ↔ xs = ys)

theorem eq_take_drop {α : Type} (n : Nat) (xs ys : List α) : xs = ys ↔ xs.take n = ys.take n ∧ xs.drop n = ys.drop n :=
  ⟨fun h => by subst h; exact ⟨rfl, rfl⟩, fun ⟨h1, h2⟩ => by rw [← List.take_append_drop n xs, ← List.take_append_drop n ys, h1, h2]⟩

theorem run_eqFields (f d : Nat) (hd : ∀ t ks a xs ys, flatK P f t = some ks → aggT P t = some a → TyC ks xs → TyC ks ys → Eqs P d t a xs ys) (X Y : List Value) (hXY : X.length = Y.length) (w : World) :
    ∀ (fs : List Field) (off : Nat) (ks : List Kd), flatFs (flatK P f) off fs = some ks → off + ks.length = X.length → TyC ks (X.drop off) → TyC ks (Y.drop off) →
    ∃ b, (Op.eqFields d X.toArray Y.toArray fs).run P w = .ok b w ∧ (b = true ↔ X.drop off = Y.drop off)
  | [], off, ks, h, hl, hx, hy => by
    simp only [flatFs, Option.some.injEq] at h
    subst h
    refine ⟨true, rfl, ?_⟩
    simp only [List.length_nil, Nat.add_zero] at hl
    simp [List.drop_eq_nil_of_le (show X.length ≤ off by omega), List.drop_eq_nil_of_le (show Y.length ≤ off by omega)]
  | g :: fs, off, ks, h, hl, hx, hy => by
    simp only [flatFs] at h
    split at h
    · rename_i hc
      simp only [Bool.and_eq_true, bne_iff_ne, ne_eq, beq_iff_eq] at hc
      obtain ⟨hn, ho⟩ := hc
      cases hg : flatK P f g.type with
      | none => simp [hg] at h
      | some k1 =>
        simp only [hg] at h
        cases hr : flatFs (flatK P f) (off + k1.length) fs with
        | none => simp [hr] at h
        | some k2 =>
          simp only [hr, Option.map_some, Option.some.injEq] at h
          subst h
          simp only [List.length_append] at hl
          obtain ⟨a, ha⟩ := flatK_agg hg
          obtain ⟨x1, x2⟩ := TyC.split hx
          obtain ⟨y1, y2⟩ := TyC.split hy
          obtain ⟨b, hb, hbi⟩ := hd _ _ _ _ _ hg ha x1 y1 w
          simp only [List.drop_drop] at x2 y2
          obtain ⟨b', hb', hbi'⟩ := run_eqFields f d hd X Y hXY w fs (off + k1.length) k2 hr (by omega) x2 y2
          have e1 := run_part_flat (xs := X) (off := off) w hg ha (by omega)
          have e2 := run_part_flat (xs := Y) (off := off) w hg ha (by omega)
          simp only [Op.eqFields, if_pos hn, ho, Sem.run_bind, e1, e2, hb, Result.andThen_ok, Sem.run_ite]
          rw [eq_take_drop k1.length (X.drop off) (Y.drop off)]
          simp only [List.drop_drop]
          cases b with
          | false => exact ⟨false, by simp, by simp; exact fun h => absurd (hbi.2 h) (by simp)⟩
          | true => exact ⟨b', by simpa using hb', by rw [hbi']; exact ⟨fun h => ⟨hbi.1 rfl, h⟩, fun h => h.2⟩⟩
    · simp at h

theorem flat_rep_length (n : Nat) (ks : List Kd) : (List.replicate n ks).flatten.length = n * ks.length := by simp

def eqArr (d e n : Nat) (X Y : Array Value) : List Nat → Sem Bool
  | [] => pure true
  | i :: is => do
    let a ← part e X (i * n)
    let b ← part e Y (i * n)
    let r ← Op.equalIn d e a b
    if (!r) = true then pure false else eqArr d e n X Y is

theorem run_eqArr (f d : Nat) (hd : ∀ t ks a xs ys, flatK P f t = some ks → aggT P t = some a → TyC ks xs → TyC ks ys → Eqs P d t a xs ys) {e : Nat} {ks : List Kd} {a : Bool} (he : flatK P f e = some ks) (ha : aggT P e = some a)
    (X Y : List Value) (hXY : X.length = Y.length) (w : World) : ∀ (m j : Nat), j * ks.length + m * ks.length = X.length → TyC (List.replicate m ks).flatten (X.drop (j * ks.length)) → TyC (List.replicate m ks).flatten (Y.drop (j * ks.length)) →
    ∃ b, (eqArr d e ks.length X.toArray Y.toArray (List.range' j m)).run P w = .ok b w ∧ (b = true ↔ X.drop (j * ks.length) = Y.drop (j * ks.length))
  | 0, j, hl, hx, hy => by
    refine ⟨true, rfl, ?_⟩
    simp only [Nat.zero_mul, Nat.add_zero] at hl
    simp [List.drop_eq_nil_of_le (show X.length ≤ j * ks.length by omega), List.drop_eq_nil_of_le (show Y.length ≤ j * ks.length by omega)]
  | m + 1, j, hl, hx, hy => by
    rw [List.replicate_succ, List.flatten_cons] at hx hy
    obtain ⟨x1, x2⟩ := TyC.split hx
    obtain ⟨y1, y2⟩ := TyC.split hy
    rw [Nat.succ_mul] at hl
    obtain ⟨b, hb, hbi⟩ := hd _ _ _ _ _ he ha x1 y1 w
    simp only [List.drop_drop, show j * ks.length + ks.length = (j + 1) * ks.length by rw [Nat.succ_mul]] at x2 y2
    obtain ⟨b', hb', hbi'⟩ := run_eqArr f d hd he ha X Y hXY w m (j + 1) (by rw [Nat.succ_mul]; omega) x2 y2
    have e1 := run_part_flat (xs := X) (off := j * ks.length) w he ha (by omega)
    have e2 := run_part_flat (xs := Y) (off := j * ks.length) w he ha (by omega)
    simp only [List.range'_succ, eqArr, Sem.run_bind, e1, e2, hb, Result.andThen_ok, Sem.run_ite]
    rw [eq_take_drop ks.length (X.drop (j * ks.length)) (Y.drop (j * ks.length))]
    simp only [List.drop_drop, show j * ks.length + ks.length = (j + 1) * ks.length by rw [Nat.succ_mul]]
    cases b with
    | false => exact ⟨false, by simp, by simp; exact fun h => absurd (hbi.2 h) (by simp)⟩
    | true => exact ⟨b', by simpa using hb', by rw [hbi']; exact ⟨fun h => ⟨hbi.1 rfl, h⟩, fun h => h.2⟩⟩

theorem run_equalIn_array (d t len e n : Nat) (X Y : Array Value) (w : World) (hu : P.underlying t = some (.array len e)) (hn : tsz P e = some n) :
    (Op.equalIn (d + 1) t (.agg X) (.agg Y)).run P w = (eqArr d e n X Y (List.range' 0 len)).run P w := by
  simp only [Op.equalIn, Sem.run_bind, run_und w hu, Result.andThen_ok, run_tsz w hn]
  rw [Std.Legacy.Range.forIn_eq_forIn_range']
  simp only [Std.Legacy.Range.size, Nat.sub_zero, Nat.add_sub_cancel, Nat.div_one]
  generalize List.range' 0 len = is
  induction is generalizing w with
  | nil => simp [eqArr]
  | cons i is ih =>
    simp only [List.forIn_cons, eqArr, Sem.run_bind, Sem.run_ite]
    generalize (part e X (i * n)).run P w = r1
    cases r1 with
    | ok a w1 =>
      simp only [Result.andThen_ok]
      generalize (part e Y (i * n)).run P w1 = r2
      cases r2 with
      | ok b w2 =>
        simp only [Result.andThen_ok]
        generalize (Op.equalIn d e a b).run P w2 = r3
        cases r3 with
        | ok r w3 =>
          cases r
          · simp only [Result.andThen_ok, Bool.not_false, if_true, Sem.run_pure]
          · simp only [Result.andThen_ok, Bool.not_true, Bool.false_eq_true, if_false, Sem.run_pure]
            exact ih w3
        | halt x w3 => simp [Result.andThen]
      | halt x w2 => simp [Result.andThen]
    | halt x w1 => simp [Result.andThen]

theorem run_eq_flat : ∀ (f d : Nat), f ≤ d → ∀ t ks a xs ys, flatK P f t = some ks → aggT P t = some a → TyC ks xs → TyC ks ys → Eqs P d t a xs ys
  | 0, _, _, _, _, _, _, _, h, _, _, _ => by simp [flatK] at h
  | f + 1, 0, hfd, _, _, _, _, _, _, _, _, _ => by omega
  | f + 1, d + 1, hfd, t, ks, a, xs, ys, h, ha, hx, hy => by
    intro w
    have ih := fun t ks a xs ys => run_eq_flat f d (by omega) t ks a xs ys
    unfold flatK at h
    split at h
    · rename_i hu
      simp only [aggT, hu, Option.some.injEq] at ha h
      subst ha; subst h
      match xs, ys, hx, hy with
      | [_], [_], ⟨⟨x, rfl⟩, _⟩, ⟨⟨y, rfl⟩, _⟩ =>
        exact ⟨x == y, by simp [asPart, Op.equalIn, run_und w hu], by simp⟩
    · rename_i hu
      simp only [aggT, hu, Option.some.injEq] at ha h
      subst ha; subst h
      match xs, ys, hx, hy with
      | [_], [_], ⟨⟨x, rfl⟩, _⟩, ⟨⟨y, rfl⟩, _⟩ =>
        refine ⟨x == y, by simp [asPart, Op.equalIn, run_und w hu], ?_⟩
        rw [beq_bytes]
        simp
    · rename_i k hu
      simp only [aggT, hu, Option.some.injEq] at ha h
      subst ha; subst h
      match xs, ys, hx, hy with
      | [_], [_], ⟨⟨x, rfl⟩, _⟩, ⟨⟨y, rfl⟩, _⟩ =>
        exact ⟨x == y, by simp [asPart, Op.equalIn, run_und w hu], by simp⟩
    · rename_i fs hu
      simp only [aggT, hu, Option.some.injEq] at ha
      subst ha
      split at h
      · simp at h
      · rename_i hst
        split at h
        · simp at h
        · rename_i k hk
          split at h <;> simp only [Option.some.injEq, reduceCtorEq] at h
          subst h
          have hlx := hx.length
          have hly := hy.length
          obtain ⟨b, hb, hbi⟩ := run_eqFields f d ih xs ys (by omega) w fs.toList 0 k hk (by omega) (by simpa using hx) (by simpa using hy)
          have hff : P.fieldsOf t = fs := by simp [Program.fieldsOf, hu]
          refine ⟨b, ?_, by simpa using hbi⟩
          rw [← hb]
          have := run_equalIn_struct (P := P) w d t xs.toArray ys.toArray (by rw [hu, hff]) (by simpa using hst)
          rw [hff] at this
          simpa [asPart] using this
    · rename_i n e hu
      simp only [aggT, hu, Option.some.injEq] at ha
      subst ha
      split at h
      · simp at h
      · rename_i k hk
        split at h <;> simp only [Option.some.injEq, reduceCtorEq] at h
        rename_i hs
        simp only [Bool.and_eq_true, beq_iff_eq] at hs
        subst h
        have hlx := hx.length
        have hly := hy.length
        rw [flat_rep_length] at hlx hly
        obtain ⟨a, ha⟩ := flatK_agg hk
        obtain ⟨b, hb, hbi⟩ := run_eqArr f d ih hk ha xs ys (by omega) w n 0 (by omega) (by simpa using hx) (by simpa using hy)
        refine ⟨b, ?_, by simpa using hbi⟩
        rw [← hb]
        simpa [asPart] using run_equalIn_array (P := P) d t n e k.length xs.toArray ys.toArray w hu hs.1
    · simp at h

end
end Go.Sx
/- The plain operations of the executor: numbers, tests, parts of values. No condition. -/
set_option linter.unusedVariables false
set_option linter.unusedSimpArgs false
namespace Go.Sx
open Go.RowKit (Below)

/-- What the executor stands on: the program, the zero values of its types, the contracts of its functions. -/
structure Ctx where
  P : Program
  Z : Nat → Option V
  Γ : Nat → Option (List Res → Nat → List V → Option (Option Prop × V × List Res))
  D : Nat → Option (Nat × Nat) := fun _ => none

theorem wrap_in {k : IntKind} {n : Int} (h : inR k n) : k.wrap n = n := by
  cases k <;> simp only [inR] at h <;> simp [IntKind.wrap, IntKind.bits, IntKind.signed] <;> omega

theorem inR_wrap (k : IntKind) (n : Int) : inR k (k.wrap n) := by
  cases k <;> simp [IntKind.wrap, IntKind.bits, IntKind.signed, inR] <;> omega

def toInt : V → Option (IntKind × Int)
  | .ci k n => some (k, n)
  | .it k n => some (k, n)
  | .bt b => some (.u8, b2i b)
  | _ => none

def isCi : V → Bool
  | .ci _ _ => true
  | _ => false

theorem toInt_spec {ρ : Env} {K : Nat → Prop} {v : V} {k : IntKind} {n : Int} (h : toInt v = some (k, n)) (hv : ok K v) : den ρ v = .int k n ∧ inR k n := by
  cases v <;> simp [toInt] at h
  · obtain ⟨rfl, rfl⟩ := h; exact ⟨rfl, hv⟩
  · obtain ⟨rfl, rfl⟩ := h; exact ⟨rfl, hv⟩
  · obtain ⟨rfl, rfl⟩ := h
    rename_i b
    have := b.toNat_lt
    exact ⟨rfl, by simp only [inR, b2i]; omega⟩

def toBool : V → Option Bool
  | .cb b => some b
  | .bo b => some b
  | _ => none

theorem toBool_spec {ρ : Env} {v : V} {b : Bool} (h : toBool v = some b) : den ρ v = .bool b := by
  cases v <;> simp [toBool] at h <;> subst h <;> rfl

def isCb : V → Bool
  | .cb _ => true
  | _ => false

/-- A number: known, if it comes of known ones. -/
def mkI (c : Bool) (k : IntKind) (n : Int) : V := if c && decide (inR k n) then .ci k n else .it k n
def mkB (c : Bool) (b : Bool) : V := if c then .cb b else .bo b

theorem mkI_den (ρ : Env) (c : Bool) (k : IntKind) (n : Int) : den ρ (mkI c k n) = .int k n := by unfold mkI; split <;> rfl
theorem mkI_ok {K : Nat → Prop} {c : Bool} {k : IntKind} {n : Int} (h : inR k n) : ok K (mkI c k n) := by unfold mkI; split <;> exact h
theorem mkB_den (ρ : Env) (c : Bool) (b : Bool) : den ρ (mkB c b) = .bool b := by unfold mkB; split <;> rfl
theorem mkB_ok {K : Nat → Prop} {c : Bool} {b : Bool} : ok K (mkB c b) := by unfold mkB; split <;> trivial
theorem mkI_tp (c : Bool) (k : IntKind) (n : Int) : isTp (mkI c k n) = false := by unfold mkI; split <;> rfl

def cmpB (op : BinOp) (a b : Int) : Option Bool :=
  match op with
  | .lss => some (ilt a b)
  | .leq => some (ile a b)
  | .gtr => some (ilt b a)
  | .geq => some (ile b a)
  | .eql => some (ieq a b)
  | .neq => some (bnt (ieq a b))
  | _ => none

/-- The bits of two numbers. -/
def bitsI (op : BinOp) (k : IntKind) (x y : Int) : Int :=
  let a := BitVec.ofInt k.bits x
  let b := BitVec.ofInt k.bits y
  match op with
  | .and => k.wrap (a &&& b).toNat
  | .or => k.wrap (a ||| b).toNat
  | .xor => k.wrap (a ^^^ b).toNat
  | _ => k.wrap (a &&& ~~~b).toNat

def arith (op : BinOp) (k : IntKind) (a b : Int) : Option (Option Prop × Int) :=
  match op with
  | .add => some (some (inRo k (iadd a b)), iadd a b)
  | .sub => some (some (inRo k (isub a b)), isub a b)
  | .mul => some (some (inRo k (imul a b)), imul a b)
  | .quo => some (some (pNe b ∧ inRo k (idiv a b)), idiv a b)
  | .rem => some (some (pNe b ∧ inRo k (imod a b)), imod a b)
  | .and => some (none, bitsI .and k a b)
  | .or => some (none, bitsI .or k a b)
  | .xor => some (none, bitsI .xor k a b)
  | .andNot => some (none, bitsI .andNot k a b)
  | _ => none

/-- The same for known numbers. -/
def cmpC (op : BinOp) (a b : Int) : Option Bool :=
  match op with
  | .lss => some (decide (a < b))
  | .leq => some (decide (a ≤ b))
  | .gtr => some (decide (b < a))
  | .geq => some (decide (b ≤ a))
  | .eql => some (decide (a = b))
  | .neq => some (!decide (a = b))
  | _ => none

def arithC (op : BinOp) (a b : Int) : Option Int :=
  match op with
  | .add => some (a + b)
  | .sub => some (a - b)
  | .mul => some (a * b)
  | _ => none

theorem cmpC_eq (op : BinOp) (a b : Int) : cmpC op a b = cmpB op a b := by cases op <;> rfl

section
variable {P : Program}

theorem run_arithC {op : BinOp} {k : IntKind} {a b n : Int} (t : Nat) (w : World) (h : arithC op a b = some n) (hp : inR k n) :
    (binOp op t (.int k a) (.int k b)).run P w = .ok (.int k n) w := by
  cases op <;> simp only [arithC, Option.some.injEq, reduceCtorEq] at h <;> subst h <;> simp [binOp, Op.intArith, wrap_in hp]

theorem run_cmp {op : BinOp} {k : IntKind} {a b : Int} {r : Bool} (t : Nat) (w : World) (h : cmpB op a b = some r) : (binOp op t (.int k a) (.int k b)).run P w = .ok (.bool r) w := by
  cases op <;> simp only [cmpB, Option.some.injEq, reduceCtorEq] at h <;> subst h <;> simp [binOp, Op.intCmp, ilt, ile, ieq, bnt] <;> rw [Bool.eq_iff_iff] <;> simp

theorem run_arith {op : BinOp} {k : IntKind} {a b n : Int} {p : Option Prop} (t : Nat) (w : World) (h : arith op k a b = some (p, n)) (hp : holdsO p) :
    (binOp op t (.int k a) (.int k b)).run P w = .ok (.int k n) w ∧ inR k n := by
  cases op <;> simp only [arith, Option.some.injEq, Prod.mk.injEq, reduceCtorEq] at h <;> obtain ⟨rfl, rfl⟩ := h
  · exact ⟨by simp [binOp, Op.intArith, iadd, wrap_in (show inR k (a + b) from hp)], hp⟩
  · exact ⟨by simp [binOp, Op.intArith, isub, wrap_in (show inR k (a - b) from hp)], hp⟩
  · exact ⟨by simp [binOp, Op.intArith, imul, wrap_in (show inR k (a * b) from hp)], hp⟩
  · exact ⟨by simp [binOp, Op.intDiv, idiv, wrap_in (show inR k (a.tdiv b) from hp.2), show b ≠ 0 from hp.1], hp.2⟩
  · exact ⟨by simp [binOp, Op.intDiv, imod, show b ≠ 0 from hp.1], hp.2⟩
  · exact ⟨by simp [binOp, Op.intBits, bitsI], inR_wrap _ _⟩
  · exact ⟨by simp [binOp, Op.intBits, bitsI], inR_wrap _ _⟩
  · exact ⟨by simp [binOp, Op.intBits, bitsI], inR_wrap _ _⟩
  · exact ⟨by simp [binOp, Op.intBits, bitsI], inR_wrap _ _⟩

end

def kKey : List Kd := List.replicate 6 (.i .i64)
def kSl : List Kd := List.replicate 96 (.i .i64)
def kBy : List Kd := List.replicate 64 (.i .u8)
def kOb : List Kd := List.replicate 99 (.i .i64) ++ List.replicate 64 (.i .u8)

theorem TyC_rep (k : Kd) : ∀ (l : List Value), (∀ v ∈ l, k.of v) → TyC (List.replicate l.length k) l
  | [], _ => trivial
  | v :: l, h => ⟨h v (by simp), TyC_rep k l fun u hu => h u (by simp [hu])⟩

theorem TyC_key (k : Key) : TyC kKey (keyCells k) := by
  refine TyC_rep (.i .i64) (keyCells k) fun v hv => ?_
  simp only [keyCells, List.mem_cons, List.not_mem_nil, or_false, i64] at hv
  rcases hv with rfl | rfl | rfl | rfl | rfl | rfl <;> exact ⟨_, rfl⟩

theorem TyC_sl (s : Slots) : TyC kSl (slCells s) := by
  have := TyC_rep (.i .i64) (slCells s) fun v hv => by
    simp only [slCells, List.mem_flatMap, keyCells, List.mem_cons, List.not_mem_nil, or_false, i64] at hv
    obtain ⟨i, _, hx⟩ := hv
    rcases hx with rfl | rfl | rfl | rfl | rfl | rfl <;> exact ⟨_, rfl⟩
  rwa [slCells_length] at this

theorem TyC_by (s : Bytes) : TyC kBy (byCells s) := by
  have := TyC_rep (.i .u8) (byCells s) fun v hv => by
    simp only [byCells, List.mem_map] at hv
    obtain ⟨i, _, rfl⟩ := hv
    exact ⟨_, rfl⟩
  rwa [byCells_length] at this

theorem TyC_ob (o : Obj) : TyC kOb (obCells o) := by
  have h1 : TyC (List.replicate 3 (.i .i64)) [i64 o.kind, i64 o.count, i64 o.calls] := ⟨⟨_, rfl⟩, ⟨_, rfl⟩, ⟨_, rfl⟩, trivial⟩
  have h2 := TyC.join h1 (TyC.join (TyC_sl o.slots) (TyC_by o.bytes))
  have e : kOb = List.replicate 3 (.i .i64) ++ (kSl ++ kBy) := rfl
  rw [e]
  simpa [obCells] using h2

theorem keyCells_inj {a b : Key} : keyCells a = keyCells b ↔ a = b := by
  refine ⟨fun h => ?_, fun h => by rw [h]⟩
  simp only [keyCells, i64, List.cons.injEq, Value.int.injEq, true_and, and_true] at h
  cases a; cases b; simp_all

theorem slCells_inj {a b : Slots} : slCells a = slCells b ↔ a = b := by
  refine ⟨fun h => ?_, fun h => by rw [h]⟩
  have key : ∀ i, i < 16 → a.at i = b.at i := fun i hi => by
    obtain ⟨p, q, e1, e2, _⟩ := slCells_at a i hi
    obtain ⟨p', q', e1', e2', _⟩ := slCells_at b i hi
    rw [e1, e1'] at h
    exact keyCells_inj.1 (append_inj_mid h (by omega) rfl).2.1
  ext i hi
  have := key i hi
  simp only [Slots.at, Array.getD_eq_getD_getElem?, Vector.getElem?_toArray, Vector.getElem?_eq_getElem hi, Option.getD_some] at this
  all_goals (first | (rw [this]) | (simp [this]))

theorem byCells_inj {a b : Bytes} : byCells a = byCells b ↔ a = b := by
  refine ⟨fun h => ?_, fun h => by rw [h]⟩
  have key : ∀ i, i < 64 → a.at i = b.at i := fun i hi => by
    obtain ⟨p, q, e1, e2, _⟩ := byCells_at a i hi
    obtain ⟨p', q', e1', e2', _⟩ := byCells_at b i hi
    rw [e1, e1'] at h
    have := (append_inj_mid h (by omega) rfl).2.1
    simp only [List.cons.injEq, Value.int.injEq, true_and, and_true] at this
    exact UInt8.toNat_inj.1 (by omega)
  ext i hi
  have := key i hi
  simp only [Bytes.at, Array.getD_eq_getD_getElem?, Vector.getElem?_toArray, Vector.getElem?_eq_getElem hi, Option.getD_some] at this
  rw [this]

theorem obCells_inj {a b : Obj} : obCells a = obCells b ↔ a = b := by
  refine ⟨fun h => ?_, fun h => by rw [h]⟩
  simp only [obCells, i64, List.cons.injEq, Value.int.injEq, true_and] at h
  obtain ⟨h1, h2, h3, h4⟩ := h
  obtain ⟨h5, h6⟩ := List.append_inj h4 (by rw [slCells_length, slCells_length])
  cases a; cases b
  simp_all [slCells_inj, byCells_inj]

def noGuard (P : Program) (t : Nat) : Bool := !(P.eqGuardType P.depth t)

mutual
/-- The kinds of the cells of a plain value. -/
def kdS : V → Option (List Kd)
  | .cb _ | .bo _ => some [.b]
  | .ci k _ | .it k _ => some [.i k]
  | .st _ => some [.s]
  | .key _ => some kKey
  | .sl _ => some kSl
  | .by _ => some kBy
  | .ob _ => some kOb
  | .ag l => kdSL l
  | _ => none
def kdSL : List V → Option (List Kd)
  | [] => some []
  | x :: l => match kdS x with
    | some a => match kdSL l with
      | some b => some (a ++ b)
      | none => none
    | none => none
end
mutual
/-- Have two plain values the same cells? -/
def eqS : V → V → Option Bool
  | .ag l, .ag m => eqSL l m
  | .key a, .key b => some (keq a b)
  | .sl a, .sl b => some (sleq a b)
  | .by a, .by b => some (byeq a b)
  | .ob a, .ob b => some (oeq a b)
  | .st a, .st b => some (steq a b)
  | x, y => match toBool x, toBool y with
    | some a, some b => some (beqB a b)
    | _, _ => match x with
      | .bt _ => none
      | _ => match y with
        | .bt _ => none
        | _ => match toInt x, toInt y with
          | some (k, a), some (k', b) => if k == k' then some (ieq a b) else none
          | _, _ => none
def eqSL : List V → List V → Option Bool
  | [], [] => some true
  | x :: l, y :: m => match eqS x y with
    | some a => match eqSL l m with
      | some b => some (bnd a b)
      | none => none
    | none => none
  | _, _ => none
end
theorem TyC_inj {ks : List Kd} : ∀ {a b c d : List Value}, TyC ks a → TyC ks b → (a ++ c = b ++ d ↔ a = b ∧ c = d) := fun ha hb =>
  ⟨fun h => List.append_inj h (by rw [ha.length, hb.length]), fun h => by rw [h.1, h.2]⟩
mutual
theorem eqS_spec (ρ : Env) : ∀ (x y : V) (b : Bool), eqS x y = some b → ∃ ks, kdS x = some ks ∧ TyC ks (cells ρ x) ∧ TyC ks (cells ρ y) ∧ (b = true ↔ cells ρ x = cells ρ y)
  | x, y, b, h => by
    unfold eqS at h
    split at h
    · rename_i l m
      obtain ⟨ks, h1, h2, h3, h4⟩ := eqSL_spec ρ l m b h
      refine ⟨ks, by rw [kdS]; exact h1, ?_⟩
      simp only [cells, den]
      exact ⟨by simpa [Value.cells] using h2, by simpa [Value.cells] using h3, by simpa [Value.cells] using h4⟩
    · rename_i u v
      simp only [Option.some.injEq] at h
      subst h
      exact ⟨kKey, rfl, TyC_key u, TyC_key v, by show keq u v = true ↔ keyCells u = keyCells v; rw [keyCells_inj]; simp [keq]⟩
    · rename_i u v
      simp only [Option.some.injEq] at h
      subst h
      exact ⟨kSl, rfl, TyC_sl u, TyC_sl v, by show sleq u v = true ↔ slCells u = slCells v; rw [slCells_inj]; simp [sleq]⟩
    · rename_i u v
      simp only [Option.some.injEq] at h
      subst h
      exact ⟨kBy, rfl, TyC_by u, TyC_by v, by show byeq u v = true ↔ byCells u = byCells v; rw [byCells_inj]; simp [byeq]⟩
    · rename_i u v
      simp only [Option.some.injEq] at h
      subst h
      exact ⟨kOb, rfl, TyC_ob u, TyC_ob v, by show oeq u v = true ↔ obCells u = obCells v; rw [obCells_inj]; simp [oeq]⟩
    · rename_i u v
      simp only [Option.some.injEq] at h
      subst h
      exact ⟨[.s], rfl, ⟨⟨_, rfl⟩, trivial⟩, ⟨⟨_, rfl⟩, trivial⟩, by show steq u v = true ↔ [Value.string u] = [Value.string v]; simp [steq]⟩
    · split at h
      · rename_i u v hu hv
        simp only [Option.some.injEq] at h
        subst h
        refine ⟨[.b], ?_, ?_, ?_, ?_⟩
        · cases x <;> simp [toBool] at hu <;> rfl
        · rw [cells, toBool_spec hu]; exact ⟨⟨_, rfl⟩, trivial⟩
        · rw [cells, toBool_spec hv]; exact ⟨⟨_, rfl⟩, trivial⟩
        · rw [cells, cells, toBool_spec hu, toBool_spec hv]
          show beqB u v = true ↔ [Value.bool u] = [Value.bool v]
          simp [beqB]
      · split at h
        · simp at h
        · rename_i hx
          split at h
          · simp at h
          · rename_i hy
            split at h
            · rename_i k u k' v hu hv
              split at h <;> simp only [Option.some.injEq, reduceCtorEq] at h
              rename_i hk
              have hk := beq_iff_eq.1 hk
              subst hk
              subst h
              have e1 : den ρ x = .int k u := by
                cases x <;> simp [toInt] at hu
                · obtain ⟨rfl, rfl⟩ := hu; rfl
                · obtain ⟨rfl, rfl⟩ := hu; rfl
                · exact absurd rfl (hx _)
              have e2 : den ρ y = .int k v := by
                cases y <;> simp [toInt] at hv
                · obtain ⟨rfl, rfl⟩ := hv; rfl
                · obtain ⟨rfl, rfl⟩ := hv; rfl
                · exact absurd rfl (hy _)
              refine ⟨[.i k], ?_, ?_, ?_, ?_⟩
              · cases x <;> simp [toInt] at hu
                · obtain ⟨rfl, rfl⟩ := hu; rfl
                · obtain ⟨rfl, rfl⟩ := hu; rfl
                · exact absurd rfl (hx _)
              · rw [cells, e1]; exact ⟨⟨_, rfl⟩, trivial⟩
              · rw [cells, e2]; exact ⟨⟨_, rfl⟩, trivial⟩
              · rw [cells, cells, e1, e2]
                show ieq u v = true ↔ [Value.int k u] = [Value.int k v]
                simp [ieq]
            · simp at h
theorem eqSL_spec (ρ : Env) : ∀ (l m : List V) (b : Bool), eqSL l m = some b → ∃ ks, kdSL l = some ks ∧ TyC ks (cellsL ρ l) ∧ TyC ks (cellsL ρ m) ∧ (b = true ↔ cellsL ρ l = cellsL ρ m)
  | [], [], b, h => by
    simp only [eqSL, Option.some.injEq] at h
    subst h
    exact ⟨[], rfl, trivial, trivial, by simp [cellsL]⟩
  | x :: l, y :: m, b, h => by
    simp only [eqSL] at h
    split at h
    case h_2 => simp at h
    rename_i a ha
    split at h <;> simp only [Option.some.injEq, reduceCtorEq] at h
    rename_i c hc
    subst h
    obtain ⟨k1, h1, h2, h3, h4⟩ := eqS_spec ρ x y a ha
    obtain ⟨k2, i1, i2, i3, i4⟩ := eqSL_spec ρ l m c hc
    refine ⟨k1 ++ k2, by simp only [kdSL, h1, i1], ?_, ?_, ?_⟩
    · simp only [cellsL]; exact TyC.join h2 i2
    · simp only [cellsL]; exact TyC.join h3 i3
    · simp only [cellsL]
      have e := TyC_inj (c := cellsL ρ l) (d := cellsL ρ m) h2 h3
      simp only [cells] at e h4
      rw [e, ← h4, ← i4]
      simp [bnd]
  | [], _ :: _, _, h => by simp [eqSL] at h
  | _ :: _, [], _, h => by simp [eqSL] at h
end
/-- Are two values the same? -/
def eqV (P : Program) (t : Nat) : V → V → Option V
  | .key a, .key b => if noGuard P t && flatK P 8 t == some kKey then some (.bo (keq a b)) else none
  | .sl a, .sl b => if noGuard P t && flatK P 8 t == some kSl then some (.bo (sleq a b)) else none
  | .by a, .by b => if noGuard P t && flatK P 8 t == some kBy then some (.bo (byeq a b)) else none
  | .ob a, .ob b => if noGuard P t && flatK P 8 t == some kOb then some (.bo (oeq a b)) else none
  | .st a, .st b => some (.bo (steq a b))
  | .ag l, .ag m => match kdSL l with
    | some ks => if noGuard P t && flatK P 8 t == some ks && Nat.ble 2 ks.length then match eqSL l m with
        | some b => some (.bo b)
        | none => none
      else none
    | none => none
  | .nl (.pointer none), .nl (.pointer none) => match P.underlying t with
    | some (.pointer _) => some (.cb true)
    | _ => none
  | .lp _ _, .nl (.pointer none) => match P.underlying t with
    | some (.pointer _) => some (.cb false)
    | _ => none
  | .fn _ _, .nl .nilFunc => match P.underlying t with
    | some (.func _ _ _) => some (.cb false)
    | _ => none
  | .nl .nilFunc, .nl .nilFunc => match P.underlying t with
    | some (.func _ _ _) => some (.cb true)
    | _ => none
  | x, y => match toBool x, toBool y with
    | some a, some b => match P.underlying t with
      | some .bool => some (mkB (isCb x && isCb y) (beqB a b))
      | _ => none
    | _, _ => none

section
variable {P : Program}

theorem run_eq_agg {t : Nat} {ks : List Kd} {xs ys : List Value} (w : World) (o1 o2 : Operand) (hk : flatK P 8 t = some ks) (hg : noGuard P t = true) (ha : aggT P t = some true) (hx : TyC ks xs) (hy : TyC ks ys) :
    ∃ b, (do eqGuard .eql t o1 o2 (.agg xs.toArray) (.agg ys.toArray); binOp .eql t (.agg xs.toArray) (.agg ys.toArray)).run P w = .ok (.bool b) w ∧
      (do eqGuard .neq t o1 o2 (.agg xs.toArray) (.agg ys.toArray); binOp .neq t (.agg xs.toArray) (.agg ys.toArray)).run P w = .ok (.bool !b) w ∧ (b = true ↔ xs = ys) := by
  obtain ⟨b, hb, hbi⟩ := run_eq_flat (P := P) 8 10000 (by omega) t ks true xs ys hk ha hx hy w
  have hg' : P.eqGuardType P.depth t = false := by simpa [noGuard] using hg
  simp only [asPart, if_true] at hb
  refine ⟨b, ?_, ?_, hbi⟩
  · simp only [Sem.run_bind, run_eqGuard_agg w .eql t o1 o2 _ _ hg', Result.andThen_ok, run_eql_struct, hb]
  · simp only [Sem.run_bind, run_eqGuard_agg w .neq t o1 o2 _ _ hg', Result.andThen_ok, run_neq_struct, hb]

theorem flatK_true {t : Nat} {ks : List Kd} (hk : flatK P 8 t = some ks) (h : 2 ≤ ks.length) : aggT P t = some true := by
  obtain ⟨a, ha⟩ := flatK_agg hk
  cases a with
  | true => exact ha
  | false => have := (flatK_tsz_agg hk ha).2 rfl; omega

/-- Both tests, of equality and of its contrary. -/
def EqRuns (P : Program) (t : Nat) (x y : Value) (b : Bool) : Prop :=
  ∀ w o1 o2, (do eqGuard .eql t o1 o2 x y; binOp .eql t x y).run P w = .ok (.bool b) w ∧ (do eqGuard .neq t o1 o2 x y; binOp .neq t x y).run P w = .ok (.bool !b) w

theorem eqRuns_of {t : Nat} {x y : Value} {b : Bool} (h1 : binOp .eql t x y = (do pure (.bool (← Op.equal t x y)))) (h2 : binOp .neq t x y = (do pure (.bool (!(← Op.equal t x y)))))
    (hg : ∀ op w o1 o2, (eqGuard op t o1 o2 x y).run P w = .ok () w) (he : ∀ d w, (Op.equalIn (d + 1) t x y).run P w = .ok b w) : EqRuns P t x y b := by
  intro w o1 o2
  have he' : (Op.equal t x y).run P w = .ok b w := he 9999 w
  constructor
  · rw [Sem.run_bind, hg, Result.andThen_ok, h1, Sem.run_bind, he', Result.andThen_ok, Sem.run_pure]
  · rw [Sem.run_bind, hg, Result.andThen_ok, h2, Sem.run_bind, he', Result.andThen_ok, Sem.run_pure]

theorem eqRuns_bool {t : Nat} (a b : Bool) (hu : P.underlying t = some .bool) : EqRuns P t (.bool a) (.bool b) (beqB a b) :=
  eqRuns_of rfl rfl (fun op w o1 o2 => by cases op <;> simp [eqGuard]) (fun d w => by simp [Op.equalIn, run_und w hu, beqB])
theorem eqRuns_nilptr {t e : Nat} (b : Option Addr) (hu : P.underlying t = some (.pointer e)) : EqRuns P t (.pointer b) (.pointer none) b.isNone :=
  eqRuns_of rfl rfl (fun op w o1 o2 => by cases op <;> simp [eqGuard]) (fun d w => by cases b <;> simp [Op.equalIn, run_und w hu])
theorem eqRuns_nilfunc {t : Nat} {p r : Array Nat} {v : Bool} (hu : P.underlying t = some (.func p r v)) : EqRuns P t .nilFunc .nilFunc true :=
  eqRuns_of rfl rfl (fun op w o1 o2 => by cases op <;> simp [eqGuard]) (fun d w => by simp [Op.equalIn, run_und w hu])
theorem eqRuns_func {t : Nat} {p r : Array Nat} {v : Bool} (f : Fn) (a c : Array Value) (hu : P.underlying t = some (.func p r v)) : EqRuns P t (.func f a c) .nilFunc false :=
  eqRuns_of rfl rfl (fun op w o1 o2 => by cases op <;> simp [eqGuard]) (fun d w => by simp [Op.equalIn, run_und w hu])
theorem eqRuns_string {t : Nat} (a b : ByteArray) : EqRuns P t (.string a) (.string b) (steq a b) := by
  intro w o1 o2
  unfold steq
  rw [← beq_bytes, beq_toListBytes]
  constructor <;> simp [eqGuard, binOp, Op.stringOp]

theorem eqV_spec {ρ : Env} {t : Nat} {x y r : V} (h : eqV P t x y = some r) : ∃ b, toBool r = some b ∧ EqRuns P t (den ρ x) (den ρ y) b := by
  unfold eqV at h
  split at h
  · rename_i u v
    split at h <;> simp only [Option.some.injEq, reduceCtorEq] at h
    rename_i hc; subst h
    simp only [Bool.and_eq_true, beq_iff_eq] at hc
    refine ⟨_, rfl, fun w o1 o2 => ?_⟩
    obtain ⟨b, h1, h2, h3⟩ := run_eq_agg w o1 o2 hc.2 hc.1 (flatK_true hc.2 (by decide)) (TyC_key u) (TyC_key v)
    rw [keyCells_inj] at h3
    have : b = keq u v := Bool.eq_iff_iff.2 (by rw [h3]; simp [keq])
    subst this
    exact ⟨h1, h2⟩
  · rename_i u v
    split at h <;> simp only [Option.some.injEq, reduceCtorEq] at h
    rename_i hc; subst h
    simp only [Bool.and_eq_true, beq_iff_eq] at hc
    refine ⟨_, rfl, fun w o1 o2 => ?_⟩
    obtain ⟨b, h1, h2, h3⟩ := run_eq_agg w o1 o2 hc.2 hc.1 (flatK_true hc.2 (by simp [kSl])) (TyC_sl u) (TyC_sl v)
    rw [slCells_inj] at h3
    have : b = sleq u v := Bool.eq_iff_iff.2 (by rw [h3]; simp [sleq])
    subst this
    exact ⟨h1, h2⟩
  · rename_i u v
    split at h <;> simp only [Option.some.injEq, reduceCtorEq] at h
    rename_i hc; subst h
    simp only [Bool.and_eq_true, beq_iff_eq] at hc
    refine ⟨_, rfl, fun w o1 o2 => ?_⟩
    obtain ⟨b, h1, h2, h3⟩ := run_eq_agg w o1 o2 hc.2 hc.1 (flatK_true hc.2 (by simp [kBy])) (TyC_by u) (TyC_by v)
    rw [byCells_inj] at h3
    have : b = byeq u v := Bool.eq_iff_iff.2 (by rw [h3]; simp [byeq])
    subst this
    exact ⟨h1, h2⟩
  · rename_i u v
    split at h <;> simp only [Option.some.injEq, reduceCtorEq] at h
    rename_i hc; subst h
    simp only [Bool.and_eq_true, beq_iff_eq] at hc
    refine ⟨_, rfl, fun w o1 o2 => ?_⟩
    obtain ⟨b, h1, h2, h3⟩ := run_eq_agg w o1 o2 hc.2 hc.1 (flatK_true hc.2 (by simp [kOb])) (TyC_ob u) (TyC_ob v)
    rw [obCells_inj] at h3
    have : b = oeq u v := Bool.eq_iff_iff.2 (by rw [h3]; simp [oeq])
    subst this
    exact ⟨h1, h2⟩
  · rename_i a b
    simp only [Option.some.injEq] at h
    subst h
    exact ⟨_, rfl, eqRuns_string _ _⟩
  · rename_i l m
    split at h
    case h_2 => simp at h
    rename_i ks hks
    split at h
    case isFalse => simp at h
    rename_i hc
    simp only [Bool.and_eq_true, beq_iff_eq] at hc
    split at h <;> simp only [Option.some.injEq, reduceCtorEq] at h
    rename_i b hb
    subst h
    obtain ⟨ks', g1, g2, g3, g4⟩ := eqSL_spec ρ l m b hb
    rw [hks] at g1
    simp only [Option.some.injEq] at g1
    subst g1
    refine ⟨_, rfl, fun w o1 o2 => ?_⟩
    obtain ⟨b', h1, h2, h3⟩ := run_eq_agg w o1 o2 hc.1.2 hc.1.1 (flatK_true hc.1.2 (Nat.le_of_ble_eq_true hc.2)) g2 g3
    have : b' = b := Bool.eq_iff_iff.2 (by rw [h3, g4])
    subst this
    exact ⟨h1, h2⟩
  · split at h <;> simp only [Option.some.injEq, reduceCtorEq] at h
    rename_i hu; subst h
    exact ⟨_, rfl, eqRuns_nilptr none hu⟩
  · split at h <;> simp only [Option.some.injEq, reduceCtorEq] at h
    rename_i hu; subst h
    exact ⟨_, rfl, eqRuns_nilptr (some _) hu⟩
  · split at h <;> simp only [Option.some.injEq, reduceCtorEq] at h
    rename_i hu; subst h
    exact ⟨_, rfl, eqRuns_func _ _ _ hu⟩
  · split at h <;> simp only [Option.some.injEq, reduceCtorEq] at h
    rename_i hu; subst h
    exact ⟨_, rfl, eqRuns_nilfunc hu⟩
  · split at h
    · rename_i a b ha hb
      split at h <;> simp only [Option.some.injEq, reduceCtorEq] at h
      rename_i hu; subst h
      refine ⟨beqB a b, by unfold mkB; split <;> rfl, ?_⟩
      rw [toBool_spec ha, toBool_spec hb]
      exact eqRuns_bool _ _ hu
    · simp at h

theorem eqV_cb {t : Nat} {x y r : V} {K : Nat → Prop} (h : eqV P t x y = some r) : ok K r ∧ isTp r = false := by
  obtain ⟨b, hb, _⟩ := eqV_spec (ρ := Env.zero) h
  cases r <;> simp [toBool] at hb <;> exact ⟨trivial, rfl⟩

end

/-- An operation on two values. -/
def binV (P : Program) (op : BinOp) (t : Nat) (x y : V) : Option (Option Prop × V) :=
  match toInt x, toInt y with
  | some (k, a), some (k', b) =>
    if k == k' then
      if isCi x && isCi y then
        match cmpC op a b with
        | some r => some (none, .cb r)
        | none => match arithC op a b with
          | some n => if inR k n then some (none, .ci k n) else none
          | none => none
      else match cmpB op a b with
      | some r => some (none, .bo r)
      | none => match arith op k a b with
        | some (p, n) => some (p, .it k n)
        | none => none
    else none
  | _, _ => match op with
    | .eql => (eqV P t x y).map fun r => (none, r)
    | .neq => match eqV P t x y with
      | some r => match toBool r with
        | some b => some (none, mkB (isCb r) (bnt b))
        | none => none
      | none => none
    | _ => none

theorem binV_spec {P : Program} {ρ : Env} {K : Nat → Prop} {op : BinOp} {t : Nat} {x y r : V} {p : Option Prop} (w : World) (o1 o2 : Operand) (h : binV P op t x y = some (p, r)) (hp : holdsO p) (hx : ok K x) (hy : ok K y) :
    (do eqGuard op t o1 o2 (den ρ x) (den ρ y); binOp op t (den ρ x) (den ρ y)).run P w = .ok (den ρ r) w ∧ ok K r := by
  unfold binV at h
  split at h
  · rename_i k a k' b ha hb
    obtain ⟨e1, r1⟩ := toInt_spec (ρ := ρ) ha hx
    obtain ⟨e2, r2⟩ := toInt_spec (ρ := ρ) hb hy
    split at h
    · rename_i hk
      have hk := beq_iff_eq.1 hk
      subst hk
      have hgd : ∀ w, (eqGuard op t o1 o2 (.int k a) (.int k b)).run P w = .ok () w := fun w => by cases op <;> simp [eqGuard]
      rw [e1, e2]
      split at h
      · split at h
        · rename_i r hr
          simp only [Option.some.injEq, Prod.mk.injEq] at h
          obtain ⟨_, rfl⟩ := h
          rw [cmpC_eq] at hr
          exact ⟨by rw [Sem.run_bind, hgd, Result.andThen_ok, run_cmp t w hr]; rfl, trivial⟩
        · split at h
          · rename_i n hn
            split at h <;> simp only [Option.some.injEq, Prod.mk.injEq, reduceCtorEq] at h
            rename_i hin
            obtain ⟨_, rfl⟩ := h
            exact ⟨by rw [Sem.run_bind, hgd, Result.andThen_ok, run_arithC t w hn hin]; rfl, hin⟩
          · simp at h
      · split at h
        · rename_i r hr
          simp only [Option.some.injEq, Prod.mk.injEq] at h
          obtain ⟨_, rfl⟩ := h
          exact ⟨by rw [Sem.run_bind, hgd, Result.andThen_ok, run_cmp t w hr]; rfl, trivial⟩
        · split at h <;> simp only [Option.some.injEq, Prod.mk.injEq, reduceCtorEq] at h
          rename_i p n hn
          obtain ⟨rfl, rfl⟩ := h
          obtain ⟨h1, h2⟩ := run_arith (P := P) t w hn hp
          exact ⟨by rw [Sem.run_bind, hgd, Result.andThen_ok, h1]; rfl, h2⟩
    · simp at h
  · split at h
    · cases he : eqV P t x y with
      | none => simp [he] at h
      | some r' =>
        simp only [he, Option.map_some, Option.some.injEq, Prod.mk.injEq] at h
        obtain ⟨_, rfl⟩ := h
        obtain ⟨b, hb, hr⟩ := eqV_spec (ρ := ρ) he
        rw [toBool_spec hb]
        exact ⟨(hr w o1 o2).1, (eqV_cb he).1⟩
    · cases he : eqV P t x y with
      | none => simp [he] at h
      | some r' =>
        simp only [he] at h
        obtain ⟨b, hb, hr⟩ := eqV_spec (ρ := ρ) he
        simp only [hb, Option.some.injEq, Prod.mk.injEq] at h
        obtain ⟨_, rfl⟩ := h
        rw [mkB_den]
        exact ⟨(hr w o1 o2).2, mkB_ok⟩
    · simp at h

end Go.Sx
/- The executor: an element at an index that is a term, out of values that are written out. No condition. -/
set_option linter.unusedVariables false
set_option linter.unusedSimpArgs false
namespace Go.Sx

def allM {α β : Type} (g : α → Option β) : List α → Option (List β)
  | [] => some []
  | x :: l => match g x, allM g l with
    | some y, some ys => some (y :: ys)
    | _, _ => none

theorem allM_length {α β : Type} {g : α → Option β} : ∀ {l : List α} {r : List β}, allM g l = some r → r.length = l.length
  | [], r, h => by simp only [allM, Option.some.injEq] at h; subst h; rfl
  | x :: l, r, h => by
    simp only [allM] at h
    split at h
    · rename_i y ys _ hys
      simp only [Option.some.injEq] at h
      subst h
      simp [allM_length hys]
    · simp at h

theorem allM_get {α β : Type} {g : α → Option β} : ∀ {l : List α} {r : List β}, allM g l = some r → ∀ (i : Nat) (x : α), l[i]? = some x → ∃ y, r[i]? = some y ∧ g x = some y
  | [], r, h, i, x, hx => by simp at hx
  | a :: l, r, h, i, x, hx => by
    simp only [allM] at h
    split at h
    · rename_i y ys hy hys
      simp only [Option.some.injEq] at h
      subst h
      cases i with
      | zero => simp only [List.getElem?_cons_zero, Option.some.injEq] at hx; subst hx; exact ⟨y, rfl, hy⟩
      | succ i => simp only [List.getElem?_cons_succ] at hx ⊢; exact allM_get hys i x hx
    · simp at h

def asI (k : IntKind) : V → Option Int
  | .ci k' n => if k' == k then some n else none
  | .it k' n => if k' == k then some n else none
  | _ => none
def asStr : V → Option ByteArray
  | .st s => some s
  | _ => none
def asKey : V → Option Key
  | .key k => some k
  | _ => none
def asAg : V → Option (List V)
  | .ag l => some l
  | _ => none

/-- The columns of rows. -/
def colsOf (g : List V → Option V) (rows : List (List V)) : Nat → Nat → Option (List V)
  | _, 0 => some []
  | j, n + 1 => match allM (fun m : List V => m[j]?) rows with
    | none => none
    | some c => match g c, colsOf g rows (j + 1) n with
      | some x, some xs => some (x :: xs)
      | _, _ => none

/-- The element of a list at an index that is a term. -/
def selV : Nat → List V → Nat → Option V
  | 0, _, _ => none
  | f + 1, l, i => match l with
    | [] => none
    | x :: _ => match x with
      | .ci k _ => (allM (asI k) l).map fun ns => .it k (lget ns i 0)
      | .it k _ => (allM (asI k) l).map fun ns => .it k (lget ns i 0)
      | .cb _ => (allM toBool l).map fun bs => .bo (lget bs i false)
      | .bo _ => (allM toBool l).map fun bs => .bo (lget bs i false)
      | .st _ => (allM asStr l).map fun bs => .st (lget bs i ByteArray.empty)
      | .key _ => (allM asKey l).map fun bs => .key (lget bs i void)
      | .ag m => match allM asAg l with
        | none => none
        | some rows => if rows.all fun r => r.length == m.length then (colsOf (fun c => selV f c i) rows 0 m.length).map .ag else none
      | _ => none

/-- One value stands for another. -/
def Like (ρ : Env) (K : Nat → Prop) (r x : V) : Prop := cells ρ r = cells ρ x ∧ isAg r = isAg x ∧ ok K r ∧ isTp r = false

theorem getD_of {α : Type} {l : List α} {i : Nat} {a d : α} (h : l[i]? = some a) : l.getD i d = a := by simp [List.getD_eq_getElem?_getD, h]

theorem colsOf_spec {ρ : Env} {K : Nat → Prop} {g : List V → Option V} {i : Nat} {rows : List (List V)} {row : List V} (hrow : rows[i]? = some row)
    (hg : ∀ c r x, g c = some r → c[i]? = some x → (∀ y ∈ c, ok K y ∧ isTp y = false) → Like ρ K r x) (hok : ∀ m ∈ rows, ∀ y ∈ m, ok K y ∧ isTp y = false) :
    ∀ (n j : Nat) (rs : List V), colsOf g rows j n = some rs → rs.length = n ∧ (∀ k, k < n → ∃ r x, rs[k]? = some r ∧ row[j + k]? = some x ∧ Like ρ K r x)
  | 0, j, rs, h => by simp only [colsOf, Option.some.injEq] at h; subst h; exact ⟨rfl, fun k hk => absurd hk (by omega)⟩
  | n + 1, j, rs, h => by
    simp only [colsOf] at h
    split at h
    · simp at h
    · rename_i c hc
      split at h
      · rename_i x xs hx hxs
        simp only [Option.some.injEq] at h
        subst h
        obtain ⟨h1, h2⟩ := colsOf_spec hrow hg hok n (j + 1) xs hxs
        refine ⟨by simp [h1], fun k hk => ?_⟩
        cases k with
        | zero =>
          obtain ⟨y, hy1, hy2⟩ := allM_get hc i row hrow
          refine ⟨x, y, rfl, hy2, hg c x y hx hy1 fun z hz => ?_⟩
          obtain ⟨q, hq⟩ := List.getElem?_of_mem hz
          have hql : q < rows.length := by
            rw [← allM_length hc]; exact (List.getElem?_eq_some_iff.1 hq).1
          obtain ⟨z', hz1, hz2⟩ := allM_get hc q rows[q] (List.getElem?_eq_getElem hql)
          rw [hz1] at hq
          simp only [Option.some.injEq] at hq
          subst hq
          exact hok rows[q] (List.getElem_mem hql) _ (List.mem_of_getElem? hz2)
        | succ k =>
          obtain ⟨r, y, e1, e2, e3⟩ := h2 k (by omega)
          exact ⟨r, y, by simpa using e1, by rw [← e2]; congr 1; omega, e3⟩
      · simp at h

theorem asI_spec {ρ : Env} {K : Nat → Prop} {k : IntKind} {v : V} {n : Int} (h : asI k v = some n) : cells ρ v = [.int k n] ∧ isAg v = false ∧ (ok K v → inR k n) := by
  cases v <;> simp [asI] at h
  · obtain ⟨rfl, rfl⟩ := h; exact ⟨rfl, rfl, id⟩
  · obtain ⟨rfl, rfl⟩ := h; exact ⟨rfl, rfl, id⟩

theorem sel_aux {α : Type} {ρ : Env} {K : Nat → Prop} {g : V → Option α} {mk : α → V} {d : α} {l : List V} {i : Nat} {r x : V} (h : (allM g l).map (fun ns => mk (lget ns i d)) = some r) (hx : l[i]? = some x)
    (H : ∀ a, g x = some a → Like ρ K (mk a) x) : Like ρ K r x := by
  cases hm : allM g l with
  | none => simp [hm] at h
  | some ns =>
    simp only [hm, Option.map_some, Option.some.injEq] at h
    subst h
    obtain ⟨n, hn1, hn2⟩ := allM_get hm i x hx
    rw [lget, getD_of hn1]
    exact H n hn2

theorem like_rows {ρ : Env} {K : Nat → Prop} : ∀ (a b : List V), a.length = b.length → (∀ k, k < a.length → ∃ r x, a[k]? = some r ∧ b[k]? = some x ∧ Like ρ K r x) → cellsL ρ a = cellsL ρ b ∧ okL K a ∧ okC a
  | [], [], _, _ => ⟨rfl, trivial, trivial⟩
  | [], _ :: _, h, _ => by simp at h
  | _ :: _, [], h, _ => by simp at h
  | a0 :: a, b0 :: b, hb, hh => by
    obtain ⟨r, x, e1, e2, e3⟩ := hh 0 (by simp)
    simp only [List.getElem?_cons_zero, Option.some.injEq] at e1 e2
    subst e1; subst e2
    obtain ⟨i1, i2, i3⟩ := like_rows a b (by simpa using hb) fun k hk => by
      obtain ⟨r, x, e1, e2, e3⟩ := hh (k + 1) (by simp; omega)
      exact ⟨r, x, by simpa using e1, by simpa using e2, e3⟩
    refine ⟨?_, ⟨e3.2.2.1, i2⟩, (okC_iff _).2 fun z hz => ?_⟩
    · simp only [cellsL, i1]; rw [show (den ρ a0).cells.toList = cells ρ a0 from rfl, e3.1]; rfl
    · rcases List.mem_cons.1 hz with rfl | hz
      · exact e3.2.2.2
      · exact (okC_iff _).1 i3 z hz

theorem selV_spec {ρ : Env} {K : Nat → Prop} {i : Nat} : ∀ (f : Nat) (l : List V) (r x : V), selV f l i = some r → l[i]? = some x → (∀ y ∈ l, ok K y ∧ isTp y = false) → Like ρ K r x
  | 0, _, _, _, h, _, _ => by simp [selV] at h
  | f + 1, [], _, _, h, _, _ => by simp [selV] at h
  | f + 1, y :: l, r, x, h, hx, hok => by
    have hxm : ok K x ∧ isTp x = false := hok x (List.mem_of_getElem? hx)
    simp only [selV] at h
    split at h
    · exact sel_aux h hx fun a ha => by
        obtain ⟨e1, e2, e3⟩ := asI_spec (ρ := ρ) (K := K) ha
        exact ⟨by rw [e1]; rfl, e2.symm, e3 hxm.1, rfl⟩
    · exact sel_aux h hx fun a ha => by
        obtain ⟨e1, e2, e3⟩ := asI_spec (ρ := ρ) (K := K) ha
        exact ⟨by rw [e1]; rfl, e2.symm, e3 hxm.1, rfl⟩
    · exact sel_aux h hx fun a ha => ⟨by unfold cells; rw [toBool_spec ha]; rfl, by cases x <;> simp [toBool] at ha <;> rfl, trivial, rfl⟩
    · exact sel_aux h hx fun a ha => ⟨by unfold cells; rw [toBool_spec ha]; rfl, by cases x <;> simp [toBool] at ha <;> rfl, trivial, rfl⟩
    · exact sel_aux h hx fun a ha => by
        cases x <;> simp [asStr] at ha
        subst ha
        exact ⟨rfl, rfl, trivial, rfl⟩
    · exact sel_aux h hx fun a ha => by
        cases x <;> simp [asKey] at ha
        subst ha
        exact ⟨rfl, rfl, hxm.1, rfl⟩
    · rename_i m
      generalize V.ag m :: l = L at h hx hok
      split at h
      · simp at h
      · rename_i rows hm
        split at h
        · rename_i hlen
          cases hc : colsOf (fun c => selV f c i) rows 0 m.length with
          | none => simp [hc] at h
          | some rs =>
            simp only [hc, Option.map_some, Option.some.injEq] at h
            subst h
            obtain ⟨row, hr1, hr2⟩ := allM_get hm i x hx
            cases x <;> simp [asAg] at hr2
            subst hr2
            rename_i row
            have hrl : row.length = m.length := by
              have := List.all_eq_true.1 hlen row (List.mem_of_getElem? hr1)
              simpa using this
            obtain ⟨h1, h2⟩ := colsOf_spec (ρ := ρ) (K := K) hr1 (fun c r x hg hc hok => selV_spec f c r x hg hc hok) (fun q hq z hz => by
              obtain ⟨p, hp⟩ := List.getElem?_of_mem hq
              have hpl : p < L.length := by
                rw [← allM_length hm]; exact (List.getElem?_eq_some_iff.1 hp).1
              obtain ⟨q', hq1, hq2⟩ := allM_get hm p _ (List.getElem?_eq_getElem hpl)
              rw [hq1] at hp
              simp only [Option.some.injEq] at hp
              subst hp
              have hk := hok _ (List.getElem_mem hpl)
              generalize L[p] = t at hk hq2
              cases t <;> simp [asAg] at hq2
              subst hq2
              exact ⟨(okL_iff _).1 hk.1.1 z hz, (okC_iff _).1 hk.1.2 z hz⟩) m.length 0 rs hc
            obtain ⟨c1, c2, c3⟩ := like_rows (ρ := ρ) (K := K) rs row (by omega) fun k hk => by
              obtain ⟨r, x, e1, e2, e3⟩ := h2 k (by omega)
              exact ⟨r, x, e1, by simpa using e2, e3⟩
            exact ⟨by rw [cells_ag, cells_ag, c1], rfl, ⟨c2, c3⟩, rfl⟩
        · simp at h
    · simp at h

/-- A part at an index of a value that is written out or is slots or bytes. -/
def getY (v : V) (esz n i inner sz : Nat) (a : Bool) : Option V :=
  match v with
  | .ag l => if l.length == n && l.all (fun x => vsz x == esz) then
      match selV 4 l i with
      | none => none
      | some x => getAt 8 x inner sz a
    else none
  | _ => getX v esz n i inner sz a

theorem cells_nth (ρ : Env) {K : Nat → Prop} : ∀ (l : List V) (esz i : Nat) (x : V), okL K l → (∀ y ∈ l, vsz y = esz) → l[i]? = some x → ∃ p q, cellsL ρ l = p ++ cells ρ x ++ q ∧ p.length = i * esz
  | [], _, _, _, _, _, h => by simp at h
  | y :: l, esz, 0, x, hk, hs, h => by
    simp only [List.getElem?_cons_zero, Option.some.injEq] at h
    subst h
    exact ⟨[], cellsL ρ l, by simp [cellsL, cells], by simp⟩
  | y :: l, esz, i + 1, x, hk, hs, h => by
    simp only [List.getElem?_cons_succ] at h
    obtain ⟨p, q, h1, h2⟩ := cells_nth ρ l esz i x hk.2 (fun z hz => hs z (by simp [hz])) h
    have hl := cells_length ρ y hk.1
    have := hs y (by simp)
    exact ⟨cells ρ y ++ p, q, by simp [cellsL, h1, cells], by simp; rw [Nat.succ_mul]; omega⟩

theorem getY_spec (ρ : Env) {N : Nat → Prop} {v : V} {esz n i inner sz : Nat} {a : Bool} {r : V} (hv : ok N v) (hi : i < n) (h : getY v esz n i inner sz a = some r) :
    (∃ p q, cells ρ v = p ++ cells ρ r ++ q ∧ i * esz + inner = p.length) ∧ vsz r = sz ∧ isAg r = a ∧ ok N r ∧ isTp r = false := by
  unfold getY at h
  split at h
  · rename_i l
    split at h
    · rename_i hc
      simp only [Bool.and_eq_true, beq_iff_eq, List.all_eq_true] at hc
      obtain ⟨rfl, hs⟩ := hc
      split at h
      · simp at h
      · rename_i x hx
        have hxl : l[i]? = some l[i] := List.getElem?_eq_getElem hi
        obtain ⟨e1, e2, e3, e4⟩ := selV_spec (ρ := ρ) (K := N) 4 l x _ hx hxl fun y hy => ⟨(okL_iff _).1 hv.1 y hy, (okC_iff _).1 hv.2 y hy⟩
        obtain ⟨⟨p, q, h1, h2⟩, h3⟩ := getAt_spec ρ 8 x inner sz a r e3 e4 h
        obtain ⟨P, Q, f1, f2⟩ := cells_nth ρ l esz i _ hv.1 hs hxl
        exact ⟨⟨P ++ p, q ++ Q, by rw [cells_ag, f1, ← e1, h1]; simp, by simp; omega⟩, h3⟩
    · simp at h
  · exact getX_spec ρ hv hi h

/-- A part at an index behind a part. -/
def getLy (c : V) (off esz n i inner sz : Nat) (a : Bool) : Option V :=
  match getAt 8 c off (n * esz) true with
  | none => none
  | some x => getY x esz n i inner sz a

theorem getLy_spec (ρ : Env) {N : Nat → Prop} {c : V} {off esz n i inner sz : Nat} {a : Bool} {r : V} (hc : ok N c) (ht : isTp c = false) (hi : i < n) (h : getLy c off esz n i inner sz a = some r) :
    (∃ p q, cells ρ c = p ++ cells ρ r ++ q ∧ off + i * esz + inner = p.length) ∧ vsz r = sz ∧ isAg r = a ∧ ok N r ∧ isTp r = false := by
  unfold getLy at h
  cases hx : getAt 8 c off (n * esz) true with
  | none => simp [hx] at h
  | some x =>
    simp only [hx] at h
    obtain ⟨⟨p, q, h1, h2⟩, _, _, h5, h6⟩ := getAt_spec ρ _ _ _ _ _ _ hc ht hx
    obtain ⟨⟨p', q', h1', h2'⟩, h3⟩ := getY_spec ρ h5 hi h
    exact ⟨⟨p ++ p', q' ++ q, by rw [h1, h1']; simp, by simp; omega⟩, h3⟩

end Go.Sx
/- The executor: memory and parts, operation by operation. No condition. -/
set_option linter.unusedVariables false
set_option linter.unusedSimpArgs false
namespace Go.Sx
open Go.RowKit (Below)

/-- The context's zero values are the program's. -/
def Ctx.ZOK (C : Ctx) : Prop := ∀ t z, C.Z t = some z → ∃ i, C.P.info? t = some i ∧ (∀ ρ, i.zero = some (den ρ z)) ∧ ok (fun _ => False) z ∧ isTp z = false ∧ i.size = vsz z

theorem ok_empty {K : Nat → Prop} {v : V} (h : ok (fun _ => False) v) : ok K v := ok_mono (fun _ h => h.elim) v h

section
variable {C : Ctx} {ρ : Env} {fps : Nat → Nat → Prop} {res : List Res} {K : Nat → Prop} {w0 w : World} {F0 : Nat → Prop}

/-- What is loaded. -/
def loadV (C : Ctx) (res : List Res) (t : Nat) (p : V) : Option (Option Prop × V) :=
  match aggT C.P t, tsz C.P t with
  | some a, some n => match p with
    | .lp id off => match rlook res id with
      | .blk _ c => (getAt 8 c off n a).map fun r => (none, r)
      | _ => none
    | .lx id off esz m i inner => match rlook res id with
      | .blk _ c => (getLy c off esz m i inner n a).map fun r => (none, r)
      | _ => none
    | .ap id esz i off => match rlook res id with
      | .arr _ esz' l => if esz == esz' then (getAt 8 (l.get i) off n a).map fun r => (some (pLt i l.len), r) else none
      | .obs _ q L => if esz == 1 && off == 0 && n == 1 && a == false then some (some (pLt i (llen L)), .op q i) else none
      | _ => none
    | .ax id esz k off sz m i inner => match rlook res id with
      | .arr _ esz' l => if esz == esz' then (getLy (l.get k) off sz m i inner n a).map fun r => (some (pLt k l.len), r) else none
      | _ => none
    | .op q i => match rlook res q with
      | .gen id => match rlook res id with
        | .obs _ q' L => if q == q' then (getAt 8 (.ob (lget L i free)) 0 n a).map fun r => (some (pLt i (llen L)), r) else none
        | _ => none
      | _ => none
    | _ => none
  | _, _ => none

theorem flat_idx {α : Type} {f : Nat → List α} {esz : Nat} : ∀ {n : Nat}, (∀ j, j < n → (f j).length = esz) → ∀ {i k : Nat}, i < n → k < esz → ((List.range n).flatMap f)[i * esz + k]? = (f i)[k]?
  | 0, _, i, k, hi, _ => by omega
  | n + 1, h, i, k, hi, hk => by
    rw [List.range_succ, List.flatMap_append]
    have hlen : ((List.range n).flatMap f).length = n * esz := by
      clear hi hk
      induction n with
      | zero => simp
      | succ n ih =>
        rw [List.range_succ, List.flatMap_append, List.length_append, ih fun j hj => h j (by omega)]
        simp [h n (by omega), Nat.succ_mul]
    by_cases e : i < n
    · rw [List.getElem?_append_left (by rw [hlen]; have : (i + 1) * esz ≤ n * esz := Nat.mul_le_mul_right _ e; rw [Nat.succ_mul] at this; omega)]
      exact flat_idx (fun j hj => h j (by omega)) e hk
    · have : i = n := by omega
      subst this
      rw [List.getElem?_append_right (by rw [hlen]; omega), hlen]
      simp

theorem owns_form {w : World} {e size n : Nat} {ρ : Env} {i : Nat} {xs : List Value} (h : w.ownsRow 0 e size (ρ.sl i) n xs) (hn : 0 < n) : ∃ g, ρ.sa i = some ⟨g, 0, none⟩ ∧ ρ.sn i = n ∧ g < w.heap.size ∧ ∀ j, j < n * size → w.cell? ⟨g, j, none⟩ = xs[j]? := by
  have h' := h
  rcases h.2 with ⟨_, h0⟩ | ⟨g, cap, cur, h1, h2, h3, h4⟩
  · omega
  · have hh := h1
    simp only [Env.sl, Value.slice.injEq] at h1
    rw [hh] at h'
    exact ⟨g, h1.1, h1.2.1, (Array.getElem?_eq_some_iff.1 h3).1, fun j hj => h'.cellAt j hj⟩

theorem arr_cells {id esz : Nat} {own : Option Nat} {l : TL} (h : HRep ρ fps res K w0 F0 w) (hr : rlook res id = .arr own esz l) {i : Nat} (hi : i < l.len) :
    ok (fun _ => False) (l.get i) ∧ isTp (l.get i) = false ∧ vsz (l.get i) = esz ∧ ∀ k, k < esz → w.cell? ⟨(ρ.adr id).block, (ρ.adr id).off + (i * esz + k), none⟩ = (cells ρ (l.get i))[k]? := by
  obtain ⟨fp, hh, _⟩ := h.look hr (by simp)
  obtain ⟨h1, h2, h3, h4, h5, h6, h7⟩ := hh
  obtain ⟨g1, g2, g3⟩ := h1 i hi
  refine ⟨g1, g2, g3, fun k hk => ?_⟩
  have hl := cells_length ρ (l.get i) g1
  rcases h7 with ⟨_, h7, h8⟩ | ⟨e, _, e2, e3⟩
  · have e := h8 i hi k hk
    have hlt : (ρ.adr id).block < w0.heap.size := by
      have : k < (cells ρ (l.get i)).length := by omega
      rw [List.getElem?_eq_getElem this] at e
      exact World.block_lt_of_cell? w0 ⟨(ρ.adr id).block, (ρ.adr id).off + (i * esz + k), none⟩ e
    rw [← e]
    exact World.cell?_of_block (w := w0) (h.same _ hlt (h7 (by omega)).1)
  · obtain ⟨g, f1, f2, f3, f4⟩ := owns_form e2 (by omega)
    have ha := h4 _ f1
    rw [← ha]
    simp only [Nat.zero_add]
    have hlt : i * esz + k < l.len * esz := by
      have : (i + 1) * esz ≤ l.len * esz := Nat.mul_le_mul_right _ hi
      rw [Nat.succ_mul] at this; omega
    rw [f4 _ hlt]
    unfold TL.cells
    rw [flat_idx (esz := esz) (fun j hj => by rw [cells_length Env.zero _ (h1 j hj).1]; exact (h1 j hj).2.2) hi hk]
    rw [cells_agree (N := fun _ => False) (ρ := ρ) (ρ' := Env.zero) (fun _ h => h.elim) _ g1]

theorem obs_at {id ty q : Nat} {L : List Obj} (h : HRep ρ fps res K w0 F0 w) (hr : rlook res id = .obs ty q L) {i : Nat} (hi : i < llen L) :
    w.cell? ⟨(ρ.adr id).block, (ρ.adr id).off + i, none⟩ = some (.pointer (some ⟨ρ.ob q i, 0, none⟩)) ∧ ((L.getD i free).wf ∧ K q) ∧ ∃ t, w.heap[ρ.ob q i]? = some (.cells (obCells (L.getD i free)).toArray t (0, 0)) := by
  obtain ⟨fp, hh, _⟩ := h.look hr (by simp)
  obtain ⟨h0, h1, h2, h3, h4, h5, h6, h7⟩ := hh
  have hi : i < L.length := hi
  obtain ⟨g, f1, f2, f3, f4⟩ := owns_form h6 (by omega)
  have ha := (h4 _ f1).1
  refine ⟨?_, ?_, (h7 i hi).2⟩
  · rw [← ha]
    simp only [Nat.zero_add]
    rw [f4 i (by omega)]
    simp [hi]
  · have : L.getD i free = L[i] := by simp [List.getD_eq_getElem?_getD, hi]
    rw [this]
    exact ⟨h1 _ (List.getElem_mem hi), h0⟩

theorem loadV_spec {t : Nat} {p r : V} {q : Option Prop} (h : HRep ρ fps res K w0 F0 w) (hl : loadV C res t p = some (q, r)) (hq : holdsO q) (hp : ok K p) :
    (Instr.loadAt t (den ρ p)).run C.P w = .ok (den ρ r) w ∧ ok K r ∧ isTp r = false := by
  unfold loadV at hl
  split at hl
  · rename_i a n ha hn
    have run : ∀ b off, (Instr.loadAt t (.pointer (some ⟨b, off, none⟩))).run C.P w = (loadVar t ⟨b, off, none⟩).run C.P w := fun b off => by
      simp [Instr.loadAt, Instr.sureAddr]
    split at hl
    · rename_i id off
      split at hl
      · rename_i ty c hc
        cases hg : getAt 8 c off n a with
        | none => simp [hg] at hl
        | some r' =>
          simp only [hg, Option.map_some, Option.some.injEq, Prod.mk.injEq] at hl
          obtain ⟨_, rfl⟩ := hl
          obtain ⟨fp, hh, _⟩ := h.look hc (by simp)
          obtain ⟨h1, h2, h3, h4⟩ := hh
          obtain ⟨e1, e2, e3, e4, e5⟩ := getAt_spec ρ 8 c off n a r' h1 h2 hg
          refine ⟨?_, e4, e5⟩
          simp only [den]
          rw [run]
          exact run_load_part w e4 e5 (by rw [e3]; exact ha) (by rw [e2]; exact hn) h4 e1
      · simp at hl
    · rename_i id off esz m i inner
      split at hl
      · rename_i ty c hc
        cases hg : getLy c off esz m i inner n a with
        | none => simp [hg] at hl
        | some r' =>
          simp only [hg, Option.map_some, Option.some.injEq, Prod.mk.injEq] at hl
          obtain ⟨_, rfl⟩ := hl
          obtain ⟨fp, hh, _⟩ := h.look hc (by simp)
          obtain ⟨h1, h2, h3, h4⟩ := hh
          obtain ⟨e1, e2, e3, e4, e5⟩ := getLy_spec ρ h1 h2 hp.2 hg
          refine ⟨?_, e4, e5⟩
          simp only [den]
          rw [run]
          exact run_load_part w e4 e5 (by rw [e3]; exact ha) (by rw [e2]; exact hn) h4 e1
      · simp at hl
    · rename_i id esz i off
      split at hl
      · rename_i own esz' l hc
        split at hl
        · rename_i he
          have he := beq_iff_eq.1 he
          subst he
          cases hg : getAt 8 (l.get i) off n a with
          | none => simp [hg] at hl
          | some r' =>
            simp only [hg, Option.map_some, Option.some.injEq, Prod.mk.injEq] at hl
            obtain ⟨rfl, rfl⟩ := hl
            obtain ⟨g1, g2, g3, g4⟩ := arr_cells h hc hq
            obtain ⟨⟨P, Q, f1, f2⟩, e2, e3, e4, e5⟩ := getAt_spec ρ 8 (l.get i) off n a r' g1 g2 hg
            have hlr := cells_length ρ r' e4
            have hlg := cells_length ρ _ g1
            refine ⟨?_, ok_empty e4, e5⟩
            simp only [den]
            rw [run]
            refine run_load_cells w e4 e5 (by rw [e3]; exact ha) (by rw [e2]; exact hn) fun k hk => ?_
            have hk2 : off + k < esz := by
              rw [← g3, ← hlg, f1]; simp; omega
            have := g4 (off + k) hk2
            rw [show (ρ.adr id).off + (i * esz + off) + k = (ρ.adr id).off + (i * esz + (off + k)) by omega, this, f1, f2]
            exact getElem?_mid P _ Q k (by omega)
        · simp at hl
      · rename_i ty q' L hc
        split at hl
        · rename_i hb
          simp only [Bool.and_eq_true, beq_iff_eq] at hb
          obtain ⟨⟨⟨rfl, rfl⟩, rfl⟩, rfl⟩ := hb
          simp only [Option.some.injEq, Prod.mk.injEq] at hl
          obtain ⟨rfl, rfl⟩ := hl
          obtain ⟨f1, ⟨_, f2⟩, _⟩ := obs_at h hc hq
          refine ⟨?_, f2, rfl⟩
          simp only [den]
          rw [run]
          have := run_load_cells (P := C.P) (ρ := ρ) (K := K) (t := t) (b := (ρ.adr id).block) (off := (ρ.adr id).off + (i * 1 + 0)) (r := .op q' i) w f2 rfl ha hn (fun k hk => by
            have hk : k < 1 := hk
            rw [show (ρ.adr id).off + (i * 1 + 0) + k = (ρ.adr id).off + i by omega, f1, show k = 0 by omega]
            simp [cells, den, Value.cells])
          rw [this]
          simp only [den]
        · simp at hl
      · simp at hl
    · rename_i id esz k off sz m i inner
      split at hl
      · rename_i own esz' l hc
        split at hl
        · rename_i he
          have he := beq_iff_eq.1 he
          subst he
          cases hg : getLy (l.get k) off sz m i inner n a with
          | none => simp [hg] at hl
          | some r' =>
            simp only [hg, Option.map_some, Option.some.injEq, Prod.mk.injEq] at hl
            obtain ⟨rfl, rfl⟩ := hl
            obtain ⟨g1, g2, g3, g4⟩ := arr_cells h hc hq
            obtain ⟨⟨P, Q, f1, f2⟩, e2, e3, e4, e5⟩ := getLy_spec ρ g1 g2 hp.2 hg
            have hlr := cells_length ρ r' e4
            have hlg := cells_length ρ _ g1
            refine ⟨?_, ok_empty e4, e5⟩
            simp only [den]
            rw [run]
            refine run_load_cells w e4 e5 (by rw [e3]; exact ha) (by rw [e2]; exact hn) fun x hx => ?_
            have hk2 : off + i * sz + inner + x < esz := by
              rw [← g3, ← hlg, f1]; simp; omega
            have := g4 (off + i * sz + inner + x) hk2
            rw [show (ρ.adr id).off + (k * esz + (off + i * sz + inner)) + x = (ρ.adr id).off + (k * esz + (off + i * sz + inner + x)) by omega, this, f1, f2]
            exact getElem?_mid P _ Q x (by omega)
        · simp at hl
      · simp at hl
    · rename_i q0 i
      split at hl
      · split at hl
        · rename_i ty q' L hc
          split at hl
          · rename_i hqq
            have hqq := beq_iff_eq.1 hqq
            subst hqq
            cases hg : getAt 8 (.ob (lget L i free)) 0 n a with
            | none => simp [hg] at hl
            | some r' =>
              simp only [hg, Option.map_some, Option.some.injEq, Prod.mk.injEq] at hl
              obtain ⟨rfl, rfl⟩ := hl
              obtain ⟨_, ⟨f2, _⟩, t', f3⟩ := obs_at h hc hq
              have hobk : ok (fun _ => False) (.ob (lget L i free)) := f2
              obtain ⟨e1, e2, e3, e4, e5⟩ := getAt_spec ρ 8 (.ob (lget L i free)) 0 n a r' hobk rfl hg
              refine ⟨?_, ok_empty e4, e5⟩
              simp only [den]
              rw [run]
              exact run_load_part (c := .ob (lget L i free)) w e4 e5 (by rw [e3]; exact ha) (by rw [e2]; exact hn) (by rw [cells_ob]; exact f3) e1
          · simp at hl
        · simp at hl
      · simp at hl
    · simp at hl
  · simp at hl

/-- A field's place. -/
def faV (P : Program) (t : Nat) (p : V) (f : Nat) : Option V :=
  match P.underlying t with
  | some (.struct fs) => match fs[f]? with
    | some fd => match tsz P fd.type with
      | some (_ + 1) => match p with
        | .lp id off => some (.lp id (off + fd.offset))
        | .lx id off esz n i inner => some (.lx id off esz n i (inner + fd.offset))
        | .ap id esz i off => some (.ap id esz i (off + fd.offset))
        | .ax id esz k off sz n i inner => some (.ax id esz k off sz n i (inner + fd.offset))
        | _ => none
      | _ => none
    | none => none
  | _ => none

theorem faV_spec {P : Program} {t f : Nat} {p r : V} (hl : faV P t p f = some r) (hp : ok K p) :
    (Instr.fieldAt t (den ρ p) f).run P w = .ok (den ρ r) w ∧ ok K r ∧ isTp r = false := by
  unfold faV at hl
  split at hl
  · rename_i fs hu
    split at hl
    · rename_i fd hf
      split at hl
      · rename_i m hs
        have run : ∀ b off, (Instr.fieldAt t (.pointer (some ⟨b, off, none⟩)) f).run P w = .ok (.pointer (some ⟨b, off + fd.offset, none⟩)) w := fun b off => by
          simp [Instr.fieldAt, run_und w hu, hf, Instr.sureAddr, fieldPlace, run_tsz w hs, add_lit]
        split at hl <;> simp only [Option.some.injEq, reduceCtorEq] at hl <;> subst hl <;> simp only [den] <;> rw [run]
        · exact ⟨rfl, hp, rfl⟩
        · exact ⟨by simp only [Nat.add_assoc], hp, rfl⟩
        · exact ⟨by simp only [Nat.add_assoc], hp, rfl⟩
        · exact ⟨by simp only [Nat.add_assoc], hp, rfl⟩
      · simp at hl
    · simp at hl
  · simp at hl

def inside (j : Int) (n : Nat) : Bool := decide (0 ≤ j) && decide (j < (n : Int))

/-- An element's place. -/
def iaV (P : Program) (res : List Res) (t : Nat) (p i : V) : Option (Option Prop × V) :=
  match toInt i with
  | none => none
  | some (_, j) => match P.underlying t with
    | some (.array len e) => match tsz P e with
      | none => none
      | some sz => match p with
        | .lp id off => if isCi i then (if inside j len then some (none, .lp id (off + j.toNat * sz)) else none)
            else some (some (pIn j len), .lx id off sz len (i2n j) 0)
        | .ap id esz k off => if isCi i then (if inside j len then some (none, .ap id esz k (off + j.toNat * sz)) else none)
            else some (some (pIn j len), .ax id esz k off sz len (i2n j) 0)
        | .lx id off esz n k inner => if isCi i && inside j len then some (none, .lx id off esz n k (inner + j.toNat * sz)) else none
        | _ => none
    | some (.slice e) => match tsz P e with
      | none => none
      | some sz => match p with
        | .sa id => match rlook res id with
          | .arr _ esz l => if esz == sz then some (some (pIn j l.len), .ap id esz (i2n j) 0) else none
          | .obs _ _ L => if 1 == sz then some (some (pIn j (llen L)), .ap id 1 (i2n j) 0) else none
          | _ => none
        | .sc id len _ => if isCi i then (if inside j len then some (none, .lp id (j.toNat * sz)) else none)
            else some (some (pIn j len), .lx id 0 sz len (i2n j) 0)
        | .ks x z n lo hi => match x with
          | .lp id off => if isCi i && inside j (hi - lo) && z == sz then some (none, .lp id (off + (lo + j.toNat) * sz)) else none
          | _ => none
        | _ => none
    | _ => none

theorem run_ia_array {P : Program} {t e len sz b off : Nat} {k : IntKind} {j : Int} (w : World) (hu : P.underlying t = some (.array len e)) (hs : tsz P e = some sz) (h0 : 0 ≤ j) (h1 : j < (len : Int)) :
    (Instr.indexAt t (.pointer (some ⟨b, off, none⟩)) (.int k j)).run P w = .ok (.pointer (some ⟨b, off + j.toNat * sz, none⟩)) w := by
  simp [Instr.indexAt, asIntOf, run_und w hu, Instr.sureAddr, h0, h1, run_tsz w hs, add_lit]

theorem run_ia_slice {P : Program} {t e len cap sz : Nat} {a : Addr} {k : IntKind} {j : Int} (w : World) (hu : P.underlying t = some (.slice e)) (hs : tsz P e = some sz) (ha : a.spot = none) (h0 : 0 ≤ j) (h1 : j < (len : Int)) :
    (Instr.indexAt t (.slice (some a) len cap) (.int k j)).run P w = .ok (.pointer (some ⟨a.block, a.off + j.toNat * sz, none⟩)) w := by
  obtain ⟨b, o, s⟩ := a
  simp only at ha
  subst ha
  simp [Instr.indexAt, asIntOf, run_und w hu, h0, h1, run_tsz w hs, add_lit]

theorem iaV_spec {t : Nat} {p i r : V} {q : Option Prop} (h : HRep ρ fps res K w0 F0 w) (hl : iaV C.P res t p i = some (q, r)) (hq : holdsO q) (hp : ok K p) (hi : ok K i) :
    (Instr.indexAt t (den ρ p) (den ρ i)).run C.P w = .ok (den ρ r) w ∧ ok K r ∧ isTp r = false := by
  unfold iaV at hl
  split at hl
  · simp at hl
  · rename_i k j hj
    rw [(toInt_spec (ρ := ρ) hj hi).1]
    have hin : ∀ n, inside j n = true → 0 ≤ j ∧ j < (n : Int) := fun n hn => by simpa [inside] using hn
    split at hl
    · rename_i len e hu
      split at hl
      · simp at hl
      · rename_i sz hs
        split at hl
        · split at hl
          · split at hl <;> simp only [Option.some.injEq, Prod.mk.injEq, reduceCtorEq] at hl
            rename_i hb
            obtain ⟨_, rfl⟩ := hl
            exact ⟨by simp only [den]; exact run_ia_array w hu hs (hin _ hb).1 (hin _ hb).2, hp, rfl⟩
          · simp only [Option.some.injEq, Prod.mk.injEq] at hl
            obtain ⟨rfl, rfl⟩ := hl
            exact ⟨by simp only [den, Nat.add_zero]; exact run_ia_array w hu hs hq.1 hq.2, ⟨hp, by have := hq.1; have := hq.2; unfold i2n; omega⟩, rfl⟩
        · split at hl
          · split at hl <;> simp only [Option.some.injEq, Prod.mk.injEq, reduceCtorEq] at hl
            rename_i hb
            obtain ⟨_, rfl⟩ := hl
            have hb := hin _ hb
            exact ⟨by simp only [den]; rw [run_ia_array w hu hs hb.1 hb.2]; simp only [Nat.add_assoc], hp, rfl⟩
          · simp only [Option.some.injEq, Prod.mk.injEq] at hl
            obtain ⟨rfl, rfl⟩ := hl
            exact ⟨by simp only [den, Nat.add_zero]; rw [run_ia_array w hu hs hq.1 hq.2]; simp only [Nat.add_assoc, i2n], ⟨hp, by have := hq.1; have := hq.2; unfold i2n; omega⟩, rfl⟩
        · split at hl <;> simp only [Option.some.injEq, Prod.mk.injEq, reduceCtorEq] at hl
          rename_i hb
          obtain ⟨_, rfl⟩ := hl
          have hb := hin _ (by simp only [Bool.and_eq_true] at hb; exact hb.2)
          exact ⟨by simp only [den]; rw [run_ia_array w hu hs hb.1 hb.2]; simp only [Nat.add_assoc], hp, rfl⟩
        · simp at hl
    · rename_i e hu
      split at hl
      · simp at hl
      · rename_i sz hs
        split at hl
        · rename_i id
          split at hl
          · rename_i own esz l hc
            split at hl <;> simp only [Option.some.injEq, Prod.mk.injEq, reduceCtorEq] at hl
            rename_i he
            have he := beq_iff_eq.1 he
            obtain ⟨rfl, rfl⟩ := hl
            subst he
            obtain ⟨fp, hh, _⟩ := h.look hc (by simp)
            obtain ⟨h1, h2, _, h3, h4, h5, h7⟩ := hh
            have h5 := h5 (by have := hq.1; have := hq.2; omega)
            obtain ⟨hq1, hq2⟩ := hq
            have hn := h4 (by omega)
            cases ha : ρ.sa id with
            | none => rw [ha] at hn; simp at hn
            | some a =>
              have := h3 a ha
              refine ⟨?_, hp, rfl⟩
              simp only [den, ha, h2]
              subst this
              rw [run_ia_slice w hu hs h5 hq1 hq2]
              simp [i2n]
          · rename_i ty q' L hc
            split at hl <;> simp only [Option.some.injEq, Prod.mk.injEq, reduceCtorEq] at hl
            rename_i he
            have he := beq_iff_eq.1 he
            obtain ⟨rfl, rfl⟩ := hl
            subst he
            obtain ⟨fp, hh, _⟩ := h.look hc (by simp)
            obtain ⟨_, h1, h2, h3, h4, h5, h6, h7⟩ := hh
            obtain ⟨hq1, hq2⟩ := hq
            have hq2 : j < (L.length : Int) := hq2
            obtain ⟨g, f1, f2, f3, f4⟩ := owns_form h6 (by omega)
            have hadr := (h4 _ f1).1
            refine ⟨?_, hp, rfl⟩
            simp only [den, f1, h2]
            rw [run_ia_slice w hu hs rfl hq1 hq2, ← hadr]
            simp [i2n]
          · simp at hl
        · split at hl
          · split at hl <;> simp only [Option.some.injEq, Prod.mk.injEq, reduceCtorEq] at hl
            rename_i hb
            obtain ⟨_, rfl⟩ := hl
            refine ⟨?_, hp, rfl⟩
            simp only [den]
            rw [run_ia_slice w hu hs rfl (hin _ hb).1 (hin _ hb).2]
            simp
          · simp only [Option.some.injEq, Prod.mk.injEq] at hl
            obtain ⟨rfl, rfl⟩ := hl
            refine ⟨?_, ⟨hp, by have := hq.1; have := hq.2; unfold i2n; omega⟩, rfl⟩
            simp only [den]
            rw [run_ia_slice w hu hs rfl hq.1 hq.2]
            simp [i2n]
        · rename_i p z n lo hi
          split at hl
          case h_2 => simp at hl
          rename_i id off
          split at hl <;> simp only [Option.some.injEq, Prod.mk.injEq, reduceCtorEq] at hl
          rename_i hc
          simp only [Bool.and_eq_true, beq_iff_eq] at hc
          obtain ⟨⟨_, hin'⟩, rfl⟩ := hc
          obtain ⟨_, rfl⟩ := hl
          obtain ⟨j0, j1⟩ := hin _ hin'
          obtain ⟨hp1, hp2, hp3⟩ := hp
          refine ⟨?_, hp1, rfl⟩
          simp only [den, ksDen]
          rw [if_neg (by omega), add_lit, run_ia_slice w hu hs rfl j0 j1]
          simp only [Nat.add_mul, Nat.add_assoc]
        · simp at hl
    · simp at hl

/-- The part of a value's cells. -/
theorem run_part_of {P : Program} {t off : Nat} {cs : List Value} {r : V} (hr : ok K r) (ht : isTp r = false) (ha : aggT P t = some (isAg r)) (hs : tsz P t = some (vsz r))
    (hp : ∃ p q, cs = p ++ cells ρ r ++ q ∧ off = p.length) : (part t cs.toArray off).run P w = .ok (den ρ r) w := by
  obtain ⟨p, q, rfl, rfl⟩ := hp
  have hl := cells_length ρ r hr
  unfold part
  rw [Sem.run_bind, run_isAgg w ha, den_of_cells ρ hr ht]
  cases hag : Sx.isAg r with
  | true =>
    simp only [Result.andThen_ok, if_true, Sem.run_bind, run_tsz w hs, Sem.run_pure, asPart]
    congr 2
    apply Array.ext'
    rw [← hl]
    simp [List.extract_eq_take_drop]
  | false =>
    have h1 : vsz r = 1 := by
      have := den_oneCell ρ r hr hag ht
      rw [← hl]; simp [cells, oneCell_cells this]
    have hlt : 0 < (cells ρ r).length := by omega
    have := getElem?_mid p (cells ρ r) q 0 hlt
    simp only [Nat.add_zero] at this
    simp only [Result.andThen_ok, Bool.false_eq_true, if_false, List.getElem?_toArray, this, List.getElem?_eq_getElem hlt, Sem.run_pure, asPart]
    congr 1
    simp [List.getD_eq_getElem?_getD, List.getElem?_eq_getElem hlt]

theorem den_agg {x : V} (hx : ok K x) (ha : isAg x = true) : den ρ x = .agg (cells ρ x).toArray := by
  have ht : isTp x = false := by cases x <;> simp_all [isAg, isTp]
  rw [den_of_cells ρ hx ht, ha]; rfl

/-- A field of a value. -/
def fdV (P : Program) (t : Nat) (x : V) (f : Nat) : Option V :=
  match P.underlying t with
  | some (.struct fs) => match fs[f]? with
    | some fd => match aggT P fd.type, tsz P fd.type with
      | some a, some n => if isAg x then getAt 8 x fd.offset n a else none
      | _, _ => none
    | none => none
  | _ => none

theorem fdV_spec {P : Program} {t f : Nat} {x r : V} (hl : fdV P t x f = some r) (hx : ok K x) :
    (Instr.field t (den ρ x) f).run P w = .ok (den ρ r) w ∧ ok K r ∧ isTp r = false := by
  unfold fdV at hl
  split at hl
  · rename_i fs hu
    split at hl
    · rename_i fd hf
      split at hl
      · rename_i a n ha hn
        split at hl
        · rename_i hag
          have ht : isTp x = false := by cases x <;> simp_all [isAg, isTp]
          obtain ⟨e1, e2, e3, e4, e5⟩ := getAt_spec ρ 8 x fd.offset n a r hx ht hl
          refine ⟨?_, e4, e5⟩
          rw [den_agg hx hag]
          simp only [Instr.field, Sem.run_bind, run_und w hu, Result.andThen_ok, hf, asAgg, Sem.run_pure]
          exact run_part_of e4 e5 (by rw [e3]; exact ha) (by rw [e2]; exact hn) e1
        · simp at hl
      · simp at hl
    · simp at hl
  · simp at hl

/-- An element of a value. -/
def ixV (P : Program) (t : Nat) (x i : V) : Option (Option Prop × V) :=
  match toInt i with
  | none => none
  | some (_, j) => match P.underlying t with
    | some (.array len e) => match aggT P e, tsz P e with
      | some a, some sz => if isAg x then
          if isCi i then (if inside j len then (getAt 8 x (j.toNat * sz) sz a).map fun r => (none, r) else none)
          else (getY x sz len (i2n j) 0 sz a).map fun r => (some (pIn j len), r)
        else none
      | _, _ => none
    | _ => none

theorem ixV_spec {P : Program} {t : Nat} {x i r : V} {q : Option Prop} (hl : ixV P t x i = some (q, r)) (hq : holdsO q) (hx : ok K x) (hi : ok K i) :
    (Instr.index t (den ρ x) (den ρ i)).run P w = .ok (den ρ r) w ∧ ok K r ∧ isTp r = false := by
  unfold ixV at hl
  split at hl
  · simp at hl
  · rename_i k j hj
    rw [(toInt_spec (ρ := ρ) hj hi).1]
    split at hl
    · rename_i len e hu
      split at hl
      · rename_i a sz ha hs
        split at hl
        · rename_i hag
          have ht : isTp x = false := by cases x <;> simp_all [isAg, isTp]
          have run : 0 ≤ j → j < (len : Int) → (Instr.index t (den ρ x) (.int k j)).run P w = (part e (cells ρ x).toArray (j.toNat * sz)).run P w := fun h0 h1 => by
            rw [den_agg hx hag]
            simp [Instr.index, asIntOf, run_und w hu, h0, h1, run_tsz w hs]
          split at hl
          · split at hl
            · rename_i hb
              have hb : 0 ≤ j ∧ j < (len : Int) := by simpa [inside] using hb
              cases hg : getAt 8 x (j.toNat * sz) sz a with
              | none => simp [hg] at hl
              | some r' =>
                simp only [hg, Option.map_some, Option.some.injEq, Prod.mk.injEq] at hl
                obtain ⟨_, rfl⟩ := hl
                obtain ⟨e1, e2, e3, e4, e5⟩ := getAt_spec ρ 8 x _ sz a r' hx ht hg
                refine ⟨?_, e4, e5⟩
                rw [run hb.1 hb.2]
                exact run_part_of e4 e5 (by rw [e3]; exact ha) (by rw [e2]; exact hs) e1
            · simp at hl
          · cases hg : getY x sz len (i2n j) 0 sz a with
            | none => simp [hg] at hl
            | some r' =>
              simp only [hg, Option.map_some, Option.some.injEq, Prod.mk.injEq] at hl
              obtain ⟨rfl, rfl⟩ := hl
              have h0 := hq.1
              have h1 := hq.2
              obtain ⟨e1, e2, e3, e4, e5⟩ := getY_spec ρ hx (by unfold i2n; omega) hg
              refine ⟨?_, e4, e5⟩
              rw [run h0 h1]
              simp only [Nat.add_zero] at e1
              exact run_part_of e4 e5 (by rw [e3]; exact ha) (by rw [e2]; exact hs) e1
        · simp at hl
      · simp at hl
    · simp at hl

/-- A conversion. -/
def u8I (n : Int) : UInt8 := UInt8.ofNat n.toNat
theorem u8I_den {n : Int} (h : inR .u8 n) : ((u8I n).toNat : Int) = n := by
  obtain ⟨h0, h1⟩ := h
  unfold u8I
  rw [UInt8.toNat_ofNat']
  omega
def cvV (P : Program) (s d : Nat) (x : V) : Option (Option Prop × V) :=
  match P.underlying s, P.underlying d with
  | some _, some (.int k') => match toInt x with
    | some (k, n) => if k == k' then some (none, x) else if isCi x then (if inR k' n then some (none, .ci k' n) else none) else if k' == .u8 then some (some (inRo .u8 n), .bt (u8I n)) else some (some (inRo k' n), .it k' n)
    | none => none
  | some .string, some .string => match x with
    | .st b => some (none, .st b)
    | _ => none
  | _, _ => none

theorem cvV_spec {P : Program} {s d : Nat} {x r : V} {q : Option Prop} (hl : cvV P s d x = some (q, r)) (hq : holdsO q) (hx : ok K x) :
    (convert s d (den ρ x)).run P w = .ok (den ρ r) w ∧ ok K r ∧ isTp r = false := by
  unfold cvV at hl
  split at hl
  · rename_i u k' h1 h2
    split at hl
    · rename_i k n hx'
      obtain ⟨e1, e2⟩ := toInt_spec (ρ := ρ) hx' hx
      split at hl
      · rename_i hk
        have hk := beq_iff_eq.1 hk
        subst hk
        simp only [Option.some.injEq, Prod.mk.injEq] at hl
        obtain ⟨_, rfl⟩ := hl
        refine ⟨?_, hx, by cases x <;> first | rfl | (simp [toInt] at hx')⟩
        rw [e1]
        simp [convert, run_und w h1, run_und w h2, Conv.intToInt, wrap_in e2]
      · split at hl
        · split at hl <;> simp only [Option.some.injEq, Prod.mk.injEq, reduceCtorEq] at hl
          rename_i hin
          obtain ⟨_, rfl⟩ := hl
          refine ⟨?_, hin, rfl⟩
          rw [e1]
          simp [convert, run_und w h1, run_und w h2, Conv.intToInt, wrap_in hin, den]
        · split at hl
          · rename_i hk8
            have hk8 := beq_iff_eq.1 hk8
            subst hk8
            simp only [Option.some.injEq, Prod.mk.injEq] at hl
            obtain ⟨rfl, rfl⟩ := hl
            refine ⟨?_, trivial, rfl⟩
            rw [e1]
            simp [convert, run_und w h1, run_und w h2, Conv.intToInt, wrap_in (show inR .u8 n from hq), den, u8I_den (show inR .u8 n from hq)]
          · simp only [Option.some.injEq, Prod.mk.injEq] at hl
            obtain ⟨rfl, rfl⟩ := hl
            refine ⟨?_, hq, rfl⟩
            rw [e1]
            simp [convert, run_und w h1, run_und w h2, Conv.intToInt, wrap_in (show inR k' n from hq), den]
    · simp at hl
  · rename_i h1 h2
    split at hl <;> simp only [Option.some.injEq, Prod.mk.injEq, reduceCtorEq] at hl
    obtain ⟨_, rfl⟩ := hl
    refine ⟨?_, trivial, rfl⟩
    simp [den, convert, run_und w h1, run_und w h2]
  · simp at hl

end
end Go.Sx
/- The executor: values that are built; the plain operations together. No condition. -/
set_option linter.unusedVariables false
set_option linter.unusedSimpArgs false
namespace Go.Sx
open Go.RowKit (Below)

theorem splice_fold (off : Nat) : ∀ (l : List Value) (k : Nat) (cur : Array Value), off + k + l.length ≤ cur.size →
    ((l.zipIdx k).foldl (fun (cs : Array Value) (x : Value × Nat) => cs.setIfInBounds (off + x.2) x.1) cur).toList = cur.toList.take (off + k) ++ l ++ cur.toList.drop (off + k + l.length)
  | [], k, cur, _ => by simp
  | v :: l, k, cur, h => by
    simp only [List.length_cons] at h
    simp only [List.zipIdx_cons, List.foldl_cons]
    rw [splice_fold off l (k + 1) _ (by simp; omega)]
    have e := list_seg_step cur.toList (off + k) v l (by simp; omega)
    simpa [Array.toList_setIfInBounds, Nat.add_assoc, Nat.add_comm 1] using e

/-- Parts are put into a value. -/
def putParts (place : Nat → Option (Nat × Nat)) : V → List (Nat × V) → Option V
  | z, [] => some z
  | z, (i, y) :: l => match place i with
    | none => none
    | some (off, size) => if vsz y == size && !isTp y then
        match setAt 8 z off y with
        | none => none
        | some z' => putParts place z' l
      else none

theorem putParts_spec {ρ : Env} {K : Nat → Prop} (place : Nat → Option (Nat × Nat)) : ∀ (l : List (Nat × V)) (z r : V), putParts place z l = some r → ok K z → isTp z = false → (∀ p ∈ l, ok K p.2) →
    Instr.fill place (cells ρ z).toArray (l.map fun p => (p.1, den ρ p.2)) = some (cells ρ r).toArray ∧ ok K r ∧ isTp r = false ∧ isAg r = isAg z ∧ (cells ρ r).length = (cells ρ z).length
  | [], z, r, h, hz, ht, _ => by
    simp only [putParts, Option.some.injEq] at h
    subst h
    exact ⟨rfl, hz, ht, rfl, rfl⟩
  | (i, y) :: l, z, r, h, hz, ht, hl => by
    simp only [putParts] at h
    split at h
    · simp at h
    · rename_i off size hp
      split at h
      · rename_i hc
        simp only [Bool.and_eq_true, beq_iff_eq, Bool.not_eq_true'] at hc
        obtain ⟨hs, hty⟩ := hc
        split at h
        · simp at h
        · rename_i z' hz'
          have hy : ok K y := hl (i, y) (by simp)
          have hput := setAt_spec ρ y hy hty 8 z off z' hz ht hz'
          have hsz := hput.size hy
          obtain ⟨⟨p, m, q, e1, e2, e3, e4⟩, e5, e6, e7⟩ := hput
          obtain ⟨f1, f2, f3, f4, f5⟩ := putParts_spec place l z' r h e6 e7 fun p hp => hl p (by simp [hp])
          have hly := cells_length ρ y hy
          have hcs : (den ρ y).cells.size = size := by rw [← hs, ← hly]; simp [cells]
          refine ⟨?_, f2, f3, f4.trans e5, f5.trans hsz⟩
          simp only [List.map_cons, Instr.fill, hp]
          have hbound : ¬ ((den ρ y).cells.size ≠ size || off + (den ρ y).cells.size > (cells ρ z).toArray.size) = true := by
            simp [hcs, e1]; omega
          rw [if_neg hbound, ← f1]
          congr 1
          apply Array.ext'
          have hsp := splice_fold off (den ρ y).cells.toList 0 (cells ρ z).toArray (by simp [hcs, e1]; omega)
          simp only [Nat.add_zero] at hsp
          rw [← Array.foldl_toList, Array.toList_zipIdx]
          refine hsp.trans ?_
          simp only [Array.length_toList, hcs]
          rw [show (den ρ y).cells.toList = cells ρ y from rfl, e2, e1]
          subst e3
          rw [show List.take p.length (p ++ m ++ q) = p by simp, show List.drop (p.length + size) (p ++ m ++ q) = q by
            rw [← hs, ← e4, ← List.length_append, List.drop_left]]
      · simp at h

def fieldPl (P : Program) (fs : Array Field) (i : Nat) : Option (Nat × Nat) :=
  match fs[i]? with
  | none => none
  | some f => match tsz P f.type with
    | none => none
    | some n => some (f.offset, n)

/-- Do all fields have a size? -/
def fieldsOK (P : Program) (fs : Array Field) : Bool := fs.toList.all fun f => (tsz P f.type).isSome

/-- A struct or an array that is built. -/
def buildV (C : Ctx) (t : Nat) (parts : List (Nat × V)) : Option V :=
  match C.Z t with
  | none => none
  | some z => if isAg z then
      match C.P.underlying t with
      | some (.struct fs) => if fieldsOK C.P fs then putParts (fieldPl C.P fs) z parts else none
      | some (.array _ e) => match tsz C.P e with
        | none => none
        | some n => putParts (fun i => some (i * n, n)) z parts
      | _ => none
    else none

section
variable {C : Ctx} {ρ : Env} {K : Nat → Prop} {w : World}

theorem run_zero {t : Nat} {z : V} (hC : C.ZOK) (h : C.Z t = some z) : (zeroValue t).run C.P w = .ok (den ρ z) w := by
  obtain ⟨i, h1, h2, _⟩ := hC t z h
  simp [zeroValue, typeInfo, h1, h2 ρ]

theorem mapM_run {P : Program} {α β : Type} (g : α → Sem β) (f : α → β) (w : World) : ∀ (l : List α), (∀ x ∈ l, (g x).run P w = .ok (f x) w) → (l.mapM g).run P w = .ok (l.map f) w
  | [], _ => by simp
  | x :: l, h => by
    simp [List.mapM_cons, h x (by simp), mapM_run g f w l fun y hy => h y (by simp [hy])]

theorem buildV_spec {t : Nat} {parts : List (Nat × V)} {r : V} (hC : C.ZOK) (h : buildV C t parts = some r) (hp : ∀ p ∈ parts, ok K p.2) :
    (Instr.build t (parts.map fun p => (p.1, den ρ p.2)).toArray).run C.P w = .ok (den ρ r) w ∧ ok K r ∧ isTp r = false := by
  unfold buildV at h
  split at h
  · simp at h
  · rename_i z hz
    obtain ⟨i, h1, h2, h3, h4, h5⟩ := hC t z hz
    split at h
    · rename_i hag
      have hz0 := run_zero (C := C) (ρ := ρ) (w := w) hC hz
      split at h
      · rename_i fs hu
        split at h
        · rename_i hfs
          obtain ⟨f1, f2, f3, f4, _⟩ := putParts_spec (ρ := ρ) (K := K) _ parts z r h (ok_empty h3) h4 hp
          refine ⟨?_, f2, f3⟩
          simp only [Instr.build, Sem.run_bind, hz0, Result.andThen_ok, run_und w hu]
          have hm : (fs.mapM fun f => do pure (f.offset, ← sizeOf f.type) : Sem (Array (Nat × Nat))).run C.P w = .ok (fs.map fun f => (f.offset, C.P.cellsOf f.type)) w := by
            rw [Array.mapM_eq_mapM_toList]
            simp only [Sem.run_map]
            rw [mapM_run _ (fun f : Field => (f.offset, C.P.cellsOf f.type)) w fs.toList fun f hf => by
              have := List.all_eq_true.1 hfs f hf
              cases hs : tsz C.P f.type with
              | none => simp [hs] at this
              | some n =>
                have e : C.P.cellsOf f.type = n := by
                  unfold tsz at hs
                  simp [Program.cellsOf, hs]
                simp [run_tsz w hs, e]]
            simp only [Result.andThen_ok]
            congr 1
            apply Array.ext'
            simp
          rw [hm]
          simp only [Result.andThen_ok]
          have hpl : (fun i => (fs.map fun f => (f.offset, C.P.cellsOf f.type))[i]?) = fieldPl C.P fs := by
            funext i
            unfold fieldPl
            rw [Array.getElem?_map]
            cases hi : fs[i]? with
            | none => simp
            | some f =>
              have hmem : f ∈ fs.toList := by
                have := Array.getElem?_toList (xs := fs) (i := i)
                rw [hi] at this
                exact List.mem_of_getElem? this
              have := List.all_eq_true.1 hfs f hmem
              cases hs : tsz C.P f.type with
              | none => simp [hs] at this
              | some n =>
                have e : C.P.cellsOf f.type = n := by
                  unfold tsz at hs
                  simp [Program.cellsOf, hs]
                simp [hs, e]
          rw [hpl]
          have hcz : (den ρ z).cells = (cells ρ z).toArray := by simp [cells]
          rw [hcz, f1]
          simp only [Sem.run_pure]
          rw [den_agg f2 (f4.trans hag)]
        · simp at h
      · rename_i e hu
        split at h
        · simp at h
        · rename_i m hm
          obtain ⟨f1, f2, f3, f4, _⟩ := putParts_spec (ρ := ρ) (K := K) _ parts z r h (ok_empty h3) h4 hp
          refine ⟨?_, f2, f3⟩
          simp only [Instr.build, Sem.run_bind, hz0, Result.andThen_ok, run_und w hu, run_tsz w hm]
          have hcz : (den ρ z).cells = (cells ρ z).toArray := by simp [cells]
          rw [hcz, f1]
          simp only [Sem.run_pure]
          rw [den_agg f2 (f4.trans hag)]
      · simp at h
    · simp at h

/-- A slice of written out elements. -/
def bsV (C : Ctx) (t n : Nat) (parts : List (Nat × V)) (nid : Nat) : Option (V × List Res) :=
  match C.P.underlying t with
  | some (.slice e) => match C.Z e with
    | none => none
    | some z => if decide (n * vsz z ≤ 16777216) then
        match putParts (fun i => some (i * vsz z, vsz z)) (.ag (List.replicate n z)) parts with
        | none => none
        | some c => some (.sc nid n n, [.blk e c])
      else none
  | _ => none

theorem cellsL_replicate (z : V) : ∀ n, cellsL ρ (List.replicate n z) = (List.replicate n (cells ρ z)).flatten
  | 0 => rfl
  | n + 1 => by simp only [List.replicate_succ, cellsL, List.flatten_cons, cellsL_replicate z n]; rfl

theorem getElem?_flatten_replicate {α : Type} (l : List α) (hl : 0 < l.length) : ∀ (n i : Nat), i < n * l.length → (List.replicate n l).flatten[i]? = l[i % l.length]?
  | 0, i, h => by omega
  | n + 1, i, h => by
    rw [List.replicate_succ, List.flatten_cons]
    rw [Nat.succ_mul] at h
    by_cases hi : i < l.length
    · rw [List.getElem?_append_left hi, Nat.mod_eq_of_lt hi]
    · rw [List.getElem?_append_right (by omega), getElem?_flatten_replicate l hl n _ (by omega), ← Nat.mod_eq_sub_mod (by omega)]

theorem range_zero_cells (z : Array Value) (n : Nat) : ((Array.range (n * z.size)).map fun i => z[i % z.size]!) = ((List.replicate n z.toList).flatten).toArray := by
  apply Array.ext'
  apply List.ext_getElem?
  intro i
  by_cases hz : z.size = 0
  · have : z = #[] := Array.eq_empty_of_size_eq_zero hz
    subst this
    simp
  · by_cases hi : i < n * z.size
    · have := getElem?_flatten_replicate z.toList (by simpa using Nat.pos_of_ne_zero hz) n i (by simpa using hi)
      rw [show ((List.replicate n z.toList).flatten).toArray.toList = (List.replicate n z.toList).flatten from rfl, this]
      have hm : i % z.size < z.size := Nat.mod_lt _ (Nat.pos_of_ne_zero hz)
      simp [hi, hm]
    · have h2 : (List.replicate n z.toList).flatten.length ≤ i := by simp; omega
      rw [show ((List.replicate n z.toList).flatten).toArray.toList = (List.replicate n z.toList).flatten from rfl, List.getElem?_eq_none h2]
      simp; omega

theorem bsV_spec {t n nid : Nat} {parts : List (Nat × V)} {r : V} {new : List Res} {w0 : World} {F0 : Nat → Prop} (hC : C.ZOK) (h : bsV C t n parts nid = some (r, new)) (hp : ∀ p ∈ parts, ok K p.2) (hn : ¬ K nid) :
    ∃ w' ρ', (Instr.buildSlice t n (parts.map fun p => (p.1, den ρ p.2)).toArray).run C.P w = .ok (den ρ' r) w' ∧ Grew K ρ ρ' nid new w0 F0 w w' ∧ ok (fun i => K i ∨ fresh nid new.length i) r ∧ (∀ k, k < new.length → rget new k ≠ .yet) := by
  unfold bsV at h
  split at h
  · rename_i e hu
    split at h
    · simp at h
    · rename_i z hz
      obtain ⟨i, h1, h2, h3, h4, h5⟩ := hC e z hz
      split at h
      · rename_i hle
        have hle : n * vsz z ≤ 16777216 := by simpa using hle
        split at h
        · simp at h
        · rename_i c hc
          simp only [Option.some.injEq, Prod.mk.injEq] at h
          obtain ⟨rfl, rfl⟩ := h
          have hzok : ok K (.ag (List.replicate n z)) := ⟨(okL_iff _).2 fun x hx => by rw [List.eq_of_mem_replicate hx]; exact ok_empty h3, (okC_iff _).2 fun x hx => by rw [List.eq_of_mem_replicate hx]; exact h4⟩
          obtain ⟨f1, f2, f3, f4, _⟩ := putParts_spec (ρ := ρ) (K := K) _ parts _ c hc hzok rfl hp
          refine ⟨w.alloc (.cells (cells ρ c).toArray e), ρ.setNum nid w.heap.size, ?_, Grew.alloc f2 f3 hn, ?_, ?_⟩
          · have hs : tsz C.P e = some (vsz z) := by simp [tsz, h1, h5]
            have hz0 := run_zero (C := C) (ρ := ρ) (w := w) hC hz
            have hzc : (den ρ z).cells.size = vsz z := by rw [← cells_length ρ z h3]; simp [cells]
            simp only [Instr.buildSlice, Sem.run_bind, run_und w hu, Result.andThen_ok, run_tsz w hs, Sem.run_ite]
            rw [if_neg (by omega)]
            simp only [Sem.run_pure, Result.andThen_ok]
            have key : ∀ zz : Array Value, (n * vsz z = 0 ∨ zz = (den ρ z).cells) → ((Array.range (n * vsz z)).map fun x => zz[x % zz.size]!) = (cells ρ (.ag (List.replicate n z))).toArray := by
              intro zz hh
              rw [cells_ag, cellsL_replicate]
              rcases hh with h0 | rfl
              · rw [h0]
                have hl : (List.replicate n (cells ρ z)).flatten = [] := by
                  apply List.eq_nil_of_length_eq_zero
                  simp [cells_length ρ z h3, h0]
                rw [hl]; simp
              · rw [← hzc]; exact range_zero_cells _ _
            by_cases h0 : n * vsz z = 0
            · rw [if_pos h0]
              rw [key #[] (.inl h0), f1]
              simp only [Sem.run_bind, newRow, run_newObj_alloc, Result.andThen_ok, Sem.run_pure]
              simp [den, Env.setNum]
            · rw [if_neg h0]
              simp only [hz0, Result.andThen_ok]
              rw [key _ (.inr rfl), f1]
              simp only [Sem.run_bind, newRow, run_newObj_alloc, Result.andThen_ok, Sem.run_pure]
              simp [den, Env.setNum]
          · exact .inr ⟨Nat.le_refl _, by simp⟩
          · intro k hk
            simp only [List.length_singleton, Nat.lt_one_iff] at hk
            subst hk
            simp [rget]
      · simp at h
  · simp at h

end
end Go.Sx
