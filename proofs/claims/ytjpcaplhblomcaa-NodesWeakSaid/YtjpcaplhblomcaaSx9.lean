/- The executor: values that are built; the plain operations together. No condition. -/
import Derived.Test.YtjpcaplhblomcaaSx8
set_option linter.unusedVariables false
set_option linter.unusedSimpArgs false
namespace Go.Sx
open Go.RowKit (Below)

theorem splice_fold (off : Nat) : ∀ (l : List Value) (k : Nat) (cur : Array Value), off + k + l.length ≤ cur.size →
    ((l.zipIdx k).foldl (fun (cs : Array Value) (x : Value × Nat) => cs.setIfInBounds (off + x.2) x.1) cur).toList = cur.toList.take (off + k) ++ l ++ cur.toList.drop (off + k + l.length)
  | [], k, cur, _ => by simp
  | v :: l, k, cur, h => by
    simp only [List.length_cons] at h
    simp only [List.zipIdx_cons, List.foldl_cons]
    rw [splice_fold off l (k + 1) _ (by simp; omega)]
    have e := list_seg_step cur.toList (off + k) v l (by simp; omega)
    simpa [Array.toList_setIfInBounds, Nat.add_assoc, Nat.add_comm 1] using e

/-- Parts are put into a value. -/
def putParts (place : Nat → Option (Nat × Nat)) : V → List (Nat × V) → Option V
  | z, [] => some z
  | z, (i, y) :: l => match place i with
    | none => none
    | some (off, size) => if vsz y == size && !isTp y then
        match setAt 8 z off y with
        | none => none
        | some z' => putParts place z' l
      else none

theorem putParts_spec {ρ : Env} {K : Nat → Prop} (place : Nat → Option (Nat × Nat)) : ∀ (l : List (Nat × V)) (z r : V), putParts place z l = some r → ok K z → isTp z = false → (∀ p ∈ l, ok K p.2) →
    Instr.fill place (cells ρ z).toArray (l.map fun p => (p.1, den ρ p.2)) = some (cells ρ r).toArray ∧ ok K r ∧ isTp r = false ∧ isAg r = isAg z ∧ (cells ρ r).length = (cells ρ z).length
  | [], z, r, h, hz, ht, _ => by
    simp only [putParts, Option.some.injEq] at h
    subst h
    exact ⟨rfl, hz, ht, rfl, rfl⟩
  | (i, y) :: l, z, r, h, hz, ht, hl => by
    simp only [putParts] at h
    split at h
    · simp at h
    · rename_i off size hp
      split at h
      · rename_i hc
        simp only [Bool.and_eq_true, beq_iff_eq, Bool.not_eq_true'] at hc
        obtain ⟨hs, hty⟩ := hc
        split at h
        · simp at h
        · rename_i z' hz'
          have hy : ok K y := hl (i, y) (by simp)
          have hput := setAt_spec ρ y hy hty 8 z off z' hz ht hz'
          have hsz := hput.size hy
          obtain ⟨⟨p, m, q, e1, e2, e3, e4⟩, e5, e6, e7⟩ := hput
          obtain ⟨f1, f2, f3, f4, f5⟩ := putParts_spec place l z' r h e6 e7 fun p hp => hl p (by simp [hp])
          have hly := cells_length ρ y hy
          have hcs : (den ρ y).cells.size = size := by rw [← hs, ← hly]; simp [cells]
          refine ⟨?_, f2, f3, f4.trans e5, f5.trans hsz⟩
          simp only [List.map_cons, Instr.fill, hp]
          have hbound : ¬ ((den ρ y).cells.size ≠ size || off + (den ρ y).cells.size > (cells ρ z).toArray.size) = true := by
            simp [hcs, e1]; omega
          rw [if_neg hbound, ← f1]
          congr 1
          apply Array.ext'
          have hsp := splice_fold off (den ρ y).cells.toList 0 (cells ρ z).toArray (by simp [hcs, e1]; omega)
          simp only [Nat.add_zero] at hsp
          rw [← Array.foldl_toList, Array.toList_zipIdx]
          refine hsp.trans ?_
          simp only [Array.length_toList, hcs]
          rw [show (den ρ y).cells.toList = cells ρ y from rfl, e2, e1]
          subst e3
          rw [show List.take p.length (p ++ m ++ q) = p by simp, show List.drop (p.length + size) (p ++ m ++ q) = q by
            rw [← hs, ← e4, ← List.length_append, List.drop_left]]
      · simp at h

def fieldPl (P : Program) (fs : Array Field) (i : Nat) : Option (Nat × Nat) :=
  match fs[i]? with
  | none => none
  | some f => match tsz P f.type with
    | none => none
    | some n => some (f.offset, n)

/-- Do all fields have a size? -/
def fieldsOK (P : Program) (fs : Array Field) : Bool := fs.toList.all fun f => (tsz P f.type).isSome

/-- A struct or an array that is built. -/
def buildV (C : Ctx) (t : Nat) (parts : List (Nat × V)) : Option V :=
  match C.Z t with
  | none => none
  | some z => if isAg z then
      match C.P.underlying t with
      | some (.struct fs) => if fieldsOK C.P fs then putParts (fieldPl C.P fs) z parts else none
      | some (.array _ e) => match tsz C.P e with
        | none => none
        | some n => putParts (fun i => some (i * n, n)) z parts
      | _ => none
    else none

section
variable {C : Ctx} {ρ : Env} {K : Nat → Prop} {w : World}

theorem run_zero {t : Nat} {z : V} (hC : C.ZOK) (h : C.Z t = some z) : (zeroValue t).run C.P w = .ok (den ρ z) w := by
  obtain ⟨i, h1, h2, _⟩ := hC t z h
  simp [zeroValue, typeInfo, h1, h2 ρ]

theorem mapM_run {P : Program} {α β : Type} (g : α → Sem β) (f : α → β) (w : World) : ∀ (l : List α), (∀ x ∈ l, (g x).run P w = .ok (f x) w) → (l.mapM g).run P w = .ok (l.map f) w
  | [], _ => by simp
  | x :: l, h => by
    simp [List.mapM_cons, h x (by simp), mapM_run g f w l fun y hy => h y (by simp [hy])]

theorem buildV_spec {t : Nat} {parts : List (Nat × V)} {r : V} (hC : C.ZOK) (h : buildV C t parts = some r) (hp : ∀ p ∈ parts, ok K p.2) :
    (Instr.build t (parts.map fun p => (p.1, den ρ p.2)).toArray).run C.P w = .ok (den ρ r) w ∧ ok K r ∧ isTp r = false := by
  unfold buildV at h
  split at h
  · simp at h
  · rename_i z hz
    obtain ⟨i, h1, h2, h3, h4, h5⟩ := hC t z hz
    split at h
    · rename_i hag
      have hz0 := run_zero (C := C) (ρ := ρ) (w := w) hC hz
      split at h
      · rename_i fs hu
        split at h
        · rename_i hfs
          obtain ⟨f1, f2, f3, f4, _⟩ := putParts_spec (ρ := ρ) (K := K) _ parts z r h (ok_empty h3) h4 hp
          refine ⟨?_, f2, f3⟩
          simp only [Instr.build, Sem.run_bind, hz0, Result.andThen_ok, run_und w hu]
          have hm : (fs.mapM fun f => do pure (f.offset, ← sizeOf f.type) : Sem (Array (Nat × Nat))).run C.P w = .ok (fs.map fun f => (f.offset, C.P.cellsOf f.type)) w := by
            rw [Array.mapM_eq_mapM_toList]
            simp only [Sem.run_map]
            rw [mapM_run _ (fun f : Field => (f.offset, C.P.cellsOf f.type)) w fs.toList fun f hf => by
              have := List.all_eq_true.1 hfs f hf
              cases hs : tsz C.P f.type with
              | none => simp [hs] at this
              | some n =>
                have e : C.P.cellsOf f.type = n := by
                  unfold tsz at hs
                  simp [Program.cellsOf, hs]
                simp [run_tsz w hs, e]]
            simp only [Result.andThen_ok]
            congr 1
            apply Array.ext'
            simp
          rw [hm]
          simp only [Result.andThen_ok]
          have hpl : (fun i => (fs.map fun f => (f.offset, C.P.cellsOf f.type))[i]?) = fieldPl C.P fs := by
            funext i
            unfold fieldPl
            rw [Array.getElem?_map]
            cases hi : fs[i]? with
            | none => simp
            | some f =>
              have hmem : f ∈ fs.toList := by
                have := Array.getElem?_toList (xs := fs) (i := i)
                rw [hi] at this
                exact List.mem_of_getElem? this
              have := List.all_eq_true.1 hfs f hmem
              cases hs : tsz C.P f.type with
              | none => simp [hs] at this
              | some n =>
                have e : C.P.cellsOf f.type = n := by
                  unfold tsz at hs
                  simp [Program.cellsOf, hs]
                simp [hs, e]
          rw [hpl]
          have hcz : (den ρ z).cells = (cells ρ z).toArray := by simp [cells]
          rw [hcz, f1]
          simp only [Sem.run_pure]
          rw [den_agg f2 (f4.trans hag)]
        · simp at h
      · rename_i e hu
        split at h
        · simp at h
        · rename_i m hm
          obtain ⟨f1, f2, f3, f4, _⟩ := putParts_spec (ρ := ρ) (K := K) _ parts z r h (ok_empty h3) h4 hp
          refine ⟨?_, f2, f3⟩
          simp only [Instr.build, Sem.run_bind, hz0, Result.andThen_ok, run_und w hu, run_tsz w hm]
          have hcz : (den ρ z).cells = (cells ρ z).toArray := by simp [cells]
          rw [hcz, f1]
          simp only [Sem.run_pure]
          rw [den_agg f2 (f4.trans hag)]
      · simp at h
    · simp at h

/-- A slice of written out elements. -/
def bsV (C : Ctx) (t n : Nat) (parts : List (Nat × V)) (nid : Nat) : Option (V × List Res) :=
  match C.P.underlying t with
  | some (.slice e) => match C.Z e with
    | none => none
    | some z => if decide (n * vsz z ≤ 16777216) then
        match putParts (fun i => some (i * vsz z, vsz z)) (.ag (List.replicate n z)) parts with
        | none => none
        | some c => some (.sc nid n n, [.blk e c])
      else none
  | _ => none

theorem cellsL_replicate (z : V) : ∀ n, cellsL ρ (List.replicate n z) = (List.replicate n (cells ρ z)).flatten
  | 0 => rfl
  | n + 1 => by simp only [List.replicate_succ, cellsL, List.flatten_cons, cellsL_replicate z n]; rfl

theorem getElem?_flatten_replicate {α : Type} (l : List α) (hl : 0 < l.length) : ∀ (n i : Nat), i < n * l.length → (List.replicate n l).flatten[i]? = l[i % l.length]?
  | 0, i, h => by omega
  | n + 1, i, h => by
    rw [List.replicate_succ, List.flatten_cons]
    rw [Nat.succ_mul] at h
    by_cases hi : i < l.length
    · rw [List.getElem?_append_left hi, Nat.mod_eq_of_lt hi]
    · rw [List.getElem?_append_right (by omega), getElem?_flatten_replicate l hl n _ (by omega), ← Nat.mod_eq_sub_mod (by omega)]

theorem range_zero_cells (z : Array Value) (n : Nat) : ((Array.range (n * z.size)).map fun i => z[i % z.size]!) = ((List.replicate n z.toList).flatten).toArray := by
  apply Array.ext'
  apply List.ext_getElem?
  intro i
  by_cases hz : z.size = 0
  · have : z = #[] := Array.eq_empty_of_size_eq_zero hz
    subst this
    simp
  · by_cases hi : i < n * z.size
    · have := getElem?_flatten_replicate z.toList (by simpa using Nat.pos_of_ne_zero hz) n i (by simpa using hi)
      rw [show ((List.replicate n z.toList).flatten).toArray.toList = (List.replicate n z.toList).flatten from rfl, this]
      have hm : i % z.size < z.size := Nat.mod_lt _ (Nat.pos_of_ne_zero hz)
      simp [hi, hm]
    · have h2 : (List.replicate n z.toList).flatten.length ≤ i := by simp; omega
      rw [show ((List.replicate n z.toList).flatten).toArray.toList = (List.replicate n z.toList).flatten from rfl, List.getElem?_eq_none h2]
      simp; omega

theorem bsV_spec {t n nid : Nat} {parts : List (Nat × V)} {r : V} {new : List Res} {w0 : World} {F0 : Nat → Prop} (hC : C.ZOK) (h : bsV C t n parts nid = some (r, new)) (hp : ∀ p ∈ parts, ok K p.2) (hn : ¬ K nid) :
    ∃ w' ρ', (Instr.buildSlice t n (parts.map fun p => (p.1, den ρ p.2)).toArray).run C.P w = .ok (den ρ' r) w' ∧ Grew K ρ ρ' nid new w0 F0 w w' ∧ ok (fun i => K i ∨ fresh nid new.length i) r ∧ (∀ k, k < new.length → rget new k ≠ .yet) := by
  unfold bsV at h
  split at h
  · rename_i e hu
    split at h
    · simp at h
    · rename_i z hz
      obtain ⟨i, h1, h2, h3, h4, h5⟩ := hC e z hz
      split at h
      · rename_i hle
        have hle : n * vsz z ≤ 16777216 := by simpa using hle
        split at h
        · simp at h
        · rename_i c hc
          simp only [Option.some.injEq, Prod.mk.injEq] at h
          obtain ⟨rfl, rfl⟩ := h
          have hzok : ok K (.ag (List.replicate n z)) := ⟨(okL_iff _).2 fun x hx => by rw [List.eq_of_mem_replicate hx]; exact ok_empty h3, (okC_iff _).2 fun x hx => by rw [List.eq_of_mem_replicate hx]; exact h4⟩
          obtain ⟨f1, f2, f3, f4, _⟩ := putParts_spec (ρ := ρ) (K := K) _ parts _ c hc hzok rfl hp
          refine ⟨w.alloc (.cells (cells ρ c).toArray e), ρ.setNum nid w.heap.size, ?_, Grew.alloc f2 f3 hn, ?_, ?_⟩
          · have hs : tsz C.P e = some (vsz z) := by simp [tsz, h1, h5]
            have hz0 := run_zero (C := C) (ρ := ρ) (w := w) hC hz
            have hzc : (den ρ z).cells.size = vsz z := by rw [← cells_length ρ z h3]; simp [cells]
            simp only [Instr.buildSlice, Sem.run_bind, run_und w hu, Result.andThen_ok, run_tsz w hs, Sem.run_ite]
            rw [if_neg (by omega)]
            simp only [Sem.run_pure, Result.andThen_ok]
            have key : ∀ zz : Array Value, (n * vsz z = 0 ∨ zz = (den ρ z).cells) → ((Array.range (n * vsz z)).map fun x => zz[x % zz.size]!) = (cells ρ (.ag (List.replicate n z))).toArray := by
              intro zz hh
              rw [cells_ag, cellsL_replicate]
              rcases hh with h0 | rfl
              · rw [h0]
                have hl : (List.replicate n (cells ρ z)).flatten = [] := by
                  apply List.eq_nil_of_length_eq_zero
                  simp [cells_length ρ z h3, h0]
                rw [hl]; simp
              · rw [← hzc]; exact range_zero_cells _ _
            by_cases h0 : n * vsz z = 0
            · rw [if_pos h0]
              rw [key #[] (.inl h0), f1]
              simp only [Sem.run_bind, newRow, run_newObj_alloc, Result.andThen_ok, Sem.run_pure]
              simp [den, Env.setNum]
            · rw [if_neg h0]
              simp only [hz0, Result.andThen_ok]
              rw [key _ (.inr rfl), f1]
              simp only [Sem.run_bind, newRow, run_newObj_alloc, Result.andThen_ok, Sem.run_pure]
              simp [den, Env.setNum]
          · exact .inr ⟨Nat.le_refl _, by simp⟩
          · intro k hk
            simp only [List.length_singleton, Nat.lt_one_iff] at hk
            subst hk
            simp [rget]
      · simp at h
  · simp at h

end
end Go.Sx
