/- The executor: memory and parts, operation by operation. No condition. -/
import Derived.Test.YtjpcaplhblomcaaSx7
set_option linter.unusedVariables false
set_option linter.unusedSimpArgs false
namespace Go.Sx
open Go.RowKit (Below)

/-- The context's zero values are the program's. -/
def Ctx.ZOK (C : Ctx) : Prop := ∀ t z, C.Z t = some z → ∃ i, C.P.info? t = some i ∧ (∀ ρ, i.zero = some (den ρ z)) ∧ ok (fun _ => False) z ∧ isTp z = false ∧ i.size = vsz z

theorem ok_empty {K : Nat → Prop} {v : V} (h : ok (fun _ => False) v) : ok K v := ok_mono (fun _ h => h.elim) v h

section
variable {C : Ctx} {ρ : Env} {fps : Nat → Nat → Prop} {res : List Res} {K : Nat → Prop} {w0 w : World} {F0 : Nat → Prop}

/-- What is loaded. -/
def loadV (C : Ctx) (res : List Res) (t : Nat) (p : V) : Option (Option Prop × V) :=
  match aggT C.P t, tsz C.P t with
  | some a, some n => match p with
    | .lp id off => match rlook res id with
      | .blk _ c => (getAt 8 c off n a).map fun r => (none, r)
      | _ => none
    | .lx id off esz m i inner => match rlook res id with
      | .blk _ c => (getLy c off esz m i inner n a).map fun r => (none, r)
      | _ => none
    | .ap id esz i off => match rlook res id with
      | .arr _ esz' l => if esz == esz' then (getAt 8 (l.get i) off n a).map fun r => (some (pLt i l.len), r) else none
      | .obs _ q L => if esz == 1 && off == 0 && n == 1 && a == false then some (some (pLt i (llen L)), .op q i) else none
      | _ => none
    | .ax id esz k off sz m i inner => match rlook res id with
      | .arr _ esz' l => if esz == esz' then (getLy (l.get k) off sz m i inner n a).map fun r => (some (pLt k l.len), r) else none
      | _ => none
    | .op q i => match rlook res q with
      | .gen id => match rlook res id with
        | .obs _ q' L => if q == q' then (getAt 8 (.ob (lget L i free)) 0 n a).map fun r => (some (pLt i (llen L)), r) else none
        | _ => none
      | _ => none
    | _ => none
  | _, _ => none

theorem flat_idx {α : Type} {f : Nat → List α} {esz : Nat} : ∀ {n : Nat}, (∀ j, j < n → (f j).length = esz) → ∀ {i k : Nat}, i < n → k < esz → ((List.range n).flatMap f)[i * esz + k]? = (f i)[k]?
  | 0, _, i, k, hi, _ => by omega
  | n + 1, h, i, k, hi, hk => by
    rw [List.range_succ, List.flatMap_append]
    have hlen : ((List.range n).flatMap f).length = n * esz := by
      clear hi hk
      induction n with
      | zero => simp
      | succ n ih =>
        rw [List.range_succ, List.flatMap_append, List.length_append, ih fun j hj => h j (by omega)]
        simp [h n (by omega), Nat.succ_mul]
    by_cases e : i < n
    · rw [List.getElem?_append_left (by rw [hlen]; have : (i + 1) * esz ≤ n * esz := Nat.mul_le_mul_right _ e; rw [Nat.succ_mul] at this; omega)]
      exact flat_idx (fun j hj => h j (by omega)) e hk
    · have : i = n := by omega
      subst this
      rw [List.getElem?_append_right (by rw [hlen]; omega), hlen]
      simp

theorem owns_form {w : World} {e size n : Nat} {ρ : Env} {i : Nat} {xs : List Value} (h : w.ownsRow 0 e size (ρ.sl i) n xs) (hn : 0 < n) : ∃ g, ρ.sa i = some ⟨g, 0, none⟩ ∧ ρ.sn i = n ∧ g < w.heap.size ∧ ∀ j, j < n * size → w.cell? ⟨g, j, none⟩ = xs[j]? := by
  have h' := h
  rcases h.2 with ⟨_, h0⟩ | ⟨g, cap, cur, h1, h2, h3, h4⟩
  · omega
  · have hh := h1
    simp only [Env.sl, Value.slice.injEq] at h1
    rw [hh] at h'
    exact ⟨g, h1.1, h1.2.1, (Array.getElem?_eq_some_iff.1 h3).1, fun j hj => h'.cellAt j hj⟩

theorem arr_cells {id esz : Nat} {own : Option Nat} {l : TL} (h : HRep ρ fps res K w0 F0 w) (hr : rlook res id = .arr own esz l) {i : Nat} (hi : i < l.len) :
    ok (fun _ => False) (l.get i) ∧ isTp (l.get i) = false ∧ vsz (l.get i) = esz ∧ ∀ k, k < esz → w.cell? ⟨(ρ.adr id).block, (ρ.adr id).off + (i * esz + k), none⟩ = (cells ρ (l.get i))[k]? := by
  obtain ⟨fp, hh, _⟩ := h.look hr (by simp)
  obtain ⟨h1, h2, h3, h4, h5, h6, h7⟩ := hh
  obtain ⟨g1, g2, g3⟩ := h1 i hi
  refine ⟨g1, g2, g3, fun k hk => ?_⟩
  have hl := cells_length ρ (l.get i) g1
  rcases h7 with ⟨_, h7, h8⟩ | ⟨e, _, e2, e3⟩
  · have e := h8 i hi k hk
    have hlt : (ρ.adr id).block < w0.heap.size := by
      have : k < (cells ρ (l.get i)).length := by omega
      rw [List.getElem?_eq_getElem this] at e
      exact World.block_lt_of_cell? w0 ⟨(ρ.adr id).block, (ρ.adr id).off + (i * esz + k), none⟩ e
    rw [← e]
    exact World.cell?_of_block (w := w0) (h.same _ hlt (h7 (by omega)).1)
  · obtain ⟨g, f1, f2, f3, f4⟩ := owns_form e2 (by omega)
    have ha := h4 _ f1
    rw [← ha]
    simp only [Nat.zero_add]
    have hlt : i * esz + k < l.len * esz := by
      have : (i + 1) * esz ≤ l.len * esz := Nat.mul_le_mul_right _ hi
      rw [Nat.succ_mul] at this; omega
    rw [f4 _ hlt]
    unfold TL.cells
    rw [flat_idx (esz := esz) (fun j hj => by rw [cells_length Env.zero _ (h1 j hj).1]; exact (h1 j hj).2.2) hi hk]
    rw [cells_agree (N := fun _ => False) (ρ := ρ) (ρ' := Env.zero) (fun _ h => h.elim) _ g1]

theorem obs_at {id ty q : Nat} {L : List Obj} (h : HRep ρ fps res K w0 F0 w) (hr : rlook res id = .obs ty q L) {i : Nat} (hi : i < llen L) :
    w.cell? ⟨(ρ.adr id).block, (ρ.adr id).off + i, none⟩ = some (.pointer (some ⟨ρ.ob q i, 0, none⟩)) ∧ ((L.getD i free).wf ∧ K q) ∧ ∃ t, w.heap[ρ.ob q i]? = some (.cells (obCells (L.getD i free)).toArray t (0, 0)) := by
  obtain ⟨fp, hh, _⟩ := h.look hr (by simp)
  obtain ⟨h0, h1, h2, h3, h4, h5, h6, h7⟩ := hh
  have hi : i < L.length := hi
  obtain ⟨g, f1, f2, f3, f4⟩ := owns_form h6 (by omega)
  have ha := (h4 _ f1).1
  refine ⟨?_, ?_, (h7 i hi).2⟩
  · rw [← ha]
    simp only [Nat.zero_add]
    rw [f4 i (by omega)]
    simp [hi]
  · have : L.getD i free = L[i] := by simp [List.getD_eq_getElem?_getD, hi]
    rw [this]
    exact ⟨h1 _ (List.getElem_mem hi), h0⟩

theorem loadV_spec {t : Nat} {p r : V} {q : Option Prop} (h : HRep ρ fps res K w0 F0 w) (hl : loadV C res t p = some (q, r)) (hq : holdsO q) (hp : ok K p) :
    (Instr.loadAt t (den ρ p)).run C.P w = .ok (den ρ r) w ∧ ok K r ∧ isTp r = false := by
  unfold loadV at hl
  split at hl
  · rename_i a n ha hn
    have run : ∀ b off, (Instr.loadAt t (.pointer (some ⟨b, off, none⟩))).run C.P w = (loadVar t ⟨b, off, none⟩).run C.P w := fun b off => by
      simp [Instr.loadAt, Instr.sureAddr]
    split at hl
    · rename_i id off
      split at hl
      · rename_i ty c hc
        cases hg : getAt 8 c off n a with
        | none => simp [hg] at hl
        | some r' =>
          simp only [hg, Option.map_some, Option.some.injEq, Prod.mk.injEq] at hl
          obtain ⟨_, rfl⟩ := hl
          obtain ⟨fp, hh, _⟩ := h.look hc (by simp)
          obtain ⟨h1, h2, h3, h4⟩ := hh
          obtain ⟨e1, e2, e3, e4, e5⟩ := getAt_spec ρ 8 c off n a r' h1 h2 hg
          refine ⟨?_, e4, e5⟩
          simp only [den]
          rw [run]
          exact run_load_part w e4 e5 (by rw [e3]; exact ha) (by rw [e2]; exact hn) h4 e1
      · simp at hl
    · rename_i id off esz m i inner
      split at hl
      · rename_i ty c hc
        cases hg : getLy c off esz m i inner n a with
        | none => simp [hg] at hl
        | some r' =>
          simp only [hg, Option.map_some, Option.some.injEq, Prod.mk.injEq] at hl
          obtain ⟨_, rfl⟩ := hl
          obtain ⟨fp, hh, _⟩ := h.look hc (by simp)
          obtain ⟨h1, h2, h3, h4⟩ := hh
          obtain ⟨e1, e2, e3, e4, e5⟩ := getLy_spec ρ h1 h2 hp.2 hg
          refine ⟨?_, e4, e5⟩
          simp only [den]
          rw [run]
          exact run_load_part w e4 e5 (by rw [e3]; exact ha) (by rw [e2]; exact hn) h4 e1
      · simp at hl
    · rename_i id esz i off
      split at hl
      · rename_i own esz' l hc
        split at hl
        · rename_i he
          have he := beq_iff_eq.1 he
          subst he
          cases hg : getAt 8 (l.get i) off n a with
          | none => simp [hg] at hl
          | some r' =>
            simp only [hg, Option.map_some, Option.some.injEq, Prod.mk.injEq] at hl
            obtain ⟨rfl, rfl⟩ := hl
            obtain ⟨g1, g2, g3, g4⟩ := arr_cells h hc hq
            obtain ⟨⟨P, Q, f1, f2⟩, e2, e3, e4, e5⟩ := getAt_spec ρ 8 (l.get i) off n a r' g1 g2 hg
            have hlr := cells_length ρ r' e4
            have hlg := cells_length ρ _ g1
            refine ⟨?_, ok_empty e4, e5⟩
            simp only [den]
            rw [run]
            refine run_load_cells w e4 e5 (by rw [e3]; exact ha) (by rw [e2]; exact hn) fun k hk => ?_
            have hk2 : off + k < esz := by
              rw [← g3, ← hlg, f1]; simp; omega
            have := g4 (off + k) hk2
            rw [show (ρ.adr id).off + (i * esz + off) + k = (ρ.adr id).off + (i * esz + (off + k)) by omega, this, f1, f2]
            exact getElem?_mid P _ Q k (by omega)
        · simp at hl
      · rename_i ty q' L hc
        split at hl
        · rename_i hb
          simp only [Bool.and_eq_true, beq_iff_eq] at hb
          obtain ⟨⟨⟨rfl, rfl⟩, rfl⟩, rfl⟩ := hb
          simp only [Option.some.injEq, Prod.mk.injEq] at hl
          obtain ⟨rfl, rfl⟩ := hl
          obtain ⟨f1, ⟨_, f2⟩, _⟩ := obs_at h hc hq
          refine ⟨?_, f2, rfl⟩
          simp only [den]
          rw [run]
          have := run_load_cells (P := C.P) (ρ := ρ) (K := K) (t := t) (b := (ρ.adr id).block) (off := (ρ.adr id).off + (i * 1 + 0)) (r := .op q' i) w f2 rfl ha hn (fun k hk => by
            have hk : k < 1 := hk
            rw [show (ρ.adr id).off + (i * 1 + 0) + k = (ρ.adr id).off + i by omega, f1, show k = 0 by omega]
            simp [cells, den, Value.cells])
          rw [this]
          simp only [den]
        · simp at hl
      · simp at hl
    · rename_i id esz k off sz m i inner
      split at hl
      · rename_i own esz' l hc
        split at hl
        · rename_i he
          have he := beq_iff_eq.1 he
          subst he
          cases hg : getLy (l.get k) off sz m i inner n a with
          | none => simp [hg] at hl
          | some r' =>
            simp only [hg, Option.map_some, Option.some.injEq, Prod.mk.injEq] at hl
            obtain ⟨rfl, rfl⟩ := hl
            obtain ⟨g1, g2, g3, g4⟩ := arr_cells h hc hq
            obtain ⟨⟨P, Q, f1, f2⟩, e2, e3, e4, e5⟩ := getLy_spec ρ g1 g2 hp.2 hg
            have hlr := cells_length ρ r' e4
            have hlg := cells_length ρ _ g1
            refine ⟨?_, ok_empty e4, e5⟩
            simp only [den]
            rw [run]
            refine run_load_cells w e4 e5 (by rw [e3]; exact ha) (by rw [e2]; exact hn) fun x hx => ?_
            have hk2 : off + i * sz + inner + x < esz := by
              rw [← g3, ← hlg, f1]; simp; omega
            have := g4 (off + i * sz + inner + x) hk2
            rw [show (ρ.adr id).off + (k * esz + (off + i * sz + inner)) + x = (ρ.adr id).off + (k * esz + (off + i * sz + inner + x)) by omega, this, f1, f2]
            exact getElem?_mid P _ Q x (by omega)
        · simp at hl
      · simp at hl
    · rename_i q0 i
      split at hl
      · split at hl
        · rename_i ty q' L hc
          split at hl
          · rename_i hqq
            have hqq := beq_iff_eq.1 hqq
            subst hqq
            cases hg : getAt 8 (.ob (lget L i free)) 0 n a with
            | none => simp [hg] at hl
            | some r' =>
              simp only [hg, Option.map_some, Option.some.injEq, Prod.mk.injEq] at hl
              obtain ⟨rfl, rfl⟩ := hl
              obtain ⟨_, ⟨f2, _⟩, t', f3⟩ := obs_at h hc hq
              have hobk : ok (fun _ => False) (.ob (lget L i free)) := f2
              obtain ⟨e1, e2, e3, e4, e5⟩ := getAt_spec ρ 8 (.ob (lget L i free)) 0 n a r' hobk rfl hg
              refine ⟨?_, ok_empty e4, e5⟩
              simp only [den]
              rw [run]
              exact run_load_part (c := .ob (lget L i free)) w e4 e5 (by rw [e3]; exact ha) (by rw [e2]; exact hn) (by rw [cells_ob]; exact f3) e1
          · simp at hl
        · simp at hl
      · simp at hl
    · simp at hl
  · simp at hl

/-- A field's place. -/
def faV (P : Program) (t : Nat) (p : V) (f : Nat) : Option V :=
  match P.underlying t with
  | some (.struct fs) => match fs[f]? with
    | some fd => match tsz P fd.type with
      | some (_ + 1) => match p with
        | .lp id off => some (.lp id (off + fd.offset))
        | .lx id off esz n i inner => some (.lx id off esz n i (inner + fd.offset))
        | .ap id esz i off => some (.ap id esz i (off + fd.offset))
        | .ax id esz k off sz n i inner => some (.ax id esz k off sz n i (inner + fd.offset))
        | _ => none
      | _ => none
    | none => none
  | _ => none

theorem faV_spec {P : Program} {t f : Nat} {p r : V} (hl : faV P t p f = some r) (hp : ok K p) :
    (Instr.fieldAt t (den ρ p) f).run P w = .ok (den ρ r) w ∧ ok K r ∧ isTp r = false := by
  unfold faV at hl
  split at hl
  · rename_i fs hu
    split at hl
    · rename_i fd hf
      split at hl
      · rename_i m hs
        have run : ∀ b off, (Instr.fieldAt t (.pointer (some ⟨b, off, none⟩)) f).run P w = .ok (.pointer (some ⟨b, off + fd.offset, none⟩)) w := fun b off => by
          simp [Instr.fieldAt, run_und w hu, hf, Instr.sureAddr, fieldPlace, run_tsz w hs, add_lit]
        split at hl <;> simp only [Option.some.injEq, reduceCtorEq] at hl <;> subst hl <;> simp only [den] <;> rw [run]
        · exact ⟨rfl, hp, rfl⟩
        · exact ⟨by simp only [Nat.add_assoc], hp, rfl⟩
        · exact ⟨by simp only [Nat.add_assoc], hp, rfl⟩
        · exact ⟨by simp only [Nat.add_assoc], hp, rfl⟩
      · simp at hl
    · simp at hl
  · simp at hl

def inside (j : Int) (n : Nat) : Bool := decide (0 ≤ j) && decide (j < (n : Int))

/-- An element's place. -/
def iaV (P : Program) (res : List Res) (t : Nat) (p i : V) : Option (Option Prop × V) :=
  match toInt i with
  | none => none
  | some (_, j) => match P.underlying t with
    | some (.array len e) => match tsz P e with
      | none => none
      | some sz => match p with
        | .lp id off => if isCi i then (if inside j len then some (none, .lp id (off + j.toNat * sz)) else none)
            else some (some (pIn j len), .lx id off sz len (i2n j) 0)
        | .ap id esz k off => if isCi i then (if inside j len then some (none, .ap id esz k (off + j.toNat * sz)) else none)
            else some (some (pIn j len), .ax id esz k off sz len (i2n j) 0)
        | .lx id off esz n k inner => if isCi i && inside j len then some (none, .lx id off esz n k (inner + j.toNat * sz)) else none
        | _ => none
    | some (.slice e) => match tsz P e with
      | none => none
      | some sz => match p with
        | .sa id => match rlook res id with
          | .arr _ esz l => if esz == sz then some (some (pIn j l.len), .ap id esz (i2n j) 0) else none
          | .obs _ _ L => if 1 == sz then some (some (pIn j (llen L)), .ap id 1 (i2n j) 0) else none
          | _ => none
        | .sc id len _ => if isCi i then (if inside j len then some (none, .lp id (j.toNat * sz)) else none)
            else some (some (pIn j len), .lx id 0 sz len (i2n j) 0)
        | _ => none
    | _ => none

theorem run_ia_array {P : Program} {t e len sz b off : Nat} {k : IntKind} {j : Int} (w : World) (hu : P.underlying t = some (.array len e)) (hs : tsz P e = some sz) (h0 : 0 ≤ j) (h1 : j < (len : Int)) :
    (Instr.indexAt t (.pointer (some ⟨b, off, none⟩)) (.int k j)).run P w = .ok (.pointer (some ⟨b, off + j.toNat * sz, none⟩)) w := by
  simp [Instr.indexAt, asIntOf, run_und w hu, Instr.sureAddr, h0, h1, run_tsz w hs, add_lit]

theorem run_ia_slice {P : Program} {t e len cap sz : Nat} {a : Addr} {k : IntKind} {j : Int} (w : World) (hu : P.underlying t = some (.slice e)) (hs : tsz P e = some sz) (ha : a.spot = none) (h0 : 0 ≤ j) (h1 : j < (len : Int)) :
    (Instr.indexAt t (.slice (some a) len cap) (.int k j)).run P w = .ok (.pointer (some ⟨a.block, a.off + j.toNat * sz, none⟩)) w := by
  obtain ⟨b, o, s⟩ := a
  simp only at ha
  subst ha
  simp [Instr.indexAt, asIntOf, run_und w hu, h0, h1, run_tsz w hs, add_lit]

theorem iaV_spec {t : Nat} {p i r : V} {q : Option Prop} (h : HRep ρ fps res K w0 F0 w) (hl : iaV C.P res t p i = some (q, r)) (hq : holdsO q) (hp : ok K p) (hi : ok K i) :
    (Instr.indexAt t (den ρ p) (den ρ i)).run C.P w = .ok (den ρ r) w ∧ ok K r ∧ isTp r = false := by
  unfold iaV at hl
  split at hl
  · simp at hl
  · rename_i k j hj
    rw [(toInt_spec (ρ := ρ) hj hi).1]
    have hin : ∀ n, inside j n = true → 0 ≤ j ∧ j < (n : Int) := fun n hn => by simpa [inside] using hn
    split at hl
    · rename_i len e hu
      split at hl
      · simp at hl
      · rename_i sz hs
        split at hl
        · split at hl
          · split at hl <;> simp only [Option.some.injEq, Prod.mk.injEq, reduceCtorEq] at hl
            rename_i hb
            obtain ⟨_, rfl⟩ := hl
            exact ⟨by simp only [den]; exact run_ia_array w hu hs (hin _ hb).1 (hin _ hb).2, hp, rfl⟩
          · simp only [Option.some.injEq, Prod.mk.injEq] at hl
            obtain ⟨rfl, rfl⟩ := hl
            exact ⟨by simp only [den, Nat.add_zero]; exact run_ia_array w hu hs hq.1 hq.2, ⟨hp, by have := hq.1; have := hq.2; unfold i2n; omega⟩, rfl⟩
        · split at hl
          · split at hl <;> simp only [Option.some.injEq, Prod.mk.injEq, reduceCtorEq] at hl
            rename_i hb
            obtain ⟨_, rfl⟩ := hl
            have hb := hin _ hb
            exact ⟨by simp only [den]; rw [run_ia_array w hu hs hb.1 hb.2]; simp only [Nat.add_assoc], hp, rfl⟩
          · simp only [Option.some.injEq, Prod.mk.injEq] at hl
            obtain ⟨rfl, rfl⟩ := hl
            exact ⟨by simp only [den, Nat.add_zero]; rw [run_ia_array w hu hs hq.1 hq.2]; simp only [Nat.add_assoc, i2n], ⟨hp, by have := hq.1; have := hq.2; unfold i2n; omega⟩, rfl⟩
        · split at hl <;> simp only [Option.some.injEq, Prod.mk.injEq, reduceCtorEq] at hl
          rename_i hb
          obtain ⟨_, rfl⟩ := hl
          have hb := hin _ (by simp only [Bool.and_eq_true] at hb; exact hb.2)
          exact ⟨by simp only [den]; rw [run_ia_array w hu hs hb.1 hb.2]; simp only [Nat.add_assoc], hp, rfl⟩
        · simp at hl
    · rename_i e hu
      split at hl
      · simp at hl
      · rename_i sz hs
        split at hl
        · rename_i id
          split at hl
          · rename_i own esz l hc
            split at hl <;> simp only [Option.some.injEq, Prod.mk.injEq, reduceCtorEq] at hl
            rename_i he
            have he := beq_iff_eq.1 he
            obtain ⟨rfl, rfl⟩ := hl
            subst he
            obtain ⟨fp, hh, _⟩ := h.look hc (by simp)
            obtain ⟨h1, h2, _, h3, h4, h5, h7⟩ := hh
            have h5 := h5 (by have := hq.1; have := hq.2; omega)
            obtain ⟨hq1, hq2⟩ := hq
            have hn := h4 (by omega)
            cases ha : ρ.sa id with
            | none => rw [ha] at hn; simp at hn
            | some a =>
              have := h3 a ha
              refine ⟨?_, hp, rfl⟩
              simp only [den, ha, h2]
              subst this
              rw [run_ia_slice w hu hs h5 hq1 hq2]
              simp [i2n]
          · rename_i ty q' L hc
            split at hl <;> simp only [Option.some.injEq, Prod.mk.injEq, reduceCtorEq] at hl
            rename_i he
            have he := beq_iff_eq.1 he
            obtain ⟨rfl, rfl⟩ := hl
            subst he
            obtain ⟨fp, hh, _⟩ := h.look hc (by simp)
            obtain ⟨_, h1, h2, h3, h4, h5, h6, h7⟩ := hh
            obtain ⟨hq1, hq2⟩ := hq
            have hq2 : j < (L.length : Int) := hq2
            obtain ⟨g, f1, f2, f3, f4⟩ := owns_form h6 (by omega)
            have hadr := (h4 _ f1).1
            refine ⟨?_, hp, rfl⟩
            simp only [den, f1, h2]
            rw [run_ia_slice w hu hs rfl hq1 hq2, ← hadr]
            simp [i2n]
          · simp at hl
        · split at hl
          · split at hl <;> simp only [Option.some.injEq, Prod.mk.injEq, reduceCtorEq] at hl
            rename_i hb
            obtain ⟨_, rfl⟩ := hl
            refine ⟨?_, hp, rfl⟩
            simp only [den]
            rw [run_ia_slice w hu hs rfl (hin _ hb).1 (hin _ hb).2]
            simp
          · simp only [Option.some.injEq, Prod.mk.injEq] at hl
            obtain ⟨rfl, rfl⟩ := hl
            refine ⟨?_, ⟨hp, by have := hq.1; have := hq.2; unfold i2n; omega⟩, rfl⟩
            simp only [den]
            rw [run_ia_slice w hu hs rfl hq.1 hq.2]
            simp [i2n]
        · simp at hl
    · simp at hl

/-- The part of a value's cells. -/
theorem run_part_of {P : Program} {t off : Nat} {cs : List Value} {r : V} (hr : ok K r) (ht : isTp r = false) (ha : aggT P t = some (isAg r)) (hs : tsz P t = some (vsz r))
    (hp : ∃ p q, cs = p ++ cells ρ r ++ q ∧ off = p.length) : (part t cs.toArray off).run P w = .ok (den ρ r) w := by
  obtain ⟨p, q, rfl, rfl⟩ := hp
  have hl := cells_length ρ r hr
  unfold part
  rw [Sem.run_bind, run_isAgg w ha, den_of_cells ρ hr ht]
  cases hag : Sx.isAg r with
  | true =>
    simp only [Result.andThen_ok, if_true, Sem.run_bind, run_tsz w hs, Sem.run_pure, asPart]
    congr 2
    apply Array.ext'
    rw [← hl]
    simp [List.extract_eq_take_drop]
  | false =>
    have h1 : vsz r = 1 := by
      have := den_oneCell ρ r hr hag ht
      rw [← hl]; simp [cells, oneCell_cells this]
    have hlt : 0 < (cells ρ r).length := by omega
    have := getElem?_mid p (cells ρ r) q 0 hlt
    simp only [Nat.add_zero] at this
    simp only [Result.andThen_ok, Bool.false_eq_true, if_false, List.getElem?_toArray, this, List.getElem?_eq_getElem hlt, Sem.run_pure, asPart]
    congr 1
    simp [List.getD_eq_getElem?_getD, List.getElem?_eq_getElem hlt]

theorem den_agg {x : V} (hx : ok K x) (ha : isAg x = true) : den ρ x = .agg (cells ρ x).toArray := by
  have ht : isTp x = false := by cases x <;> simp_all [isAg, isTp]
  rw [den_of_cells ρ hx ht, ha]; rfl

/-- A field of a value. -/
def fdV (P : Program) (t : Nat) (x : V) (f : Nat) : Option V :=
  match P.underlying t with
  | some (.struct fs) => match fs[f]? with
    | some fd => match aggT P fd.type, tsz P fd.type with
      | some a, some n => if isAg x then getAt 8 x fd.offset n a else none
      | _, _ => none
    | none => none
  | _ => none

theorem fdV_spec {P : Program} {t f : Nat} {x r : V} (hl : fdV P t x f = some r) (hx : ok K x) :
    (Instr.field t (den ρ x) f).run P w = .ok (den ρ r) w ∧ ok K r ∧ isTp r = false := by
  unfold fdV at hl
  split at hl
  · rename_i fs hu
    split at hl
    · rename_i fd hf
      split at hl
      · rename_i a n ha hn
        split at hl
        · rename_i hag
          have ht : isTp x = false := by cases x <;> simp_all [isAg, isTp]
          obtain ⟨e1, e2, e3, e4, e5⟩ := getAt_spec ρ 8 x fd.offset n a r hx ht hl
          refine ⟨?_, e4, e5⟩
          rw [den_agg hx hag]
          simp only [Instr.field, Sem.run_bind, run_und w hu, Result.andThen_ok, hf, asAgg, Sem.run_pure]
          exact run_part_of e4 e5 (by rw [e3]; exact ha) (by rw [e2]; exact hn) e1
        · simp at hl
      · simp at hl
    · simp at hl
  · simp at hl

/-- An element of a value. -/
def ixV (P : Program) (t : Nat) (x i : V) : Option (Option Prop × V) :=
  match toInt i with
  | none => none
  | some (_, j) => match P.underlying t with
    | some (.array len e) => match aggT P e, tsz P e with
      | some a, some sz => if isAg x then
          if isCi i then (if inside j len then (getAt 8 x (j.toNat * sz) sz a).map fun r => (none, r) else none)
          else (getY x sz len (i2n j) 0 sz a).map fun r => (some (pIn j len), r)
        else none
      | _, _ => none
    | _ => none

theorem ixV_spec {P : Program} {t : Nat} {x i r : V} {q : Option Prop} (hl : ixV P t x i = some (q, r)) (hq : holdsO q) (hx : ok K x) (hi : ok K i) :
    (Instr.index t (den ρ x) (den ρ i)).run P w = .ok (den ρ r) w ∧ ok K r ∧ isTp r = false := by
  unfold ixV at hl
  split at hl
  · simp at hl
  · rename_i k j hj
    rw [(toInt_spec (ρ := ρ) hj hi).1]
    split at hl
    · rename_i len e hu
      split at hl
      · rename_i a sz ha hs
        split at hl
        · rename_i hag
          have ht : isTp x = false := by cases x <;> simp_all [isAg, isTp]
          have run : 0 ≤ j → j < (len : Int) → (Instr.index t (den ρ x) (.int k j)).run P w = (part e (cells ρ x).toArray (j.toNat * sz)).run P w := fun h0 h1 => by
            rw [den_agg hx hag]
            simp [Instr.index, asIntOf, run_und w hu, h0, h1, run_tsz w hs]
          split at hl
          · split at hl
            · rename_i hb
              have hb : 0 ≤ j ∧ j < (len : Int) := by simpa [inside] using hb
              cases hg : getAt 8 x (j.toNat * sz) sz a with
              | none => simp [hg] at hl
              | some r' =>
                simp only [hg, Option.map_some, Option.some.injEq, Prod.mk.injEq] at hl
                obtain ⟨_, rfl⟩ := hl
                obtain ⟨e1, e2, e3, e4, e5⟩ := getAt_spec ρ 8 x _ sz a r' hx ht hg
                refine ⟨?_, e4, e5⟩
                rw [run hb.1 hb.2]
                exact run_part_of e4 e5 (by rw [e3]; exact ha) (by rw [e2]; exact hs) e1
            · simp at hl
          · cases hg : getY x sz len (i2n j) 0 sz a with
            | none => simp [hg] at hl
            | some r' =>
              simp only [hg, Option.map_some, Option.some.injEq, Prod.mk.injEq] at hl
              obtain ⟨rfl, rfl⟩ := hl
              have h0 := hq.1
              have h1 := hq.2
              obtain ⟨e1, e2, e3, e4, e5⟩ := getY_spec ρ hx (by unfold i2n; omega) hg
              refine ⟨?_, e4, e5⟩
              rw [run h0 h1]
              simp only [Nat.add_zero] at e1
              exact run_part_of e4 e5 (by rw [e3]; exact ha) (by rw [e2]; exact hs) e1
        · simp at hl
      · simp at hl
    · simp at hl

/-- A conversion. -/
def cvV (P : Program) (s d : Nat) (x : V) : Option (Option Prop × V) :=
  match P.underlying s, P.underlying d with
  | some _, some (.int k') => match toInt x with
    | some (k, n) => if k == k' then some (none, x) else if isCi x then (if inR k' n then some (none, .ci k' n) else none) else some (some (inRo k' n), .it k' n)
    | none => none
  | some .string, some .string => match x with
    | .st b => some (none, .st b)
    | _ => none
  | _, _ => none

theorem cvV_spec {P : Program} {s d : Nat} {x r : V} {q : Option Prop} (hl : cvV P s d x = some (q, r)) (hq : holdsO q) (hx : ok K x) :
    (convert s d (den ρ x)).run P w = .ok (den ρ r) w ∧ ok K r ∧ isTp r = false := by
  unfold cvV at hl
  split at hl
  · rename_i u k' h1 h2
    split at hl
    · rename_i k n hx'
      obtain ⟨e1, e2⟩ := toInt_spec (ρ := ρ) hx' hx
      split at hl
      · rename_i hk
        have hk := beq_iff_eq.1 hk
        subst hk
        simp only [Option.some.injEq, Prod.mk.injEq] at hl
        obtain ⟨_, rfl⟩ := hl
        refine ⟨?_, hx, by cases x <;> first | rfl | (simp [toInt] at hx')⟩
        rw [e1]
        simp [convert, run_und w h1, run_und w h2, Conv.intToInt, wrap_in e2]
      · split at hl
        · split at hl <;> simp only [Option.some.injEq, Prod.mk.injEq, reduceCtorEq] at hl
          rename_i hin
          obtain ⟨_, rfl⟩ := hl
          refine ⟨?_, hin, rfl⟩
          rw [e1]
          simp [convert, run_und w h1, run_und w h2, Conv.intToInt, wrap_in hin, den]
        · simp only [Option.some.injEq, Prod.mk.injEq] at hl
          obtain ⟨rfl, rfl⟩ := hl
          refine ⟨?_, hq, rfl⟩
          rw [e1]
          simp [convert, run_und w h1, run_und w h2, Conv.intToInt, wrap_in (show inR k' n from hq), den]
    · simp at hl
  · rename_i h1 h2
    split at hl <;> simp only [Option.some.injEq, Prod.mk.injEq, reduceCtorEq] at hl
    obtain ⟨_, rfl⟩ := hl
    refine ⟨?_, trivial, rfl⟩
    simp [den, convert, run_und w h1, run_und w h2]
  · simp at hl

end
end Go.Sx
