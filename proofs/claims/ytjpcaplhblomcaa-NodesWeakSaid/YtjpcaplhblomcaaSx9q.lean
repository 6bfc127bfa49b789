/- The executor: a list that is copied by append. No condition. -/
import Derived.Test.YtjpcaplhblomcaaSx9p
import Derived.Laws.AppendOwn
set_option linter.unusedVariables false
set_option linter.unusedSimpArgs false
namespace Go.Sx
open Go.RowKit (Below)

def pFitW (n b : Nat) : Prop := n ≤ maxLen ∧ n * b ≤ 140737488355328

/-- A whole list is appended to nothing. -/
def appW (C : Ctx) (res : List Res) (nid : Nat) (ts : List Nat) (xs : List V) : Option (Option Prop × V × List Res) :=
  match ts, xs with
  | [t, t'], [x, y] => match x with
    | .nl (.slice none 0 0) => match y with
      | .sa j => match rlook res j with
        | .arr _ esz l => match C.P.underlying t with
          | some (.slice e) => match C.Z e, C.P.info? e with
            | some z, some inf => if t == t' && esz == vsz z && Nat.blt 0 (vsz z) then some (some (pFitW l.len inf.bytes), .sa nid, [.arr (some e) esz l]) else none
            | _, _ => none
          | _ => none
        | _ => none
      | _ => none
    | _ => none
  | _, _ => none

def Env.setSlO (ρ : Env) (i : Nat) (a : Option Addr) (n cap : Nat) : Env :=
  { num := ρ.num, cap := fun j => if j = i then cap else ρ.cap j, adr := fun j => if j = i then a.getD ⟨0, 0, none⟩ else ρ.adr j, sa := fun j => if j = i then a else ρ.sa j, sn := fun j => if j = i then n else ρ.sn j, ob := ρ.ob }

theorem setSlO_agree {N : Nat → Prop} (ρ : Env) {i : Nat} {a : Option Addr} {n cap : Nat} (h : ¬ N i) : Env.agree N ρ (ρ.setSlO i a n cap) := fun j hj => by
  have e1 : j ≠ i := fun e => h (e ▸ hj)
  simp [Env.setSlO, e1]

theorem flat_lenW {α : Type} {f : Nat → List α} {esz : Nat} : ∀ {n : Nat}, (∀ j, j < n → (f j).length = esz) → ((List.range n).flatMap f).length = n * esz
  | 0, _ => by simp
  | n + 1, h => by
    rw [List.range_succ, List.flatMap_append, List.length_append, flat_lenW fun j hj => h j (by omega)]
    simp [h n (by omega), Nat.succ_mul]

theorem appW_new {C : Ctx} {res : List Res} {nid : Nat} {ts : List Nat} {xs : List V} {r : V} {q : Option Prop} {new : List Res} (h : appW C res nid ts xs = some (q, r, new)) : r = .sa nid ∧ ∃ o e l, new = [.arr o e l] := by
  unfold appW at h
  split at h
  · split at h
    · split at h
      · split at h
        · split at h
          · split at h
            · split at h <;> simp only [Option.some.injEq, Prod.mk.injEq, reduceCtorEq] at h
              obtain ⟨_, rfl, rfl⟩ := h
              exact ⟨rfl, _, _, _, rfl⟩
            · simp at h
          · simp at h
        · simp at h
      · simp at h
    · simp at h
  · simp at h

theorem appW_spec {C : Ctx} {ρ : Env} {fps : Nat → Nat → Prop} {res : List Res} {K : Nat → Prop} {w0 w : World} {F0 : Nat → Prop} {nid ty : Nat} {ts : List Nat} {xs : List V} {r : V} {q : Option Prop} {new : List Res} (hC : C.ZOK)
    (hH : HRep ρ fps res K w0 F0 w) (h : appW C res nid ts xs = some (q, r, new)) (hq : holdsO q) (hn : ¬ K nid) :
    ∃ w' ρ', (Builtin.append_ ts.toArray ty (denL ρ xs).toArray).run C.P w = .ok (den ρ' r) w' ∧ Grew K ρ ρ' nid new w0 F0 w w' := by
  unfold appW at h
  split at h
  case h_2 => simp at h
  rename_i t t' x y
  split at h
  case h_2 => simp at h
  split at h
  case h_2 => simp at h
  rename_i j
  split at h
  case h_2 => simp at h
  rename_i own esz l hr
  split at h
  case h_2 => simp at h
  rename_i e ht
  split at h
  case h_2 => simp at h
  rename_i z inf hZ hi
  split at h
  case isFalse => simp at h
  rename_i hc
  simp only [Bool.and_eq_true, beq_iff_eq, Nat.blt_eq] at hc
  obtain ⟨⟨rfl, rfl⟩, hsz⟩ := hc
  simp only [Option.some.injEq, Prod.mk.injEq] at h
  obtain ⟨rfl, rfl, rfl⟩ := h
  obtain ⟨q1, q2⟩ := (show pFitW l.len inf.bytes from hq)
  obtain ⟨i', g1, g2, g3, g4, g5⟩ := hC e z hZ
  have : inf = i' := by rw [hi] at g1; exact Option.some.inj g1
  subst this
  have hzs : (den Env.zero z).cells.size = vsz z := by rw [← cells_length Env.zero z g3]; simp [cells]
  have hcl := fun (i : Nat) (hi : i < l.len) => arr_cells hH hr hi
  have hlen : ∀ i, i < l.len → (cells Env.zero (l.get i)).length = vsz z := fun i hi => by rw [cells_length Env.zero _ (hcl i hi).1]; exact (hcl i hi).2.2.1
  have hxl : l.cells.length = l.len * vsz z := flat_lenW hlen
  have hcell : ∀ k u, l.cells[k]? = some u → w.cell? ((ρ.adr j).add k) = some u ∨ (ρ.adr j).spot ≠ none := fun k u hu => by
    by_cases hs : (ρ.adr j).spot = none
    · left
      have hk : k < l.len * vsz z := by rw [← hxl]; exact (List.getElem?_eq_some_iff.1 hu).1
      have hdiv : k / vsz z < l.len := (Nat.div_lt_iff_lt_mul hsz).2 hk
      have hmod : k % vsz z < vsz z := Nat.mod_lt _ hsz
      have hkk : k / vsz z * vsz z + k % vsz z = k := by rw [Nat.mul_comm]; exact Nat.div_add_mod k (vsz z)
      have hcc := (hcl _ hdiv).2.2.2 _ hmod
      rw [hkk] at hcc
      have : (ρ.adr j).add k = ⟨(ρ.adr j).block, (ρ.adr j).off + k, none⟩ := by
        cases had : ρ.adr j with
        | mk b o s => rw [had] at hs; simp only at hs; subst hs; rw [add_lit]
      rw [this, hcc, cells_agree (N := fun _ => False) (ρ := Env.zero) (ρ' := ρ) (fun _ h => h.elim) _ (hcl _ hdiv).1, ← flat_idx (f := fun i => cells Env.zero (l.get i)) hlen hdiv hmod, hkk]
      exact hu
    · exact .inr hs
  have hone : ∀ u ∈ l.cells, u.oneCell' = true := fun u hu => by
    unfold TL.cells at hu
    rw [List.mem_flatMap] at hu
    obtain ⟨i, hi, hu⟩ := hu
    have hi := List.mem_range.1 hi
    exact cells_oneCell Env.zero _ (hcl i hi).1 (hcl i hi).2.1 u hu
  obtain ⟨fp, hh, _⟩ := hH.look hr (by simp)
  obtain ⟨a1, a2, a3, a4, a5, a6, _⟩ := hh
  -- the run
  have main : ∃ ao cap w', (Builtin.append_ #[t, t] ty #[.slice none 0 0, den ρ (.sa j)]).run C.P w = .ok (.slice ao l.len cap) w' ∧ w'.ownsRow w.heap.size e (vsz z) (.slice ao l.len cap) l.len l.cells ∧ w.grownBy w' none := by
    cases hs : ρ.sa j with
    | none =>
      have h0 : l.len = 0 := by
        rcases Nat.eq_zero_or_pos l.len with h | h
        · exact h
        · have := a5 h; rw [hs] at this; simp at this
      have hxs : l.cells = [] := List.length_eq_zero_iff.1 (by rw [hxl, h0]; simp)
      refine ⟨none, 0, w, ?_, by rw [h0, hxs]; exact World.ownsRow_nil w _ e _, ⟨rfl, rfl, rfl, Nat.le_refl _, fun _ _ _ => rfl⟩⟩
      simp [Builtin.append_, den, Env.sl, hs, a2, h0, run_und w ht, Builtin.lenOf, Builtin.firstCells, sizeOf, typeInfo, hi]
    | some a =>
      have ha := a4 a hs
      subst ha
      by_cases h0 : 0 < l.len
      · obtain ⟨v', w', r1, r2, r3, _⟩ := run_append_own (P := C.P) w w.heap.size t ty e inf (den Env.zero z) (vsz z) inf.bytes ht hi (g2 Env.zero) g5 rfl hzs hsz (.slice none 0 0) 0 [] (World.ownsRow_nil w _ e _)
          (ρ.adr j) l.len (ρ.cap j) l.cells hxl (fun k u hu => (hcell k u hu).resolve_right (fun h => h (a6 h0))) hone (by simpa using q1) (by simpa using q2) (Nat.le_refl _)
        simp only [Nat.zero_add, List.nil_append] at r2
        have hd : den ρ (.sa j) = .slice (some (ρ.adr j)) l.len (ρ.cap j) := by simp [den, Env.sl, hs, a2]
        rw [hd]
        rcases r2.2 with ⟨_, hz0⟩ | ⟨g, cap, cur, hv, _⟩
        · omega
        · subst hv
          exact ⟨_, _, w', r1, r2, r3⟩
      · have h0 : l.len = 0 := by omega
        have hxs : l.cells = [] := List.length_eq_zero_iff.1 (by rw [hxl, h0]; simp)
        obtain ⟨v', w', r1, r2, r3, r4⟩ := run_append_own (P := C.P) w w.heap.size t ty e inf (den Env.zero z) (vsz z) inf.bytes ht hi (g2 Env.zero) g5 rfl hzs hsz (.slice none 0 0) 0 [] (World.ownsRow_nil w _ e _)
          (ρ.adr j) 0 (ρ.cap j) [] (by simp) (fun k u hu => by simp at hu) (by simp) (by simp) (by simp) (Nat.le_refl _)
        have hv := r4.2 ⟨rfl, rfl⟩
        subst hv
        have hd : den ρ (.sa j) = .slice (some (ρ.adr j)) 0 (ρ.cap j) := by simp [den, Env.sl, hs, a2, h0]
        rw [hd, h0, hxs]
        exact ⟨none, 0, w', r1, World.ownsRow_nil w' _ e _, r3⟩
  obtain ⟨ao, cap, w', r1, r2, r3⟩ := main
  have hao : ∀ a, ao = some a → w.heap.size ≤ a.block ∧ a.block < w'.heap.size ∧ a.spot = none := fun a ha => by
    subst ha
    have := r2.lt a.block rfl
    refine ⟨this.1, this.2, ?_⟩
    rcases r2.2 with ⟨hh, _⟩ | ⟨g, cap', cur, hh, _⟩
    · simp at hh
    · simp only [Value.slice.injEq, Option.some.injEq] at hh
      rw [hh.1]
  refine ⟨w', ρ.setSlO nid ao l.len cap, ?_, ?_⟩
  · rw [show (denL ρ [.nl (.slice none 0 0), .sa j]).toArray = #[.slice none 0 0, den ρ (.sa j)] from rfl, show ([t, t] : List Nat).toArray = #[t, t] from rfl, r1]
    simp [den, Env.sl, Env.setSlO]
  · refine ⟨(Below.refl _ _).grown r3 (Nat.le_refl _) (fun k hk => by simp at hk), setSlO_agree ρ (fun hf => hf ⟨Nat.le_refl _, by simp⟩), fun _ b => ∃ a, ao = some a ∧ b = a.block, fun k hk => ?_, fun k m b hk hl hne => ?_⟩
    · simp only [List.length_singleton, Nat.lt_one_iff] at hk
      subst hk
      refine ⟨⟨a1, by simp [Env.setSlO], a3, fun a ha => by simp [Env.setSlO] at ha ⊢; simp [ha], fun hl => ?_, fun hl => ?_, .inr ⟨e, fun e' he => by simpa using he.symm, ?_, fun a ha => by simp [Env.setSlO] at ha; exact ⟨a, ha, rfl⟩⟩⟩, fun b hb => ?_⟩
      · rcases r2.2 with ⟨_, hz0⟩ | ⟨g, cap', cur, hh, _⟩
        · omega
        · simp only [Value.slice.injEq] at hh
          simp [Env.setSlO, hh.1]
      · rcases r2.2 with ⟨_, hz0⟩ | ⟨g, cap', cur, hh, _⟩
        · omega
        · simp only [Value.slice.injEq] at hh
          simp [Env.setSlO, hh.1]
      · have : (ρ.setSlO nid ao l.len cap).sl (nid + 0) = .slice ao l.len cap := by simp [Env.sl, Env.setSlO]
        rw [this]
        exact ⟨r2.1, r2.2.imp id fun ⟨g, cp, cu, b1, b2, b3⟩ => ⟨g, cp, cu, b1, Nat.zero_le _, b3⟩⟩
      · obtain ⟨a, ha, rfl⟩ := hb
        exact ⟨(hao a ha).1, (hao a ha).2.1⟩
    · simp only [List.length_singleton, Nat.lt_one_iff] at hk hl
      omega
end Go.Sx
