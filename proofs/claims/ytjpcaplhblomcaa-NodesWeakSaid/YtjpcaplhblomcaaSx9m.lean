/- The executor: rows that are made. No condition. -/
import Derived.Test.YtjpcaplhblomcaaSx9
set_option linter.unusedVariables false
set_option linter.unusedSimpArgs false
namespace Go.Sx
open Go.RowKit (Below)

theorem toInt_added {K : Nat → Prop} {v : V} {k : IntKind} {n : Int} (h : toInt v = some (k, n)) : (∀ ρ, cells ρ (.it k n) = cells ρ v) ∧ (ok K v → ok (fun _ => False) (.it k n)) ∧ vsz (V.it k n) = vsz v := by
  cases v <;> simp only [toInt, Option.some.injEq, Prod.mk.injEq, reduceCtorEq] at h <;> obtain ⟨rfl, rfl⟩ := h
  · exact ⟨fun _ => rfl, fun h => h, rfl⟩
  · exact ⟨fun _ => rfl, fun h => h, rfl⟩
  · rename_i b
    refine ⟨fun _ => rfl, fun _ => ?_, rfl⟩
    have := b.toNat_lt
    simp only [ok, inR, b2i]
    omega

theorem toBool_added {v : V} {b : Bool} (h : toBool v = some b) : (∀ ρ, cells ρ (.bo b) = cells ρ v) ∧ vsz (V.bo b) = vsz v := by
  cases v <;> simp only [toBool, Option.some.injEq, reduceCtorEq] at h <;> subst h <;> exact ⟨fun _ => rfl, rfl⟩

def lrep {α : Type} (n : Nat) (x : α) : List α := List.replicate n x

/-- So many are in a row's reach. -/
def mkFit (n m : Int) (b : Nat) : Prop := m = n ∧ 0 ≤ n ∧ n ≤ 9223372036854775807 ∧ n * b ≤ 281474976710656

def tlRep (n : Nat) (v : V) : Option TL :=
  match v with
  | .ob o => some (.ob (lrep n o))
  | .key k => some (.key (lrep n k))
  | .st s => some (.st (lrep n s))
  | _ => match toInt v with
    | some (k, i) => some (.it k (lrep n i))
    | none => match toBool v with
      | some b => some (.bo (lrep n b))
      | none => none

theorem lget_rep {α : Type} {n i : Nat} (x d : α) (h : i < n) : lget (lrep n x) i d = x := by
  simp [lget, lrep, List.getD_eq_getElem?_getD, h]
theorem llen_rep {α : Type} (n : Nat) (x : α) : llen (lrep n x) = n := by simp [llen, lrep]

theorem tlRep_spec {K : Nat → Prop} {n : Nat} {v : V} {l : TL} (h : tlRep n v = some l) :
    l.len = n ∧ ∀ i, i < n → (∀ ρ, cells ρ (l.get i) = cells ρ v) ∧ (ok K v → ok (fun _ => False) (l.get i)) ∧ isTp (l.get i) = false ∧ vsz (l.get i) = vsz v := by
  unfold tlRep at h
  split at h
  · rename_i x
    simp only [Option.some.injEq] at h; subst h
    exact ⟨llen_rep _ _, fun i hi => by rw [show (TL.ob (lrep n x)).get i = V.ob x from congrArg V.ob (lget_rep x free hi)]; exact ⟨fun _ => rfl, fun h => h, rfl, rfl⟩⟩
  · rename_i x
    simp only [Option.some.injEq] at h; subst h
    exact ⟨llen_rep _ _, fun i hi => by rw [show (TL.key (lrep n x)).get i = V.key x from congrArg V.key (lget_rep x void hi)]; exact ⟨fun _ => rfl, fun h => h, rfl, rfl⟩⟩
  · rename_i x
    simp only [Option.some.injEq] at h; subst h
    exact ⟨llen_rep _ _, fun i hi => by rw [show (TL.st (lrep n x)).get i = V.st x from congrArg V.st (lget_rep x ByteArray.empty hi)]; exact ⟨fun _ => rfl, fun h => h, rfl, rfl⟩⟩
  · split at h
    · rename_i k i hki
      simp only [Option.some.injEq] at h; subst h
      obtain ⟨c1, c2, c3⟩ := toInt_added (K := K) hki
      exact ⟨llen_rep _ _, fun j hj => by rw [show (TL.it k (lrep n i)).get j = V.it k i from congrArg (V.it k) (lget_rep i 0 hj)]; exact ⟨c1, c2, rfl, c3⟩⟩
    · split at h
      · rename_i b hb
        simp only [Option.some.injEq] at h; subst h
        obtain ⟨c1, c2⟩ := toBool_added hb
        exact ⟨llen_rep _ _, fun j hj => by rw [show (TL.bo (lrep n b)).get j = V.bo b from congrArg V.bo (lget_rep b false hj)]; exact ⟨c1, fun _ => trivial, rfl, c2⟩⟩
      · simp at h

theorem made_flat (z : Array Value) : ∀ n : Nat, (madeCells z (n * z.size)).toList = (List.range n).flatMap fun _ => z.toList
  | 0 => by simp [madeCells]
  | n + 1 => by
    rw [List.range_succ, List.flatMap_append, ← made_flat z n]
    simp only [List.flatMap_cons, List.flatMap_nil, List.append_nil]
    apply List.ext_getElem?
    intro j
    rw [List.getElem?_append]
    simp only [Array.length_toList, size_madeCells]
    by_cases h1 : j < n * z.size
    · rw [if_pos h1]
      have h2 : j < (n + 1) * z.size := Nat.lt_of_lt_of_le h1 (Nat.mul_le_mul_right _ (Nat.le_succ n))
      simp [madeCells, h1, h2]
    · rw [if_neg h1]
      have e : (n + 1) * z.size = n * z.size + z.size := Nat.succ_mul _ _
      by_cases h2 : j < (n + 1) * z.size
      · have hk : j - n * z.size < z.size := by omega
        have hm : j % z.size = j - n * z.size := by
          have : j = (j - n * z.size) + z.size * n := by rw [Nat.mul_comm z.size n]; omega
          conv => lhs; rw [this]
          rw [Nat.add_mul_mod_self_left, Nat.mod_eq_of_lt hk]
        simp [madeCells, h2, hk, hm]
      · simp [madeCells, h2]
        omega

/-- A row that is made. -/
def makeV (C : Ctx) (nid t : Nat) (a b : V) : Option (Option Prop × V × List Res) :=
  match C.P.underlying t with
  | some (.slice e) => match C.Z e, C.P.info? e with
    | some z, some inf => match toInt a, toInt b with
      | some (_, n), some (_, m) => match tlRep (i2n n) z with
        | some l => some (some (mkFit n m inf.bytes), .sa nid, [.arr (some e) (vsz z) l])
        | none => none
      | _, _ => none
    | _, _ => none
  | _ => none

def Env.setRow (ρ : Env) (i : Nat) (a : Addr) (n : Nat) : Env :=
  { num := ρ.num, cap := fun j => if j = i then n else ρ.cap j, adr := fun j => if j = i then a else ρ.adr j, sa := fun j => if j = i then some a else ρ.sa j, sn := fun j => if j = i then n else ρ.sn j, ob := ρ.ob }

theorem setRow_agree {N : Nat → Prop} (ρ : Env) {i : Nat} {a : Addr} {n : Nat} (h : ¬ N i) : Env.agree N ρ (ρ.setRow i a n) := fun j hj => by
  have e1 : j ≠ i := fun e => h (e ▸ hj)
  simp [Env.setRow, e1]

theorem toInt_den {ρ : Env} {v : V} {k : IntKind} {n : Int} (h : toInt v = some (k, n)) : den ρ v = .int k n := by
  cases v <;> simp only [toInt, Option.some.injEq, Prod.mk.injEq, reduceCtorEq] at h <;> obtain ⟨rfl, rfl⟩ := h <;> rfl

theorem makeV_new {C : Ctx} {nid t : Nat} {a b x : V} {q : Option Prop} {new : List Res} (h : makeV C nid t a b = some (q, x, new)) : x = .sa nid ∧ ∃ o e l, new = [.arr o e l] := by
  unfold makeV at h
  split at h
  · split at h
    · split at h
      · split at h
        · simp only [Option.some.injEq, Prod.mk.injEq] at h
          obtain ⟨_, rfl, rfl⟩ := h
          exact ⟨rfl, _, _, _, rfl⟩
        · simp at h
      · simp at h
    · simp at h
  · simp at h

theorem makeV_spec {C : Ctx} {ρ : Env} {K : Nat → Prop} {w0 w : World} {F0 : Nat → Prop} {nid t : Nat} {a b x : V} {q : Option Prop} {new : List Res} (hC : C.ZOK) (h : makeV C nid t a b = some (q, x, new)) (hq : holdsO q) (hn : ¬ K nid) :
    ∃ w' ρ', (Instr.makeSlice t (den ρ a) (den ρ b)).run C.P w = .ok (den ρ' x) w' ∧ Grew K ρ ρ' nid new w0 F0 w w' := by
  unfold makeV at h
  split at h
  · rename_i e ht
    split at h
    · rename_i z inf hZ hi
      split at h
      · rename_i k n k' m ha hb
        split at h
        · rename_i l hl
          simp only [Option.some.injEq, Prod.mk.injEq] at h
          obtain ⟨rfl, rfl, rfl⟩ := h
          obtain ⟨rfl, h0, h1, h2⟩ := (show mkFit n m inf.bytes from hq)
          obtain ⟨l1, l2⟩ := tlRep_spec (K := fun _ => False) hl
          obtain ⟨i', g1, g2, g3, g4, g5⟩ := hC e z hZ
          have : inf = i' := by rw [hi] at g1; exact Option.some.inj g1
          subst this
          obtain ⟨N, rfl⟩ : ∃ N : Nat, m = (N : Int) := ⟨m.toNat, by omega⟩
          have hN : i2n (N : Int) = N := by simp [i2n]
          rw [hN] at l1 l2
          have hb2 : inf.bytes * N ≤ 281474976710656 := by
            have : ((inf.bytes * N : Nat) : Int) ≤ 281474976710656 := by rw [Nat.mul_comm]; simpa using h2
            omega
          have hzs : (den Env.zero z).cells.size = vsz z := by rw [← cells_length Env.zero z g3]; simp [cells]
          obtain ⟨w', r1, r2, r3⟩ := run_make_full (P := C.P) (w := w) 0 t e inf (den Env.zero z) (vsz z) ht hi (g2 Env.zero) g5 k k' N hb2 (by simp only [maxLen]; omega) (Nat.zero_le _)
          have hcells : (madeCells (den Env.zero z).cells (N * vsz z)).toList = l.cells := by
            rw [← hzs, made_flat, TL.cells, l1]
            exact flat_congr _ _ _ fun j hj => ((l2 j (List.mem_range.1 hj)).1 Env.zero).symm
          rw [hcells] at r2
          have hblt : w.heap.size < w'.heap.size := by
            rcases r2.2 with ⟨hh, _⟩ | ⟨g, cap, cur, hh, _, hg, _⟩
            · simp at hh
            · simp only [Value.slice.injEq, Option.some.injEq, Addr.mk.injEq] at hh
              rw [← hh.1.1] at hg
              exact (Array.getElem?_eq_some_iff.1 hg).1
          refine ⟨w', ρ.setRow nid ⟨w.heap.size, 0, none⟩ N, ?_, ?_⟩
          · rw [toInt_den ha, toInt_den hb, r1]
            simp [den, Env.setRow]
          · refine ⟨(Below.refl _ _).grown r3 (Nat.le_refl _) (fun k hk => by simp at hk), setRow_agree ρ (fun hf => hf ⟨Nat.le_refl _, by simp⟩), fun _ b => b = w.heap.size, fun k hk => ?_, fun k l b hk hl hne => ?_⟩
            · simp only [List.length_singleton, Nat.lt_one_iff] at hk
              subst hk
              refine ⟨⟨fun j hj => ?_, by simp [Env.setRow, l1], by rw [l1]; omega, fun a ha => by simp [Env.setRow] at ha ⊢; exact ha.symm, fun _ => by simp [Env.setRow], fun _ => by simp [Env.setRow], .inr ⟨e, fun e' he => by simpa using he.symm, ?_, fun a ha => by simp [Env.setRow] at ha; rw [← ha]⟩⟩, fun b hb => by subst hb; exact ⟨Nat.le_refl _, hblt⟩⟩
              · rw [l1] at hj
                obtain ⟨_, m2, m3, m4⟩ := l2 j hj
                exact ⟨m2 g3, m3, m4⟩
              · have : (ρ.setRow nid ⟨w.heap.size, 0, none⟩ N).sl (nid + 0) = .slice (some ⟨w.heap.size, 0, none⟩) N N := by simp [Env.sl, Env.setRow]
                rw [this, l1]
                exact r2
            · simp only [List.length_singleton, Nat.lt_one_iff] at hk hl
              omega
        · simp at h
      · simp at h
    · simp at h
  · simp at h
end Go.Sx
