/- The executor: rows that are made. No condition. -/
import Derived.Test.YtfalhknkaebfoaaSxB
import Derived.MapKept
import Derived.Carry
import Derived.Laws.AppendOwn
import Derived.Laws.BytesString
import Derived.Laws.CopyRow
import Derived.DefersIn
import Derived.ArgAppend
set_option linter.unusedVariables false
set_option linter.unusedSimpArgs false
namespace Go.Sx
open Go.RowKit (Below)

theorem toInt_added {K : Nat → Prop} {v : V} {k : IntKind} {n : Int} (h : toInt v = some (k, n)) : (∀ ρ, cells ρ (.it k n) = cells ρ v) ∧ (ok K v → ok (fun _ => False) (.it k n)) ∧ vsz (V.it k n) = vsz v := by
  cases v <;> simp only [toInt, Option.some.injEq, Prod.mk.injEq, reduceCtorEq] at h <;> obtain ⟨rfl, rfl⟩ := h
  · exact ⟨fun _ => rfl, fun h => h, rfl⟩
  · exact ⟨fun _ => rfl, fun h => h, rfl⟩
  · rename_i b
    refine ⟨fun _ => rfl, fun _ => ?_, rfl⟩
    have := b.toNat_lt
    simp only [ok, inR, b2i]
    omega

theorem toBool_added {v : V} {b : Bool} (h : toBool v = some b) : (∀ ρ, cells ρ (.bo b) = cells ρ v) ∧ vsz (V.bo b) = vsz v := by
  cases v <;> simp only [toBool, Option.some.injEq, reduceCtorEq] at h <;> subst h <;> exact ⟨fun _ => rfl, rfl⟩

def lrep {α : Type} (n : Nat) (x : α) : List α := List.replicate n x

/-- So many are in a row's reach. -/
def mkFit (n m : Int) (b : Nat) : Prop := m = n ∧ 0 ≤ n ∧ n ≤ 9223372036854775807 ∧ n * b ≤ 281474976710656

def tlRep (n : Nat) (v : V) : Option TL :=
  match v with
  | .ob o => some (.ob (lrep n o))
  | .key k => some (.key (lrep n k))
  | .st s => some (.st (lrep n s))
  | _ => match toInt v with
    | some (k, i) => some (.it k (lrep n i))
    | none => match toBool v with
      | some b => some (.bo (lrep n b))
      | none => none

theorem lget_rep {α : Type} {n i : Nat} (x d : α) (h : i < n) : lget (lrep n x) i d = x := by
  simp [lget, lrep, List.getD_eq_getElem?_getD, h]
theorem llen_rep {α : Type} (n : Nat) (x : α) : llen (lrep n x) = n := by simp [llen, lrep]

theorem tlRep_spec {K : Nat → Prop} {n : Nat} {v : V} {l : TL} (h : tlRep n v = some l) :
    l.len = n ∧ ∀ i, i < n → (∀ ρ, cells ρ (l.get i) = cells ρ v) ∧ (ok K v → ok (fun _ => False) (l.get i)) ∧ isTp (l.get i) = false ∧ vsz (l.get i) = vsz v := by
  unfold tlRep at h
  split at h
  · rename_i x
    simp only [Option.some.injEq] at h; subst h
    exact ⟨llen_rep _ _, fun i hi => by rw [show (TL.ob (lrep n x)).get i = V.ob x from congrArg V.ob (lget_rep x free hi)]; exact ⟨fun _ => rfl, fun h => h, rfl, rfl⟩⟩
  · rename_i x
    simp only [Option.some.injEq] at h; subst h
    exact ⟨llen_rep _ _, fun i hi => by rw [show (TL.key (lrep n x)).get i = V.key x from congrArg V.key (lget_rep x void hi)]; exact ⟨fun _ => rfl, fun h => h, rfl, rfl⟩⟩
  · rename_i x
    simp only [Option.some.injEq] at h; subst h
    exact ⟨llen_rep _ _, fun i hi => by rw [show (TL.st (lrep n x)).get i = V.st x from congrArg V.st (lget_rep x ByteArray.empty hi)]; exact ⟨fun _ => rfl, fun h => h, rfl, rfl⟩⟩
  · split at h
    · rename_i k i hki
      simp only [Option.some.injEq] at h; subst h
      obtain ⟨c1, c2, c3⟩ := toInt_added (K := K) hki
      exact ⟨llen_rep _ _, fun j hj => by rw [show (TL.it k (lrep n i)).get j = V.it k i from congrArg (V.it k) (lget_rep i 0 hj)]; exact ⟨c1, c2, rfl, c3⟩⟩
    · split at h
      · rename_i b hb
        simp only [Option.some.injEq] at h; subst h
        obtain ⟨c1, c2⟩ := toBool_added hb
        exact ⟨llen_rep _ _, fun j hj => by rw [show (TL.bo (lrep n b)).get j = V.bo b from congrArg V.bo (lget_rep b false hj)]; exact ⟨c1, fun _ => trivial, rfl, c2⟩⟩
      · simp at h

theorem made_flat (z : Array Value) : ∀ n : Nat, (madeCells z (n * z.size)).toList = (List.range n).flatMap fun _ => z.toList
  | 0 => by simp [madeCells]
  | n + 1 => by
    rw [List.range_succ, List.flatMap_append, ← made_flat z n]
    simp only [List.flatMap_cons, List.flatMap_nil, List.append_nil]
    apply List.ext_getElem?
    intro j
    rw [List.getElem?_append]
    simp only [Array.length_toList, size_madeCells]
    by_cases h1 : j < n * z.size
    · rw [if_pos h1]
      have h2 : j < (n + 1) * z.size := Nat.lt_of_lt_of_le h1 (Nat.mul_le_mul_right _ (Nat.le_succ n))
      simp [madeCells, h1, h2]
    · rw [if_neg h1]
      have e : (n + 1) * z.size = n * z.size + z.size := Nat.succ_mul _ _
      by_cases h2 : j < (n + 1) * z.size
      · have hk : j - n * z.size < z.size := by omega
        have hm : j % z.size = j - n * z.size := by
          have : j = (j - n * z.size) + z.size * n := by rw [Nat.mul_comm z.size n]; omega
          conv => lhs; rw [this]
          rw [Nat.add_mul_mod_self_left, Nat.mod_eq_of_lt hk]
        simp [madeCells, h2, hk, hm]
      · simp [madeCells, h2]
        omega

/-- A row that is made. -/
def makeV (C : Ctx) (nid t : Nat) (a b : V) : Option (Option Prop × V × List Res) :=
  match C.P.underlying t with
  | some (.slice e) => match C.Z e, C.P.info? e with
    | some z, some inf => match toInt a, toInt b with
      | some (_, n), some (_, m) => match tlRep (i2n n) z with
        | some l => some (some (mkFit n m inf.bytes), .sa nid, [.arr (some e) (vsz z) l])
        | none => none
      | _, _ => none
    | _, _ => none
  | _ => none

def Env.setRow (ρ : Env) (i : Nat) (a : Addr) (n : Nat) : Env :=
  { num := ρ.num, cap := fun j => if j = i then n else ρ.cap j, adr := fun j => if j = i then a else ρ.adr j, sa := fun j => if j = i then some a else ρ.sa j, sn := fun j => if j = i then n else ρ.sn j, ob := ρ.ob }

theorem setRow_agree {N : Nat → Prop} (ρ : Env) {i : Nat} {a : Addr} {n : Nat} (h : ¬ N i) : Env.agree N ρ (ρ.setRow i a n) := fun j hj => by
  have e1 : j ≠ i := fun e => h (e ▸ hj)
  simp [Env.setRow, e1]

theorem toInt_den {ρ : Env} {v : V} {k : IntKind} {n : Int} (h : toInt v = some (k, n)) : den ρ v = .int k n := by
  cases v <;> simp only [toInt, Option.some.injEq, Prod.mk.injEq, reduceCtorEq] at h <;> obtain ⟨rfl, rfl⟩ := h <;> rfl

theorem makeV_new {C : Ctx} {nid t : Nat} {a b x : V} {q : Option Prop} {new : List Res} (h : makeV C nid t a b = some (q, x, new)) : x = .sa nid ∧ ∃ o e l, new = [.arr o e l] := by
  unfold makeV at h
  split at h
  · split at h
    · split at h
      · split at h
        · simp only [Option.some.injEq, Prod.mk.injEq] at h
          obtain ⟨_, rfl, rfl⟩ := h
          exact ⟨rfl, _, _, _, rfl⟩
        · simp at h
      · simp at h
    · simp at h
  · simp at h

theorem makeV_spec {C : Ctx} {ρ : Env} {K : Nat → Prop} {w0 w : World} {F0 : Nat → Prop} {nid t : Nat} {a b x : V} {q : Option Prop} {new : List Res} (hC : C.ZOK) (h : makeV C nid t a b = some (q, x, new)) (hq : holdsO q) (hn : ¬ K nid) :
    ∃ w' ρ', (Instr.makeSlice t (den ρ a) (den ρ b)).run C.P w = .ok (den ρ' x) w' ∧ Grew K ρ ρ' nid new w0 F0 w w' := by
  unfold makeV at h
  split at h
  · rename_i e ht
    split at h
    · rename_i z inf hZ hi
      split at h
      · rename_i k n k' m ha hb
        split at h
        · rename_i l hl
          simp only [Option.some.injEq, Prod.mk.injEq] at h
          obtain ⟨rfl, rfl, rfl⟩ := h
          obtain ⟨rfl, h0, h1, h2⟩ := (show mkFit n m inf.bytes from hq)
          obtain ⟨l1, l2⟩ := tlRep_spec (K := fun _ => False) hl
          obtain ⟨i', g1, g2, g3, g4, g5⟩ := hC e z hZ
          have : inf = i' := by rw [hi] at g1; exact Option.some.inj g1
          subst this
          obtain ⟨N, rfl⟩ : ∃ N : Nat, m = (N : Int) := ⟨m.toNat, by omega⟩
          have hN : i2n (N : Int) = N := by simp [i2n]
          rw [hN] at l1 l2
          have hb2 : inf.bytes * N ≤ 281474976710656 := by
            have : ((inf.bytes * N : Nat) : Int) ≤ 281474976710656 := by rw [Nat.mul_comm]; simpa using h2
            omega
          have hzs : (den Env.zero z).cells.size = vsz z := by rw [← cells_length Env.zero z g3]; simp [cells]
          obtain ⟨w', r1, r2, r3⟩ := run_make_full (P := C.P) (w := w) 0 t e inf (den Env.zero z) (vsz z) ht hi (g2 Env.zero) g5 k k' N hb2 (by simp only [maxLen]; omega) (Nat.zero_le _)
          have hcells : (madeCells (den Env.zero z).cells (N * vsz z)).toList = l.cells := by
            rw [← hzs, made_flat, TL.cells, l1]
            exact flat_congr _ _ _ fun j hj => ((l2 j (List.mem_range.1 hj)).1 Env.zero).symm
          rw [hcells] at r2
          have hblt : w.heap.size < w'.heap.size := by
            rcases r2.2 with ⟨hh, _⟩ | ⟨g, cap, cur, hh, _, hg, _⟩
            · simp at hh
            · simp only [Value.slice.injEq, Option.some.injEq, Addr.mk.injEq] at hh
              rw [← hh.1.1] at hg
              exact (Array.getElem?_eq_some_iff.1 hg).1
          refine ⟨w', ρ.setRow nid ⟨w.heap.size, 0, none⟩ N, ?_, ?_⟩
          · rw [toInt_den ha, toInt_den hb, r1]
            simp [den, Env.setRow]
          · refine ⟨(Below.refl _ _).grown r3 (Nat.le_refl _) (fun k hk => by simp at hk), setRow_agree ρ (fun hf => hf ⟨Nat.le_refl _, by simp⟩), fun _ b => b = w.heap.size, fun k hk => ?_, fun k l b hk hl hne => ?_⟩
            · simp only [List.length_singleton, Nat.lt_one_iff] at hk
              subst hk
              refine ⟨⟨fun j hj => ?_, by simp [Env.setRow, l1], by rw [l1]; omega, fun a ha => by simp [Env.setRow] at ha ⊢; exact ha.symm, fun _ => by simp [Env.setRow], fun _ => by simp [Env.setRow], .inr ⟨e, fun e' he => by simpa using he.symm, ?_, fun a ha => by simp [Env.setRow] at ha; rw [← ha]⟩⟩, fun b hb => by subst hb; exact ⟨Nat.le_refl _, hblt⟩⟩
              · rw [l1] at hj
                obtain ⟨_, m2, m3, m4⟩ := l2 j hj
                exact ⟨m2 g3, m3, m4⟩
              · have : (ρ.setRow nid ⟨w.heap.size, 0, none⟩ N).sl (nid + 0) = .slice (some ⟨w.heap.size, 0, none⟩) N N := by simp [Env.sl, Env.setRow]
                rw [this, l1]
                exact r2
            · simp only [List.length_singleton, Nat.lt_one_iff] at hk hl
              omega
        · simp at h
      · simp at h
    · simp at h
  · simp at h
end Go.Sx
/- The executor: maps that are tables. No condition. -/
set_option linter.unusedVariables false
set_option linter.unusedSimpArgs false
namespace Go.Sx
open Go.RowKit (Below)

/-- A number, chosen. -/
def iite (b : Bool) (x y : Int) : Int := match b with
  | true => x
  | false => y

/-- Is a key among those? -/
def fnd (n : Int) : List Int → Bool
  | [] => false
  | k :: ks => match ks with
    | [] => ieq n k
    | _ => bor (ieq n k) (fnd n ks)

theorem fnd_cons (n k : Int) (ks : List Int) : fnd n (k :: ks) = (decide (n = k) || fnd n ks) := by
  cases ks <;> simp [fnd, ieq, bor]

/-- The function at a key. -/
def selF (n : Int) (z : V) : List Int → List V → Option V
  | [], [] => some z
  | k :: ks, v :: vs => match v with
    | .fn f l => match selF n z ks vs with
      | some y => some (.ch (ieq n k) f l y)
      | none => none
    | _ => none
  | _, _ => none

/-- The number at a key. -/
def selI (kd : IntKind) (n z : Int) : List Int → List V → Option Int
  | [], [] => some z
  | k :: ks, v :: vs => match toInt v with
    | some (kd', a) => if kd == kd' then match selI kd n z ks vs with
        | some y => some (iite (ieq n k) a y)
        | none => none
      else none
    | none => none
  | _, _ => none

def tabV (n : Int) (z : V) (ks : List Int) (vs : List V) : Option V :=
  match z with
  | .nl v => match v with
    | .nilFunc => selF n (.nl .nilFunc) ks vs
    | _ => none
  | .ci kd a => match selI kd n a ks vs with
    | some y => some (.it kd y)
    | none => none
  | _ => none

/-- What is looked up. -/
def lookV (C : Ctx) (res : List Res) (t : Nat) (m x : V) (two : Bool) : Option V :=
  match m with
  | .mp i => match toInt x with
    | some (kd, n) => match rlook res i with
      | .mp kd' ks vs => match C.P.underlying t with
        | some (.map kt et) => match C.P.underlying kt with
          | some (.int kd'') => if kd == kd' && kd == kd'' then match C.Z et with
              | some z => match tabV n z ks vs with
                | some y => if two then some (.tp [y, .bo (fnd n ks)]) else some y
                | none => none
              | none => none
            else none
          | _ => none
        | _ => none
      | _ => none
    | none => none
  | _ => none

/-- A table with one entry more. -/
def insV (P : Program) (res : List Res) (t : Nat) (m x v : V) : Option (List Res) :=
  match m with
  | .mp i => match x with
    | .ci kd n => match rget res i with
      | .mp kd' ks vs => match P.underlying t with
        | some (.map kt et) => match P.underlying kt with
          | some (.int kd'') => if kd == kd' && kd == kd'' && decide (inR kd n) && !ks.contains n && !isTp v then some (rset res i (.mp kd (ks ++ [n]) (vs ++ [v]))) else none
          | _ => none
        | _ => none
      | _ => none
    | _ => none
  | _ => none

section
variable {ρ : Env} {fps : Nat → Nat → Prop} {res : List Res} {K : Nat → Prop} {w0 w : World} {F0 : Nat → Prop}

theorem findNow_int {kd : IntKind} {n : Int} : ∀ (ks : List Int) (xs : List Value) (l : List MapEntry) (i : Nat), l.map (·.key) = ks.map (Value.int kd) → l.map (·.val) = xs →
    ∃ r, Instr.findNow (.int kd) (.int kd n) l i = some r ∧ r.isSome = fnd n ks ∧
      ((r = none ∧ n ∉ ks) ∨ ∃ j x, r = some (i + j, x) ∧ ks[j]? = some n ∧ xs[j]? = some x ∧ ∀ q < j, ks[q]? ≠ some n)
  | [], xs, l, i, h, h' => by
    cases l with
    | nil => exact ⟨none, rfl, rfl, .inl ⟨rfl, by simp⟩⟩
    | cons e l => simp at h
  | k :: ks, xs, l, i, h, h' => by
    cases l with
    | nil => simp at h
    | cons e l =>
      simp only [List.map_cons, List.cons.injEq] at h
      obtain ⟨hk, hl⟩ := h
      subst h'
      by_cases e1 : n = k
      · subst e1
        refine ⟨some (i, e.val), by simp [Instr.findNow, hk, Instr.sameNow], by rw [fnd_cons]; simp, .inr ⟨0, e.val, rfl, by simp, by simp, by simp⟩⟩
      · obtain ⟨r, r1, r2, r3⟩ := findNow_int (n := n) ks _ l (i + 1) hl rfl
        refine ⟨r, by simp [Instr.findNow, hk, Instr.sameNow, beq_eq_false_iff_ne.2 e1, r1], by rw [fnd_cons, r2]; simp [e1], ?_⟩
        rcases r3 with ⟨a, b⟩ | ⟨j, x, a, b, c, d⟩
        · exact .inl ⟨a, by simp [e1, b]⟩
        · refine .inr ⟨j + 1, x, by rw [a]; congr 2; omega, by simpa using b, by simpa using c, fun q hq => ?_⟩
          cases q with
          | zero => simp; exact fun e => e1 e.symm
          | succ q => simpa using d q (by omega)

theorem selF_den {n : Int} {z : V} (hz : ok K z) (hz1 : ∀ ρ : Env, (den ρ z).oneCell' = true) : ∀ (ks : List Int) (vs : List V) (y : V), selF n z ks vs = some y → okL K vs →
    ok K y ∧ (∀ ρ : Env, (den ρ y).oneCell' = true) ∧ ∀ ρ : Env, (n ∉ ks → den ρ y = den ρ z) ∧ ∀ (j : Nat) x, ks[j]? = some n → (denL ρ vs)[j]? = some x → (∀ q < j, ks[q]? ≠ some n) → den ρ y = x
  | [], [], y, h, hv => by
    simp only [selF, Option.some.injEq] at h
    subst h
    exact ⟨hz, hz1, fun ρ => ⟨fun _ => rfl, fun j x h => by simp at h⟩⟩
  | [], _ :: _, y, h, hv => by simp [selF] at h
  | _ :: _, [], y, h, hv => by simp [selF] at h
  | k :: ks, v :: vs, y, h, hv => by
    simp only [selF] at h
    split at h
    · rename_i f l
      split at h <;> simp only [Option.some.injEq, reduceCtorEq] at h
      rename_i y' hy
      subst h
      obtain ⟨a, b, c⟩ := selF_den hz hz1 ks vs y' hy hv.2
      refine ⟨⟨hv.1, a, b⟩, fun ρ => ?_, fun ρ => ⟨fun hn => ?_, fun j x hj hx hq => ?_⟩⟩
      · simp only [den]
        split
        · rfl
        · exact b ρ
      · simp only [List.mem_cons, not_or] at hn
        simp only [den, ieq]
        rw [decide_eq_false hn.1]
        exact (c ρ).1 hn.2
      · simp only [den, ieq]
        cases j with
        | zero =>
          simp at hj
          subst hj
          simp [denL, den] at hx
          simp [← hx]
        | succ j =>
          have h0 := hq 0 (by omega)
          simp at h0
          rw [decide_eq_false (fun e => h0 e.symm)]
          refine (c ρ).2 j x (by simpa using hj) (by simpa [denL] using hx) fun q hq' => ?_
          have := hq (q + 1) (by omega)
          simpa using this
    · simp at h

theorem selI_den {kd : IntKind} {n z : Int} (hz : inR kd z) : ∀ (ks : List Int) (vs : List V) (y : Int), selI kd n z ks vs = some y → okL K vs →
    inR kd y ∧ ∀ ρ : Env, (n ∉ ks → y = z) ∧ ∀ (j : Nat) x, ks[j]? = some n → (denL ρ vs)[j]? = some x → (∀ q < j, ks[q]? ≠ some n) → .int kd y = x
  | [], [], y, h, hv => by
    simp only [selI, Option.some.injEq] at h
    subst h
    exact ⟨hz, fun ρ => ⟨fun _ => rfl, fun j x h => by simp at h⟩⟩
  | [], _ :: _, y, h, hv => by simp [selI] at h
  | _ :: _, [], y, h, hv => by simp [selI] at h
  | k :: ks, v :: vs, y, h, hv => by
    simp only [selI] at h
    split at h
    · rename_i kd' a ha
      split at h
      · rename_i hk
        have hk := beq_iff_eq.1 hk
        subst hk
        split at h <;> simp only [Option.some.injEq, reduceCtorEq] at h
        rename_i y' hy
        subst h
        obtain ⟨b, c⟩ := selI_den hz ks vs y' hy hv.2
        refine ⟨?_, fun ρ => ⟨fun hn => ?_, fun j x hj hx hq => ?_⟩⟩
        · cases ieq n k
          · exact b
          · exact (toInt_spec (ρ := ⟨fun _ => 0, fun _ => 0, fun _ => default, fun _ => none, fun _ => 0, fun _ _ => 0⟩) ha hv.1).2
        · simp only [List.mem_cons, not_or] at hn
          simp only [ieq]
          rw [decide_eq_false hn.1]
          exact (c ρ).1 hn.2
        · simp only [ieq]
          cases j with
          | zero =>
            simp at hj
            subst hj
            simp [denL] at hx
            simp [iite, ← hx, (toInt_spec (ρ := ρ) ha hv.1).1]
          | succ j =>
            have h0 := hq 0 (by omega)
            simp at h0
            rw [decide_eq_false (fun e => h0 e.symm)]
            refine (c ρ).2 j x (by simpa using hj) (by simpa [denL] using hx) fun q hq' => ?_
            have := hq (q + 1) (by omega)
            simpa using this
      · simp at h
    · simp at h

theorem tabV_den {n : Int} {z y : V} {ks : List Int} {vs : List V} (hz : ok (fun _ => False) z) (h : tabV n z ks vs = some y) (hv : okL K vs) :
    ok K y ∧ isTp y = false ∧ ∀ ρ : Env, (n ∉ ks → den ρ y = den ρ z) ∧ ∀ (j : Nat) x, ks[j]? = some n → (denL ρ vs)[j]? = some x → (∀ q < j, ks[q]? ≠ some n) → den ρ y = x := by
  unfold tabV at h
  split at h
  · split at h
    · obtain ⟨a, b, c⟩ := selF_den (K := K) (z := .nl .nilFunc) rfl (fun _ => rfl) ks vs y h hv
      refine ⟨a, ?_, c⟩
      cases ks with
      | nil => cases vs <;> simp [selF] at h; subst h; rfl
      | cons k ks =>
        cases vs with
        | nil => simp [selF] at h
        | cons v vs =>
          simp only [selF] at h
          split at h
          · split at h <;> simp only [Option.some.injEq, reduceCtorEq] at h
            subst h; rfl
          · simp at h
    · simp at h
  · rename_i kd a
    split at h <;> simp only [Option.some.injEq, reduceCtorEq] at h
    rename_i y' hy
    subst h
    obtain ⟨b, c⟩ := selI_den (K := K) (show inR kd a from hz) ks vs y' hy hv
    exact ⟨b, rfl, fun ρ => ⟨fun hn => by simp only [den]; rw [(c ρ).1 hn], fun j x h1 h2 h3 => by simp only [den]; exact (c ρ).2 j x h1 h2 h3⟩⟩
  · simp at h

theorem lookV_spec {C : Ctx} {t : Nat} {m x r : V} {two : Bool} (hC : C.ZOK) (h : HRep ρ fps res K w0 F0 w) (hl : lookV C res t m x two = some r) (hx : ok K x) :
    (Instr.lookup t (den ρ m) (den ρ x) two).run C.P w = .ok (den ρ r) w ∧ ok K r := by
  unfold lookV at hl
  split at hl
  case h_2 => simp at hl
  rename_i i
  split at hl
  case h_2 => simp at hl
  rename_i kd n hn
  split at hl
  case h_2 => simp at hl
  rename_i kd' ks vs hr
  split at hl
  case h_2 => simp at hl
  rename_i kt et hu
  split at hl
  case h_2 => simp at hl
  rename_i kd'' hku
  split at hl
  case isFalse => simp at hl
  rename_i hkd
  simp only [Bool.and_eq_true, beq_iff_eq] at hkd
  obtain ⟨rfl, rfl⟩ := hkd
  split at hl
  case h_2 => simp at hl
  rename_i z hz
  split at hl
  case h_2 => simp at hl
  rename_i y hy
  obtain ⟨hx1, hx2⟩ := toInt_spec (ρ := ρ) hn hx
  obtain ⟨fp, hh, _⟩ := h.look hr (by simp)
  obtain ⟨_, a2, a3, a4, a5, es, cl, b1, b2, b3⟩ := hh
  obtain ⟨_, _, _, hz3, hz4, _⟩ := hC et z hz
  obtain ⟨y1, y2, y3⟩ := tabV_den hz3 hy a2
  obtain ⟨q, q1, q2, q3⟩ := findNow_int (n := n) ks _ es.toList 0 b2 b3
  have hck := MapKept.run_checkKey (P := C.P) (w := w) (k := .int kd n) hku rfl es.isEmpty 9999
  have hfk := MapKept.run_findKey (w := w) hku q1
  have hzr := run_zero (ρ := ρ) (w := w) hC hz
  have main : (Instr.lookup t (den ρ (.mp i)) (den ρ x) two).run C.P w = .ok (if two then .tuple #[den ρ y, .bool (fnd n ks)] else den ρ y) w := by
    rw [hx1]
    simp only [Instr.lookup, den, Sem.run_bind, run_und w hu, Result.andThen_ok, MapKept.run_getObj_map b1, Sem.run_pure, hck, hfk]
    rcases q3 with ⟨rfl, hnk⟩ | ⟨j, v, rfl, c1, c2, c3⟩
    · simp only [Sem.run_bind, hzr, Result.andThen_ok, Sem.run_pure]
      rw [(y3 ρ).1 hnk, ← q2]; rfl
    · simp only [Sem.run_pure, Result.andThen_ok]
      rw [(y3 ρ).2 j v c1 c2 c3, ← q2]; rfl
  rw [main]
  cases two
  · simp only [Bool.false_eq_true, if_false, Option.some.injEq] at hl
    subst hl
    exact ⟨by simp, y1⟩
  · simp only [if_true, Option.some.injEq] at hl
    subst hl
    exact ⟨by simp [den, denL], y1, trivial, trivial⟩

theorem Grew.mapNew {nid : Nat} {kd : IntKind} (hn : ¬ K nid) :
    Grew K ρ (ρ.setNum nid w.heap.size) nid [.mp kd [] []] w0 F0 w (w.alloc (.map #[] 0)) := by
  refine ⟨(Below.refl _ _).alloc (Nat.le_refl _) _, setNum_agree ρ nid _, fun _ b => b = w.heap.size, fun k hk => ?_, fun k l b hk hl hne => ?_⟩
  · simp only [List.length_singleton, Nat.lt_one_iff] at hk
    subst hk
    refine ⟨⟨by simp [Env.setNum], trivial, trivial, by simp, rfl, #[], 0, ?_, rfl, rfl⟩, fun b hb => by subst hb; simp⟩
    rw [show (ρ.setNum nid w.heap.size).num (nid + 0) = w.heap.size by simp [Env.setNum]]
    exact heap_alloc_new w _
  · simp only [List.length_singleton, Nat.lt_one_iff] at hk hl
    omega

/-- A place that is written. -/
theorem HRep.writeR {w' : World} {i : Nat} {r r' : Res} {b : Nat}
    (h : HRep ρ fps res K w0 F0 w) (hi : rget res i = r) (hne : r ≠ .yet) (hne' : r' ≠ .yet) (hfp : fps i b) (hnew : r'.holds K ρ i (fps i) w0 F0 w')
    (hos : w'.os = w.os) (htape : w'.tape = w.tape) (hout : w'.output = w.output) (hsize : w'.heap.size = w.heap.size) (hold : ∀ b', b' ≠ b → w'.heap[b']? = w.heap[b']?) :
    HRep ρ fps (rset res i r') K w0 F0 w' ∧ ∀ j, known (rset res i r') j ↔ known res j := by
  have hk : known res i := by unfold known; rw [hi]; exact hne
  have hlt := rget_lt hk
  have hkn : ∀ j, known (rset res i r') j ↔ known res j := fun j => by
    unfold known
    rw [rget_rset _ _ _ _ hlt]
    by_cases e : j = i
    · subst e; simp [hi, hne, hne']
    · simp [e]
  refine ⟨⟨fun j hj => h.sub j ((hkn j).1 hj), by rw [hsize]; exact h.old, hos.trans h.os, htape.trans h.tape, hout.trans h.output, fun j hj => ?_, fun j b hj hb => by rw [hsize]; exact h.lt j b ((hkn j).1 hj) hb,
    fun j l b hj hl => h.disj j l b ((hkn j).1 hj) ((hkn l).1 hl), fun j b hj => h.inF j b ((hkn j).1 hj), fun c hc hF => ?_⟩, hkn⟩
  · rw [rget_rset _ _ _ _ hlt]
    by_cases e : j = i
    · subst e
      simp only [if_true]
      exact hnew
    · simp only [if_neg e]
      have hj' := (hkn j).1 hj
      refine Res.holds_keep _ (h.holds j hj') fun c hc => hold c fun eb => ?_
      subst eb
      exact h.disj j i _ hj' hk e hc hfp
  · rw [hold c fun e => hF (e ▸ h.inF i b hk hfp (e ▸ hc))]
    exact h.same c hc hF

theorem denL_snoc (ρ : Env) (l : List V) (v : V) : denL ρ (l ++ [v]) = denL ρ l ++ [den ρ v] := by simp [denL_eq]

theorem insV_spec {P : Program} {res' : List Res} {t : Nat} {m x v : V} (h : HRep ρ fps res K w0 F0 w) (hs : insV P res t m x v = some res') (hv : ok K v) :
    ∃ w', (Instr.mapUpdate t (den ρ m) (den ρ x) (den ρ v)).run P w = .ok () w' ∧ HRep ρ fps res' K w0 F0 w' ∧ ∀ i, known res' i ↔ known res i := by
  unfold insV at hs
  split at hs
  case h_2 => simp at hs
  rename_i i
  split at hs
  case h_2 => simp at hs
  rename_i kd n
  split at hs
  case h_2 => simp at hs
  rename_i kd' ks vs hr
  split at hs
  case h_2 => simp at hs
  rename_i kt et hu
  split at hs
  case h_2 => simp at hs
  rename_i kd'' hku
  split at hs
  case isFalse => simp at hs
  rename_i hc
  simp only [Bool.and_eq_true, beq_iff_eq, decide_eq_true_eq, Bool.not_eq_true', List.contains_eq_mem, decide_eq_false_iff_not] at hc
  obtain ⟨⟨⟨⟨rfl, rfl⟩, hin⟩, hnk⟩, htp⟩ := hc
  simp only [Option.some.injEq] at hs
  subst hs
  have hk : known res i := by unfold known; rw [hr]; simp
  have hh := h.holds i hk
  rw [hr] at hh
  obtain ⟨a1, a2, a3, a4, a5, es, cl, b1, b2, b3⟩ := hh
  obtain ⟨q, q1, q2, q3⟩ := findNow_int (n := n) ks _ es.toList 0 b2 b3
  have hq : q = none := by
    rcases q3 with ⟨rfl, _⟩ | ⟨j, y, rfl, c1, _⟩
    · rfl
    · exact absurd (List.mem_of_getElem? c1) hnk
  subst hq
  have hck := MapKept.run_checkKey (P := P) (w := w) (k := .int kd n) hku rfl false 9999
  have hfk := MapKept.run_findKey (w := w) hku q1
  have hset := MapKept.heap_set (w := w) (r := ρ.num i) (o' := .map (es.push { key := .int kd n, val := den ρ v, born := cl }) (cl + 1)) b1
  refine ⟨{ w with heap := w.heap.setIfInBounds (ρ.num i) (.map (es.push { key := .int kd n, val := den ρ v, born := cl }) (cl + 1)) }, ?_, ?_⟩
  · simp only [Instr.mapUpdate, den, Sem.run_bind, run_und w hu, Result.andThen_ok, MapKept.run_getObj_map b1, hck, hfk, MapKept.run_setObj_map _ b1]
  · refine h.writeR (b := ρ.num i) hr (by simp) (by simp) a1 ⟨a1, ?_, ?_, ?_, by simp [a5], _, _, hset.1, by simp [b2], by simp [b3, denL_snoc]⟩ rfl rfl rfl (by simp) hset.2
    · rw [okL_iff] at a2 ⊢
      intro y hy
      rcases List.mem_append.1 hy with hy | hy
      · exact a2 y hy
      · simp at hy; subst hy; exact hv
    · rw [okC_iff] at a3 ⊢
      intro y hy
      rcases List.mem_append.1 hy with hy | hy
      · exact a3 y hy
      · simp at hy; subst hy; exact htp
    · intro c hcm
      rcases List.mem_append.1 hcm with hcm | hcm
      · exact a4 c hcm
      · simp at hcm; subst hcm; exact hin

end
end Go.Sx
/- The executor: a list that is copied by append. No condition. -/
set_option linter.unusedVariables false
set_option linter.unusedSimpArgs false
namespace Go.Sx
open Go.RowKit (Below)

def pFitW (n b : Nat) : Prop := n ≤ maxLen ∧ n * b ≤ 140737488355328

/-- A whole list is appended to nothing. -/
def appW (C : Ctx) (res : List Res) (nid : Nat) (ts : List Nat) (xs : List V) : Option (Option Prop × V × List Res) :=
  match ts, xs with
  | [t, t'], [x, y] => match x with
    | .nl (.slice none 0 0) => match y with
      | .sa j => match rlook res j with
        | .arr _ esz l => match C.P.underlying t with
          | some (.slice e) => match C.Z e, C.P.info? e with
            | some z, some inf => if t == t' && esz == vsz z && Nat.blt 0 (vsz z) then some (some (pFitW l.len inf.bytes), .sa nid, [.arr (some e) esz l]) else none
            | _, _ => none
          | _ => none
        | _ => none
      | _ => none
    | _ => none
  | _, _ => none

def Env.setSlO (ρ : Env) (i : Nat) (a : Option Addr) (n cap : Nat) : Env :=
  { num := ρ.num, cap := fun j => if j = i then cap else ρ.cap j, adr := fun j => if j = i then a.getD ⟨0, 0, none⟩ else ρ.adr j, sa := fun j => if j = i then a else ρ.sa j, sn := fun j => if j = i then n else ρ.sn j, ob := ρ.ob }

theorem setSlO_agree {N : Nat → Prop} (ρ : Env) {i : Nat} {a : Option Addr} {n cap : Nat} (h : ¬ N i) : Env.agree N ρ (ρ.setSlO i a n cap) := fun j hj => by
  have e1 : j ≠ i := fun e => h (e ▸ hj)
  simp [Env.setSlO, e1]

theorem flat_lenW {α : Type} {f : Nat → List α} {esz : Nat} : ∀ {n : Nat}, (∀ j, j < n → (f j).length = esz) → ((List.range n).flatMap f).length = n * esz
  | 0, _ => by simp
  | n + 1, h => by
    rw [List.range_succ, List.flatMap_append, List.length_append, flat_lenW fun j hj => h j (by omega)]
    simp [h n (by omega), Nat.succ_mul]

theorem appW_new {C : Ctx} {res : List Res} {nid : Nat} {ts : List Nat} {xs : List V} {r : V} {q : Option Prop} {new : List Res} (h : appW C res nid ts xs = some (q, r, new)) : r = .sa nid ∧ ∃ o e l, new = [.arr o e l] := by
  unfold appW at h
  split at h
  · split at h
    · split at h
      · split at h
        · split at h
          · split at h
            · split at h <;> simp only [Option.some.injEq, Prod.mk.injEq, reduceCtorEq] at h
              obtain ⟨_, rfl, rfl⟩ := h
              exact ⟨rfl, _, _, _, rfl⟩
            · simp at h
          · simp at h
        · simp at h
      · simp at h
    · simp at h
  · simp at h

theorem appW_spec {C : Ctx} {ρ : Env} {fps : Nat → Nat → Prop} {res : List Res} {K : Nat → Prop} {w0 w : World} {F0 : Nat → Prop} {nid ty : Nat} {ts : List Nat} {xs : List V} {r : V} {q : Option Prop} {new : List Res} (hC : C.ZOK)
    (hH : HRep ρ fps res K w0 F0 w) (h : appW C res nid ts xs = some (q, r, new)) (hq : holdsO q) (hn : ¬ K nid) :
    ∃ w' ρ', (Builtin.append_ ts.toArray ty (denL ρ xs).toArray).run C.P w = .ok (den ρ' r) w' ∧ Grew K ρ ρ' nid new w0 F0 w w' := by
  unfold appW at h
  split at h
  case h_2 => simp at h
  rename_i t t' x y
  split at h
  case h_2 => simp at h
  split at h
  case h_2 => simp at h
  rename_i j
  split at h
  case h_2 => simp at h
  rename_i own esz l hr
  split at h
  case h_2 => simp at h
  rename_i e ht
  split at h
  case h_2 => simp at h
  rename_i z inf hZ hi
  split at h
  case isFalse => simp at h
  rename_i hc
  simp only [Bool.and_eq_true, beq_iff_eq, Nat.blt_eq] at hc
  obtain ⟨⟨rfl, rfl⟩, hsz⟩ := hc
  simp only [Option.some.injEq, Prod.mk.injEq] at h
  obtain ⟨rfl, rfl, rfl⟩ := h
  obtain ⟨q1, q2⟩ := (show pFitW l.len inf.bytes from hq)
  obtain ⟨i', g1, g2, g3, g4, g5⟩ := hC e z hZ
  have : inf = i' := by rw [hi] at g1; exact Option.some.inj g1
  subst this
  have hzs : (den Env.zero z).cells.size = vsz z := by rw [← cells_length Env.zero z g3]; simp [cells]
  have hcl := fun (i : Nat) (hi : i < l.len) => arr_cells hH hr hi
  have hlen : ∀ i, i < l.len → (cells Env.zero (l.get i)).length = vsz z := fun i hi => by rw [cells_length Env.zero _ (hcl i hi).1]; exact (hcl i hi).2.2.1
  have hxl : l.cells.length = l.len * vsz z := flat_lenW hlen
  have hcell : ∀ k u, l.cells[k]? = some u → w.cell? ((ρ.adr j).add k) = some u ∨ (ρ.adr j).spot ≠ none := fun k u hu => by
    by_cases hs : (ρ.adr j).spot = none
    · left
      have hk : k < l.len * vsz z := by rw [← hxl]; exact (List.getElem?_eq_some_iff.1 hu).1
      have hdiv : k / vsz z < l.len := (Nat.div_lt_iff_lt_mul hsz).2 hk
      have hmod : k % vsz z < vsz z := Nat.mod_lt _ hsz
      have hkk : k / vsz z * vsz z + k % vsz z = k := by rw [Nat.mul_comm]; exact Nat.div_add_mod k (vsz z)
      have hcc := (hcl _ hdiv).2.2.2 _ hmod
      rw [hkk] at hcc
      have : (ρ.adr j).add k = ⟨(ρ.adr j).block, (ρ.adr j).off + k, none⟩ := by
        cases had : ρ.adr j with
        | mk b o s => rw [had] at hs; simp only at hs; subst hs; rw [add_lit]
      rw [this, hcc, cells_agree (N := fun _ => False) (ρ := Env.zero) (ρ' := ρ) (fun _ h => h.elim) _ (hcl _ hdiv).1, ← flat_idx (f := fun i => cells Env.zero (l.get i)) hlen hdiv hmod, hkk]
      exact hu
    · exact .inr hs
  have hone : ∀ u ∈ l.cells, u.oneCell' = true := fun u hu => by
    unfold TL.cells at hu
    rw [List.mem_flatMap] at hu
    obtain ⟨i, hi, hu⟩ := hu
    have hi := List.mem_range.1 hi
    exact cells_oneCell Env.zero _ (hcl i hi).1 (hcl i hi).2.1 u hu
  obtain ⟨fp, hh, _⟩ := hH.look hr (by simp)
  obtain ⟨a1, a2, a3, a4, a5, a6, _⟩ := hh
  -- the run
  have main : ∃ ao cap w', (Builtin.append_ #[t, t] ty #[.slice none 0 0, den ρ (.sa j)]).run C.P w = .ok (.slice ao l.len cap) w' ∧ w'.ownsRow w.heap.size e (vsz z) (.slice ao l.len cap) l.len l.cells ∧ w.grownBy w' none := by
    cases hs : ρ.sa j with
    | none =>
      have h0 : l.len = 0 := by
        rcases Nat.eq_zero_or_pos l.len with h | h
        · exact h
        · have := a5 h; rw [hs] at this; simp at this
      have hxs : l.cells = [] := List.length_eq_zero_iff.1 (by rw [hxl, h0]; simp)
      refine ⟨none, 0, w, ?_, by rw [h0, hxs]; exact World.ownsRow_nil w _ e _, ⟨rfl, rfl, rfl, Nat.le_refl _, fun _ _ _ => rfl⟩⟩
      simp [Builtin.append_, den, Env.sl, hs, a2, h0, run_und w ht, Builtin.lenOf, Builtin.firstCells, sizeOf, typeInfo, hi]
    | some a =>
      have ha := a4 a hs
      subst ha
      by_cases h0 : 0 < l.len
      · obtain ⟨v', w', r1, r2, r3, _⟩ := run_append_own (P := C.P) w w.heap.size t ty e inf (den Env.zero z) (vsz z) inf.bytes ht hi (g2 Env.zero) g5 rfl hzs hsz (.slice none 0 0) 0 [] (World.ownsRow_nil w _ e _)
          (ρ.adr j) l.len (ρ.cap j) l.cells hxl (fun k u hu => (hcell k u hu).resolve_right (fun h => h (a6 h0))) hone (by simpa using q1) (by simpa using q2) (Nat.le_refl _)
        simp only [Nat.zero_add, List.nil_append] at r2
        have hd : den ρ (.sa j) = .slice (some (ρ.adr j)) l.len (ρ.cap j) := by simp [den, Env.sl, hs, a2]
        rw [hd]
        rcases r2.2 with ⟨_, hz0⟩ | ⟨g, cap, cur, hv, _⟩
        · omega
        · subst hv
          exact ⟨_, _, w', r1, r2, r3⟩
      · have h0 : l.len = 0 := by omega
        have hxs : l.cells = [] := List.length_eq_zero_iff.1 (by rw [hxl, h0]; simp)
        obtain ⟨v', w', r1, r2, r3, r4⟩ := run_append_own (P := C.P) w w.heap.size t ty e inf (den Env.zero z) (vsz z) inf.bytes ht hi (g2 Env.zero) g5 rfl hzs hsz (.slice none 0 0) 0 [] (World.ownsRow_nil w _ e _)
          (ρ.adr j) 0 (ρ.cap j) [] (by simp) (fun k u hu => by simp at hu) (by simp) (by simp) (by simp) (Nat.le_refl _)
        have hv := r4.2 ⟨rfl, rfl⟩
        subst hv
        have hd : den ρ (.sa j) = .slice (some (ρ.adr j)) 0 (ρ.cap j) := by simp [den, Env.sl, hs, a2, h0]
        rw [hd, h0, hxs]
        exact ⟨none, 0, w', r1, World.ownsRow_nil w' _ e _, r3⟩
  obtain ⟨ao, cap, w', r1, r2, r3⟩ := main
  have hao : ∀ a, ao = some a → w.heap.size ≤ a.block ∧ a.block < w'.heap.size ∧ a.spot = none := fun a ha => by
    subst ha
    have := r2.lt a.block rfl
    refine ⟨this.1, this.2, ?_⟩
    rcases r2.2 with ⟨hh, _⟩ | ⟨g, cap', cur, hh, _⟩
    · simp at hh
    · simp only [Value.slice.injEq, Option.some.injEq] at hh
      rw [hh.1]
  refine ⟨w', ρ.setSlO nid ao l.len cap, ?_, ?_⟩
  · rw [show (denL ρ [.nl (.slice none 0 0), .sa j]).toArray = #[.slice none 0 0, den ρ (.sa j)] from rfl, show ([t, t] : List Nat).toArray = #[t, t] from rfl, r1]
    simp [den, Env.sl, Env.setSlO]
  · refine ⟨(Below.refl _ _).grown r3 (Nat.le_refl _) (fun k hk => by simp at hk), setSlO_agree ρ (fun hf => hf ⟨Nat.le_refl _, by simp⟩), fun _ b => ∃ a, ao = some a ∧ b = a.block, fun k hk => ?_, fun k m b hk hl hne => ?_⟩
    · simp only [List.length_singleton, Nat.lt_one_iff] at hk
      subst hk
      refine ⟨⟨a1, by simp [Env.setSlO], a3, fun a ha => by simp [Env.setSlO] at ha ⊢; simp [ha], fun hl => ?_, fun hl => ?_, .inr ⟨e, fun e' he => by simpa using he.symm, ?_, fun a ha => by simp [Env.setSlO] at ha; exact ⟨a, ha, rfl⟩⟩⟩, fun b hb => ?_⟩
      · rcases r2.2 with ⟨_, hz0⟩ | ⟨g, cap', cur, hh, _⟩
        · omega
        · simp only [Value.slice.injEq] at hh
          simp [Env.setSlO, hh.1]
      · rcases r2.2 with ⟨_, hz0⟩ | ⟨g, cap', cur, hh, _⟩
        · omega
        · simp only [Value.slice.injEq] at hh
          simp [Env.setSlO, hh.1]
      · have : (ρ.setSlO nid ao l.len cap).sl (nid + 0) = .slice ao l.len cap := by simp [Env.sl, Env.setSlO]
        rw [this]
        exact ⟨r2.1, r2.2.imp id fun ⟨g, cp, cu, b1, b2, b3⟩ => ⟨g, cp, cu, b1, Nat.zero_le _, b3⟩⟩
      · obtain ⟨a, ha, rfl⟩ := hb
        exact ⟨(hao a ha).1, (hao a ha).2.1⟩
    · simp only [List.length_singleton, Nat.lt_one_iff] at hk hl
      omega
end Go.Sx
/- The executor: strings, slices over the bytes of a part, copy, clear. No condition. -/
set_option linter.unusedVariables false
set_option linter.unusedSimpArgs false
namespace Go.Sx
open Go.RowKit (Below)

def sat (s : ByteArray) (i : Nat) : UInt8 := s.data.getD i 0
def bsub (b : Bytes) (lo hi : Nat) : ByteArray := ⟨b.toArray.extract lo hi⟩
def bput (b : Bytes) (lo n : Nat) (s : ByteArray) : Bytes := Vector.ofFn fun (i : Fin 64) => if lo ≤ i.1 ∧ i.1 < lo + n then sat s (i.1 - lo) else b.at i.1
def ssub (s : ByteArray) (lo hi : Nat) : ByteArray := s.extract lo hi
def scat (a b : ByteArray) : ByteArray := a ++ b
def cpN (s : ByteArray) (lo hi : Nat) : Nat := Nat.min s.size (hi - lo)
def bcp (b : Bytes) (lo hi : Nat) (s : ByteArray) : Bytes := bput b lo (cpN s lo hi) s
def bclr (b : Bytes) (lo hi : Nat) : Bytes := bput b lo (hi - lo) ByteArray.empty
def bofI (l : List Int) : ByteArray := ⟨(l.map fun i => UInt8.ofNat i.toNat).toArray⟩
def pSl (lo hi n : Int) : Prop := 0 ≤ lo ∧ lo ≤ hi ∧ hi ≤ n
def pSz (s : ByteArray) (j : Int) : Prop := 0 ≤ j ∧ j < (s.size : Int)
def pCat (a b : ByteArray) : Prop := (a.size : Int) + (b.size : Int) ≤ 9223372036854775807

theorem bput_at (b : Bytes) (lo n : Nat) (s : ByteArray) (i : Nat) (h : i < 64) : (bput b lo n s).at i = if lo ≤ i ∧ i < lo + n then sat s (i - lo) else b.at i := by
  unfold bput
  rw [show ∀ v : Bytes, v.at i = v.toArray.getD i 0 from fun _ => rfl]
  simp only [Vector.toArray_ofFn, Array.getD_eq_getD_getElem?]
  rw [Array.getElem?_eq_getElem (by simpa using h)]
  simp [Array.getElem_ofFn]
theorem bsub_size (b : Bytes) (lo hi : Nat) : (bsub b lo hi).size = min hi 64 - lo := by simp [bsub, ByteArray.size]
theorem sat_bsub (b : Bytes) (lo hi i : Nat) (h : lo + i < hi) (h2 : hi ≤ 64) : sat (bsub b lo hi) i = b.at (lo + i) := by
  unfold sat bsub
  rw [show b.at (lo + i) = b.toArray.getD (lo + i) 0 from rfl]
  simp only [Array.getD_eq_getD_getElem?, Array.getElem?_extract]
  rw [if_pos (by simp; omega)]

theorem sat_empty (k : Nat) : sat ByteArray.empty k = 0 := by
  unfold sat
  show (#[] : Array UInt8).getD k 0 = 0
  rw [Array.getD_eq_getD_getElem?, Array.getElem?_eq_none (Nat.zero_le k)]; rfl

/-- An end of a slice. -/
def bndV (o : Option V) (d : Int) : Option Int :=
  match o with
  | none => some d
  | some v => match toInt v with
    | some (_, j) => some j
    | none => none
def isPt : V → Bool
  | .lp _ _ => true
  | .ap _ _ _ _ => true
  | _ => false
def cstO (o : Option V) : Bool :=
  match o with
  | none => true
  | some v => isCi v
/-- A part of a string; the slice over a part of 64 bytes. -/
def slV (P : Program) (t : Nat) (x : V) (lo hi : Option V) : Option (Option Prop × V) :=
  match P.underlying t with
  | some .string => match x with
    | .st s => match bndV lo 0, bndV hi (szI s) with
      | some a, some b => some (some (pSl a b (szI s)), .st (ssub s (i2n a) (i2n b)))
      | _, _ => none
    | _ => none
  | some (.array n e) => if n == 64 && isPt x && tsz P e == some 1 then match bndV lo 0, bndV hi 64 with
      | some a, some b => some (some (pSl a b 64), .bs x (i2n a) (i2n b))
      | _, _ => none
    else if isPt x && cstO lo && cstO hi then match tsz P e with
      | some z => match bndV lo 0, bndV hi (n : Int) with
        | some a, some b => if decide (0 ≤ a) && decide (a ≤ b) && decide (b ≤ (n : Int)) then some (none, .ks x z n a.toNat b.toNat) else none
        | _, _ => none
      | none => none
    else none
  | _ => none

section
variable {C : Ctx} {ρ : Env} {fps : Nat → Nat → Prop} {res : List Res} {K : Nat → Prop} {w0 w : World} {F0 : Nat → Prop}

theorem run_bounds {P : Program} {s : Bool} {n : Nat} {lo hi : Option V} {a b : Int} (ha : bndV lo 0 = some a) (hb : bndV hi (n : Int) = some b) (hk : (∀ v, lo = some v → ok K v) ∧ ∀ v, hi = some v → ok K v) (hp : pSl a b n) :
    (Instr.sliceBounds s n n (lo.map (den ρ)) (hi.map (den ρ)) none).run P w = .ok (a.toNat, b.toNat, n) w := by
  obtain ⟨h0, h1, h2⟩ := hp
  have hlo : ∀ (c : BoundsCode) (y : Nat), a ≤ y → ∀ v, lo = some v → (Instr.sliceBound (den ρ v) y c).run P w = .ok a.toNat w := fun c y hy v hv => by
    subst hv
    unfold bndV at ha
    cases ht : toInt v with
    | none => simp [ht] at ha
    | some kj =>
      obtain ⟨k, j⟩ := kj
      simp only [ht, Option.some.injEq] at ha
      subst ha
      rw [(toInt_spec (ρ := ρ) ht (hk.1 v rfl)).1]
      simp [Instr.sliceBound, asIntOf, h0, hy]
  have hhi : ∀ (c : BoundsCode), ∀ v, hi = some v → (Instr.sliceBound (den ρ v) n c).run P w = .ok b.toNat w := fun c v hv => by
    subst hv
    unfold bndV at hb
    cases ht : toInt v with
    | none => simp [ht] at hb
    | some kj =>
      obtain ⟨k, j⟩ := kj
      simp only [ht, Option.some.injEq] at hb
      subst hb
      rw [(toInt_spec (ρ := ρ) ht (hk.2 v rfl)).1]
      simp [Instr.sliceBound, asIntOf, show 0 ≤ j by omega, h2]
  unfold Instr.sliceBounds
  cases hhe : hi with
  | none =>
    subst hhe
    have hb' : b = n := by simpa [bndV] using hb.symm
    subst hb'
    cases hle : lo with
    | none => subst hle; have : a = 0 := by simpa [bndV] using ha.symm
              subst this; simp
    | some v => simp [hlo _ n (by omega) v hle]
  | some u =>
    have e := hhi (if s then .sliceAcap else .sliceAlen) u hhe
    cases hle : lo with
    | none => subst hle; have : a = 0 := by simpa [bndV] using ha.symm
              subst this; simp [e]
    | some v => simp [e, hlo .sliceB b.toNat (by omega) v hle]

theorem isPt_den {x : V} (h : isPt x = true) : ∃ b o, den ρ x = .pointer (some ⟨b, o, none⟩) := by
  cases x <;> simp [isPt] at h
  · exact ⟨_, _, rfl⟩
  · exact ⟨_, _, rfl⟩

theorem slV_spec {P : Program} {t : Nat} {x r : V} {lo hi : Option V} {q : Option Prop} (h : slV P t x lo hi = some (q, r)) (hq : holdsO q) (hx : ok K x) (hl : ∀ v, lo = some v → ok K v) (hh : ∀ v, hi = some v → ok K v) :
    (Instr.sliceAt t (den ρ x) (lo.map (den ρ)) (hi.map (den ρ)) none).run P w = .ok (den ρ r) w ∧ ok K r := by
  unfold slV at h
  split at h
  · rename_i hu
    split at h
    · rename_i s
      split at h
      · rename_i a b ha hb
        simp only [Option.some.injEq, Prod.mk.injEq] at h
        obtain ⟨rfl, rfl⟩ := h
        have hb' := run_bounds (ρ := ρ) (K := K) (w := w) (P := P) (s := false) (n := s.size) ha hb ⟨hl, hh⟩ hq
        refine ⟨?_, trivial⟩
        simp only [Instr.sliceAt, Instr.slice, Sem.run_bind, run_und w hu, Result.andThen_ok, den, Option.isSome_none, Bool.false_eq_true, if_false]
        simp [hb', ssub, i2n]
      · simp at h
    · simp at h
  · rename_i n e hu
    split at h
    · rename_i hc
      simp only [Bool.and_eq_true, beq_iff_eq] at hc
      obtain ⟨⟨rfl, hp⟩, hs⟩ := hc
      split at h
      · rename_i a b ha hb
        simp only [Option.some.injEq, Prod.mk.injEq] at h
        obtain ⟨rfl, rfl⟩ := h
        have hb' := run_bounds (ρ := ρ) (K := K) (w := w) (P := P) (s := false) (n := 64) ha hb ⟨hl, hh⟩ hq
        obtain ⟨g, o, hd⟩ := isPt_den (ρ := ρ) hp
        obtain ⟨q1, q2, q3⟩ := (show pSl a b 64 from hq)
        refine ⟨?_, hx, by unfold i2n; omega, by unfold i2n; omega⟩
        simp only [Instr.sliceAt, Sem.run_bind, run_und w hu, Result.andThen_ok, den, hd, Instr.sureAddr, Sem.run_pure, hb', run_tsz w hs, bsDen, Nat.mul_one]
        by_cases e : a.toNat = 64
        · rw [if_pos e.symm, if_pos (show i2n a = 64 from e)]; rfl
        · rw [if_neg (Ne.symm e), if_neg (show ¬ i2n a = 64 from e)]; rfl
      · simp at h
    · split at h
      case isFalse => simp at h
      rename_i hc
      simp only [Bool.and_eq_true] at hc
      split at h
      case h_2 => simp at h
      rename_i z hs
      split at h
      case h_2 => simp at h
      rename_i a b ha hb
      split at h <;> simp only [Option.some.injEq, Prod.mk.injEq, reduceCtorEq] at h
      rename_i hd
      simp only [Bool.and_eq_true, decide_eq_true_eq] at hd
      obtain ⟨⟨q1, q2⟩, q3⟩ := hd
      obtain ⟨_, rfl⟩ := h
      have hb' := run_bounds (ρ := ρ) (K := K) (w := w) (P := P) (s := false) (n := n) ha hb ⟨hl, hh⟩ ⟨q1, q2, q3⟩
      obtain ⟨g, o, hd⟩ := isPt_den (ρ := ρ) hc.1.1
      refine ⟨?_, hx, by omega, by omega⟩
      simp only [Instr.sliceAt, Sem.run_bind, run_und w hu, Result.andThen_ok, den, hd, Instr.sureAddr, Sem.run_pure, hb', run_tsz w hs, ksDen]
      by_cases e : a.toNat = n
      · rw [if_pos e.symm, if_pos e]
      · rw [if_neg (Ne.symm e), if_neg e]
  · simp at h

/-- The bytes at a place. -/
def bytesV (res : List Res) (p : V) : Option (Option Prop × Bytes) :=
  match p with
  | .lp id off => match rlook res id with
    | .blk _ c => match getAt 8 c off 64 true with
      | some r => match r with
        | .by b => some (none, b)
        | _ => none
      | none => none
    | _ => none
  | .ap id esz i off => match rlook res id with
    | .arr _ esz' l => if esz == esz' then match getAt 8 (l.get i) off 64 true with
        | some r => match r with
          | .by b => some (some (pLt i l.len), b)
          | _ => none
        | none => none
      else none
    | _ => none
  | _ => none

theorem bytesV_spec {p : V} {q : Option Prop} {b : Bytes} (h : HRep ρ fps res K w0 F0 w) (hb : bytesV res p = some (q, b)) (hq : holdsO q) :
    ∃ g o, den ρ p = .pointer (some ⟨g, o, none⟩) ∧ ∀ k, k < 64 → w.cell? ⟨g, o + k, none⟩ = (byCells b)[k]? := by
  unfold bytesV at hb
  split at hb
  · rename_i id off
    split at hb
    · rename_i ty c hc
      split at hb
      · rename_i r hg
        split at hb <;> simp only [Option.some.injEq, Prod.mk.injEq, reduceCtorEq] at hb
        rename_i b'
        obtain ⟨_, rfl⟩ := hb
        obtain ⟨fp, hh, _⟩ := h.look hc (by simp)
        obtain ⟨h1, h2, h3, h4⟩ := hh
        obtain ⟨⟨P, Q, e1, rfl⟩, _⟩ := getAt_spec ρ 8 c off 64 true _ h1 h2 hg
        refine ⟨_, _, rfl, fun k hk => ?_⟩
        rw [cell_of_row w _ _ _ _ _ h4]
        rw [cells_by] at e1
        simp only [List.getElem?_toArray, e1]
        exact getElem?_mid P _ Q k (by rw [byCells_length]; exact hk)
      · simp at hb
    · simp at hb
  · rename_i id esz i off
    split at hb
    · rename_i own esz' l hc
      split at hb
      · rename_i he
        have he := beq_iff_eq.1 he
        subst he
        split at hb
        · rename_i r hg
          split at hb <;> simp only [Option.some.injEq, Prod.mk.injEq, reduceCtorEq] at hb
          rename_i b'
          obtain ⟨rfl, rfl⟩ := hb
          obtain ⟨g1, g2, g3, g4⟩ := arr_cells h hc hq
          obtain ⟨⟨P, Q, e1, e2⟩, _⟩ := getAt_spec ρ 8 _ off 64 true _ g1 g2 hg
          have hlg := cells_length ρ _ g1
          rw [cells_by] at e1
          refine ⟨_, _, rfl, fun k hk => ?_⟩
          have hk2 : off + k < esz := by
            rw [← g3, ← hlg, e1]; simp [byCells_length]; omega
          rw [show (ρ.adr id).off + (i * esz + off) + k = (ρ.adr id).off + (i * esz + (off + k)) by omega, g4 _ hk2, e1, e2]
          exact getElem?_mid P _ Q k (by rw [byCells_length]; exact hk)
        · simp at hb
      · simp at hb
    · simp at hb
  · simp at hb

theorem fold_bytes : ∀ (l : List Int) (s : ByteArray), (l.foldl (fun r n => r.push (UInt8.ofNat n.toNat)) s).data = s.data ++ (l.map fun i => UInt8.ofNat i.toNat).toArray
  | [], s => by simp
  | x :: l, s => by
    rw [List.foldl_cons, fold_bytes l]
    simp [ByteArray.push]
theorem fold_bofI (l : List Int) : l.foldl (fun r n => r.push (UInt8.ofNat n.toNat)) ByteArray.empty = bofI l := by
  apply ByteArray.ext
  rw [fold_bytes]
  simp [bofI]

/-- Bytes as a string. -/
def cvS (P : Program) (res : List Res) (s d : Nat) (x : V) : Option (Option Prop × V) :=
  match P.underlying s, P.underlying d with
  | some (.slice e), some .string => match P.underlying e with
    | some (.int k) => if k == .u8 then match x with
        | .bs p lo hi => match bytesV res p with
          | some r => some (r.1, .st (bsub r.2 lo hi))
          | none => none
        | .sa id => match rlook res id with
          | .arr _ esz l => match l with
            | .it k' m => if esz == 1 && k' == .u8 then some (none, .st (bofI m)) else none
            | _ => none
          | _ => none
        | _ => none
      else none
    | _ => none
  | _, _ => none

theorem bofI_sub (b : Bytes) (lo hi : Nat) (h : hi ≤ 64) : bofI ((List.range (hi - lo)).map fun k => ((b.at (lo + k)).toNat : Int)) = bsub b lo hi := by
  apply ByteArray.ext
  unfold bofI bsub
  apply Array.ext
  · simp; omega
  · intro i h1 h2
    simp at h1
    have : lo + i < 64 := by omega
    simp [Bytes.at, Array.getD_eq_getD_getElem?, Array.getElem?_eq_getElem, this]

theorem cvS_spec {P : Program} {s d : Nat} {x r : V} {q : Option Prop} (h : HRep ρ fps res K w0 F0 w) (hl : cvS P res s d x = some (q, r)) (hq : holdsO q) (hx : ok K x) :
    (convert s d (den ρ x)).run P w = .ok (den ρ r) w ∧ ok K r := by
  unfold cvS at hl
  split at hl
  case h_2 => simp at hl
  rename_i e hs hd
  split at hl
  case h_2 => simp at hl
  rename_i k he
  split at hl
  case isFalse => simp at hl
  rename_i hk
  have hk := beq_iff_eq.1 hk
  subst hk
  split at hl
  · rename_i p lo hi
    split at hl
    case h_2 => simp at hl
    rename_i qb hb
    obtain ⟨q', b⟩ := qb
    simp only [Option.some.injEq, Prod.mk.injEq] at hl
    obtain ⟨rfl, rfl⟩ := hl
    obtain ⟨g, o, hg, hc⟩ := bytesV_spec h hb hq
    obtain ⟨_, h1, h2⟩ := hx
    refine ⟨?_, trivial⟩
    simp only [den, hg, bsDen]
    rw [run_convert_bytes_string w s d e _ _ _ hs he hd]
    have hload : (loadCells (if lo = 64 then (⟨g, o, none⟩ : Addr) else (⟨g, o, none⟩ : Addr).add lo) (hi - lo)).run P w = .ok ((((List.range (hi - lo)).map fun k => ((b.at (lo + k)).toNat : Int)).map (Value.int .u8)).toArray) w := by
      have := run_loadCells_list (P := P) w (if lo = 64 then (⟨g, o, none⟩ : Addr) else (⟨g, o, none⟩ : Addr).add lo) (((List.range (hi - lo)).map fun k => ((b.at (lo + k)).toNat : Int)).map (Value.int .u8)) (fun j v hv => by
        have hj : j < hi - lo := by have := (List.getElem?_eq_some_iff.1 hv).1; simpa using this
        rw [if_neg (by omega), add_lit, add_lit, Nat.add_assoc, hc _ (by omega), ← hv]
        simp [byCells, hj, show lo + j < 64 by omega])
      simpa using this
    rw [run_bytesToString w _ _ _ _ hload, fold_bofI, bofI_sub b lo hi h2]
  · rename_i id
    split at hl
    case h_2 => simp at hl
    rename_i own esz l hr
    split at hl
    case h_2 => simp at hl
    rename_i k' m
    split at hl
    case isFalse => simp at hl
    rename_i hc
    simp only [Bool.and_eq_true, beq_iff_eq] at hc
    obtain ⟨rfl, rfl⟩ := hc
    simp only [Option.some.injEq, Prod.mk.injEq] at hl
    obtain ⟨_, rfl⟩ := hl
    refine ⟨?_, trivial⟩
    obtain ⟨fp, hh, _⟩ := h.look hr (by simp)
    obtain ⟨a1, a2, a3, a4, a5, a6, _⟩ := hh
    have hlen : (TL.it .u8 m).len = m.length := rfl
    rw [hlen] at a2 a5 a6
    simp only [den]
    rw [run_convert_bytes_string w s d e _ _ _ hs he hd]
    cases hsa : ρ.sa id with
    | none =>
      have : m = [] := by
        cases m with
        | nil => rfl
        | cons y m => have := a5 (by simp); rw [hsa] at this; simp at this
      subst this
      simp [Conv.bytesToString, bofI, ByteArray.empty, ByteArray.emptyWithCapacity]
      rfl
    | some a =>
      have ha := a4 a hsa
      subst ha
      have hload : (loadCells (ρ.adr id) (ρ.sn id)).run P w = .ok ((m.map (Value.int .u8)).toArray) w := by
        have := run_loadCells_list (P := P) w (ρ.adr id) (m.map (Value.int .u8)) (fun j v hv => by
          have hj : j < m.length := by have := (List.getElem?_eq_some_iff.1 hv).1; simpa using this
          have hsp := a6 (by omega)
          obtain ⟨_, _, _, g4⟩ := arr_cells h hr (i := j) hj
          have g := g4 0 (by omega)
          have : (ρ.adr id).add j = ⟨(ρ.adr id).block, (ρ.adr id).off + j, none⟩ := by
            cases had : ρ.adr id with
            | mk bb oo ss => rw [had] at hsp; simp only at hsp; subst hsp; rw [add_lit]
          rw [this, ← hv]
          simp only [Nat.mul_one, Nat.add_zero] at g
          rw [g]
          simp [TL.get, cells, den, Value.cells, lget, hj])
        simpa [a2] using this
      rw [run_bytesToString w _ _ _ _ hload, fold_bofI]
  · simp at hl

/-- Cells are stored over bytes of a block. -/
theorem put_bytes {P : Program} {id ty off lo n : Nat} {c c' : V} {b b' : Bytes} {xs : List Value} (h : HRep ρ fps res K w0 F0 w) (hr : rget res id = .blk ty c) (hg : getAt 8 c off 64 true = some (.by b)) (hs : setAt 8 c off (.by b') = some c')
    (hlo : lo + n ≤ 64) (hx : xs.length = n) (hb : byCells b' = (byCells b).take lo ++ xs ++ (byCells b).drop (lo + n)) (h1 : ∀ v ∈ xs, v.oneCell' = true) :
    ∃ w', (storeCells ⟨ρ.num id, off + lo, none⟩ xs).run P w = .ok () w' ∧ HRep ρ fps (rset res id (.blk ty c')) K w0 F0 w' ∧ ∀ i, known (rset res id (.blk ty c')) i ↔ known res i := by
  have hk : known res id := by unfold known; rw [hr]; simp
  have hh := h.holds id hk
  rw [hr] at hh
  obtain ⟨k1, k2, k3, k4⟩ := hh
  obtain ⟨⟨p, q, e1, e2⟩, _⟩ := getAt_spec ρ 8 c off 64 true _ k1 k2 hg
  obtain ⟨⟨p', m, q', f1, f2, f3, f4⟩, _, f6, f7⟩ := setAt_spec ρ (.by b') (N := K) trivial rfl 8 c off c' k1 k2 hs
  rw [cells_by] at e1 f2
  have hbl := byCells_length b
  obtain ⟨rfl, rfl, rfl⟩ := append_inj_mid (f1.symm.trans e1) (by omega) (by rw [f4, hbl]; rfl)
  have hcl : (cells ρ c).length = p'.length + 64 + q'.length := by rw [e1]; simp [hbl]; omega
  have hst := run_storeCells_at (P := P) (ρ.num id) (off + lo) ty xs 0 (cells ρ c).toArray w k4 (by simp only [List.size_toArray]; omega) h1
  have hrow : (cells ρ c).take (off + lo) ++ xs ++ (cells ρ c).drop (off + lo + xs.length) = cells ρ c' := by
    rw [f2, hb, e1, ← f3, hx]
    have t1 : (p' ++ byCells b ++ q').take (p'.length + lo) = p' ++ (byCells b).take lo := by
      rw [List.append_assoc, List.take_append, List.take_of_length_le (by omega)]
      rw [show p'.length + lo - p'.length = lo by omega, List.take_append_of_le_length (by omega)]
    have t2 : (p' ++ byCells b ++ q').drop (p'.length + lo + n) = (byCells b).drop (lo + n) ++ q' := by
      rw [List.append_assoc, List.drop_append, List.drop_of_length_le (by omega)]
      rw [show p'.length + lo + n - p'.length = lo + n by omega, List.drop_append_of_le_length (by omega)]
      rfl
    rw [t1, t2]
    simp
  refine ⟨w.setRow (ρ.num id) (cells ρ c').toArray, ?_, ?_, fun i => ?_⟩
  · simp only [Nat.add_zero] at hst
    rw [hst, hrow]
  · exact h.write hr f6 f7 rfl rfl rfl (by simp [World.setRow]) (setRow_heap w _ _ _ _ (0, 0) k4) fun b hb => setRow_other w _ _ b hb
  · unfold known
    rw [rget_rset _ _ _ _ (rget_lt hk)]
    by_cases e : i = id
    · subst e; simp [hr]
    · simp [e]

theorem byCells_put (b : Bytes) (lo n : Nat) (s : ByteArray) (h : lo + n ≤ 64) : byCells (bput b lo n s) = (byCells b).take lo ++ (List.range n).map (fun k => Value.int .u8 ((sat s k).toNat : Int)) ++ (byCells b).drop (lo + n) := by
  apply List.ext_getElem?
  intro i
  have hbl := byCells_length b
  by_cases hi : i < 64
  · have hl : ∀ b : Bytes, (byCells b)[i]? = some (.int .u8 ((b.at i).toNat : Int)) := fun b => by simp [byCells, hi]
    rw [hl, bput_at _ _ _ _ _ hi, List.append_assoc]
    by_cases h1 : i < lo
    · rw [if_neg (by omega), List.getElem?_append_left (by simp; omega), List.getElem?_take, if_pos h1, hl]
    · rw [List.getElem?_append_right (by simp; omega)]
      simp only [List.length_take, hbl]
      rw [show min lo 64 = lo by omega]
      by_cases h2 : i < lo + n
      · rw [if_pos ⟨by omega, h2⟩, List.getElem?_append_left (by simp; omega)]
        simp [show i - lo < n by omega]
      · rw [if_neg (by omega), List.getElem?_append_right (by simp; omega), List.getElem?_drop]
        simp only [List.length_map, List.length_range]
        rw [show lo + n + (i - lo - n) = i by omega, hl]
  · rw [List.getElem?_eq_none (by rw [byCells_length]; omega), List.getElem?_eq_none (by simp [hbl]; omega)]

/-- A string is copied over bytes. -/
def cpV (C : Ctx) (res : List Res) (ts : List Nat) (xs : List V) : Option (V × List Res) :=
  match ts, xs with
  | [t, _], [d, s] => match C.P.underlying t with
    | some (.slice e) => if tsz C.P e == some 1 then match d with
        | .bs p lo hi => match p with
          | .lp id off => match s with
            | .st z => match rget res id with
              | .blk ty c => match getAt 8 c off 64 true with
                | some r => match r with
                  | .by b => match setAt 8 c off (.by (bcp b lo hi z)) with
                    | some c' => some (.it .i64 (n2i (cpN z lo hi)), rset res id (.blk ty c'))
                    | none => none
                  | _ => none
                | none => none
              | _ => none
            | _ => none
          | _ => none
        | _ => none
      else none
    | _ => none
  | _, _ => none

theorem cpV_spec {ts : List Nat} {xs : List V} {ty : Nat} {r : V} {res' : List Res} (h : HRep ρ fps res K w0 F0 w) (hl : cpV C res ts xs = some (r, res')) (hx : okL K xs) :
    ∃ w', (Builtin.copy_ ts.toArray ty (denL ρ xs).toArray).run C.P w = .ok (den ρ r) w' ∧ HRep ρ fps res' K w0 F0 w' ∧ (∀ i, known res' i ↔ known res i) ∧ ok K r := by
  unfold cpV at hl
  split at hl
  case h_2 => simp at hl
  rename_i t t' d s
  split at hl
  case h_2 => simp at hl
  rename_i e ht
  split at hl
  case isFalse => simp at hl
  rename_i hs
  have hs := beq_iff_eq.1 hs
  split at hl
  case h_2 => simp at hl
  rename_i p lo hi
  split at hl
  case h_2 => simp at hl
  rename_i id off
  split at hl
  case h_2 => simp at hl
  rename_i z
  split at hl
  case h_2 => simp at hl
  rename_i ty' c hr
  split at hl
  case h_2 => simp at hl
  rename_i rb hg
  split at hl
  case h_2 => simp at hl
  rename_i b
  split at hl
  case h_2 => simp at hl
  rename_i c' hset
  simp only [Option.some.injEq, Prod.mk.injEq] at hl
  obtain ⟨rfl, rfl⟩ := hl
  obtain ⟨⟨_, h1, h2⟩, _⟩ := hx
  have hn : cpN z lo hi ≤ hi - lo := Nat.min_le_right _ _
  have hnz : cpN z lo hi ≤ z.size := Nat.min_le_left _ _
  obtain ⟨w', e1, e2, e3⟩ := put_bytes (P := C.P) (n := cpN z lo hi) (xs := (List.range (cpN z lo hi)).map fun k => Value.int .u8 ((sat z k).toNat : Int)) h hr hg hset (by omega) (by simp) (byCells_put b lo _ z (by omega)) (fun v hv => by
    simp only [List.mem_map] at hv; obtain ⟨_, _, rfl⟩ := hv; rfl)
  refine ⟨w', ?_, e2, e3, by simp only [ok, inR, n2i]; omega⟩
  have hcells : ((z.extract 0 (cpN z lo hi)).data.map fun b => Value.int .u8 (b.toNat : Int)).toList = (List.range (cpN z lo hi)).map fun k => Value.int .u8 ((sat z k).toNat : Int) := by
    apply List.ext_getElem?
    intro i
    by_cases hi : i < cpN z lo hi
    · have : i < z.data.size := Nat.lt_of_lt_of_le hi hnz
      simp [sat, hi, ByteArray.data_extract, Array.getElem?_extract, this, Array.getElem?_eq_getElem this]
    · rw [List.getElem?_eq_none (by simp [ByteArray.data_extract]; omega), List.getElem?_eq_none (by simp; omega)]
  have hcells2 := congrArg List.toArray hcells
  simp only [Array.toArray_toList] at hcells2
  have hsz : C.P.info? e = none ∨ ∃ inf, C.P.info? e = some inf := by cases C.P.info? e <;> simp
  have hdst : ∀ xs : List Value, xs = (List.range (cpN z lo hi)).map (fun k => Value.int .u8 ((sat z k).toNat : Int)) → (storeCells (if lo = 64 then (⟨ρ.num id, off, none⟩ : Addr) else (⟨ρ.num id, off, none⟩ : Addr).add lo) xs).run C.P w = .ok () w' := fun xs hxs => by
    subst hxs
    by_cases e : lo = 64
    · have h0 : cpN z lo hi = 0 := by omega
      rw [h0] at e1 ⊢
      simp only [List.range_zero, List.map_nil, storeCells] at e1 ⊢
      exact e1
    · rw [if_neg e, add_lit]; exact e1
  simp only [denL, den, bsDen, Builtin.copy_, List.size_toArray, List.getElem?_toArray]
  simp only [List.getElem?_cons_zero, List.getElem?_cons_succ, Sem.run_bind, run_und w ht, Result.andThen_ok, Builtin.lenOf, Sem.run_pure, run_tsz w hs, Builtin.firstCells]
  rw [show Nat.min z.size (hi - lo) = cpN z lo hi from rfl, hcells2]
  simp only [Sem.run_bind, Result.andThen_ok, hdst _ rfl, Sem.run_pure, goInt, n2i]

/-- Bytes are made noughts. -/
def clrV (C : Ctx) (res : List Res) (ts : List Nat) (xs : List V) : Option (List Res) :=
  match ts, xs with
  | [t], [d] => match C.P.underlying t with
    | some (.slice e) => match C.Z e with
      | some z => match toByte z with
        | some y => if y == 0 then match d with
            | .bs p lo hi => match p with
              | .lp id off => match rget res id with
                | .blk ty c => match getAt 8 c off 64 true with
                  | some r => match r with
                    | .by b => match setAt 8 c off (.by (bclr b lo hi)) with
                      | some c' => some (rset res id (.blk ty c'))
                      | none => none
                    | _ => none
                  | none => none
                | _ => none
              | _ => none
            | _ => none
          else none
        | none => none
      | none => none
    | _ => none
  | _, _ => none

theorem clrV_spec {ts : List Nat} {xs : List V} {ty : Nat} {res' : List Res} (hC : C.ZOK) (h : HRep ρ fps res K w0 F0 w) (hl : clrV C res ts xs = some res') (hx : okL K xs) :
    ∃ w', (Builtin.clear_ ts.toArray ty (denL ρ xs).toArray).run C.P w = .ok (.tuple #[]) w' ∧ HRep ρ fps res' K w0 F0 w' ∧ (∀ i, known res' i ↔ known res i) := by
  unfold clrV at hl
  split at hl
  case h_2 => simp at hl
  rename_i t d
  split at hl
  case h_2 => simp at hl
  rename_i e ht
  split at hl
  case h_2 => simp at hl
  rename_i zv hz
  split at hl
  case h_2 => simp at hl
  rename_i y hy
  split at hl
  case isFalse => simp at hl
  rename_i hy0
  have hy0 := beq_iff_eq.1 hy0
  subst hy0
  split at hl
  case h_2 => simp at hl
  rename_i p lo hi
  split at hl
  case h_2 => simp at hl
  rename_i id off
  split at hl
  case h_2 => simp at hl
  rename_i ty' c hr
  split at hl
  case h_2 => simp at hl
  rename_i rb hg
  split at hl
  case h_2 => simp at hl
  rename_i b
  split at hl
  case h_2 => simp at hl
  rename_i c' hset
  simp only [Option.some.injEq] at hl
  subst hl
  obtain ⟨⟨_, h1, h2⟩, _⟩ := hx
  obtain ⟨w', e1, e2, e3⟩ := put_bytes (P := C.P) (n := hi - lo) (xs := (List.range (hi - lo)).map fun k => Value.int .u8 ((sat ByteArray.empty k).toNat : Int)) h hr hg hset (by omega) (by simp) (byCells_put b lo _ _ (by omega)) (fun v hv => by
    simp only [List.mem_map] at hv; obtain ⟨_, _, rfl⟩ := hv; rfl)
  refine ⟨w', ?_, e2, e3⟩
  have hs0 := sat_empty
  obtain ⟨inf, g1, g2, g3, g4, g5⟩ := hC e zv hz
  have hzc : (den ρ zv).cells = #[.int .u8 0] := by
    have := (toByte_spec ρ hy).1
    simp only [cells] at this
    apply Array.ext'
    simpa using this
  by_cases hz0 : hi - lo = 0
  · rw [hz0] at e1
    simp only [List.range_zero, List.map_nil, storeCells, Sem.run_pure, Result.ok.injEq, true_and] at e1
    subst e1
    simp [denL, den, bsDen, Builtin.clear_, run_und w ht, hz0]
  · have hz1 : hi - lo = (hi - lo - 1) + 1 := by omega
    have hdst : (storeCells (if lo = 64 then (⟨ρ.num id, off, none⟩ : Addr) else (⟨ρ.num id, off, none⟩ : Addr).add lo) (Builtin.zeroCells #[.int .u8 0] (hi - lo)).toList).run C.P w = .ok () w' := by
      rw [if_neg (by omega), add_lit, ← e1]
      congr 1
      congr 1
      unfold Builtin.zeroCells
      apply List.ext_getElem?
      intro i
      simp only [hs0]
      by_cases hi' : i < hi - lo
      · simp [hi', Nat.mod_one]
      · simp [hi']
    rw [hz1] at hdst
    have hzero : (zeroValue e).run C.P w = .ok (den ρ zv) w := by
      simp [zeroValue, typeInfo, g1, g2 ρ]
    simp only [denL, den, bsDen, Builtin.clear_, List.getElem?_toArray, List.getElem?_cons_zero, Sem.run_bind, run_und w ht, Result.andThen_ok]
    rw [hz1]
    simp [hzero, hzc, hdst]
end
end Go.Sx
/- The executor: one operation that does not write, whatever it is, calls by contract among them. No condition. -/
set_option linter.unusedVariables false
set_option linter.unusedSimpArgs false
namespace Go.Sx
open Go.RowKit (Below)

abbrev RR := Option (Option Prop × V × List Res)

def callable (P : Program) (f : Nat) : Bool :=
  match P.funcs[f]? with
  | some fn => fn.name != "runtime.NumGoroutine" && fn.body.isSome
  | none => false

/-- A call by contract. -/
def callV (C : Ctx) (res : List Res) (nid : Nat) (fv : V) (args : List V) : RR :=
  match fv with
  | .fn f caps => match C.Γ f with
    | some g => if callable C.P f then g res nid (args ++ caps) else none
    | none => none
  | _ => none

def lenV (P : Program) (res : List Res) (t : Nat) (x : V) : Option (Option Prop × V) :=
  match P.underlying t with
  | some .string => match x with
    | .st s => some (some (inRo .i64 (szI s)), .it .i64 (szI s))
    | _ => none
  | some (.slice _) => match x with
    | .sa id => match rlook res id with
      | .arr _ _ l => some (none, .it .i64 (n2i l.len))
      | .obs _ _ L => some (none, .it .i64 (n2i (llen L)))
      | _ => none
    | .sc _ len _ => if inR .i64 (len : Int) then some (none, .ci .i64 (len : Int)) else none
    | .ks x _ _ lo hi => if isPt x && inR .i64 ((hi - lo : Nat) : Int) then some (none, .ci .i64 ((hi - lo : Nat) : Int)) else none
    | .nl (.slice none 0 0) => some (none, .ci .i64 0)
    | _ => none
  | some (.array n _) => if inR .i64 (n : Int) then some (none, .ci .i64 (n : Int)) else none
  | _ => none

def minV (x y : V) : Option V :=
  match toInt x, toInt y with
  | some (k, a), some (k', b) => if k == k' then some (.it k (imin a b)) else none
  | _, _ => none
def maxV (x y : V) : Option V :=
  match toInt x, toInt y with
  | some (k, a), some (k', b) => if k == k' then some (.it k (imax a b)) else none
  | _, _ => none

def builtinV (C : Ctx) (res : List Res) (b : Builtin) (ts : List Nat) (xs : List V) : Option (Option Prop × V) :=
  match b, ts, xs with
  | .len, t :: _, [x] => lenV C.P res t x
  | .min, _, [x, y] => (minV x y).map fun r => (none, r)
  | .max, _, [x, y] => (maxV x y).map fun r => (none, r)
  | _, _, _ => none

/-- The choice behind a guard: a && b, a || b. -/
def pickV (c a b : V) : Option V :=
  match toBool c, toBool a, toBool b with
  | some x, some y, some z =>
    if isCb c then some (if x then a else b)
    else match a, b with
      | .cb true, _ => some (.bo (bor x z))
      | .cb false, _ => some (.bo (bnd (bnt x) z))
      | _, .cb false => some (.bo (bnd x y))
      | _, .cb true => some (.bo (bor (bnt x) y))
      | _, _ => some (.bo (bite x y z))
  | _, _, _ => none

theorem pickV_spec {c a b r : V} (h : pickV c a b = some r) : ∃ x y z, toBool c = some x ∧ toBool a = some y ∧ toBool b = some z ∧ toBool r = some (if x then y else z) := by
  unfold pickV at h
  split at h
  · rename_i x y z hc ha hb
    refine ⟨x, y, z, hc, ha, hb, ?_⟩
    split at h
    · simp only [Option.some.injEq] at h
      subst h
      cases x <;> simp_all
    · split at h <;> simp only [Option.some.injEq] at h <;> subst h <;> simp only [toBool, Option.some.injEq] at ha hb ⊢ <;> (try subst ha) <;> (try subst hb) <;> cases x <;> simp_all [bnd, bor, bnt, bite]
  · simp at h

def notV (v : V) (b : Bool) : V :=
  match v with
  | .cb true => .cb false
  | .cb false => .cb true
  | _ => .bo (bnt b)
theorem notV_spec {v : V} {b : Bool} (h : toBool v = some b) : toBool (notV v b) = some (!b) := by
  cases v <;> simp [toBool] at h <;> subst h
  · rename_i b; cases b <;> rfl
  · rfl

/-- A byte of a string, a sum of strings. -/
def isStr (P : Program) (t : Nat) (x i : V) : Option (Option Prop × V) :=
  match P.underlying t, x, toInt i with
  | some .string, .st s, some (_, j) => some (some (pSz s j), .bt (sat s (i2n j)))
  | _, _, _ => none
theorem isStr_spec {P : Program} {ρ : Env} {K : Nat → Prop} {w : World} {t : Nat} {x i r : V} {q : Option Prop} (h : isStr P t x i = some (q, r)) (hq : holdsO q) (hi : ok K i) : (Instr.index t (den ρ x) (den ρ i)).run P w = .ok (den ρ r) w ∧ ok K r := by
  unfold isStr at h
  split at h <;> simp only [Option.some.injEq, Prod.mk.injEq, reduceCtorEq] at h
  rename_i s k j hu hj
  obtain ⟨rfl, rfl⟩ := h
  obtain ⟨h0, h1⟩ := (show pSz s j from hq)
  refine ⟨?_, trivial⟩
  rw [(toInt_spec (ρ := ρ) hj hi).1]
  have hlt : j.toNat < s.size := by omega
  have hg : s[j.toNat]? = some (sat s j.toNat) := by
    have hd : j.toNat < s.data.size := hlt
    rw [getElem?_pos s j.toNat hlt]
    congr 1
    unfold sat
    rw [Array.getD_eq_getD_getElem?, Array.getElem?_eq_getElem hd]; rfl
  simp only [Instr.index, asIntOf, Sem.run_bind, Sem.run_pure, Result.andThen_ok, run_und w hu, den, h0, if_true, hg, i2n]
def catV (op : BinOp) (x y : V) : Option (Option Prop × V) :=
  match op, x, y with
  | .add, .st a, .st b => some (some (pCat a b), .st (scat a b))
  | _, _, _ => none
theorem catV_spec {P : Program} {ρ : Env} {K : Nat → Prop} {op : BinOp} {t : Nat} {x y r : V} {q : Option Prop} (w : World) (o1 o2 : Operand) (h : catV op x y = some (q, r)) (hq : holdsO q) :
    (do eqGuard op t o1 o2 (den ρ x) (den ρ y); binOp op t (den ρ x) (den ρ y)).run P w = .ok (den ρ r) w ∧ ok K r := by
  unfold catV at h
  split at h <;> simp only [Option.some.injEq, Prod.mk.injEq, reduceCtorEq] at h
  rename_i a b
  obtain ⟨rfl, rfl⟩ := h
  have hq : (a.size : Int) + (b.size : Int) ≤ 9223372036854775807 := hq
  have hm : IntKind.i64.max = 9223372036854775807 := rfl
  refine ⟨?_, trivial⟩
  simp [eqGuard, binOp, Op.stringOp, den, scat, hm]
  omega

def opParts (sl : List S) (ch : List (Nat × Bool)) (ps : List (Nat × Operand)) : Option (List (Nat × V)) :=
  allM (fun p : Nat × Operand => (oval sl ch p.2).map fun v => (p.1, v)) ps

/-- An operation that does not write: what it asks, what it gives, what it makes. -/
def opRO (C : Ctx) (sl : List S) (res : List Res) (nid : Nat) (ch : List (Nat × Bool)) : Op → RR
  | .move x => (oval sl ch x).map fun v => (none, v, [])
  | .assign x => (oval sl ch x).map fun v => (none, v, [])
  | .pick c a b => match c with
    | .tmp s => match oval sl ch c with
      | some (.cb x) => if x then (oval sl ch a).map fun v => (none, v, []) else (oval sl ch b).map fun v => (none, v, [])
      | some cv => match oval sl ((s, true) :: ch) a, oval sl ((s, false) :: ch) b with
        | some av, some bv => (pickV cv av bv).map fun v => (none, v, [])
        | _, _ => none
      | none => none
    | _ => none
  | .box t x => match oval sl ch x with
    | some v => if isTp v then none else some (none, .lp nid 0, [.blk t v])
    | none => none
  | .alloc t => match C.Z t with
    | some z => some (none, .lp nid 0, [.blk t z])
    | none => none
  | .makeSlice t x y => match oval sl ch x, oval sl ch y with
    | some a, some b => makeV C nid t a b
    | _, _ => none
  | .makeInterface t x => match oval sl ch x, C.P.underlying t with
    | some v, some d => match d with
      | .interface _ => none
      | _ => some (none, .ic t v, [])
    | _, _ => none
  | .makeMap t r => match r with
    | none => match C.P.underlying t with
      | some (.map kt _) => match C.P.underlying kt with
        | some (.int kd) => some (none, .mp nid, [.mp kd [] []])
        | _ => none
      | _ => none
    | some _ => none
  | .lookup t m x two => match oval sl ch m, oval sl ch x with
    | some mv, some xv => match lookV C res t mv xv two with
      | some y => some (none, y, [])
      | none => none
    | _, _ => none
  | .load t x => match oval sl ch x with
    | some p => (loadV C res t p).map fun r => (r.1, r.2, [])
    | none => none
  | .fieldAddr t x f => match oval sl ch x with
    | some p => (faV C.P t p f).map fun r => (none, r, [])
    | none => none
  | .field t x f => match oval sl ch x with
    | some p => (fdV C.P t p f).map fun r => (none, r, [])
    | none => none
  | .indexAddr t x i => match oval sl ch x, oval sl ch i with
    | some p, some j => (iaV C.P res t p j).map fun r => (r.1, r.2, [])
    | _, _ => none
  | .index t x i => match oval sl ch x, oval sl ch i with
    | some p, some j => match ixV C.P t p j with
      | some r => some (r.1, r.2, [])
      | none => (isStr C.P t p j).map fun r => (r.1, r.2, [])
    | _, _ => none
  | .slice t x lo hi mx => match oval sl ch x, lo.map (oval sl ch), hi.map (oval sl ch), mx with
    | some p, none, none, none => (slV C.P t p none none).map fun r => (r.1, r.2, [])
    | some p, some (some a), none, none => (slV C.P t p (some a) none).map fun r => (r.1, r.2, [])
    | some p, none, some (some b), none => (slV C.P t p none (some b)).map fun r => (r.1, r.2, [])
    | some p, some (some a), some (some b), none => (slV C.P t p (some a) (some b)).map fun r => (r.1, r.2, [])
    | _, _, _, _ => none
  | .nilCheck x => match oval sl ch x with
    | some (.lp i o) => some (none, .lp i o, [])
    | some (.lx a b c d e f) => some (none, .lx a b c d e f, [])
    | some (.ap a b c d) => some (none, .ap a b c d, [])
    | some (.ax a b c d e f g h) => some (none, .ax a b c d e f g h, [])
    | some (.op a b) => some (none, .op a b, [])
    | some (.fn f l) => some (none, .fn f l, [])
    | _ => none
  | .binOp op t x y _ => match oval sl ch x, oval sl ch y with
    | some a, some b => match binV C.P op t a b with
      | some r => some (r.1, r.2, [])
      | none => (catV op a b).map fun r => (r.1, r.2, [])
    | _, _ => none
  | .unOp .not _ x => match oval sl ch x with
    | some v => match toBool v with
      | some b => some (none, notV v b, [])
      | none => none
    | none => none
  | .unOp .neg _ x => match oval sl ch x with
    | some v => match toInt v with
      | some (k, n) => if isCi v then (if inR k (0 - n) then some (none, .ci k (0 - n), []) else none) else some (some (inRo k (isub 0 n)), .it k (isub 0 n), [])
      | none => none
    | none => none
  | .convert s d x => match oval sl ch x with
    | some v => match cvV C.P s d v with
      | some r => some (r.1, r.2, [])
      | none => (cvS C.P res s d v).map fun r => (r.1, r.2, [])
    | none => none
  | .extract x i => match oval sl ch x with
    | some (.tp l) => (l[i]?).map fun v => (none, v, [])
    | _ => none
  | .makeFunc (.func f) first caps => if first.isEmpty then (ovals sl ch caps.toList).map fun l => (none, .fn f l, []) else none
  | .build t ps => match opParts sl ch ps.toList with
    | some l => (buildV C t l).map fun r => (none, r, [])
    | none => none
  | .buildSlice t n ps => match opParts sl ch ps.toList with
    | some l => (bsV C t n l nid).map fun r => (none, r.1, r.2)
    | none => none
  | .call c => match c.callee with
    | .value f => match oval sl ch f, ovals sl ch c.args.toList with
      | some fv, some vs => callV C res nid fv vs
      | _, _ => none
    | .builtin b => match ovals sl ch c.args.toList with
      | some vs => match b with
        | .append => appW C res nid c.argTypes.toList vs
        | b => (builtinV C res b c.argTypes.toList vs).map fun r => (r.1, r.2, [])
      | none => none
    | .invoke _ _ => none
  | _ => none

/-- A fence that lets all functions in that are there, in a round or not. -/
def FF (P : Program) (ro : Option Nat) : Fence := { fn := fun f => (P.funcs[f]?).isSome = true, depth := none, alive := false, round := ro }
theorem ff_room (P : Program) (ro : Option Nat) (n : Nat) : (FF P ro).room n := fun _ h => by simp [FF] at h
theorem ff_calls {P : Program} {ro ro' : Option Nat} {n n' f : Nat} {args : Array Value} {w : World} {R : Ending → World → Prop} (h : CallsIn (FF P ro) n P f args w R) : CallsIn (FF P ro') n' P f args w R :=
  ⟨h.1, fun cs _ => h.2 cs (ff_room P ro _)⟩
theorem ff_out {P : Program} {ro : Option Nat} {n f : Nat} {args : Array Value} {w : World} {R : Ending → World → Prop} (h : CallsIn (FF P ro) n P f args w R) : Calls P f args w R := h.calls (fun k => ff_room P ro k)

def notDefer (o : Oper) : Prop := ∀ c, o.op ≠ .defer c

/-- Is a function there that is called? -/
def exB (P : Program) (f : Nat) : Bool := (P.funcs[f]?).isSome
def abV (P : Program) : V → Bool
  | .fn g _ => exB P g
  | .ch _ g _ y => exB P g && abV P y
  | .yl _ => true
  | .nl v => match v with
    | .nilFunc => true
    | _ => false
  | _ => false
def abB (P : Program) (sl : List S) (o : Oper) : Bool :=
  match o.op with
  | .call c => match c.callee with
    | .builtin _ => true
    | .invoke _ _ => false
    | .value f => match f with
      | .func g => exB P g
      | .tmp t => match sget sl t with
        | .v x => abV P x
        | .gv _ x => abV P x
        | .ud => true
        | _ => false
      | _ => false
  | _ => true
theorem abV_spec {P : Program} {ρ : Env} : ∀ (x : V), abV P x = true → ∀ args w d w', (Deferred.ofValue (den ρ x) args).run P w = .ok d w' → ∀ f, d.target.leads P w' d.args = some f → (P.funcs[f]?).isSome = true
  | .fn g l, h, args, w, d, w', hd, f, hf => by
    simp only [den, Deferred.ofValue, Sem.run_pure, Result.ok.injEq] at hd
    obtain ⟨rfl, rfl⟩ := hd
    simp only [Target.leads, Option.some.injEq] at hf
    subst hf
    exact h
  | .ch b g l y, h, args, w, d, w', hd, f, hf => by
    simp only [abV, Bool.and_eq_true] at h
    cases b
    · simp only [den] at hd
      exact abV_spec y h.2 args w d w' hd f hf
    · simp only [den, Deferred.ofValue, Sem.run_pure, Result.ok.injEq] at hd
      obtain ⟨rfl, rfl⟩ := hd
      simp only [Target.leads, Option.some.injEq] at hf
      subst hf
      exact h.1
  | .yl id, h, args, w, d, w', hd, f, hf => by
    simp only [den, Deferred.ofValue, Sem.run_pure, Result.ok.injEq] at hd
    obtain ⟨rfl, rfl⟩ := hd
    simp [Target.leads] at hf
  | .nl v, h, args, w, d, w', hd, f, hf => by
    cases v <;> simp only [abV, Bool.false_eq_true] at h
    simp only [den, Deferred.ofValue, Sem.run_pure, Result.ok.injEq] at hd
    obtain ⟨rfl, rfl⟩ := hd
    simp [Target.leads] at hf
  | .cb _, h, _, _, _, _, _, _, _ | .bo _, h, _, _, _, _, _, _, _ | .ci _ _, h, _, _, _, _, _, _, _ | .it _ _, h, _, _, _, _, _, _, _ | .bt _, h, _, _, _, _, _, _, _ | .st _, h, _, _, _, _, _, _, _
  | .lp _ _, h, _, _, _, _, _, _, _ | .lx _ _ _ _ _ _, h, _, _, _, _, _, _, _ | .sc _ _ _, h, _, _, _, _, _, _, _ | .so _ _, h, _, _, _, _, _, _, _ | .ap _ _ _ _, h, _, _, _, _, _, _, _ | .sa _, h, _, _, _, _, _, _, _
  | .op _ _, h, _, _, _, _, _, _, _ | .ic _ _, h, _, _, _, _, _, _, _ | .ag _, h, _, _, _, _, _, _, _ | .tp _, h, _, _, _, _, _, _, _ | .key _, h, _, _, _, _, _, _, _ | .sl _, h, _, _, _, _, _, _, _ | .by _, h, _, _, _, _, _, _, _
  | .ob _, h, _, _, _, _, _, _, _ | .mp _, h, _, _, _, _, _, _, _ | .ax _ _ _ _ _ _ _ _, h, _, _, _, _, _, _, _ | .bs _ _ _, h, _, _, _, _, _, _, _ | .ks _ _ _ _ _, h, _, _, _, _, _, _, _ => by simp [abV] at h
theorem abB_spec {P : Program} {ρ : Env} {K : Nat → Prop} {sl : List S} {a : Act} {o : Oper} (hF : FRep ρ K sl a) (h : abB P sl o = true) (w : World) : ∀ f, o.about P w a.eval = some f → (P.funcs[f]?).isSome = true := by
  intro f hf
  have hund : ∀ args w1 d w', (Deferred.ofValue undef args).run P w1 = .ok d w' → False := fun args w1 d w' hd => by simp [Deferred.ofValue, undef] at hd
  unfold Oper.about at hf
  unfold abB at h
  split at hf
  · rename_i c hc
    rw [hc] at h
    simp only at h
    split at hf
    · rename_i d w' hd
      unfold resolve at hd
      split at h
      · rename_i b hb
        rw [hb] at hd
        simp only [Sem.run_pure, Result.ok.injEq] at hd
        obtain ⟨rfl, rfl⟩ := hd
        simp [Target.leads] at hf
      · simp at h
      · rename_i g hg
        rw [hg] at hd
        simp only at hd
        split at h
        · rename_i k
          simp only [Act.eval, Deferred.ofValue, Sem.run_pure, Result.ok.injEq] at hd
          obtain ⟨rfl, rfl⟩ := hd
          simp only [Target.leads, Option.some.injEq] at hf
          subst hf
          exact h
        · rename_i t
          have hs := hF.2 t
          have he : a.eval (.tmp t) = a.tmps.getD t undef := rfl
          rw [he] at hd
          split at h
          · rename_i x hx
            rw [hx] at hs
            rw [hs.1] at hd
            exact abV_spec x h _ _ _ _ hd f hf
          · rename_i ch x hx
            rw [hx] at hs
            cases hgo : gOf sl ch with
            | true => rw [(hs.1 hgo).1] at hd; exact abV_spec x h _ _ _ _ hd f hf
            | false => rw [hs.2 hgo] at hd; exact (hund _ _ _ _ hd).elim
          · rename_i hx
            rw [hx] at hs
            rw [show a.tmps.getD t undef = undef from hs] at hd
            exact (hund _ _ _ _ hd).elim
          · simp at h
        · simp at h
    · simp at hf
  · simp at hf
theorem oper_in {P : Program} {ro : Option Nat} {o : Oper} {a : Act} {w : World} {next : Act → World → Prop} {Q : Exit → Act → World → Prop} (hd : ro ≠ none → notDefer o) (hab : ∀ f, o.about P w a.eval = some f → (P.funcs[f]?).isSome = true)
    (h : o.uponIn (FF P ro) 0 P a next Q ((execOp a.eval o).run P w)) : o.wpIn (FF P ro) 0 P a w next Q := by
  refine ⟨hab, ?_⟩
  have hs : o.semAt (FF P ro).round a.eval = execOp a.eval o := by
    show o.semAt ro a.eval = _
    cases ro with
    | none => exact Oper.semAt_none _ _
    | some l => exact Oper.semAt_some l _ o (hd (by simp))
  rw [hs]
  exact h

/-- An operation gives a value, at once or by a call that returns. -/
def Yields (P : Program) (o : Oper) (a : Act) (w : World) (R : Value → World → Prop) : Prop :=
  (∃ v w', (execOp a.eval o).run P w = .ok (.value v) w' ∧ R v w') ∨
  ∃ f args, (execOp a.eval o).run P w = .ok (.enter f args) w ∧ CallsIn (FF P none) 0 P f args w fun e w' => ∃ v, e = .returned v ∧ R v w'

theorem Yields.wp {P : Program} {o : Oper} {a : Act} {w : World} {R : Value → World → Prop} {next : Act → World → Prop} {Q : Exit → Act → World → Prop} (h : Yields P o a w R)
    {ro : Option Nat} (hn : ∀ v w', R v w' → next (a.put o.dst v) w') : o.uponIn (FF P ro) 0 P a next Q ((execOp a.eval o).run P w) := by
  rcases h with ⟨v, w', h1, h2⟩ | ⟨f, args, h1, h2⟩
  · rw [h1]; exact hn v w' h2
  · rw [h1]
    refine ⟨fun h => by simp [FF] at h, CallsIn.mono (ff_calls h2) fun e w' ⟨v, he, hr⟩ => ?_⟩
    subst he
    exact hn v w' hr

/-- What a contract gives. -/
def Gives (K : Nat → Prop) (ρ : Env) (nid : Nat) (x : V) (new : List Res) (w0 : World) (F0 : Nat → Prop) (w : World) (v : Value) (w' : World) : Prop :=
  ∃ ρ', Grew K ρ ρ' nid new w0 F0 w w' ∧ v = den ρ' x ∧ ok (fun i => K i ∨ fresh nid new.length i) x

/-- A function that is deferred, and catches values of one type: it puts what they hold where its argument points to. -/
def CatchOK (P : Program) (f ts te : Nat) : Prop :=
  (∀ p w, CallsDIn (FF P none) 0 P f #[p] .returning w fun e u' w' => (∃ v, e = .returned v) ∧ u' = .returning ∧ w' = w) ∧
  ∀ b off ty cs cs' k n w, w.heap[b]? = some (.cells cs ty (0, 0)) → (∀ w1 : World, w1.heap[b]? = some (.cells cs ty (0, 0)) → (Instr.storeAt te (.pointer (some ⟨b, off, none⟩)) (.int k n)).run P w1 = .ok () (w1.setRow b cs')) →
    CallsDIn (FF P none) 0 P f #[.pointer (some ⟨b, off, none⟩)] (.panicking [{ v := .iface ts (.agg #[.int k n]), recovered := false }]) w fun e u' w'' =>
      (∃ v, e = .returned v) ∧ u' = .panicking [{ v := .iface ts (.agg #[.int k n]), recovered := true }] ∧ Below w.heap.size (w.setRow b cs') w''

/-- The context says what is so. -/
structure Ctx.Sound (C : Ctx) : Prop where
  z : C.ZOK
  mixed : C.P.follows .mixedOrders = true
  ct : ∀ f g, C.Γ f = some g → ∀ ρ fps res K w0 F0 w nid args q x new, HRep ρ fps res K w0 F0 w → okL K args → g res nid args = some (q, x, new) → holdsO q →
    (∀ k, k < new.length → ¬ K (nid + k)) →
    (CallsIn (FF C.P none) 0 C.P f (denL ρ args).toArray w fun e w' => ∃ v, e = .returned v ∧ Gives K ρ nid x new w0 F0 w v w') ∧ ∀ k, k < new.length → rget new k ≠ .yet
  dk : ∀ f ts te, C.D f = some (ts, te) → CatchOK C.P f ts te

section
variable {C : Ctx} {ρ : Env} {fps : Nat → Nat → Prop} {sl : List S} {res : List Res} {K : Nat → Prop} {w0 w : World} {F0 : Nat → Prop} {a : Act} {nid : Nat} {ch : List (Nat × Bool)}

theorem gives_same {x : V} (hx : ok K x) : Gives K ρ nid x [] w0 F0 w (den ρ x) w :=
  ⟨ρ, Grew.refl _ _ _ _ _ _, rfl, ok_mono (fun _ h => .inl h) x hx⟩

theorem opParts_spec {ps : List (Nat × Operand)} {l : List (Nat × V)} (hF : FRep ρ K sl a) (hg : gOf sl ch = true) (h : opParts sl ch ps = some l) :
    (ps.map fun p => (p.1, a.eval p.2)) = l.map (fun p => (p.1, den ρ p.2)) ∧ ∀ p ∈ l, ok K p.2 := by
  induction ps generalizing l with
  | nil => simp only [opParts, allM, Option.some.injEq] at h; subst h; exact ⟨rfl, by simp⟩
  | cons p ps ih =>
    simp only [opParts, allM] at h
    split at h
    · rename_i y ys hy hys
      simp only [Option.some.injEq] at h
      subst h
      cases hv : oval sl ch p.2 with
      | none => simp [hv] at hy
      | some v =>
        simp only [hv, Option.map_some, Option.some.injEq] at hy
        subst hy
        obtain ⟨e1, e2⟩ := oval_spec hF hg hv
        obtain ⟨i1, i2⟩ := ih hys
        exact ⟨by simp [e1, i1], fun q hq => by
          rcases List.mem_cons.1 hq with rfl | hq
          · exact e2
          · exact i2 q hq⟩
    · simp at h

theorem lenV_spec {t : Nat} {x r : V} {q : Option Prop} (h : HRep ρ fps res K w0 F0 w) (hl : lenV C.P res t x = some (q, r)) (hq : holdsO q) (ts : List Nat) (ty : Nat) :
    (Builtin.len_ (t :: ts).toArray ty #[den ρ x]).run C.P w = .ok (den ρ r) w ∧ ok K r := by
  unfold lenV at hl
  have hge : ∀ (l : List Nat), (t :: l).toArray[0]? = some t := fun l => by simp
  split at hl
  · rename_i hu
    split at hl <;> simp only [Option.some.injEq, Prod.mk.injEq, reduceCtorEq] at hl
    obtain ⟨rfl, rfl⟩ := hl
    exact ⟨by simp [Builtin.len_, den, run_und w hu, goInt, szI], hq⟩
  · rename_i e hu
    split at hl
    · rename_i id
      split at hl <;> simp only [Option.some.injEq, Prod.mk.injEq, reduceCtorEq] at hl
      · rename_i own esz l hc
        obtain ⟨_, rfl⟩ := hl
        obtain ⟨fp, hh, _⟩ := h.look hc (by simp)
        obtain ⟨_, h2, h3, _⟩ := hh
        exact ⟨by simp [Builtin.len_, den, run_und w hu, goInt, h2, n2i], by simp only [ok, inR, n2i]; omega⟩
      · rename_i ty q' L hc
        obtain ⟨_, rfl⟩ := hl
        obtain ⟨fp, hh, _⟩ := h.look hc (by simp)
        obtain ⟨_, _, h2, h3, _⟩ := hh
        exact ⟨by simp [Builtin.len_, den, run_und w hu, goInt, h2, n2i, llen], by simp only [ok, inR, n2i, llen]; omega⟩
    · split at hl <;> simp only [Option.some.injEq, Prod.mk.injEq, reduceCtorEq] at hl
      rename_i hin
      obtain ⟨_, rfl⟩ := hl
      exact ⟨by simp [Builtin.len_, den, run_und w hu, goInt], hin⟩
    · rename_i p z n lo hi
      split at hl <;> simp only [Option.some.injEq, Prod.mk.injEq, reduceCtorEq] at hl
      rename_i hc
      simp only [Bool.and_eq_true, decide_eq_true_eq] at hc
      obtain ⟨_, rfl⟩ := hl
      obtain ⟨b, o, hd⟩ := isPt_den (ρ := ρ) hc.1
      exact ⟨by simp [Builtin.len_, den, ksDen, hd, run_und w hu, goInt], hc.2⟩
    · simp only [Option.some.injEq, Prod.mk.injEq] at hl
      obtain ⟨_, rfl⟩ := hl
      exact ⟨by simp [Builtin.len_, den, run_und w hu, goInt], by simp [ok, inR]⟩
    · simp at hl
  · rename_i n e hu
    split at hl <;> simp only [Option.some.injEq, Prod.mk.injEq, reduceCtorEq] at hl
    rename_i hin
    obtain ⟨_, rfl⟩ := hl
    exact ⟨by simp [Builtin.len_, run_und w hu, goInt, den], hin⟩
  · simp at hl

theorem opRO_spec {o : Oper} {q : Option Prop} {x : V} {new : List Res} (hC : C.Sound) (h : opRO C sl res nid ch o.op = some (q, x, new)) (hF : FRep ρ K sl a) (hH : HRep ρ fps res K w0 F0 w)
    (hg : gOf sl ch = true) (hq : holdsO q) (hfr : ∀ k, k < new.length → ¬ K (nid + k)) :
    Yields C.P o a w (Gives K ρ nid x new w0 F0 w) ∧ ∀ k, k < new.length → rget new k ≠ .yet := by
  have pureY : ∀ {y : V}, (execOp a.eval o).run C.P w = .ok (.value (den ρ y)) w → ok K y → x = y → new = [] →
      Yields C.P o a w (Gives K ρ nid x new w0 F0 w) ∧ ∀ k, k < new.length → rget new k ≠ .yet := by
    intro y h1 h2 h3 h4
    subst h3; subst h4
    exact ⟨.inl ⟨_, _, h1, gives_same h2⟩, fun k hk => by simp at hk⟩
  have ov : ∀ {o : Operand} {y : V}, oval sl ch o = some y → a.eval o = den ρ y ∧ ok K y := fun ho => oval_spec hF hg ho
  obtain ⟨dst, op, type, pos, after, guard⟩ := o
  simp only at h
  cases op <;> simp only [opRO, reduceCtorEq] at h
  case move y =>
    cases hy : oval sl ch y with
    | none => simp [hy] at h
    | some v =>
      simp only [hy, Option.map_some, Option.some.injEq, Prod.mk.injEq] at h
      obtain ⟨_, rfl, rfl⟩ := h
      exact pureY (by simp [execOp, (ov hy).1]) (ov hy).2 rfl rfl
  case assign y =>
    cases hy : oval sl ch y with
    | none => simp [hy] at h
    | some v =>
      simp only [hy, Option.map_some, Option.some.injEq, Prod.mk.injEq] at h
      obtain ⟨_, rfl, rfl⟩ := h
      exact pureY (by simp [execOp, (ov hy).1]) (ov hy).2 rfl rfl
  case pick c y z =>
    split at h
    · rename_i s
      split at h
      · rename_i x hc
        obtain ⟨c1, c2⟩ := ov hc
        cases x with
        | true =>
          simp only [if_true] at h
          cases ha : oval sl ch y with
          | none => simp [ha] at h
          | some v =>
            simp only [ha, Option.map_some, Option.some.injEq, Prod.mk.injEq] at h
            obtain ⟨_, rfl, rfl⟩ := h
            exact pureY (by simp [execOp, c1, den, asBool, (ov ha).1]) (ov ha).2 rfl rfl
        | false =>
          simp only [Bool.false_eq_true, if_false] at h
          cases ha : oval sl ch z with
          | none => simp [ha] at h
          | some v =>
            simp only [ha, Option.map_some, Option.some.injEq, Prod.mk.injEq] at h
            obtain ⟨_, rfl, rfl⟩ := h
            exact pureY (by simp [execOp, c1, den, asBool, (ov ha).1]) (ov ha).2 rfl rfl
      rename_i cv _ hc
      split at h
      · rename_i av bv ha hb
        cases hp : pickV cv av bv with
        | none => simp [hp] at h
        | some r =>
          simp only [hp, Option.map_some, Option.some.injEq, Prod.mk.injEq] at h
          obtain ⟨_, rfl, rfl⟩ := h
          obtain ⟨X, Y, Z, e1, e2, e3, e4⟩ := pickV_spec hp
          obtain ⟨c1, c2⟩ := ov hc
          have hraw : raw (sget sl s) = some X := by
            simp only [oval] at hc
            cases hs : sget sl s with
            | und => simp [hs] at hc
            | ud => simp [hs] at hc
            | v y =>
              simp only [hs, Option.some.injEq] at hc
              subst hc
              cases y <;> simp [toBool] at e1 <;> subst e1 <;> rfl
            | gv k y =>
              simp only [hs] at hc
              split at hc <;> simp only [Option.some.injEq, reduceCtorEq] at hc
              subst hc
              cases y <;> simp [toBool] at e1 <;> subst e1 <;> rfl
          have hr : den ρ r = .bool (if X then Y else Z) := toBool_spec e4
          refine pureY (y := r) ?_ (by cases r <;> simp [toBool] at e4 <;> trivial) rfl rfl
          rw [hr]
          simp only [execOp, c1, toBool_spec e1, asBool, Sem.run_bind, Sem.run_pure, Result.andThen_ok]
          cases X with
          | true =>
            have := (oval_spec (ch := (s, true) :: ch) hF (by rw [gOf_cons]; simp [hraw, hg]) ha).1
            simp [this, toBool_spec e2]
          | false =>
            have := (oval_spec (ch := (s, false) :: ch) hF (by rw [gOf_cons]; simp [hraw, hg]) hb).1
            simp [this, toBool_spec e3]
      · simp at h
      · simp at h
    · simp at h
  case box t y =>
    split at h
    · rename_i v hy
      split at h
      · simp at h
      · rename_i ht
        simp only [Option.some.injEq, Prod.mk.injEq] at h
        obtain ⟨_, rfl, rfl⟩ := h
        have hn : ¬ K nid := by simpa using hfr 0 (by simp)
        refine ⟨.inl ⟨_, _, ?_, ρ.setNum nid w.heap.size, Grew.alloc (ty := t) (ov hy).2 (by simpa using ht) hn, rfl, .inr ⟨Nat.le_refl _, by simp⟩⟩, fun k hk => by simp at hk; subst hk; simp [rget]⟩
        simp [execOp, Instr.box, (ov hy).1, newVar, newRow, den, Env.setNum, cells]
    · simp at h
  case alloc t =>
    split at h
    · rename_i z hz
      simp only [Option.some.injEq, Prod.mk.injEq] at h
      obtain ⟨_, rfl, rfl⟩ := h
      have hn : ¬ K nid := by simpa using hfr 0 (by simp)
      obtain ⟨i, h1, h2, h3, h4, h5⟩ := hC.z t z hz
      refine ⟨.inl ⟨_, _, ?_, ρ.setNum nid w.heap.size, Grew.alloc (ty := t) (ok_empty h3) h4 hn, rfl, .inr ⟨Nat.le_refl _, by simp⟩⟩, fun k hk => by simp at hk; subst hk; simp [rget]⟩
      simp [execOp, Instr.alloc, run_zero (ρ := ρ) hC.z hz, newVar, newRow, den, Env.setNum, cells]
    · simp at h
  case makeSlice t y z =>
    split at h
    · rename_i u v hu hv
      obtain ⟨rfl, o', e', l', rfl⟩ := makeV_new h
      have hn : ¬ K nid := by simpa using hfr 0 (by simp)
      obtain ⟨w', ρ', e1, e2⟩ := makeV_spec (ρ := ρ) (w := w) (w0 := w0) (F0 := F0) hC.z h hq hn
      refine ⟨.inl ⟨_, w', ?_, ρ', e2, rfl, .inr ⟨Nat.le_refl _, by simp⟩⟩, fun k hk => by simp at hk; subst hk; simp [rget]⟩
      simp [execOp, (ov hu).1, (ov hv).1, e1]
    · simp at h
  case makeInterface t y =>
    split at h
    · rename_i v d hv hd
      have : ∀ {x' : V} {n' : List Res}, (∀ n, d ≠ .interface n) → some (none, V.ic t v, ([] : List Res)) = some (q, x', n') → x' = x → n' = new → Yields C.P ⟨dst, .makeInterface t y, type, pos, after, guard⟩ a w (Gives K ρ nid x new w0 F0 w) ∧ ∀ k, k < new.length → rget new k ≠ .yet := by
        intro x' n' hni hh h1 h2
        simp only [Option.some.injEq, Prod.mk.injEq] at hh
        obtain ⟨_, rfl, rfl⟩ := hh
        refine pureY (y := .ic t v) ?_ (ov hv).2 h1.symm h2.symm
        cases d <;> first
          | exact absurd rfl (hni _)
          | simp [execOp, (ov hv).1, Instr.makeInterface, run_und w hd, den]
      split at h
      · simp at h
      · rename_i hni
        exact this (fun n e => hni n e) h rfl rfl
    · simp at h
  case makeMap t r =>
    split at h
    case h_2 => simp at h
    split at h
    case h_2 => simp at h
    split at h
    case h_2 => simp at h
    simp only [Option.some.injEq, Prod.mk.injEq] at h
    obtain ⟨_, rfl, rfl⟩ := h
    have hn : ¬ K nid := by simpa using hfr 0 (by simp)
    refine ⟨.inl ⟨_, _, ?_, ρ.setNum nid w.heap.size, Grew.mapNew hn, rfl, .inr ⟨Nat.le_refl _, by simp⟩⟩, fun k hk => by simp at hk; subst hk; simp [rget]⟩
    simp [execOp, show (Instr.makeMap t none).run C.P w = .ok (.map (some w.heap.size)) (w.alloc (.map #[] 0)) from rfl, den, Env.setNum]
  case lookup t m y two =>
    split at h
    case h_2 => simp at h
    rename_i mv xv hm hy
    split at h
    case h_2 => simp at h
    rename_i r hl
    simp only [Option.some.injEq, Prod.mk.injEq] at h
    obtain ⟨_, rfl, rfl⟩ := h
    obtain ⟨e1, e2⟩ := lookV_spec hC.z hH hl (ov hy).2
    exact pureY (by simp [execOp, (ov hm).1, (ov hy).1, e1]) e2 rfl rfl
  case load t y =>
    split at h
    · rename_i p hp
      cases hl : loadV C res t p with
      | none => simp [hl] at h
      | some r =>
        simp only [hl, Option.map_some, Option.some.injEq, Prod.mk.injEq] at h
        obtain ⟨rfl, rfl, rfl⟩ := h
        obtain ⟨e1, e2, _⟩ := loadV_spec hH hl hq (ov hp).2
        exact pureY (by simp [execOp, (ov hp).1, e1]) e2 rfl rfl
    · simp at h
  case fieldAddr t y f =>
    split at h
    · rename_i p hp
      cases hl : faV C.P t p f with
      | none => simp [hl] at h
      | some r =>
        simp only [hl, Option.map_some, Option.some.injEq, Prod.mk.injEq] at h
        obtain ⟨_, rfl, rfl⟩ := h
        obtain ⟨e1, e2, _⟩ := faV_spec (ρ := ρ) (w := w) hl (ov hp).2
        exact pureY (by simp [execOp, (ov hp).1, e1]) e2 rfl rfl
    · simp at h
  case field t y f =>
    split at h
    · rename_i p hp
      cases hl : fdV C.P t p f with
      | none => simp [hl] at h
      | some r =>
        simp only [hl, Option.map_some, Option.some.injEq, Prod.mk.injEq] at h
        obtain ⟨_, rfl, rfl⟩ := h
        obtain ⟨e1, e2, _⟩ := fdV_spec (ρ := ρ) (w := w) hl (ov hp).2
        exact pureY (by simp [execOp, (ov hp).1, e1]) e2 rfl rfl
    · simp at h
  case indexAddr t y i =>
    split at h
    · rename_i p j hp hj
      cases hl : iaV C.P res t p j with
      | none => simp [hl] at h
      | some r =>
        simp only [hl, Option.map_some, Option.some.injEq, Prod.mk.injEq] at h
        obtain ⟨rfl, rfl, rfl⟩ := h
        obtain ⟨e1, e2, _⟩ := iaV_spec hH hl hq (ov hp).2 (ov hj).2
        exact pureY (by simp [execOp, (ov hp).1, (ov hj).1, e1]) e2 rfl rfl
    · simp at h
  case index t y i =>
    split at h
    · rename_i p j hp hj
      cases hl : ixV C.P t p j with
      | none =>
        simp only [hl] at h
        cases hl2 : isStr C.P t p j with
        | none => simp [hl2] at h
        | some r =>
          simp only [hl2, Option.map_some, Option.some.injEq, Prod.mk.injEq] at h
          obtain ⟨rfl, rfl, rfl⟩ := h
          obtain ⟨e1, e2⟩ := isStr_spec (ρ := ρ) (w := w) hl2 hq (ov hj).2
          exact pureY (by simp [execOp, (ov hp).1, (ov hj).1, e1]) e2 rfl rfl
      | some r =>
        simp only [hl, Option.some.injEq, Prod.mk.injEq] at h
        obtain ⟨rfl, rfl, rfl⟩ := h
        obtain ⟨e1, e2, _⟩ := ixV_spec (ρ := ρ) (w := w) hl hq (ov hp).2 (ov hj).2
        exact pureY (by simp [execOp, (ov hp).1, (ov hj).1, e1]) e2 rfl rfl
    · simp at h
  case slice t y lo hi mx =>
    have fin : ∀ (p : V) (l' h' : Option V), oval sl ch y = some p → lo.map a.eval = l'.map (den ρ) → hi.map a.eval = h'.map (den ρ) → mx = none → (∀ v, l' = some v → ok K v) → (∀ v, h' = some v → ok K v) →
        ((slV C.P t p l' h').map fun r => (r.1, r.2, ([] : List Res))) = some (q, x, new) → Yields C.P ⟨dst, .slice t y lo hi mx, type, pos, after, guard⟩ a w (Gives K ρ nid x new w0 F0 w) ∧ ∀ k, k < new.length → rget new k ≠ .yet := by
      intro p l' h' hp hl1 hh1 hmx hl2 hh2 hs
      cases hl : slV C.P t p l' h' with
      | none => simp [hl] at hs
      | some r =>
        simp only [hl, Option.map_some, Option.some.injEq, Prod.mk.injEq] at hs
        obtain ⟨rfl, rfl, rfl⟩ := hs
        obtain ⟨e1, e2⟩ := slV_spec (ρ := ρ) (w := w) hl hq (ov hp).2 hl2 hh2
        subst hmx
        refine pureY ?_ e2 rfl rfl
        simp only [execOp, (ov hp).1, hl1, hh1, Option.map_none]
        rw [Sem.run_bind, e1]; rfl
    split at h
    · rename_i p hp h1 h2
      have e1 : lo = none := by cases lo <;> simp_all
      have e2 : hi = none := by cases hi <;> simp_all
      subst e1; subst e2
      exact fin p none none hp rfl rfl rfl (by simp) (by simp) h
    · rename_i p u hp h1 h2
      obtain ⟨lo', rfl, hu⟩ := Option.map_eq_some_iff.1 h1
      have e2 : hi = none := by cases hi <;> simp_all
      subst e2
      exact fin p (some u) none hp (by simp [(ov hu).1]) rfl rfl (fun v hv => by simp only [Option.some.injEq] at hv; subst hv; exact (ov hu).2) (by simp) h
    · rename_i p u hp h1 h2
      obtain ⟨hi', rfl, hu⟩ := Option.map_eq_some_iff.1 h2
      have e2 : lo = none := by cases lo <;> simp_all
      subst e2
      exact fin p none (some u) hp rfl (by simp [(ov hu).1]) rfl (by simp) (fun v hv => by simp only [Option.some.injEq] at hv; subst hv; exact (ov hu).2) h
    · rename_i p u v hp h1 h2
      obtain ⟨lo', rfl, hu⟩ := Option.map_eq_some_iff.1 h1
      obtain ⟨hi', rfl, hv⟩ := Option.map_eq_some_iff.1 h2
      exact fin p (some u) (some v) hp (by simp [(ov hu).1]) (by simp [(ov hv).1]) rfl (fun z hz => by simp only [Option.some.injEq] at hz; subst hz; exact (ov hu).2) (fun z hz => by simp only [Option.some.injEq] at hz; subst hz; exact (ov hv).2) h
    · simp at h
  case nilCheck y =>
    split at h <;> simp only [Option.some.injEq, Prod.mk.injEq, reduceCtorEq] at h <;> rename_i hy <;> obtain ⟨_, rfl, rfl⟩ := h <;> obtain ⟨e1, e2⟩ := ov hy <;>
      exact pureY (by simp [execOp, e1, den]) e2 rfl rfl
  case binOp op t y z t' =>
    split at h
    · rename_i p j hp hj
      cases hl : binV C.P op t p j with
      | none =>
        simp only [hl] at h
        cases hl2 : catV op p j with
        | none => simp [hl2] at h
        | some r =>
          simp only [hl2, Option.map_some, Option.some.injEq, Prod.mk.injEq] at h
          obtain ⟨rfl, rfl, rfl⟩ := h
          obtain ⟨e1, e2⟩ := catV_spec (P := C.P) (ρ := ρ) (K := K) (t := t) w y z hl2 hq
          exact pureY (by simp only [execOp, (ov hp).1, (ov hj).1]; rw [Sem.run_bind, e1]; rfl) e2 rfl rfl
      | some r =>
        simp only [hl, Option.some.injEq, Prod.mk.injEq] at h
        obtain ⟨rfl, rfl, rfl⟩ := h
        obtain ⟨e1, e2⟩ := binV_spec (ρ := ρ) (K := K) w y z hl hq (ov hp).2 (ov hj).2
        exact pureY (by simp only [execOp, (ov hp).1, (ov hj).1]; rw [Sem.run_bind, e1]; rfl) e2 rfl rfl
    · simp at h
  case unOp op t y =>
    cases op <;> simp only [reduceCtorEq] at h
    · split at h
      · rename_i v hy
        split at h
        · rename_i k n hn
          obtain ⟨e1, e2⟩ := toInt_spec (ρ := ρ) hn (ov hy).2
          split at h
          · split at h <;> simp only [Option.some.injEq, Prod.mk.injEq, reduceCtorEq] at h
            rename_i hin
            obtain ⟨_, rfl, rfl⟩ := h
            refine pureY (y := .ci k (0 - n)) ?_ hin rfl rfl
            simp only [execOp, (ov hy).1, e1, Op.unary, Op.intArith, Sem.run_bind, Sem.run_pure, Result.andThen_ok, wrap_in hin, den]
          · simp only [Option.some.injEq, Prod.mk.injEq] at h
            obtain ⟨rfl, rfl, rfl⟩ := h
            refine pureY (y := .it k (isub 0 n)) ?_ hq rfl rfl
            simp only [execOp, (ov hy).1, e1, Op.unary, Op.intArith, Sem.run_bind, Sem.run_pure, Result.andThen_ok, wrap_in (show inR k (0 - n) from hq), den, isub]
        · simp at h
      · simp at h
    · split at h
      · rename_i v hy
        split at h <;> simp only [Option.some.injEq, Prod.mk.injEq, reduceCtorEq] at h
        rename_i b hb
        obtain ⟨_, rfl, rfl⟩ := h
        have hnb := notV_spec hb
        refine pureY (y := notV v b) ?_ (by generalize notV v b = z at hnb; cases z <;> simp [toBool] at hnb <;> trivial) rfl rfl
        rw [toBool_spec hnb]
        simp only [execOp, (ov hy).1, toBool_spec hb, Op.unary, Sem.run_bind, Sem.run_pure, Result.andThen_ok]
      · simp at h
  case convert s d y =>
    split at h
    · rename_i p hp
      cases hl : cvV C.P s d p with
      | none =>
        simp only [hl] at h
        cases hl2 : cvS C.P res s d p with
        | none => simp [hl2] at h
        | some r =>
          simp only [hl2, Option.map_some, Option.some.injEq, Prod.mk.injEq] at h
          obtain ⟨rfl, rfl, rfl⟩ := h
          obtain ⟨e1, e2⟩ := cvS_spec (ρ := ρ) (w := w) hH hl2 hq (ov hp).2
          exact pureY (by simp [execOp, (ov hp).1, e1]) e2 rfl rfl
      | some r =>
        simp only [hl, Option.some.injEq, Prod.mk.injEq] at h
        obtain ⟨rfl, rfl, rfl⟩ := h
        obtain ⟨e1, e2, _⟩ := cvV_spec (ρ := ρ) (w := w) hl hq (ov hp).2
        exact pureY (by simp [execOp, (ov hp).1, e1]) e2 rfl rfl
    · simp at h
  case extract y i =>
    split at h
    · rename_i l hy
      cases hl : l[i]? with
      | none => simp [hl] at h
      | some v =>
        simp only [hl, Option.map_some, Option.some.injEq, Prod.mk.injEq] at h
        obtain ⟨_, rfl, rfl⟩ := h
        obtain ⟨e1, e2⟩ := ov hy
        have : (denL ρ l)[i]? = some (den ρ v) := by rw [denL_eq]; simp [hl]
        refine pureY (y := v) ?_ ((okL_iff _).1 e2 v (List.mem_of_getElem? hl)) rfl rfl
        simp [execOp, e1, den, Instr.extract, this]
    · simp at h
  case makeFunc fn first caps =>
    cases fn <;> simp only [reduceCtorEq] at h
    rename_i f
    split at h
    · rename_i he
      cases hl : ovals sl ch caps.toList with
      | none => simp [hl] at h
      | some l =>
        simp only [hl, Option.map_some, Option.some.injEq, Prod.mk.injEq] at h
        obtain ⟨_, rfl, rfl⟩ := h
        obtain ⟨e1, e2⟩ := ovals_spec hF hg hl
        have hf : first = #[] := by simpa using he
        subst hf
        refine pureY (y := .fn f l) ?_ e2 rfl rfl
        have : caps.map a.eval = (denL ρ l).toArray := by apply Array.ext'; simp [e1]
        simp [execOp, Instr.makeFunc, den, this]
    · simp at h
  case build t ps =>
    split at h
    · rename_i l hl
      obtain ⟨e1, e2⟩ := opParts_spec hF hg hl
      cases hb : buildV C t l with
      | none => simp [hb] at h
      | some r =>
        simp only [hb, Option.map_some, Option.some.injEq, Prod.mk.injEq] at h
        obtain ⟨_, rfl, rfl⟩ := h
        obtain ⟨f1, f2, _⟩ := buildV_spec (ρ := ρ) (w := w) hC.z hb e2
        refine pureY (y := r) ?_ f2 rfl rfl
        have : (ps.map fun p => (p.1, a.eval p.2)) = (l.map fun p => (p.1, den ρ p.2)).toArray := by apply Array.ext'; simp [e1]
        simp only [execOp]
        rw [show (ps.map fun (i, x) => (i, a.eval x)) = (l.map fun p => (p.1, den ρ p.2)).toArray from this, Sem.run_bind, f1]
        rfl
    · simp at h
  case buildSlice t n ps =>
    split at h
    · rename_i l hl
      obtain ⟨e1, e2⟩ := opParts_spec hF hg hl
      cases hb : bsV C t n l nid with
      | none => simp [hb] at h
      | some r =>
        obtain ⟨r, new'⟩ := r
        simp only [hb, Option.map_some, Option.some.injEq, Prod.mk.injEq] at h
        obtain ⟨_, rfl, rfl⟩ := h
        have hn : ¬ K nid := by
          unfold bsV at hb
          split at hb
          · split at hb
            · simp at hb
            · split at hb
              · split at hb <;> simp only [Option.some.injEq, Prod.mk.injEq, reduceCtorEq] at hb
                obtain ⟨rfl, rfl⟩ := hb
                simpa using hfr 0 (by simp)
              · simp at hb
          · simp at hb
        obtain ⟨w', ρ', f1, f2, f3, f4⟩ := bsV_spec (ρ := ρ) (w := w) (w0 := w0) (F0 := F0) hC.z hb e2 hn
        refine ⟨.inl ⟨_, w', ?_, ρ', f2, rfl, f3⟩, f4⟩
        have : (ps.map fun p => (p.1, a.eval p.2)) = (l.map fun p => (p.1, den ρ p.2)).toArray := by apply Array.ext'; simp [e1]
        simp only [execOp]
        rw [show (ps.map fun (i, x) => (i, a.eval x)) = (l.map fun p => (p.1, den ρ p.2)).toArray from this, Sem.run_bind, f1]
        rfl
    · simp at h
  case call c =>
    obtain ⟨callee, args, argTypes⟩ := c
    cases callee with
    | invoke r m => simp at h
    | value f =>
      simp only at h
      split at h
      · rename_i fv vs hf has
        obtain ⟨e1, e2⟩ := ov hf
        obtain ⟨e3, e4⟩ := ovals_spec hF hg has
        unfold callV at h
        split at h
        · rename_i g caps
          split at h
          · rename_i ct hct
            split at h
            · rename_i hcall
              have e2' : okL K caps := e2
              obtain ⟨h1, h2⟩ := hC.ct g ct hct ρ fps res K w0 F0 w nid (vs ++ caps) q x new hH (by rw [okL_iff] at e4 e2' ⊢; intro z hz; rcases List.mem_append.1 hz with hz | hz; exact e4 z hz; exact e2' z hz) h hq hfr
              refine ⟨.inr ⟨g, (denL ρ (vs ++ caps)).toArray, ?_, h1⟩, h2⟩
              unfold callable at hcall
              split at hcall
              · rename_i fn hfn
                simp only [Bool.and_eq_true, bne_iff_ne, ne_eq] at hcall
                have hnm : (fn.name == "runtime.NumGoroutine") = false := by simpa using hcall.1
                have hbd : fn.body.isNone = false := by
                  cases hb : fn.body with
                  | none => simp [hb] at hcall
                  | some _ => rfl
                have ha : args.map a.eval = (denL ρ vs).toArray := by apply Array.ext'; simp [e3]
                have hcat : (denL ρ vs).toArray ++ (denL ρ caps).toArray = (denL ρ (vs ++ caps)).toArray := by simp [denL_eq]
                simp only [execOp, resolve, e1, den, Deferred.ofValue, ha, Sem.run_bind, Sem.run_pure, Result.andThen_ok, invoke, callFunc, run_program, hfn, hnm, Bool.false_eq_true, if_false, hbd,
                  Array.empty_append, hcat]
              · simp at hcall
            · simp at h
          · simp at h
        · simp at h
      · simp at h
    | builtin b =>
      simp only at h
      split at h
      · rename_i vs has
        obtain ⟨e3, e4⟩ := ovals_spec hF hg has
        have ha : args.map a.eval = (denL ρ vs).toArray := by apply Array.ext'; simp [e3]
        split at h
        · obtain ⟨rfl, o', e', l', rfl⟩ := appW_new h
          have hn : ¬ K nid := by simpa using hfr 0 (by simp)
          obtain ⟨w', ρ', d1, d2⟩ := appW_spec (ty := type) hC.z hH h hq hn
          refine ⟨.inl ⟨_, w', ?_, ρ', d2, rfl, .inr ⟨Nat.le_refl _, by simp⟩⟩, fun k hk => by simp at hk; subst hk; simp [rget]⟩
          have d1' : (Builtin.append_ argTypes type (denL ρ vs).toArray).run C.P w = .ok (den ρ' (.sa nid)) w' := by simpa using d1
          simp only [execOp, resolve, Sem.run_bind, Sem.run_pure, Result.andThen_ok, invoke, builtin, ha]
          rw [d1']; rfl
        rename_i hnb
        clear hnb
        cases hb : builtinV C res b argTypes.toList vs with
        | none => simp [hb] at h
        | some r =>
          simp only [hb, Option.map_some, Option.some.injEq, Prod.mk.injEq] at h
          obtain ⟨rfl, rfl, rfl⟩ := h
          unfold builtinV at hb
          split at hb
          · rename_i t ts y hts
            have hty : argTypes = (t :: ts).toArray := by rw [← hts]
            obtain ⟨f1, f2⟩ := lenV_spec hH hb hq ts type
            refine pureY (y := r.2) ?_ f2 rfl rfl
            simp only [execOp, resolve, Sem.run_bind, Sem.run_pure, Result.andThen_ok, invoke, builtin, ha, denL, hty]
            rw [f1]; rfl
          · rename_i y z
            cases hm : minV y z with
            | none => simp [hm] at hb
            | some m =>
              simp only [hm, Option.map_some, Option.some.injEq] at hb
              subst hb
              unfold minV at hm
              split at hm
              · rename_i k a1 k' b1 h1 h2
                split at hm <;> simp only [Option.some.injEq, reduceCtorEq] at hm
                rename_i hk
                have hk := beq_iff_eq.1 hk
                subst hk
                subst hm
                obtain ⟨g1, g2⟩ := toInt_spec (ρ := ρ) h1 e4.1
                obtain ⟨g3, g4⟩ := toInt_spec (ρ := ρ) h2 e4.2.1
                refine pureY (y := .it k (imin a1 b1)) ?_ (show inR k (imin a1 b1) by unfold imin; split <;> assumption) rfl rfl
                simp [den, execOp, resolve, invoke, builtin, ha, denL, g1, g3, Builtin.min_, Builtin.min2, imin]
              · simp at hm
          · rename_i y z
            cases hm : maxV y z with
            | none => simp [hm] at hb
            | some m =>
              simp only [hm, Option.map_some, Option.some.injEq] at hb
              subst hb
              unfold maxV at hm
              split at hm
              · rename_i k a1 k' b1 h1 h2
                split at hm <;> simp only [Option.some.injEq, reduceCtorEq] at hm
                rename_i hk
                have hk := beq_iff_eq.1 hk
                subst hk
                subst hm
                obtain ⟨g1, g2⟩ := toInt_spec (ρ := ρ) h1 e4.1
                obtain ⟨g3, g4⟩ := toInt_spec (ρ := ρ) h2 e4.2.1
                refine pureY (y := .it k (imax a1 b1)) ?_ (show inR k (imax a1 b1) by unfold imax; split <;> assumption) rfl rfl
                simp [den, execOp, resolve, invoke, builtin, ha, denL, g1, g3, Builtin.max_, Builtin.max2, imax]
              · simp at hm
          · simp at hb
      · simp at h

end
end Go.Sx
/- The executor: operations that turn places: append. No condition. -/
set_option linter.unusedVariables false
set_option linter.unusedSimpArgs false
namespace Go.Sx
open Go.RowKit (Below)

def goneL : List Nat → List Res → List Res
  | [], l => l
  | t :: ts, l => goneL ts (rset l t .gone)

theorem rset_length (l : List Res) (i : Nat) (r : Res) : (rset l i r).length = l.length := by rw [rset_eq]; simp

theorem goneL_length : ∀ (ts : List Nat) (l : List Res), (goneL ts l).length = l.length
  | [], _ => rfl
  | t :: ts, l => by simp only [goneL]; rw [goneL_length ts, rset_length]

theorem rget_goneL : ∀ (ts : List Nat) (l : List Res) (i : Nat), (∀ t ∈ ts, t < l.length) → rget (goneL ts l) i = if i ∈ ts then .gone else rget l i
  | [], l, i, _ => by simp [goneL]
  | t :: ts, l, i, h => by
    simp only [goneL]
    rw [rget_goneL ts _ i fun u hu => by rw [rset_length]; exact h u (by simp [hu]), rget_rset _ _ _ _ (h t (by simp))]
    by_cases e : i ∈ ts
    · simp [e]
    · by_cases e' : i = t
      · simp [e']
      · simp [e, e']

/-- A new place behind a step that takes some; marks besides. -/
theorem HRep.newres {ρ ρ' : Env} {fps : Nat → Nat → Prop} {res : List Res} {w0 : World} {F0 : Nat → Prop} {w w' : World} (h : HRep ρ fps res (known res) w0 F0 w) (ts : List Nat) (r : Res) (ms : List Res) (fp : Nat → Prop)
    (hms : ∀ m ∈ ms, ∃ j, m = .gen j) (hts : ∀ t ∈ ts, known res t) (hr : r ≠ .yet) (hag : Env.agree (known res) ρ ρ')
    (hh : r.holds (known (goneL ts res ++ r :: ms)) ρ' res.length fp w0 F0 w') (hfp : ∀ b, fp b → (∃ t ∈ ts, fps t b) ∨ (w.heap.size ≤ b ∧ b < w'.heap.size))
    (hos : w'.os = w.os) (htape : w'.tape = w.tape) (hout : w'.output = w.output) (hsize : w.heap.size ≤ w'.heap.size)
    (hsame : ∀ b, b < w.heap.size → (∀ t ∈ ts, ¬ fps t b) → w'.heap[b]? = w.heap[b]?) :
    ∃ fps', HRep ρ' fps' (goneL ts res ++ r :: ms) (known (goneL ts res ++ r :: ms)) w0 F0 w' ∧ Env.agree (known res) ρ ρ' ∧ (∀ i, known res i → known (goneL ts res ++ r :: ms) i) ∧ known (goneL ts res ++ r :: ms) res.length := by
  have hlt : ∀ t ∈ ts, t < res.length := fun t ht => rget_lt (hts t ht)
  have hget : ∀ i, rget (goneL ts res ++ r :: ms) i = if i < res.length then (if i ∈ ts then .gone else rget res i) else if i = res.length then r else rget ms (i - res.length - 1) := by
    intro i
    rw [rget_append, goneL_length]
    by_cases hi : i < res.length
    · rw [if_pos hi, if_pos hi, rget_goneL ts res i hlt]
    · rw [if_neg hi, if_neg hi]
      by_cases e : i = res.length
      · subst e; simp [rget]
      · rw [if_neg e]
        have : ∃ k, i - res.length = k + 1 := ⟨i - res.length - 1, by omega⟩
        obtain ⟨k, hk⟩ := this
        rw [hk]; simp [rget]
  have hmget : ∀ k, rget ms k = .yet ∨ ∃ j, rget ms k = .gen j := fun k => by
    rw [rget_eq, List.getD_eq_getElem?_getD]
    cases hm : ms[k]? with
    | none => exact .inl rfl
    | some m =>
      obtain ⟨j, rfl⟩ := hms m (List.mem_of_getElem? hm)
      exact .inr ⟨j, rfl⟩
  have hmono : ∀ i, known res i → known (goneL ts res ++ r :: ms) i := fun i hi => by
    unfold known
    rw [hget, if_pos (rget_lt hi)]
    split
    · simp
    · exact hi
  have hnew : known (goneL ts res ++ r :: ms) res.length := by
    unfold known
    rw [hget, if_neg (by omega), if_pos rfl]
    exact hr
  obtain ⟨fps', g⟩ := h.turn (res' := goneL ts res ++ r :: ms) (K' := known (goneL ts res ++ r :: ms)) (fun i => i ∈ ts) (fun i => i ∈ ts ∨ res.length ≤ i) (fun i b => i = res.length ∧ fp b)
    (fun i hi => hi) hmono hag (fun i hi hb => by
      have hi' := hi
      unfold known at hi'
      rw [hget] at hi'
      have h1 : i ∉ ts := fun e => hb (.inl e)
      have hl : i < res.length := by
        rcases Nat.lt_or_ge i res.length with h | h
        · exact h
        · exact absurd (.inr h) hb
      rw [if_pos hl, if_neg h1] at hi'
      exact ⟨hi', h1, by rw [hget, if_pos hl, if_neg h1]⟩)
    (fun i hi hb => by
      by_cases e : i = res.length
      · subst e
        refine ⟨?_, fun b hf => ?_⟩
        · rw [hget, if_neg (by omega), if_pos rfl]
          have : (fun b => res.length = res.length ∧ fp b) = fp := by funext b; simp
          rw [this]; exact hh
        · rcases hfp b hf.2 with ⟨t, ht, hft⟩ | hn
          · exact .inl ⟨t, ht, hts t ht, hft⟩
          · exact .inr hn
      · refine ⟨?_, fun b hf => absurd hf.1 e⟩
        rw [hget]
        by_cases hl : i < res.length
        · rw [if_pos hl, if_pos (hb.resolve_right (by omega))]
          trivial
        · rw [if_neg hl, if_neg e]
          rcases hmget (i - res.length - 1) with h | ⟨j, h⟩ <;> rw [h] <;> trivial)
    (fun i j b _ _ hne hf hf' => hne (hf.1.trans hf'.1.symm))
    hos htape hout hsize (fun b hb hno => hsame b hb fun t ht => hno t ht (hts t ht))
  exact ⟨fps', g, hag, hmono, hnew⟩

def lapp {α : Type} (l : List α) (x : α) : List α := l ++ [x]
def pFit (n b : Nat) : Prop := n + 1 ≤ maxLen ∧ (n + 1) * b ≤ 140737488355328

/-- One element more. -/
def tlApp (l : TL) (v : V) : Option TL :=
  match l with
  | .ob l => match v with
    | .ob o => some (.ob (lapp l o))
    | _ => none
  | .key l => match v with
    | .key k => some (.key (lapp l k))
    | _ => none
  | .it k l => match toInt v with
    | some (k', n) => if k == k' then some (.it k (lapp l n)) else none
    | none => none
  | .bo l => match toBool v with
    | some b => some (.bo (lapp l b))
    | none => none
  | .st l => match v with
    | .st s => some (.st (lapp l s))
    | _ => none
  | .fn _ _ => none

def tlNil (v : V) : Option TL :=
  match v with
  | .ob o => some (.ob [o])
  | .key k => some (.key [k])
  | .st s => some (.st [s])
  | _ => match toInt v with
    | some (k, n) => some (.it k [n])
    | none => match toBool v with
      | some b => some (.bo [b])
      | none => none

/-- What an added element is. -/
def Added (K : Nat → Prop) (n : Nat) (g : Nat → V) (v : V) (l' : TL) : Prop :=
  l'.len = n + 1 ∧ (∀ i, i < n → l'.get i = g i) ∧ (∀ ρ, cells ρ (l'.get n) = cells ρ v) ∧ (ok K v → ok (fun _ => False) (l'.get n)) ∧ isTp (l'.get n) = false ∧ vsz (l'.get n) = vsz v

theorem lget_app {α : Type} (l : List α) (x d : α) : (∀ i, i < l.length → lget (lapp l x) i d = lget l i d) ∧ lget (lapp l x) l.length d = x := by
  unfold lget lapp
  refine ⟨fun i hi => ?_, ?_⟩
  · simp [List.getD_eq_getElem?_getD, List.getElem?_append_left hi]
  · simp [List.getD_eq_getElem?_getD]

theorem tlApp_spec {K : Nat → Prop} {l l' : TL} {v : V} (h : tlApp l v = some l') : Added K l.len l.get v l' := by
  unfold tlApp at h
  cases l with
  | fn n g => simp at h
  | ob l =>
    cases v <;> simp only [Option.some.injEq, reduceCtorEq] at h
    subst h
    rename_i o
    obtain ⟨a, b⟩ := lget_app l o free
    exact ⟨by simp [TL.len, llen, lapp], fun i hi => congrArg V.ob (a i hi), fun ρ => by simp only [TL.get, TL.len, llen, b], fun hk => by simp only [TL.get, TL.len, llen, b]; exact hk, rfl, rfl⟩
  | key l =>
    cases v <;> simp only [Option.some.injEq, reduceCtorEq] at h
    subst h
    rename_i o
    obtain ⟨a, b⟩ := lget_app l o void
    exact ⟨by simp [TL.len, llen, lapp], fun i hi => congrArg V.key (a i hi), fun ρ => by simp only [TL.get, TL.len, llen, b], fun hk => by simp only [TL.get, TL.len, llen, b]; exact hk, rfl, rfl⟩
  | it k l =>
    simp only at h
    split at h
    · rename_i k' n hn
      split at h <;> simp only [Option.some.injEq, reduceCtorEq] at h
      rename_i hk
      have hk := beq_iff_eq.1 hk
      subst hk; subst h
      obtain ⟨a, b⟩ := lget_app l n 0
      obtain ⟨c1, c2, c3⟩ := toInt_added (K := K) hn
      exact ⟨by simp [TL.len, llen, lapp], fun i hi => congrArg (V.it k) (a i hi), fun ρ => by simp only [TL.get, TL.len, llen, b]; exact c1 ρ, fun hk => by simp only [TL.get, TL.len, llen, b]; exact c2 hk, rfl, c3⟩
    · simp at h
  | bo l =>
    simp only at h
    split at h <;> simp only [Option.some.injEq, reduceCtorEq] at h
    rename_i b hb
    subst h
    obtain ⟨a, b'⟩ := lget_app l b false
    obtain ⟨c1, c3⟩ := toBool_added hb
    exact ⟨by simp [TL.len, llen, lapp], fun i hi => congrArg V.bo (a i hi), fun ρ => by simp only [TL.get, TL.len, llen, b']; exact c1 ρ, fun _ => trivial, rfl, c3⟩
  | st l =>
    cases v <;> simp only [Option.some.injEq, reduceCtorEq] at h
    subst h
    rename_i o
    obtain ⟨a, b⟩ := lget_app l o ByteArray.empty
    exact ⟨by simp [TL.len, llen, lapp], fun i hi => congrArg V.st (a i hi), fun ρ => by simp only [TL.get, TL.len, llen, b], fun hk => by simp only [TL.get, TL.len, llen, b]; exact hk, rfl, rfl⟩

theorem tlNil_spec {K : Nat → Prop} {l' : TL} {v : V} (h : tlNil v = some l') (g : Nat → V) : Added K 0 g v l' := by
  unfold tlNil at h
  split at h
  · simp only [Option.some.injEq] at h; subst h
    exact ⟨rfl, fun i hi => by omega, fun ρ => rfl, fun h => h, rfl, rfl⟩
  · simp only [Option.some.injEq] at h; subst h
    exact ⟨rfl, fun i hi => by omega, fun ρ => rfl, fun h => h, rfl, rfl⟩
  · simp only [Option.some.injEq] at h; subst h
    exact ⟨rfl, fun i hi => by omega, fun ρ => rfl, fun h => h, rfl, rfl⟩
  · split at h
    · rename_i k n hn
      simp only [Option.some.injEq] at h; subst h
      obtain ⟨c1, c2, c3⟩ := toInt_added (K := K) hn
      exact ⟨rfl, fun i hi => by omega, fun ρ => c1 ρ, fun h => c2 h, rfl, c3⟩
    · split at h <;> simp only [Option.some.injEq, reduceCtorEq] at h
      rename_i b hb
      subst h
      obtain ⟨c1, c3⟩ := toBool_added hb
      exact ⟨rfl, fun i hi => by omega, fun ρ => c1 ρ, fun _ => trivial, rfl, c3⟩

/-- The cells behind. -/
theorem Added.cells {K : Nat → Prop} {n : Nat} {g : Nat → V} {v : V} {l' : TL} (h : Added K n g v l') : l'.cells = ((List.range n).flatMap fun j => Sx.cells Env.zero (g j)) ++ Sx.cells Env.zero v := by
  obtain ⟨h1, h2, h3, _⟩ := h
  unfold TL.cells
  rw [h1, List.range_succ, List.flatMap_append]
  congr 1
  · rw [List.flatMap_def, List.flatMap_def]
    congr 1
    exact List.map_congr_left fun i hi => by rw [h2 i (List.mem_range.1 hi)]
  · simp [h3]

section
variable {C : Ctx} {ρ : Env} {fps : Nat → Nat → Prop} {res : List Res} {w0 w : World} {F0 : Nat → Prop}

theorem run_app1 {K : Nat → Prop} {t ty e b n bty cap : Nat} {inf : TypeInfo} {z c v : V} {xv : Value} {xs : List Value} (ht : C.P.underlying t = some (.slice e)) (hZ : C.Z e = some z) (hC : C.ZOK) (hi : C.P.info? e = some inf) (hsz : 0 < vsz z)
    (hown : w.ownsRow 0 e (vsz z) xv n xs) (hb : w.heap[b]? = some (.cells (cells ρ c).toArray bty (0, 0))) (hok : ok K c) (hct : isTp c = false) (hg : getAt 8 c 0 (vsz z) (isAg z) = some v) (hq : pFit n inf.bytes) :
    ∃ v' w', (Builtin.append_ #[t, t] ty #[xv, .slice (some ⟨b, 0, none⟩) 1 cap]).run C.P w = .ok v' w' ∧ w'.ownsRow 0 e (vsz z) v' (n + 1) (xs ++ cells ρ v) ∧ w.grownBy w' xv.ownBlock ∧ ∀ b', v'.ownBlock = some b' → xv.ownBlock = some b' ∨ w.heap.size ≤ b' := by
  obtain ⟨inf', i1, i2, i3, i4, i5⟩ := hC e z hZ
  rw [hi] at i1
  simp only [Option.some.injEq] at i1
  subst i1
  obtain ⟨⟨p, q, e1, e2⟩, e3, e4, e5, e6⟩ := getAt_spec ρ 8 c 0 _ _ v hok hct hg
  have hp : p = [] := List.length_eq_zero_iff.1 e2.symm
  subst hp
  simp only [List.nil_append] at e1
  have hlv := cells_length ρ v e5
  have hzs : (den Env.zero z).cells.size = vsz z := by rw [← cells_length Env.zero z i3]; simp [cells]
  have hnl : (cells ρ v).length = 1 * vsz z := by rw [hlv, e3]; simp
  have hnc : ∀ j u, (cells ρ v)[j]? = some u → w.cell? ((⟨b, 0, none⟩ : Addr).add j) = some u := fun j u hu => by
    rw [add_lit, Nat.zero_add, cell_of_row w b j _ _ _ hb]
    have hj := (List.getElem?_eq_some_iff.1 hu).1
    simp only [List.getElem?_toArray, e1]
    rw [List.getElem?_append_left hj]; exact hu
  have hone := cells_oneCell ρ v e5 e6
  have hown0 := hown
  rcases hown.2 with ⟨rfl, rfl⟩ | ⟨g, cap', cur, rfl, h2, h3, h4, h5, h6, h7⟩
  · have hx : xs = [] := List.length_eq_zero_iff.1 (by have := hown.1; simpa using this)
    subst hx
    obtain ⟨v', w', g1, g2, g3, _⟩ := run_append_own (P := C.P) w w.heap.size t ty e inf (den Env.zero z) (vsz z) inf.bytes ht hi (i2 Env.zero) i5 rfl hzs hsz (.slice none 0 0) 0 [] (World.ownsRow_nil w _ e _)
      ⟨b, 0, none⟩ 1 cap (cells ρ v) hnl hnc hone hq.1 hq.2 (Nat.le_refl _)
    exact ⟨v', w', g1, ⟨g2.1, g2.2.imp id fun ⟨g, cp, cu, a1, a2, a3⟩ => ⟨g, cp, cu, a1, Nat.zero_le _, a3⟩⟩, g3, fun b' hb' => .inr (g2.lt b' hb').1⟩
  · by_cases hroom : n + 1 ≤ cap'
    · obtain ⟨w', g1, g2, g3⟩ := run_append_fits (P := C.P) w 0 t ty e inf (vsz z) ht hi i5 g n cap' xs hown0 ⟨b, 0, none⟩ 1 cap (cells ρ v) hnl hnc hone hroom
      exact ⟨_, w', g1, g2, g3, fun b' hb' => .inl hb'⟩
    · have holds : ∀ j u, xs[j]? = some u → w.cell? ((⟨g, 0, none⟩ : Addr).add j) = some u := fun j u hu => by
        rw [add_lit, Nat.zero_add, hown0.cellAt j (by rw [← hown0.1]; exact (List.getElem?_eq_some_iff.1 hu).1)]; exact hu
      obtain ⟨v', w', g1, g2, g3⟩ := run_append_arg_grows (P := C.P) w t ty e inf (den Env.zero z) (vsz z) inf.bytes ht hi (i2 Env.zero) i5 rfl hzs hsz ⟨g, 0, none⟩ n cap' xs hown0.1 holds ⟨b, 0, none⟩ 1 cap (cells ρ v) hnl hnc (by omega) hq.1 hq.2
      exact ⟨v', w', g1, ⟨g2.1, g2.2.imp id fun ⟨g, cp, cu, a1, a2, a3⟩ => ⟨g, cp, cu, a1, Nat.zero_le _, a3⟩⟩, ⟨g3.os, g3.tape, g3.output, g3.size, fun k hk _ => g3.block k hk (by simp)⟩, fun b' hb' => .inr (g2.lt b' hb').1⟩

def objOf (res : List Res) (v : V) : Option (Nat × Obj) :=
  match v with
  | .lp p 0 => match rget res p with
    | .blk _ (.ob o) => some (p, o)
    | _ => none
  | _ => none

/-- One element is appended. -/
def appV (C : Ctx) (res : List Res) (t : Nat) (x y : V) : Option (Option Prop × V × List Res) :=
  match C.P.underlying t with
  | some (.slice e) => match C.Z e, C.P.info? e with
    | some z, some inf => match y with
      | .sc k 1 _ => match rget res k with
        | .blk _ c => match getAt 8 c 0 (vsz z) (isAg z) with
          | some v => if Nat.blt 0 (vsz z) then
              match x with
              | .nl (.slice none 0 0) => match objOf res v with
                | some (p, o) => if vsz z == 1 then some (some (pFit 0 inf.bytes), .sa res.length, goneL [p] res ++ [.obs e (res.length + 1) [o], .gen res.length]) else none
                | none => (tlNil v).map fun l => (some (pFit 0 inf.bytes), .sa res.length, goneL [] res ++ [.arr (some e) (vsz z) l])
              | .sa j => match rget res j with
                | .arr (some e') esz l => if e' == e && esz == vsz z then (tlApp l v).map fun l' => (some (pFit l.len inf.bytes), .sa res.length, goneL [j] res ++ [.arr (some e) (vsz z) l']) else none
                | .obs e' _ L => match objOf res v with
                  | some (p, o) => if e' == e && vsz z == 1 then some (some (pFit (llen L) inf.bytes), .sa res.length, goneL [j, p] res ++ [.obs e (res.length + 1) (lapp L o), .gen res.length]) else none
                  | none => none
                | _ => none
              | _ => none
            else none
          | none => none
        | _ => none
      | _ => none
    | _, _ => none
  | _ => none

def Env.setSl (ρ : Env) (i : Nat) (a : Addr) (n cap : Nat) (ob : Nat → Nat) : Env :=
  { num := ρ.num, cap := fun j => if j = i then cap else ρ.cap j, adr := fun j => if j = i then a else ρ.adr j, sa := fun j => if j = i then some a else ρ.sa j, sn := fun j => if j = i then n else ρ.sn j,
    ob := fun j => if j = i + 1 then ob else ρ.ob j }

theorem setSl_agree {N : Nat → Prop} {i : Nat} {a : Addr} {n cap : Nat} {ob : Nat → Nat} (h : ¬ N i) (h' : ¬ N (i + 1)) : Env.agree N ρ (ρ.setSl i a n cap ob) := fun j hj => by
  have e1 : j ≠ i := fun e => h (e ▸ hj)
  have e2 : j ≠ i + 1 := fun e => h' (e ▸ hj)
  simp [Env.setSl, e1, e2]

theorem setSl_sl (i : Nat) (a : Addr) (n cap : Nat) (ob : Nat → Nat) : (ρ.setSl i a n cap ob).sl i = .slice (some a) n cap := by simp [Env.sl, Env.setSl]

/-- A new row behind an append, of values. -/
theorem app_arr {K : Nat → Prop} {w' : World} {e esz n : Nat} {g : Nat → V} {v : V} {v' : Value} {l' : TL} {ts : List Nat} (h : HRep ρ fps res (known res) w0 F0 w) (hts : ∀ t ∈ ts, known res t)
    (hadd : Added K n g v l') (hokv : ok K v) (hvs : vsz v = esz) (hold : ∀ j, j < n → ok (fun _ => False) (g j) ∧ isTp (g j) = false ∧ vsz (g j) = esz)
    (hown : w'.ownsRow 0 e esz v' (n + 1) (((List.range n).flatMap fun j => cells Env.zero (g j)) ++ cells ρ v)) {xv : Value} (hgr : w.grownBy w' xv.ownBlock)
    (hx : ∀ b, xv.ownBlock = some b → ∃ t ∈ ts, fps t b) (hnew : ∀ b, v'.ownBlock = some b → xv.ownBlock = some b ∨ w.heap.size ≤ b) (hm : n + 1 ≤ 9223372036854775807) :
    ∃ ρ' fps', v' = den ρ' (.sa res.length) ∧ HRep ρ' fps' (goneL ts res ++ [.arr (some e) esz l']) (known (goneL ts res ++ [.arr (some e) esz l'])) w0 F0 w' ∧ Env.agree (known res) ρ ρ' ∧
      (∀ i, known res i → known (goneL ts res ++ [.arr (some e) esz l']) i) ∧ known (goneL ts res ++ [.arr (some e) esz l']) res.length := by
  obtain ⟨a1, a2, a3, a4, a5, a6⟩ := hadd
  have hown' := hown
  rcases hown.2 with ⟨_, h0⟩ | ⟨b, cap, cur, rfl, _, hb, _⟩
  · omega
  have hnk : ¬ known res res.length := fun hk => by have := rget_lt hk; omega
  have hnk' : ¬ known res (res.length + 1) := fun hk => by have := rget_lt hk; omega
  have hcz : cells ρ v = cells Env.zero v := by
    rw [← a3 ρ, ← a3 Env.zero]
    exact cells_agree (N := fun _ => False) (fun _ h => h.elim) _ (a4 hokv)
  have hblt : b < w'.heap.size := (Array.getElem?_eq_some_iff.1 hb).1
  obtain ⟨fps', g1, g2, g3, g4⟩ := h.newres (ρ' := ρ.setSl res.length ⟨b, 0, none⟩ (n + 1) cap (fun _ => 0)) (w' := w') ts (.arr (some e) esz l') [] (fun x => x = b) (by simp) hts (by simp) (setSl_agree hnk hnk')
    (by
      refine ⟨fun j hj => ?_, by simp [Env.setSl, a1], by rw [a1]; exact hm, fun a ha => by simp [Env.setSl] at ha ⊢; exact ha.symm, fun _ => by simp [Env.setSl], fun _ => by simp [Env.setSl], .inr ⟨e, fun e' he => by simpa using he.symm, ?_, fun a ha => by simp [Env.setSl] at ha; rw [← ha]⟩⟩
      · by_cases hjn : j < n
        · rw [a2 j hjn]; exact hold j hjn
        · have : j = n := by omega
          subst this
          exact ⟨a4 hokv, a5, a6.trans hvs⟩
      · rw [setSl_sl, a1, Added.cells (K := K) ⟨a1, a2, a3, a4, a5, a6⟩, ← hcz]
        exact hown')
    (fun x hx' => by
      subst hx'
      rcases hnew _ rfl with h1 | h1
      · exact .inl (hx _ h1)
      · exact .inr ⟨h1, hblt⟩)
    hgr.os hgr.tape hgr.output hgr.size (fun x hxl hno => hgr.block x hxl fun hh => by
      obtain ⟨t, ht, hft⟩ := hx x hh.symm
      exact hno t ht hft)
  exact ⟨_, fps', by simp [den, Env.setSl], g1, g2, g3, g4⟩

/-- A new row behind an append, of a pointer to an object. -/
theorem app_obs {w' : World} {e p bty : Nat} {L : List Obj} {o : Obj} {v' : Value} {ts : List Nat} {ob : Nat → Nat} (h : HRep ρ fps res (known res) w0 F0 w) (hts : ∀ t ∈ ts, known res t)
    (hp : p ∈ ts) (hrp : rget res p = .blk bty (.ob o)) (hL : ∀ x ∈ L, x.wf)
    (hobs : ∀ j, j < L.length → (∃ t ∈ ts, fps t (ob j)) ∧ ∃ t, w.heap[ob j]? = some (.cells (obCells (L.getD j free)).toArray t (0, 0)))
    (hown : w'.ownsRow 0 e 1 v' (L.length + 1) (((List.range L.length).map fun j => Value.pointer (some ⟨ob j, 0, none⟩)) ++ cells ρ (.lp p 0))) {xv : Value} (hgr : w.grownBy w' xv.ownBlock)
    (hx : ∀ b, xv.ownBlock = some b → (∃ t ∈ ts, fps t b) ∧ (∀ j, j < L.length → ob j ≠ b) ∧ ρ.num p ≠ b) (hnew : ∀ b, v'.ownBlock = some b → xv.ownBlock = some b ∨ w.heap.size ≤ b) (hm : L.length + 1 ≤ 9223372036854775807) :
    ∃ ρ' fps', v' = den ρ' (.sa res.length) ∧ HRep ρ' fps' (goneL ts res ++ [.obs e (res.length + 1) (lapp L o), .gen res.length]) (known (goneL ts res ++ [.obs e (res.length + 1) (lapp L o), .gen res.length])) w0 F0 w' ∧ Env.agree (known res) ρ ρ' ∧
      (∀ i, known res i → known (goneL ts res ++ [.obs e (res.length + 1) (lapp L o), .gen res.length]) i) ∧ known (goneL ts res ++ [.obs e (res.length + 1) (lapp L o), .gen res.length]) res.length := by
  have hown' := hown
  rcases hown.2 with ⟨_, h0⟩ | ⟨b, cap, cur, rfl, _, hb, _⟩
  · omega
  have hnk : ¬ known res res.length := fun hk => by have := rget_lt hk; omega
  have hnk' : ¬ known res (res.length + 1) := fun hk => by have := rget_lt hk; omega
  have hblt : b < w'.heap.size := (Array.getElem?_eq_some_iff.1 hb).1
  have hkp := hts p hp
  have hhp := h.holds p hkp
  rw [hrp] at hhp
  obtain ⟨p1, _, p3, p4⟩ := hhp
  have p1 : o.wf := p1
  rw [cells_ob] at p4
  have keep : ∀ x y, w.heap[x]? = some y → (∀ b, xv.ownBlock = some b → x ≠ b) → w'.heap[x]? = some y := fun x y hy hne => by
    rw [hgr.block x (Array.getElem?_eq_some_iff.1 hy).1 fun hh => hne x hh.symm rfl]; exact hy
  have hob : ∀ j, j < L.length + 1 → ∃ y, (if j < L.length then ob j else ρ.num p) = y ∧ (∃ t ∈ ts, fps t y) ∧ ∃ t, w'.heap[y]? = some (.cells (obCells ((lapp L o).getD j free)).toArray t (0, 0)) := by
    intro j hj
    by_cases hjl : j < L.length
    · obtain ⟨f1, t, f2⟩ := hobs j hjl
      refine ⟨ob j, by rw [if_pos hjl], f1, t, ?_⟩
      rw [show (lapp L o).getD j free = L.getD j free by simp [lapp, List.getD_eq_getElem?_getD, List.getElem?_append_left hjl]]
      exact keep _ _ f2 fun b hb => (hx b hb).2.1 j hjl
    · refine ⟨ρ.num p, by rw [if_neg hjl], ⟨p, hp, p3⟩, bty, ?_⟩
      have : j = L.length := by omega
      subst this
      rw [show (lapp L o).getD L.length free = o by simp [lapp, List.getD_eq_getElem?_getD]]
      exact keep _ _ p4 fun b hb => (hx b hb).2.2
  have hlen : (lapp L o).length = L.length + 1 := by simp [lapp]
  have hgk : known (goneL ts res ++ [.obs e (res.length + 1) (lapp L o), .gen res.length]) (res.length + 1) := by
    unfold known; rw [rget_append, goneL_length, if_neg (by omega), show res.length + 1 - res.length = 1 by omega]; simp [rget]
  obtain ⟨fps', g1, g2, g3, g4⟩ := h.newres (ρ' := ρ.setSl res.length ⟨b, 0, none⟩ (L.length + 1) cap (fun j => if j < L.length then ob j else ρ.num p)) (w' := w') ts (.obs e (res.length + 1) (lapp L o)) [.gen res.length]
    (fun x => x = b ∨ ∃ j, j < L.length + 1 ∧ x = if j < L.length then ob j else ρ.num p) (by simp) hts (by simp) (setSl_agree hnk hnk')
    (by
      refine ⟨hgk, fun x hx => ?_, by simp [Env.setSl, hlen], by rw [hlen]; exact hm, fun a ha => by simp [Env.setSl] at ha ⊢; exact ⟨ha.symm, .inl (by rw [← ha])⟩, fun _ => by simp [Env.setSl], ?_, fun j hj => ?_⟩
      · rcases List.mem_append.1 hx with hx | hx
        · exact hL x hx
        · simp only [List.mem_singleton] at hx; subst hx; exact p1
      · rw [setSl_sl, hlen]
        have : ((List.range (L.length + 1)).map fun j => Value.pointer (some ⟨(ρ.setSl res.length ⟨b, 0, none⟩ (L.length + 1) cap (fun j => if j < L.length then ob j else ρ.num p)).ob (res.length + 1) j, 0, none⟩)) =
            ((List.range L.length).map fun j => Value.pointer (some ⟨ob j, 0, none⟩)) ++ cells ρ (.lp p 0) := by
          rw [List.range_succ, List.map_append]
          congr 1
          · refine List.map_congr_left fun j hj => ?_
            simp [Env.setSl, List.mem_range.1 hj]
          · simp [Env.setSl, cells, den, Value.cells]
        rw [this]
        exact hown'
      · rw [hlen] at hj
        obtain ⟨y, y1, _, t, y3⟩ := hob j hj
        have hoby : (ρ.setSl res.length ⟨b, 0, none⟩ (L.length + 1) cap (fun j => if j < L.length then ob j else ρ.num p)).ob (res.length + 1) j = y := by simp [Env.setSl, y1]
        rw [hoby]
        exact ⟨.inr ⟨j, hj, y1.symm⟩, t, y3⟩)
    (fun x hx' => by
      rcases hx' with rfl | ⟨j, hj, rfl⟩
      · rcases hnew _ rfl with h1 | h1
        · exact .inl (hx _ h1).1
        · exact .inr ⟨h1, hblt⟩
      · obtain ⟨y, y1, y2, _⟩ := hob j hj
        rw [y1]
        exact .inl y2)
    hgr.os hgr.tape hgr.output hgr.size (fun x hxl hno => hgr.block x hxl fun hh => by
      obtain ⟨t, ht, hft⟩ := (hx x hh.symm).1
      exact hno t ht hft)
  exact ⟨_, fps', by simp [den, Env.setSl], g1, g2, g3, g4⟩

theorem objOf_spec {v : V} {p : Nat} {o : Obj} (h : objOf res v = some (p, o)) : v = .lp p 0 ∧ ∃ bty, rget res p = .blk bty (.ob o) := by
  unfold objOf at h
  split at h
  · split at h <;> simp only [Option.some.injEq, Prod.mk.injEq, reduceCtorEq] at h
    rename_i hr
    obtain ⟨rfl, rfl⟩ := h
    exact ⟨rfl, _, hr⟩
  · simp at h

theorem maxLen_le {n : Nat} (h : n ≤ maxLen) : n ≤ 9223372036854775807 := by
  simp only [maxLen] at h
  omega

theorem ptrs_not_obj {w : World} {e : Nat} {xv : Value} {n : Nat} {f : Nat → Value} (h : w.ownsRow 0 e 1 xv n ((List.range n).map f)) (hf : ∀ j, ∃ a, f j = .pointer a) {b x t : Nat} {o : Obj} (hb : xv.ownBlock = some b)
    (hx : w.heap[x]? = some (.cells (obCells o).toArray t (0, 0))) (hn : 0 < n) : x ≠ b := by
  rintro rfl
  rcases h.2 with ⟨_, h0⟩ | ⟨g, cap, cur, rfl, _, h3, _, _, _, h7⟩
  · omega
  · simp only [Value.ownBlock, Option.some.injEq] at hb
    subst hb
    rw [h3] at hx
    simp only [Option.some.injEq, Go.Obj.cells.injEq] at hx
    rw [hx.1] at h7
    have h0 := congrArg (·[0]?) h7
    obtain ⟨a, ha⟩ := hf 0
    simp [obCells, i64, hn, ha] at h0

theorem appV_spec {t ty : Nat} {x y r : V} {q : Option Prop} {res' : List Res} (hC : C.ZOK) (h : HRep ρ fps res (known res) w0 F0 w) (ha : appV C res t x y = some (q, r, res')) (hq : holdsO q) (hx : ok (known res) x) :
    ∃ w' ρ' fps', (Builtin.append_ #[t, t] ty #[den ρ x, den ρ y]).run C.P w = .ok (den ρ' r) w' ∧ HRep ρ' fps' res' (known res') w0 F0 w' ∧ Env.agree (known res) ρ ρ' ∧ (∀ i, known res i → known res' i) ∧ ok (known res') r := by
  unfold appV at ha
  split at ha
  · rename_i e ht
    split at ha
    · rename_i z inf hZ hi
      split at ha
      · rename_i k cap
        split at ha
        · rename_i bty c hk
          split at ha
          · rename_i v hg
            split at ha
            · rename_i hsz
              have hsz : 0 < vsz z := by simpa using hsz
              have hkk := h.holds k (by unfold known; rw [hk]; simp)
              rw [hk] at hkk
              obtain ⟨c1, c2, c3, c4⟩ := hkk
              obtain ⟨_, v2, v3, v4, v5⟩ := getAt_spec ρ 8 c 0 _ _ v c1 c2 hg
              have run : ∀ {n : Nat} {xv : Value} {xs : List Value}, w.ownsRow 0 e (vsz z) xv n xs → pFit n inf.bytes → _ := fun {n xv xs} ho hf => run_app1 (C := C) (ty := ty) (cap := cap) ht hZ hC hi hsz ho c4 c1 c2 hg hf
              split at ha
              · -- nil
                split at ha
                · rename_i p o hob
                  obtain ⟨rfl, bt, hrp⟩ := objOf_spec hob
                  split at ha <;> simp only [Option.some.injEq, Prod.mk.injEq, reduceCtorEq] at ha
                  rename_i hz1
                  have hz1 := beq_iff_eq.1 hz1
                  obtain ⟨rfl, rfl, rfl⟩ := ha
                  obtain ⟨v', w', g1, g2, g3, g4⟩ := run (World.ownsRow_nil w 0 e (vsz z)) hq
                  rw [hz1] at g2
                  have hkp : known res p := by unfold known; rw [hrp]; simp
                  obtain ⟨ρ', fps', f1, f2, f3, f4, f5⟩ := app_obs (L := []) (ob := fun _ => 0) (ts := [p]) h (by simpa using hkp) (by simp) hrp (by simp) (fun j hj => by simp at hj) g2 g3 (fun b hb => by simp [Value.ownBlock] at hb) g4 (by simp)
                  exact ⟨w', ρ', fps', by rw [← f1]; exact g1, f2, f3, f4, f5⟩
                · cases hl : tlNil v with
                  | none => simp [hl] at ha
                  | some l =>
                    simp only [hl, Option.map_some, Option.some.injEq, Prod.mk.injEq] at ha
                    obtain ⟨rfl, rfl, rfl⟩ := ha
                    obtain ⟨v', w', g1, g2, g3, g4⟩ := run (World.ownsRow_nil w 0 e (vsz z)) hq
                    obtain ⟨ρ', fps', f1, f2, f3, f4, f5⟩ := app_arr (n := 0) (g := fun _ => v) (ts := []) h (by simp) (tlNil_spec (K := known res) hl _) v4 v2 (fun j hj => by omega) (by simpa using g2) g3 (fun b hb => by simp [Value.ownBlock] at hb) g4 (by simp)
                    exact ⟨w', ρ', fps', by rw [← f1]; exact g1, f2, f3, f4, f5⟩
              · rename_i j
                split at ha
                · rename_i e' esz l hj
                  split at ha
                  · rename_i hc
                    simp only [Bool.and_eq_true, beq_iff_eq] at hc
                    obtain ⟨rfl, rfl⟩ := hc
                    cases hl : tlApp l v with
                    | none => simp [hl] at ha
                    | some l' =>
                      simp only [hl, Option.map_some, Option.some.injEq, Prod.mk.injEq] at ha
                      obtain ⟨rfl, rfl, rfl⟩ := ha
                      have hjj := h.holds j (by unfold known; rw [hj]; simp)
                      rw [hj] at hjj
                      obtain ⟨a1, a2, a3, a4, a5, a6, a7⟩ := hjj
                      rcases a7 with ⟨b1, _⟩ | ⟨e2, b1, b2, b3⟩
                      · simp at b1
                      · have := b1 e' rfl
                        subst this
                        obtain ⟨v', w', g1, g2, g3, g4⟩ := run b2 hq
                        obtain ⟨ρ', fps', f1, f2, f3, f4, f5⟩ := app_arr (n := l.len) (g := l.get) (ts := [j]) h (by have hx : known res j := hx; simpa using hx) (tlApp_spec (K := known res) hl) v4 v2 a1 g2 g3 (fun b hb => by
                          refine ⟨j, by simp, ?_⟩
                          cases hs : ρ.sa j with
                          | none => simp [Env.sl, hs, Value.ownBlock] at hb
                          | some a =>
                            simp only [Env.sl, hs, Value.ownBlock, Option.some.injEq] at hb
                            rw [← hb]; exact b3 a hs) g4 (maxLen_le hq.1)
                        exact ⟨w', ρ', fps', by rw [← f1]; exact g1, f2, f3, f4, f5⟩
                  · simp at ha
                · rename_i e' q0 L hj
                  split at ha
                  · rename_i p o hob
                    obtain ⟨rfl, bt, hrp⟩ := objOf_spec hob
                    split at ha <;> simp only [Option.some.injEq, Prod.mk.injEq, reduceCtorEq] at ha
                    rename_i hc
                    simp only [Bool.and_eq_true, beq_iff_eq] at hc
                    obtain ⟨rfl, hz1⟩ := hc
                    obtain ⟨rfl, rfl, rfl⟩ := ha
                    have hkj : known res j := by unfold known; rw [hj]; simp
                    have hkp : known res p := by unfold known; rw [hrp]; simp
                    have hjj := h.holds j hkj
                    rw [hj] at hjj
                    obtain ⟨_, a1, a2, a3, a4, a5, a6, a7⟩ := hjj
                    have hne : j ≠ p := fun e => by rw [e, hrp] at hj; simp at hj
                    have hpp := h.holds p hkp
                    rw [hrp] at hpp
                    obtain ⟨_, _, p3, _⟩ := hpp
                    obtain ⟨v', w', g1, g2, g3, g4⟩ := run (by rw [hz1]; exact a6) hq
                    rw [hz1] at g2
                    obtain ⟨ρ', fps', f1, f2, f3, f4, f5⟩ := app_obs (L := L) (ob := ρ.ob q0) (ts := [j, p]) h (by simp [hkj, hkp]) (by simp) hrp a1 (fun i hi => ⟨⟨j, by simp, (a7 i hi).1⟩, (a7 i hi).2⟩) g2 g3 (fun b hb => by
                      have hb' := hb
                      cases hs : ρ.sa j with
                      | none => simp [Env.sl, hs, Value.ownBlock] at hb
                      | some a =>
                        simp only [den, hs, Value.ownBlock, Option.some.injEq, Env.sl] at hb
                        have hfb : fps j b := by rw [← hb]; exact (a4 a hs).2
                        refine ⟨⟨j, by simp, hfb⟩, fun i hi => ?_, fun e => h.disj j p b hkj hkp hne hfb (e ▸ p3)⟩
                        obtain ⟨_, t, hti⟩ := a7 i hi
                        exact ptrs_not_obj a6 (fun i => ⟨_, rfl⟩) hb' hti (by omega)) g4 (maxLen_le hq.1)
                    exact ⟨w', ρ', fps', by rw [← f1]; exact g1, f2, f3, f4, f5⟩
                  · simp at ha
                · simp at ha
              · simp at ha
            · simp at ha
          · simp at ha
        · simp at ha
      · simp at ha
    · simp at ha
  · simp at ha

end
end Go.Sx
/- The executor: stores into rows that are owned. No condition. -/
set_option linter.unusedVariables false
set_option linter.unusedSimpArgs false
namespace Go.Sx
open Go.RowKit (Below)

theorem take_seg {α : Type} (l vs : List α) (off m : Nat) (hm : off + vs.length ≤ m) (hl : m ≤ l.length) :
    (l.take off ++ vs ++ l.drop (off + vs.length)).take m = (l.take m).take off ++ vs ++ (l.take m).drop (off + vs.length) := by
  have h1 : (l.take off ++ vs).length = off + vs.length := by simp; omega
  rw [List.take_append, List.take_of_length_le (by rw [h1]; exact hm), h1, List.take_take, Nat.min_eq_left (by omega), List.drop_take]

/-- Cells are written in a row that is owned. -/
theorem run_own_store {P : Program} {w : World} {e size n cap g : Nat} {xs : List Value} (hown : w.ownsRow 0 e size (.slice (some ⟨g, 0, none⟩) n cap) n xs) (vs : List Value) (off : Nat)
    (h1 : ∀ v ∈ vs, v.oneCell' = true) (hoff : off + vs.length ≤ n * size) :
    ∃ w', (storeCells ⟨g, off, none⟩ vs 0).run P w = .ok () w' ∧ w'.ownsRow 0 e size (.slice (some ⟨g, 0, none⟩) n cap) n (xs.take off ++ vs ++ xs.drop (off + vs.length)) ∧ w.grownBy w' (some g) := by
  rcases hown.2 with ⟨h, _⟩ | ⟨g', cap', cur, h, hb, hg, hnc, hcm, hcs, htake⟩
  · simp at h
  · simp only [Value.slice.injEq, Option.some.injEq, Addr.mk.injEq, and_true, true_and] at h
    obtain ⟨rfl, rfl⟩ := h
    have hle : n * size ≤ cur.size := by rw [hcs]; exact Nat.mul_le_mul_right _ hnc
    have hst := run_storeCells_at (P := P) g off e vs 0 cur w hg (by omega) h1
    simp only [Nat.add_zero] at hst
    refine ⟨_, hst, ⟨?_, .inr ⟨g, cap, _, rfl, hb, setRow_heap w g cur _ e _ hg, hnc, hcm, ?_, ?_⟩⟩, ⟨rfl, rfl, rfl, by simp [World.setRow], fun k _ hk => setRow_other w g _ k (fun e => hk (by simp [e]))⟩⟩
    · have := hown.1
      simp only [List.length_append, List.length_take, List.length_drop]
      omega
    · simp only [List.size_toArray, List.length_append, List.length_take, List.length_drop, Array.length_toList]
      omega
    · simp only [List.toList_toArray]
      rw [take_seg _ _ _ _ hoff (by simpa using hle), htake]

/-- A place is turned where it is; some are gone; marks are new. -/
theorem HRep.inplace {ρ ρ' : Env} {fps : Nat → Nat → Prop} {res : List Res} {w0 : World} {F0 : Nat → Prop} {w w' : World} (h : HRep ρ fps res (known res) w0 F0 w) (ts : List Nat) (j : Nat) (r : Res) (ms : List Res) (fp : Nat → Prop)
    (hms : ∀ m ∈ ms, ∃ j, m = .gen j) (hts : ∀ t ∈ ts, known res t) (hj : known res j) (hjt : j ∉ ts) (hr : r ≠ .yet) (hag : Env.agree (known res) ρ ρ')
    (hh : r.holds (known (goneL ts (rset res j r) ++ ms)) ρ' j fp w0 F0 w') (hfp : ∀ b, fp b → fps j b ∨ (∃ t ∈ ts, fps t b) ∨ (w.heap.size ≤ b ∧ b < w'.heap.size))
    (hos : w'.os = w.os) (htape : w'.tape = w.tape) (hout : w'.output = w.output) (hsize : w.heap.size ≤ w'.heap.size)
    (hsame : ∀ b, b < w.heap.size → ¬ fps j b → (∀ t ∈ ts, ¬ fps t b) → w'.heap[b]? = w.heap[b]?) :
    ∃ fps', HRep ρ' fps' (goneL ts (rset res j r) ++ ms) (known (goneL ts (rset res j r) ++ ms)) w0 F0 w' ∧ Env.agree (known res) ρ ρ' ∧ (∀ i, known res i → known (goneL ts (rset res j r) ++ ms) i) := by
  have hlj := rget_lt hj
  have hlt : ∀ t ∈ ts, t < (rset res j r).length := fun t ht => by rw [rset_length]; exact rget_lt (hts t ht)
  have hget : ∀ i, rget (goneL ts (rset res j r) ++ ms) i = if i < res.length then (if i ∈ ts then .gone else if i = j then r else rget res i) else rget ms (i - res.length) := by
    intro i
    rw [rget_append, goneL_length, rset_length]
    by_cases hi : i < res.length
    · rw [if_pos hi, if_pos hi, rget_goneL ts _ i hlt, rget_rset _ _ _ _ hlj]
    · rw [if_neg hi, if_neg hi]
  have hmget : ∀ k, rget ms k = .yet ∨ ∃ j, rget ms k = .gen j := fun k => by
    rw [rget_eq, List.getD_eq_getElem?_getD]
    cases hm : ms[k]? with
    | none => exact .inl rfl
    | some m =>
      obtain ⟨j, rfl⟩ := hms m (List.mem_of_getElem? hm)
      exact .inr ⟨j, rfl⟩
  have hmono : ∀ i, known res i → known (goneL ts (rset res j r) ++ ms) i := fun i hi => by
    unfold known
    rw [hget, if_pos (rget_lt hi)]
    split
    · simp
    · split
      · exact hr
      · exact hi
  obtain ⟨fps', g⟩ := h.turn (res' := goneL ts (rset res j r) ++ ms) (K' := known (goneL ts (rset res j r) ++ ms)) (fun i => i ∈ ts ∨ i = j) (fun i => i ∈ ts ∨ i = j ∨ res.length ≤ i) (fun i b => i = j ∧ fp b)
    (fun i hi => hi) hmono hag (fun i hi hb => by
      have hi' := hi
      unfold known at hi'
      rw [hget] at hi'
      have h1 : i ∉ ts := fun e => hb (.inl e)
      have h2 : i ≠ j := fun e => hb (.inr (.inl e))
      have hl : i < res.length := by
        rcases Nat.lt_or_ge i res.length with h | h
        · exact h
        · exact absurd (.inr (.inr h)) hb
      rw [if_pos hl, if_neg h1, if_neg h2] at hi'
      exact ⟨hi', fun e => e.elim h1 h2, by rw [hget, if_pos hl, if_neg h1, if_neg h2]⟩)
    (fun i hi hb => by
      by_cases e : i = j
      · subst e
        refine ⟨?_, fun b hf => ?_⟩
        · rw [hget, if_pos hlj, if_neg hjt, if_pos rfl]
          have : (fun b => i = i ∧ fp b) = fp := by funext b; simp
          rw [this]; exact hh
        · rcases hfp b hf.2 with hf | ⟨t, ht, hft⟩ | hn
          · exact .inl ⟨i, .inr rfl, hj, hf⟩
          · exact .inl ⟨t, .inl ht, hts t ht, hft⟩
          · exact .inr hn
      · refine ⟨?_, fun b hf => absurd hf.1 e⟩
        rw [hget]
        by_cases hl : i < res.length
        · rw [if_pos hl, if_pos (hb.resolve_right fun hh => hh.elim e (by omega))]
          trivial
        · rw [if_neg hl]
          rcases hmget (i - res.length) with h | ⟨j, h⟩ <;> rw [h] <;> trivial)
    (fun i j b _ _ hne hf hf' => hne (hf.1.trans hf'.1.symm))
    hos htape hout hsize (fun b hb hno => hsame b hb (hno j (.inr rfl) hj) fun t ht => hno t (.inl ht) (hts t ht))
  exact ⟨fps', g, hag, hmono⟩

def lset {α : Type} (l : List α) (i : Nat) (x : α) : List α := l.set i x

/-- An element is replaced. -/
def tlSet (l : TL) (i : Nat) (v : V) : Option TL :=
  match l with
  | .ob l => match v with
    | .ob o => some (.ob (lset l i o))
    | _ => none
  | .key l => match v with
    | .key k => some (.key (lset l i k))
    | _ => none
  | .it k l => match toInt v with
    | some (k', n) => if k == k' then some (.it k (lset l i n)) else none
    | none => none
  | .bo l => match toBool v with
    | some b => some (.bo (lset l i b))
    | none => none
  | .st l => match v with
    | .st s => some (.st (lset l i s))
    | _ => none
  | .fn _ _ => none

/-- What a replaced element is. -/
def Setted (K : Nat → Prop) (l : TL) (i : Nat) (v : V) (l' : TL) : Prop :=
  l'.len = l.len ∧ (∀ j, j ≠ i → l'.get j = l.get j) ∧ (i < l.len → (∀ ρ, cells ρ (l'.get i) = cells ρ v) ∧ (ok K v → ok (fun _ => False) (l'.get i)) ∧ isTp (l'.get i) = false ∧ vsz (l'.get i) = vsz v)

theorem lget_set {α : Type} (l : List α) (i : Nat) (x d : α) : (∀ j, j ≠ i → lget (lset l i x) j d = lget l j d) ∧ (i < l.length → lget (lset l i x) i d = x) := by
  unfold lget lset
  refine ⟨fun j hj => ?_, fun hi => ?_⟩
  · simp [List.getD_eq_getElem?_getD, List.getElem?_set, Ne.symm hj]
  · simp [List.getD_eq_getElem?_getD, List.getElem?_set, hi]

theorem tlSet_spec {K : Nat → Prop} {l l' : TL} {i : Nat} {v : V} (h : tlSet l i v = some l') : Setted K l i v l' := by
  unfold tlSet at h
  cases l with
  | fn n g => simp at h
  | ob l =>
    cases v <;> simp only [Option.some.injEq, reduceCtorEq] at h
    subst h
    rename_i o
    obtain ⟨a, b⟩ := lget_set l i o free
    exact ⟨by simp [TL.len, llen, lset], fun j hj => congrArg V.ob (a j hj), fun hi => ⟨fun ρ => by simp only [TL.get, b hi], fun hk => by simp only [TL.get, b hi]; exact hk, rfl, rfl⟩⟩
  | key l =>
    cases v <;> simp only [Option.some.injEq, reduceCtorEq] at h
    subst h
    rename_i o
    obtain ⟨a, b⟩ := lget_set l i o void
    exact ⟨by simp [TL.len, llen, lset], fun j hj => congrArg V.key (a j hj), fun hi => ⟨fun ρ => by simp only [TL.get, b hi], fun hk => by simp only [TL.get, b hi]; exact hk, rfl, rfl⟩⟩
  | it k l =>
    simp only at h
    split at h
    · rename_i k' n hn
      split at h <;> simp only [Option.some.injEq, reduceCtorEq] at h
      rename_i hk
      have hk := beq_iff_eq.1 hk
      subst hk; subst h
      obtain ⟨a, b⟩ := lget_set l i n 0
      obtain ⟨c1, c2, c3⟩ := toInt_added (K := K) hn
      exact ⟨by simp [TL.len, llen, lset], fun j hj => congrArg (V.it k) (a j hj), fun hi => ⟨fun ρ => by simp only [TL.get, b hi]; exact c1 ρ, fun hk => by simp only [TL.get, b hi]; exact c2 hk, rfl, c3⟩⟩
    · simp at h
  | bo l =>
    simp only at h
    split at h <;> simp only [Option.some.injEq, reduceCtorEq] at h
    rename_i b hb
    subst h
    obtain ⟨a, b'⟩ := lget_set l i b false
    obtain ⟨c1, c3⟩ := toBool_added hb
    exact ⟨by simp [TL.len, llen, lset], fun j hj => congrArg V.bo (a j hj), fun hi => ⟨fun ρ => by simp only [TL.get, b' hi]; exact c1 ρ, fun _ => trivial, rfl, c3⟩⟩
  | st l =>
    cases v <;> simp only [Option.some.injEq, reduceCtorEq] at h
    subst h
    rename_i o
    obtain ⟨a, b⟩ := lget_set l i o ByteArray.empty
    exact ⟨by simp [TL.len, llen, lset], fun j hj => congrArg V.st (a j hj), fun hi => ⟨fun ρ => by simp only [TL.get, b hi], fun hk => by simp only [TL.get, b hi]; exact hk, rfl, rfl⟩⟩

theorem flat_len {α : Type} {f : Nat → List α} {esz : Nat} : ∀ {n : Nat}, (∀ j, j < n → (f j).length = esz) → ((List.range n).flatMap f).length = n * esz
  | 0, _ => by simp
  | n + 1, h => by
    rw [List.range_succ, List.flatMap_append, List.length_append, flat_len fun j hj => h j (by omega)]
    simp [h n (by omega), Nat.succ_mul]

theorem flat_set {α : Type} {f f' : Nat → List α} {esz : Nat} : ∀ {n i : Nat}, (∀ j, j < n → (f j).length = esz) → (∀ j, j < n → j ≠ i → f' j = f j) → (f' i).length = esz → i < n →
    (List.range n).flatMap f' = ((List.range n).flatMap f).take (i * esz) ++ f' i ++ ((List.range n).flatMap f).drop (i * esz + esz)
  | 0, i, _, _, _, hi => by omega
  | n + 1, i, h, hf, hl, hi => by
    have hlen : ((List.range n).flatMap f).length = n * esz := flat_len fun j hj => h j (by omega)
    rw [List.range_succ, List.flatMap_append, List.flatMap_append]
    simp only [List.flatMap_cons, List.flatMap_nil, List.append_nil]
    by_cases e : i = n
    · subst e
      have e1 : (List.range i).flatMap f' = (List.range i).flatMap f := by
        rw [List.flatMap_def, List.flatMap_def]
        congr 1
        exact List.map_congr_left fun j hj => hf j (by have := List.mem_range.1 hj; omega) (by have := List.mem_range.1 hj; omega)
      rw [e1, List.take_append, List.take_of_length_le (by omega), hlen, Nat.sub_self, List.take_zero, List.append_nil, List.drop_of_length_le (by simp [hlen, h i (by omega)]), List.append_nil]
    · have hin : i < n := by omega
      have hm : i * esz + esz ≤ n * esz := by rw [← Nat.succ_mul]; exact Nat.mul_le_mul_right _ hin
      rw [flat_set (fun j hj => h j (by omega)) (fun j hj hne => hf j (by omega) hne) hl hin, hf n (by omega) (fun e' => e e'.symm)]
      rw [List.take_append_of_le_length (by omega), List.drop_append_of_le_length (by omega)]
      simp only [List.append_assoc]

/-- A store into a row that is owned. -/
def storeW (P : Program) (res : List Res) (t : Nat) (p y : V) : Option (Option Prop × List Res) :=
  match p with
  | .ap j esz i off => if tsz P t == some (vsz y) && !isTp y && vsz y == esz && off == 0 then
      match rget res j with
      | .arr (some e) esz' l => if esz == esz' then (tlSet l i y).map fun l' => (some (pLt i l.len), rset res j (.arr (some e) esz l')) else none
      | .obs ty _ L => match objOf res y with
        | some (k, o) => if esz == 1 then some (some (pLt i (llen L)), goneL [k] (rset res j (.obs ty res.length (lset L i o))) ++ [.gen j]) else none
        | none => none
      | _ => none
    else none
  | _ => none

def Env.setOb (ρ : Env) (q : Nat) (f : Nat → Nat) : Env := { ρ with ob := fun j => if j = q then f else ρ.ob j }

theorem setOb_agree {N : Nat → Prop} {ρ : Env} {q : Nat} {f : Nat → Nat} (h : ¬ N q) : Env.agree N ρ (ρ.setOb q f) := fun j hj => by
  have : j ≠ q := fun e => h (e ▸ hj)
  simp [Env.setOb, this]

section
variable {P : Program} {ρ : Env} {fps : Nat → Nat → Prop} {res : List Res} {w0 w : World} {F0 : Nat → Prop}

theorem run_storeVar {t : Nat} {y : V} {K : Nat → Prop} {b off : Nat} {w' : World} (hs : tsz P t = some (vsz y)) (hy : ok K y) (h : (storeCells ⟨b, off, none⟩ (cells ρ y) 0).run P w = .ok () w') :
    (Instr.storeAt t (.pointer (some ⟨b, off, none⟩)) (den ρ y)).run P w = .ok () w' := by
  have hz : (den ρ y).cells.size = vsz y := by rw [← cells_length ρ y hy]; simp [cells]
  simp only [Instr.storeAt, Instr.sureAddr, storeVar, Sem.run_bind, Sem.run_pure, run_tsz w hs, Result.andThen_ok, hz, ne_eq, not_true_eq_false, if_false]
  rw [show (den ρ y).cells.toList = cells ρ y from rfl, h]

theorem storeW_spec {t : Nat} {p y : V} {q : Option Prop} {res' : List Res} (h : HRep ρ fps res (known res) w0 F0 w) (hs : storeW P res t p y = some (q, res')) (hq : holdsO q) (hp : ok (known res) p) (hy : ok (known res) y) :
    ∃ w' ρ' fps', (Instr.storeAt t (den ρ p) (den ρ y)).run P w = .ok () w' ∧ HRep ρ' fps' res' (known res') w0 F0 w' ∧ Env.agree (known res) ρ ρ' ∧ ∀ i, known res i → known res' i := by
  unfold storeW at hs
  split at hs
  · rename_i j esz i off
    split at hs
    · rename_i hc
      simp only [Bool.and_eq_true, beq_iff_eq, Bool.not_eq_true'] at hc
      obtain ⟨⟨⟨hts, hty⟩, hvs⟩, rfl⟩ := hc
      have hkj : known res j := hp
      have hj := h.holds j hkj
      split at hs
      · rename_i e esz' l hr
        rw [hr] at hj
        split at hs
        · rename_i he
          have he := beq_iff_eq.1 he
          subst he
          cases hl : tlSet l i y with
          | none => simp [hl] at hs
          | some l' =>
            simp only [hl, Option.map_some, Option.some.injEq, Prod.mk.injEq] at hs
            obtain ⟨rfl, rfl⟩ := hs
            have hi : i < l.len := hq
            obtain ⟨s1, s2, s3⟩ := tlSet_spec (K := known res) hl
            obtain ⟨t1, t2, t3, t4⟩ := s3 hi
            obtain ⟨a1, a2, a3, a4, a5, a6, a7⟩ := hj
            rcases a7 with ⟨b1, _⟩ | ⟨e2, b1, b2, b3⟩
            · simp at b1
            · have := b1 e rfl
              subst this
              obtain ⟨g, f1, f2, f3, f4⟩ := owns_form b2 (by omega)
              have hadr := a4 _ f1
              have hm : i * esz + esz ≤ l.len * esz := by rw [← Nat.succ_mul]; exact Nat.mul_le_mul_right _ hi
              have hlen : ∀ j, j < l.len → (cells Env.zero (l.get j)).length = esz := fun j hj => by rw [cells_length Env.zero _ (a1 j hj).1]; exact (a1 j hj).2.2
              have hsl : ρ.sl j = .slice (some ⟨g, 0, none⟩) l.len (ρ.cap j) := by simp [Env.sl, f1, f2]
              rw [hsl] at b2
              have hcy := cells_length ρ y hy
              have hcz : cells ρ y = cells Env.zero (l'.get i) := by
                rw [← t1 ρ]
                exact cells_agree (N := fun _ => False) (fun _ h => h.elim) _ (t2 hy)
              obtain ⟨w', r1, r2, r3⟩ := run_own_store (P := P) b2 (cells ρ y) (i * esz) (cells_oneCell ρ y hy hty) (by omega)
              have hfj : fps j g := b3 _ f1
              obtain ⟨fps', g1, g2, g3⟩ := h.inplace (ρ' := ρ) (w' := w') [] j (.arr (some e) esz l') [] (fps j) (by simp) (by simp) hkj (by simp) (by simp) (Env.agree.refl _ _)
                (by
                  refine ⟨fun k hk => ?_, by rw [s1]; exact a2, by rw [s1]; exact a3, a4, by rw [s1]; exact a5, by rw [s1]; exact a6, .inr ⟨e, fun e' he => by simpa using he.symm, ?_, b3⟩⟩
                  · by_cases ek : k = i
                    · subst ek; exact ⟨t2 hy, t3, t4.trans hvs⟩
                    · rw [s2 k ek]; exact a1 k (by omega)
                  · rw [hsl, s1]
                    have : l'.cells = l.cells.take (i * esz) ++ cells ρ y ++ l.cells.drop (i * esz + (cells ρ y).length) := by
                      unfold TL.cells
                      rw [s1, hcz, flat_set (f := fun j => cells Env.zero (l.get j)) (f' := fun j => cells Env.zero (l'.get j)) (i := i) hlen (fun j _ hne => by simp only [s2 j hne]) (by rw [← hcz, hcy]; exact hvs) hi, ← hcz, hcy, hvs]
                    rw [this]
                    exact r2)
                (fun b hb => .inl hb) r3.os r3.tape r3.output r3.size (fun b hb hno _ => r3.block b hb fun e => hno (by simp only [Option.some.injEq] at e; rw [e]; exact hfj))
              refine ⟨w', ρ, fps', ?_, by simpa [goneL] using g1, g2, by simpa [goneL] using g3⟩
              simp only [den]
              rw [← hadr]
              simp only [Nat.zero_add, Nat.add_zero]
              exact run_storeVar hts hy r1
        · simp at hs
      · rename_i ty q0 L hr
        rw [hr] at hj
        split at hs
        · rename_i k o hob
          obtain ⟨rfl, bt, hrk⟩ := objOf_spec hob
          split at hs <;> simp only [Option.some.injEq, Prod.mk.injEq, reduceCtorEq] at hs
          rename_i he
          have he := beq_iff_eq.1 he
          subst he
          obtain ⟨rfl, rfl⟩ := hs
          have hi : i < L.length := hq
          obtain ⟨a0, a1, a2, a3, a4, a5, a6, a7⟩ := hj
          have hkk : known res k := by unfold known; rw [hrk]; simp
          have hne : j ≠ k := fun e => by rw [e, hrk] at hr; simp at hr
          have hk := h.holds k hkk
          rw [hrk] at hk
          obtain ⟨k1, _, k3, k4⟩ := hk
          have k1 : o.wf := k1
          rw [cells_ob] at k4
          obtain ⟨g, f1, f2, f3, f4⟩ := owns_form a6 (by omega)
          obtain ⟨hadr, hfj⟩ := a4 _ f1
          have hfj : fps j g := hfj
          have hsl : ρ.sl j = .slice (some ⟨g, 0, none⟩) L.length (ρ.cap j) := by simp [Env.sl, f1, f2]
          have a6' := a6
          rw [hsl] at a6
          obtain ⟨w', r1, r2, r3⟩ := run_own_store (P := P) a6 (cells ρ (.lp k 0)) i (by simp [cells, den, Value.cells, Value.oneCell']) (by simp [cells, den, Value.cells]; omega)
          have hnk : ¬ known res res.length := fun hk => by have := rget_lt hk; omega
          have hgb : ∀ x y, w.heap[x]? = some y → x ≠ g → w'.heap[x]? = some y := fun x y hy hne => by
            rw [r3.block x (Array.getElem?_eq_some_iff.1 hy).1 fun hh => hne (by simpa using hh)]; exact hy
          have hkg : ρ.num k ≠ g := fun e => h.disj j k g hkj hkk hne hfj (e ▸ k3)
          have hog : ∀ x, x < L.length → ρ.ob q0 x ≠ g := fun x hx => by
            obtain ⟨_, t, hti⟩ := a7 x hx
            exact ptrs_not_obj a6 (fun i => ⟨_, rfl⟩) (by rfl) hti (by omega)
          have hnr : known (goneL [k] (rset res j (.obs ty res.length (lset L i o))) ++ [.gen j]) res.length := by
            unfold known; rw [rget_append, goneL_length, rset_length, if_neg (by omega)]; simp [rget]
          have hll : (lset L i o).length = L.length := by simp [lset]
          obtain ⟨fps', g1, g2, g3⟩ := h.inplace (ρ' := ρ.setOb res.length (fun x => if x = i then ρ.num k else ρ.ob q0 x)) (w' := w') [k] j (.obs ty res.length (lset L i o)) [.gen j] (fun b => fps j b ∨ fps k b) (by simp) (by simpa using hkk) hkj (by simpa using hne) (by simp)
            (setOb_agree hnk)
            (by
              refine ⟨hnr, fun x hx => ?_, by rw [hll]; exact a2, by rw [hll]; exact a3, fun a ha => ⟨(a4 a ha).1, .inl (a4 a ha).2⟩, by rw [hll]; exact a5, ?_, fun x hx => ?_⟩
              · rcases List.mem_or_eq_of_mem_set hx with hx | rfl
                · exact a1 x hx
                · exact k1
              · rw [hll, show (ρ.setOb res.length (fun x => if x = i then ρ.num k else ρ.ob q0 x)).sl j = ρ.sl j from rfl, hsl]
                have : ((List.range L.length).map fun x => Value.pointer (some ⟨(ρ.setOb res.length (fun x => if x = i then ρ.num k else ρ.ob q0 x)).ob res.length x, 0, none⟩)) =
                    ((List.range L.length).map fun x => Value.pointer (some ⟨ρ.ob q0 x, 0, none⟩)).take i ++ cells ρ (.lp k 0) ++ ((List.range L.length).map fun x => Value.pointer (some ⟨ρ.ob q0 x, 0, none⟩)).drop (i + (cells ρ (.lp k 0)).length) := by
                  have hl1 : (cells ρ (.lp k 0)).length = 1 := rfl
                  rw [hl1]
                  apply List.ext_getElem?
                  intro x
                  rw [List.append_assoc]
                  by_cases hx : x < i
                  · rw [List.getElem?_append_left (by simp; omega)]
                    have : x ≠ i := by omega
                    have : x < L.length := by omega
                    simp [Env.setOb, List.getElem?_take, hx, *]
                  · rw [List.getElem?_append_right (by simp; omega)]
                    have hti : (List.take i (List.map (fun x => Value.pointer (some ⟨ρ.ob q0 x, 0, none⟩)) (List.range L.length))).length = i := by simp; omega
                    rw [hti]
                    by_cases hxi : x = i
                    · subst hxi
                      simp [Env.setOb, hi, cells, den, Value.cells]
                    · rw [List.getElem?_append_right (by omega), List.getElem?_drop, hl1, show i + 1 + (x - i - 1) = x by omega]
                      by_cases hxl : x < L.length
                      · simp [Env.setOb, hxi, hxl]
                      · simp [hxl]
                rw [this]
                exact r2
              · rw [hll] at hx
                have hob : (ρ.setOb res.length (fun x => if x = i then ρ.num k else ρ.ob q0 x)).ob res.length x = if x = i then ρ.num k else ρ.ob q0 x := by simp [Env.setOb]
                rw [hob]
                by_cases hxi : x = i
                · rw [if_pos hxi]
                  refine ⟨.inr k3, bt, ?_⟩
                  rw [show (lset L i o).getD x free = o by subst hxi; simp [lset, List.getD_eq_getElem?_getD, hi]]
                  exact hgb _ _ k4 hkg
                · rw [if_neg hxi]
                  obtain ⟨c1, t, c2⟩ := a7 x hx
                  refine ⟨.inl c1, t, ?_⟩
                  rw [show (lset L i o).getD x free = L.getD x free by simp [lset, List.getD_eq_getElem?_getD, List.getElem?_set, Ne.symm hxi]]
                  exact hgb _ _ c2 (hog x hx))
            (fun b hb => hb.elim .inl fun hb => .inr (.inl ⟨k, by simp, hb⟩)) r3.os r3.tape r3.output r3.size (fun b hb hno _ => r3.block b hb fun e => hno (by simp only [Option.some.injEq] at e; rw [e]; exact hfj))
          refine ⟨w', _, fps', ?_, g1, g2, g3⟩
          have hd : den ρ (.ap j 1 i 0) = .pointer (some ⟨g, i, none⟩) := by
            simp only [den]
            rw [← hadr]
            simp
          rw [hd]
          exact run_storeVar hts hy r1
        · simp at hs
      · simp at hs
    · simp at hs
  · simp at hs

end
end Go.Sx
