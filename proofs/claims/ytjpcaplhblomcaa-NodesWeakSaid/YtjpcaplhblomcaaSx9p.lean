/- The executor: maps that are tables. No condition. -/
import Derived.Test.YtjpcaplhblomcaaSx9m
import Derived.MapKept
import Derived.Carry
set_option linter.unusedVariables false
set_option linter.unusedSimpArgs false
namespace Go.Sx
open Go.RowKit (Below)

/-- A number, chosen. -/
def iite (b : Bool) (x y : Int) : Int := match b with
  | true => x
  | false => y

/-- Is a key among those? -/
def fnd (n : Int) : List Int → Bool
  | [] => false
  | k :: ks => match ks with
    | [] => ieq n k
    | _ => bor (ieq n k) (fnd n ks)

theorem fnd_cons (n k : Int) (ks : List Int) : fnd n (k :: ks) = (decide (n = k) || fnd n ks) := by
  cases ks <;> simp [fnd, ieq, bor]

/-- The function at a key. -/
def selF (n : Int) (z : V) : List Int → List V → Option V
  | [], [] => some z
  | k :: ks, v :: vs => match v with
    | .fn f l => match selF n z ks vs with
      | some y => some (.ch (ieq n k) f l y)
      | none => none
    | _ => none
  | _, _ => none

/-- The number at a key. -/
def selI (kd : IntKind) (n z : Int) : List Int → List V → Option Int
  | [], [] => some z
  | k :: ks, v :: vs => match toInt v with
    | some (kd', a) => if kd == kd' then match selI kd n z ks vs with
        | some y => some (iite (ieq n k) a y)
        | none => none
      else none
    | none => none
  | _, _ => none

def tabV (n : Int) (z : V) (ks : List Int) (vs : List V) : Option V :=
  match z with
  | .nl v => match v with
    | .nilFunc => selF n (.nl .nilFunc) ks vs
    | _ => none
  | .ci kd a => match selI kd n a ks vs with
    | some y => some (.it kd y)
    | none => none
  | _ => none

/-- What is looked up. -/
def lookV (C : Ctx) (res : List Res) (t : Nat) (m x : V) (two : Bool) : Option V :=
  match m with
  | .mp i => match toInt x with
    | some (kd, n) => match rlook res i with
      | .mp kd' ks vs => match C.P.underlying t with
        | some (.map kt et) => match C.P.underlying kt with
          | some (.int kd'') => if kd == kd' && kd == kd'' then match C.Z et with
              | some z => match tabV n z ks vs with
                | some y => if two then some (.tp [y, .bo (fnd n ks)]) else some y
                | none => none
              | none => none
            else none
          | _ => none
        | _ => none
      | _ => none
    | none => none
  | _ => none

/-- A table with one entry more. -/
def insV (P : Program) (res : List Res) (t : Nat) (m x v : V) : Option (List Res) :=
  match m with
  | .mp i => match x with
    | .ci kd n => match rget res i with
      | .mp kd' ks vs => match P.underlying t with
        | some (.map kt et) => match P.underlying kt with
          | some (.int kd'') => if kd == kd' && kd == kd'' && decide (inR kd n) && !ks.contains n && !isTp v then some (rset res i (.mp kd (ks ++ [n]) (vs ++ [v]))) else none
          | _ => none
        | _ => none
      | _ => none
    | _ => none
  | _ => none

section
variable {ρ : Env} {fps : Nat → Nat → Prop} {res : List Res} {K : Nat → Prop} {w0 w : World} {F0 : Nat → Prop}

theorem findNow_int {kd : IntKind} {n : Int} : ∀ (ks : List Int) (xs : List Value) (l : List MapEntry) (i : Nat), l.map (·.key) = ks.map (Value.int kd) → l.map (·.val) = xs →
    ∃ r, Instr.findNow (.int kd) (.int kd n) l i = some r ∧ r.isSome = fnd n ks ∧
      ((r = none ∧ n ∉ ks) ∨ ∃ j x, r = some (i + j, x) ∧ ks[j]? = some n ∧ xs[j]? = some x ∧ ∀ q < j, ks[q]? ≠ some n)
  | [], xs, l, i, h, h' => by
    cases l with
    | nil => exact ⟨none, rfl, rfl, .inl ⟨rfl, by simp⟩⟩
    | cons e l => simp at h
  | k :: ks, xs, l, i, h, h' => by
    cases l with
    | nil => simp at h
    | cons e l =>
      simp only [List.map_cons, List.cons.injEq] at h
      obtain ⟨hk, hl⟩ := h
      subst h'
      by_cases e1 : n = k
      · subst e1
        refine ⟨some (i, e.val), by simp [Instr.findNow, hk, Instr.sameNow], by rw [fnd_cons]; simp, .inr ⟨0, e.val, rfl, by simp, by simp, by simp⟩⟩
      · obtain ⟨r, r1, r2, r3⟩ := findNow_int (n := n) ks _ l (i + 1) hl rfl
        refine ⟨r, by simp [Instr.findNow, hk, Instr.sameNow, beq_eq_false_iff_ne.2 e1, r1], by rw [fnd_cons, r2]; simp [e1], ?_⟩
        rcases r3 with ⟨a, b⟩ | ⟨j, x, a, b, c, d⟩
        · exact .inl ⟨a, by simp [e1, b]⟩
        · refine .inr ⟨j + 1, x, by rw [a]; congr 2; omega, by simpa using b, by simpa using c, fun q hq => ?_⟩
          cases q with
          | zero => simp; exact fun e => e1 e.symm
          | succ q => simpa using d q (by omega)

theorem selF_den {n : Int} {z : V} (hz : ok K z) (hz1 : ∀ ρ : Env, (den ρ z).oneCell' = true) : ∀ (ks : List Int) (vs : List V) (y : V), selF n z ks vs = some y → okL K vs →
    ok K y ∧ (∀ ρ : Env, (den ρ y).oneCell' = true) ∧ ∀ ρ : Env, (n ∉ ks → den ρ y = den ρ z) ∧ ∀ (j : Nat) x, ks[j]? = some n → (denL ρ vs)[j]? = some x → (∀ q < j, ks[q]? ≠ some n) → den ρ y = x
  | [], [], y, h, hv => by
    simp only [selF, Option.some.injEq] at h
    subst h
    exact ⟨hz, hz1, fun ρ => ⟨fun _ => rfl, fun j x h => by simp at h⟩⟩
  | [], _ :: _, y, h, hv => by simp [selF] at h
  | _ :: _, [], y, h, hv => by simp [selF] at h
  | k :: ks, v :: vs, y, h, hv => by
    simp only [selF] at h
    split at h
    · rename_i f l
      split at h <;> simp only [Option.some.injEq, reduceCtorEq] at h
      rename_i y' hy
      subst h
      obtain ⟨a, b, c⟩ := selF_den hz hz1 ks vs y' hy hv.2
      refine ⟨⟨hv.1, a, b⟩, fun ρ => ?_, fun ρ => ⟨fun hn => ?_, fun j x hj hx hq => ?_⟩⟩
      · simp only [den]
        split
        · rfl
        · exact b ρ
      · simp only [List.mem_cons, not_or] at hn
        simp only [den, ieq]
        rw [decide_eq_false hn.1]
        exact (c ρ).1 hn.2
      · simp only [den, ieq]
        cases j with
        | zero =>
          simp at hj
          subst hj
          simp [denL, den] at hx
          simp [← hx]
        | succ j =>
          have h0 := hq 0 (by omega)
          simp at h0
          rw [decide_eq_false (fun e => h0 e.symm)]
          refine (c ρ).2 j x (by simpa using hj) (by simpa [denL] using hx) fun q hq' => ?_
          have := hq (q + 1) (by omega)
          simpa using this
    · simp at h

theorem selI_den {kd : IntKind} {n z : Int} (hz : inR kd z) : ∀ (ks : List Int) (vs : List V) (y : Int), selI kd n z ks vs = some y → okL K vs →
    inR kd y ∧ ∀ ρ : Env, (n ∉ ks → y = z) ∧ ∀ (j : Nat) x, ks[j]? = some n → (denL ρ vs)[j]? = some x → (∀ q < j, ks[q]? ≠ some n) → .int kd y = x
  | [], [], y, h, hv => by
    simp only [selI, Option.some.injEq] at h
    subst h
    exact ⟨hz, fun ρ => ⟨fun _ => rfl, fun j x h => by simp at h⟩⟩
  | [], _ :: _, y, h, hv => by simp [selI] at h
  | _ :: _, [], y, h, hv => by simp [selI] at h
  | k :: ks, v :: vs, y, h, hv => by
    simp only [selI] at h
    split at h
    · rename_i kd' a ha
      split at h
      · rename_i hk
        have hk := beq_iff_eq.1 hk
        subst hk
        split at h <;> simp only [Option.some.injEq, reduceCtorEq] at h
        rename_i y' hy
        subst h
        obtain ⟨b, c⟩ := selI_den hz ks vs y' hy hv.2
        refine ⟨?_, fun ρ => ⟨fun hn => ?_, fun j x hj hx hq => ?_⟩⟩
        · cases ieq n k
          · exact b
          · exact (toInt_spec (ρ := ⟨fun _ => 0, fun _ => 0, fun _ => default, fun _ => none, fun _ => 0, fun _ _ => 0⟩) ha hv.1).2
        · simp only [List.mem_cons, not_or] at hn
          simp only [ieq]
          rw [decide_eq_false hn.1]
          exact (c ρ).1 hn.2
        · simp only [ieq]
          cases j with
          | zero =>
            simp at hj
            subst hj
            simp [denL] at hx
            simp [iite, ← hx, (toInt_spec (ρ := ρ) ha hv.1).1]
          | succ j =>
            have h0 := hq 0 (by omega)
            simp at h0
            rw [decide_eq_false (fun e => h0 e.symm)]
            refine (c ρ).2 j x (by simpa using hj) (by simpa [denL] using hx) fun q hq' => ?_
            have := hq (q + 1) (by omega)
            simpa using this
      · simp at h
    · simp at h

theorem tabV_den {n : Int} {z y : V} {ks : List Int} {vs : List V} (hz : ok (fun _ => False) z) (h : tabV n z ks vs = some y) (hv : okL K vs) :
    ok K y ∧ isTp y = false ∧ ∀ ρ : Env, (n ∉ ks → den ρ y = den ρ z) ∧ ∀ (j : Nat) x, ks[j]? = some n → (denL ρ vs)[j]? = some x → (∀ q < j, ks[q]? ≠ some n) → den ρ y = x := by
  unfold tabV at h
  split at h
  · split at h
    · obtain ⟨a, b, c⟩ := selF_den (K := K) (z := .nl .nilFunc) rfl (fun _ => rfl) ks vs y h hv
      refine ⟨a, ?_, c⟩
      cases ks with
      | nil => cases vs <;> simp [selF] at h; subst h; rfl
      | cons k ks =>
        cases vs with
        | nil => simp [selF] at h
        | cons v vs =>
          simp only [selF] at h
          split at h
          · split at h <;> simp only [Option.some.injEq, reduceCtorEq] at h
            subst h; rfl
          · simp at h
    · simp at h
  · rename_i kd a
    split at h <;> simp only [Option.some.injEq, reduceCtorEq] at h
    rename_i y' hy
    subst h
    obtain ⟨b, c⟩ := selI_den (K := K) (show inR kd a from hz) ks vs y' hy hv
    exact ⟨b, rfl, fun ρ => ⟨fun hn => by simp only [den]; rw [(c ρ).1 hn], fun j x h1 h2 h3 => by simp only [den]; exact (c ρ).2 j x h1 h2 h3⟩⟩
  · simp at h

theorem lookV_spec {C : Ctx} {t : Nat} {m x r : V} {two : Bool} (hC : C.ZOK) (h : HRep ρ fps res K w0 F0 w) (hl : lookV C res t m x two = some r) (hx : ok K x) :
    (Instr.lookup t (den ρ m) (den ρ x) two).run C.P w = .ok (den ρ r) w ∧ ok K r := by
  unfold lookV at hl
  split at hl
  case h_2 => simp at hl
  rename_i i
  split at hl
  case h_2 => simp at hl
  rename_i kd n hn
  split at hl
  case h_2 => simp at hl
  rename_i kd' ks vs hr
  split at hl
  case h_2 => simp at hl
  rename_i kt et hu
  split at hl
  case h_2 => simp at hl
  rename_i kd'' hku
  split at hl
  case isFalse => simp at hl
  rename_i hkd
  simp only [Bool.and_eq_true, beq_iff_eq] at hkd
  obtain ⟨rfl, rfl⟩ := hkd
  split at hl
  case h_2 => simp at hl
  rename_i z hz
  split at hl
  case h_2 => simp at hl
  rename_i y hy
  obtain ⟨hx1, hx2⟩ := toInt_spec (ρ := ρ) hn hx
  obtain ⟨fp, hh, _⟩ := h.look hr (by simp)
  obtain ⟨_, a2, a3, a4, a5, es, cl, b1, b2, b3⟩ := hh
  obtain ⟨_, _, _, hz3, hz4, _⟩ := hC et z hz
  obtain ⟨y1, y2, y3⟩ := tabV_den hz3 hy a2
  obtain ⟨q, q1, q2, q3⟩ := findNow_int (n := n) ks _ es.toList 0 b2 b3
  have hck := MapKept.run_checkKey (P := C.P) (w := w) (k := .int kd n) hku rfl es.isEmpty 9999
  have hfk := MapKept.run_findKey (w := w) hku q1
  have hzr := run_zero (ρ := ρ) (w := w) hC hz
  have main : (Instr.lookup t (den ρ (.mp i)) (den ρ x) two).run C.P w = .ok (if two then .tuple #[den ρ y, .bool (fnd n ks)] else den ρ y) w := by
    rw [hx1]
    simp only [Instr.lookup, den, Sem.run_bind, run_und w hu, Result.andThen_ok, MapKept.run_getObj_map b1, Sem.run_pure, hck, hfk]
    rcases q3 with ⟨rfl, hnk⟩ | ⟨j, v, rfl, c1, c2, c3⟩
    · simp only [Sem.run_bind, hzr, Result.andThen_ok, Sem.run_pure]
      rw [(y3 ρ).1 hnk, ← q2]; rfl
    · simp only [Sem.run_pure, Result.andThen_ok]
      rw [(y3 ρ).2 j v c1 c2 c3, ← q2]; rfl
  rw [main]
  cases two
  · simp only [Bool.false_eq_true, if_false, Option.some.injEq] at hl
    subst hl
    exact ⟨by simp, y1⟩
  · simp only [if_true, Option.some.injEq] at hl
    subst hl
    exact ⟨by simp [den, denL], y1, trivial, trivial⟩

theorem Grew.mapNew {nid : Nat} {kd : IntKind} (hn : ¬ K nid) :
    Grew K ρ (ρ.setNum nid w.heap.size) nid [.mp kd [] []] w0 F0 w (w.alloc (.map #[] 0)) := by
  refine ⟨(Below.refl _ _).alloc (Nat.le_refl _) _, setNum_agree ρ nid _, fun _ b => b = w.heap.size, fun k hk => ?_, fun k l b hk hl hne => ?_⟩
  · simp only [List.length_singleton, Nat.lt_one_iff] at hk
    subst hk
    refine ⟨⟨by simp [Env.setNum], trivial, trivial, by simp, rfl, #[], 0, ?_, rfl, rfl⟩, fun b hb => by subst hb; simp⟩
    rw [show (ρ.setNum nid w.heap.size).num (nid + 0) = w.heap.size by simp [Env.setNum]]
    exact heap_alloc_new w _
  · simp only [List.length_singleton, Nat.lt_one_iff] at hk hl
    omega

/-- A place that is written. -/
theorem HRep.writeR {w' : World} {i : Nat} {r r' : Res} {b : Nat}
    (h : HRep ρ fps res K w0 F0 w) (hi : rget res i = r) (hne : r ≠ .yet) (hne' : r' ≠ .yet) (hfp : fps i b) (hnew : r'.holds K ρ i (fps i) w0 F0 w')
    (hos : w'.os = w.os) (htape : w'.tape = w.tape) (hout : w'.output = w.output) (hsize : w'.heap.size = w.heap.size) (hold : ∀ b', b' ≠ b → w'.heap[b']? = w.heap[b']?) :
    HRep ρ fps (rset res i r') K w0 F0 w' ∧ ∀ j, known (rset res i r') j ↔ known res j := by
  have hk : known res i := by unfold known; rw [hi]; exact hne
  have hlt := rget_lt hk
  have hkn : ∀ j, known (rset res i r') j ↔ known res j := fun j => by
    unfold known
    rw [rget_rset _ _ _ _ hlt]
    by_cases e : j = i
    · subst e; simp [hi, hne, hne']
    · simp [e]
  refine ⟨⟨fun j hj => h.sub j ((hkn j).1 hj), by rw [hsize]; exact h.old, hos.trans h.os, htape.trans h.tape, hout.trans h.output, fun j hj => ?_, fun j b hj hb => by rw [hsize]; exact h.lt j b ((hkn j).1 hj) hb,
    fun j l b hj hl => h.disj j l b ((hkn j).1 hj) ((hkn l).1 hl), fun j b hj => h.inF j b ((hkn j).1 hj), fun c hc hF => ?_⟩, hkn⟩
  · rw [rget_rset _ _ _ _ hlt]
    by_cases e : j = i
    · subst e
      simp only [if_true]
      exact hnew
    · simp only [if_neg e]
      have hj' := (hkn j).1 hj
      refine Res.holds_keep _ (h.holds j hj') fun c hc => hold c fun eb => ?_
      subst eb
      exact h.disj j i _ hj' hk e hc hfp
  · rw [hold c fun e => hF (e ▸ h.inF i b hk hfp (e ▸ hc))]
    exact h.same c hc hF

theorem denL_snoc (ρ : Env) (l : List V) (v : V) : denL ρ (l ++ [v]) = denL ρ l ++ [den ρ v] := by simp [denL_eq]

theorem insV_spec {P : Program} {res' : List Res} {t : Nat} {m x v : V} (h : HRep ρ fps res K w0 F0 w) (hs : insV P res t m x v = some res') (hv : ok K v) :
    ∃ w', (Instr.mapUpdate t (den ρ m) (den ρ x) (den ρ v)).run P w = .ok () w' ∧ HRep ρ fps res' K w0 F0 w' ∧ ∀ i, known res' i ↔ known res i := by
  unfold insV at hs
  split at hs
  case h_2 => simp at hs
  rename_i i
  split at hs
  case h_2 => simp at hs
  rename_i kd n
  split at hs
  case h_2 => simp at hs
  rename_i kd' ks vs hr
  split at hs
  case h_2 => simp at hs
  rename_i kt et hu
  split at hs
  case h_2 => simp at hs
  rename_i kd'' hku
  split at hs
  case isFalse => simp at hs
  rename_i hc
  simp only [Bool.and_eq_true, beq_iff_eq, decide_eq_true_eq, Bool.not_eq_true', List.contains_eq_mem, decide_eq_false_iff_not] at hc
  obtain ⟨⟨⟨⟨rfl, rfl⟩, hin⟩, hnk⟩, htp⟩ := hc
  simp only [Option.some.injEq] at hs
  subst hs
  have hk : known res i := by unfold known; rw [hr]; simp
  have hh := h.holds i hk
  rw [hr] at hh
  obtain ⟨a1, a2, a3, a4, a5, es, cl, b1, b2, b3⟩ := hh
  obtain ⟨q, q1, q2, q3⟩ := findNow_int (n := n) ks _ es.toList 0 b2 b3
  have hq : q = none := by
    rcases q3 with ⟨rfl, _⟩ | ⟨j, y, rfl, c1, _⟩
    · rfl
    · exact absurd (List.mem_of_getElem? c1) hnk
  subst hq
  have hck := MapKept.run_checkKey (P := P) (w := w) (k := .int kd n) hku rfl false 9999
  have hfk := MapKept.run_findKey (w := w) hku q1
  have hset := MapKept.heap_set (w := w) (r := ρ.num i) (o' := .map (es.push { key := .int kd n, val := den ρ v, born := cl }) (cl + 1)) b1
  refine ⟨{ w with heap := w.heap.setIfInBounds (ρ.num i) (.map (es.push { key := .int kd n, val := den ρ v, born := cl }) (cl + 1)) }, ?_, ?_⟩
  · simp only [Instr.mapUpdate, den, Sem.run_bind, run_und w hu, Result.andThen_ok, MapKept.run_getObj_map b1, hck, hfk, MapKept.run_setObj_map _ b1]
  · refine h.writeR (b := ρ.num i) hr (by simp) (by simp) a1 ⟨a1, ?_, ?_, ?_, by simp [a5], _, _, hset.1, by simp [b2], by simp [b3, denL_snoc]⟩ rfl rfl rfl (by simp) hset.2
    · rw [okL_iff] at a2 ⊢
      intro y hy
      rcases List.mem_append.1 hy with hy | hy
      · exact a2 y hy
      · simp at hy; subst hy; exact hv
    · rw [okC_iff] at a3 ⊢
      intro y hy
      rcases List.mem_append.1 hy with hy | hy
      · exact a3 y hy
      · simp at hy; subst hy; exact htp
    · intro c hcm
      rcases List.mem_append.1 hcm with hcm | hcm
      · exact a4 c hcm
      · simp at hcm; subst hcm; exact hin

end
end Go.Sx
