/- From what an argument reads as to plain data: keys, objects. No condition. -/
import Derived.Test.YtjpcaplhblomcaaCt0
import Derived.OpenShut
import Derived.Deep.Slices
set_option linter.unusedVariables false
set_option linter.unusedSimpArgs false
namespace Go.Sx
open Go.ChangeShapes Go.WideShapes

def Kd.ofR : Kd → Value → Prop
  | .b, v => ∃ x, v = .bool x
  | .s, v => ∃ x, v = .string x
  | .i k, v => ∃ n, v = .int k n ∧ inR k n

def TyR : List Kd → List Value → Prop
  | [], [] => True
  | k :: ks, v :: vs => k.ofR v ∧ TyR ks vs
  | _, _ => False

theorem TyR.length : ∀ {ks : List Kd} {vs : List Value}, TyR ks vs → vs.length = ks.length
  | [], [], _ => rfl
  | _ :: _, _ :: _, h => by simp [TyR.length h.2]
  | [], _ :: _, h => h.elim
  | _ :: _, [], h => h.elim

theorem TyR.split : ∀ {a b : List Kd} {vs : List Value}, TyR (a ++ b) vs → TyR a (vs.take a.length) ∧ TyR b (vs.drop a.length)
  | [], b, vs, h => by simpa [TyR] using h
  | k :: a, b, [], h => h.elim
  | k :: a, b, v :: vs, h => by
    obtain ⟨h1, h2⟩ := TyR.split (a := a) h.2
    exact ⟨by simpa [TyR] using ⟨h.1, h1⟩, by simpa using h2⟩

theorem TyR.join : ∀ {a b : List Kd} {vs us : List Value}, TyR a vs → TyR b us → TyR (a ++ b) (vs ++ us)
  | [], _, [], _, _, h => by simpa using h
  | k :: a, _, v :: vs, _, h, h' => ⟨h.1, TyR.join h.2 h'⟩
  | [], _, _ :: _, _, h, _ => h.elim
  | _ :: _, _, [], _, h, _ => h.elim

theorem inR_wf {k : IntKind} {n : Int} (h : (Lit.int k n).wf = true) : inR k n := by
  cases k <;> simp [Lit.wf, IntKind.min, IntKind.max, IntKind.signed, IntKind.bits] at h <;> simp only [inR] <;> omega

theorem take_of_length {α : Type} {l : List α} {c n : Nat} (h : (l.take c).length = n) : l.take c = l.take n := by
  rw [List.length_take] at h
  rcases Nat.le_total c l.length with hc | hc
  · rw [Nat.min_eq_left hc] at h; rw [h]
  · rw [Nat.min_eq_right hc] at h
    rw [List.take_of_length_le hc, List.take_of_length_le (by omega)]

section
variable {H : Type} {enc : TypeId × Value → H} {P : Program} {w : World} {base : Nat} {sp : Nat → Bool} {held : Bool}

theorem cellsOf_tsz {t n : Nat} (h : tsz P t = some n) : P.cellsOf t = n := by
  unfold tsz at h; unfold Program.cellsOf; rw [h]; rfl

theorem flat_fields {m f : Nat} (ih : ∀ t ks, flatK P f t = some ks → ∀ cs x, DataW.trod enc P w base sp held m t cs = some x → TyR ks cs) (cs : List Value) : ∀ (fs : List Field) (off : Nat) (ks : List Kd), flatFs (flatK P f) off fs = some ks →
    (∀ g ∈ fs, ∃ x, DataW.trod enc P w base sp held m g.type ((cs.drop g.offset).take (P.cellsOf g.type)) = some x) → TyR ks ((cs.drop off).take ks.length)
  | [], off, ks, h, _ => by
    simp only [flatFs, Option.some.injEq] at h
    subst h
    simp [TyR]
  | g :: fs, off, ks, h, hx => by
    simp only [flatFs] at h
    split at h
    · rename_i hc
      simp only [Bool.and_eq_true, bne_iff_ne, ne_eq, beq_iff_eq] at hc
      obtain ⟨hn, ho⟩ := hc
      cases hg : flatK P f g.type with
      | none => simp [hg] at h
      | some k1 =>
        simp only [hg] at h
        cases hr : flatFs (flatK P f) (off + k1.length) fs with
        | none => simp [hr] at h
        | some k2 =>
          simp only [hr, Option.map_some, Option.some.injEq] at h
          subst h
          obtain ⟨x, hx1⟩ := hx g (by simp)
          have t1 := ih _ _ hg _ _ hx1
          have hl := t1.length
          rw [take_of_length hl, ho] at t1
          have t2 := flat_fields ih cs fs (off + k1.length) k2 hr fun g' hg' => hx g' (by simp [hg'])
          have : (cs.drop off).take (k1 ++ k2).length = (cs.drop off).take k1.length ++ (cs.drop (off + k1.length)).take k2.length := by
            rw [List.length_append, List.take_add, List.drop_drop]
          rw [this]
          exact t1.join t2
    · simp at h

/-- What reads as a plain type has cells of its kinds. -/
theorem flat_trod : ∀ (f : Nat) (t : TypeId) (ks : List Kd), flatK P f t = some ks → ∀ (fuel : Nat) (cs : List Value) (x : DataW H × List MemPlace), DataW.trod enc P w base sp held fuel t cs = some x → TyR ks cs
  | 0, _, _, h, _, _, _, _ => by simp [flatK] at h
  | f + 1, t, ks, h, fuel, cs, x, hx => by
    simp only [flatK] at h
    split at h
    · rename_i hu
      simp only [Option.some.injEq] at h; subst h
      obtain ⟨b, rfl, _⟩ := DataW.trod_bool hu hx
      exact ⟨⟨b, rfl⟩, trivial⟩
    · rename_i hu
      simp only [Option.some.injEq] at h; subst h
      cases fuel with
      | zero => simp [DataW.trod] at hx
      | succ n =>
        unfold DataW.trod at hx
        rw [hu] at hx
        split at hx <;> simp_all
        exact ⟨⟨_, rfl⟩, trivial⟩
    · rename_i k hu
      simp only [Option.some.injEq] at h; subst h
      obtain ⟨n, rfl, _, hw⟩ := DataW.trod_int hu hx
      exact ⟨⟨n, rfl, inR_wf hw⟩, trivial⟩
    · rename_i fs hu
      split at h
      · simp at h
      · split at h
        · simp at h
        · rename_i ks' hfs
          split at h
          · rename_i hs
            have hs := beq_iff_eq.1 hs
            simp only [Option.some.injEq] at h
            subst h
            obtain ⟨xs, n, rfl, _, hl, hxl, hall⟩ := DataW.trod_struct hu hx
            have := flat_fields (fun t ks h cs x hx => flat_trod f t ks h n cs x hx) cs fs.toList 0 ks' hfs fun g hg => by
              obtain ⟨i, hi, hgi⟩ := List.getElem_of_mem hg
              have hfi : fs[i]? = some g := by rw [← Array.getElem?_toList, List.getElem?_eq_getElem hi, hgi]
              have := hall i g hfi
              rw [List.getElem?_eq_getElem (by rw [hxl]; simpa using hi)] at this
              exact ⟨_, this⟩
            rw [cellsOf_tsz hs] at hl
            rw [List.drop_zero, ← hl, List.take_length] at this
            exact this
          · simp at h
    · rename_i n e hu
      split at h
      · simp at h
      · rename_i k1 he
        split at h
        · rename_i hs
          simp only [Bool.and_eq_true, beq_iff_eq] at hs
          simp only [Option.some.injEq] at h
          subst h
          obtain ⟨xs, m, rfl, _, hl, hxl, hall⟩ := DataW.trod_array hu hx
          rw [cellsOf_tsz hs.2] at hl
          rw [cellsOf_tsz hs.1] at hall
          have key : ∀ j, j ≤ n → TyR (List.replicate j k1).flatten (cs.take (j * k1.length)) := by
            intro j
            induction j with
            | zero => intro _; simp [TyR]
            | succ j ihj =>
              intro hj
              have h1 := ihj (by omega)
              have h2 := hall j (by omega)
              rw [List.getElem?_eq_getElem (by omega)] at h2
              have h3 := flat_trod f e k1 he m _ _ h2
              rw [List.replicate_succ', List.flatten_append, Nat.succ_mul, List.take_add]
              simpa using h1.join h3
          have := key n (Nat.le_refl _)
          rwa [← hl, List.take_length] at this
        · simp at h
    · simp at h

end

theorem TyR_rep {k : Kd} : ∀ {n : Nat} {vs : List Value}, TyR (List.replicate n k) vs ↔ vs.length = n ∧ ∀ v ∈ vs, k.ofR v
  | 0, [] => by simp [TyR]
  | 0, _ :: _ => by simp [TyR]
  | n + 1, [] => by simp [TyR, List.replicate_succ]
  | n + 1, v :: vs => by
    rw [List.replicate_succ]
    simp only [TyR, TyR_rep (n := n), List.length_cons, List.mem_cons, forall_eq_or_imp]
    constructor
    · rintro ⟨a, b, c⟩; exact ⟨by omega, a, c⟩
    · rintro ⟨a, b, c⟩; exact ⟨b, by omega, c⟩

theorem open_keys : ∀ (m : Nat) (cs : List Value), TyR (List.replicate (m * 6) (.i .i64)) cs → ∃ ks : List Key, ks.length = m ∧ (∀ k ∈ ks, k.wf) ∧ cs = ks.flatMap keyCells
  | 0, cs, h => by
    rw [TyR_rep] at h
    have : cs = [] := List.length_eq_zero_iff.1 (by omega)
    exact ⟨[], rfl, by simp, by simp [this]⟩
  | m + 1, cs, h => by
    rw [show (m + 1) * 6 = 6 + m * 6 by omega, ← List.replicate_append_replicate] at h
    obtain ⟨h1, h2⟩ := h.split
    simp only [List.length_replicate] at h1 h2
    obtain ⟨ks, i1, i2, i3⟩ := open_keys m _ h2
    match cs, h1, i3 with
    | a :: b :: c :: d :: e :: f :: rest, h1, i3 =>
      obtain ⟨⟨n1, rfl, r1⟩, ⟨n2, rfl, r2⟩, ⟨n3, rfl, r3⟩, ⟨n4, rfl, r4⟩, ⟨n5, rfl, r5⟩, ⟨n6, rfl, r6⟩, _⟩ := h1
      refine ⟨⟨n1, n2, n3, n4, n5, n6⟩ :: ks, by simp [i1], fun k hk => ?_, ?_⟩
      · rcases List.mem_cons.1 hk with rfl | hk
        · exact ⟨r1, r2, r3, r4, r5, r6⟩
        · exact i2 k hk
      · simp only [List.drop_succ_cons, List.drop_zero] at i3
        simp [keyCells, i64, i3]
    | [], h1, _ => exact h1.elim
    | [_], h1, _ => exact h1.2.elim
    | [_, _], h1, _ => exact h1.2.2.elim
    | [_, _, _], h1, _ => exact h1.2.2.2.elim
    | [_, _, _, _], h1, _ => exact h1.2.2.2.2.elim
    | [_, _, _, _, _], h1, _ => exact h1.2.2.2.2.2.elim

theorem open_slots {cs : List Value} (h : TyR (List.replicate 96 (.i .i64)) cs) : ∃ s : Slots, s.wf ∧ cs = slCells s := by
  obtain ⟨ks, h1, h2, h3⟩ := open_keys 16 cs h
  refine ⟨⟨ks.toArray, by simp [h1]⟩, fun i hi => ?_, ?_⟩
  · have : (Slots.at ⟨ks.toArray, by simp [h1]⟩ i) = ks[i]'(by omega) := by simp [Slots.at, h1, hi]
    rw [this]
    exact h2 _ (List.getElem_mem _)
  · have hr : List.range ks.length = List.range 16 := by rw [h1]
    rw [h3, Go.Deep.flatMap_by_index ks void, hr]
    unfold slCells
    refine Go.Deep.flatMap_congr_range fun i hi => ?_
    simp [Slots.at, List.getD_eq_getElem?_getD]

theorem open_bytes {cs : List Value} (h : TyR (List.replicate 64 (.i .u8)) cs) : ∃ s : Bytes, cs = byCells s := by
  rw [TyR_rep] at h
  obtain ⟨h1, h2⟩ := h
  have key : ∀ l : List Value, (∀ v ∈ l, (Kd.i .u8).ofR v) → ∃ bs : List UInt8, l = bs.map fun b => Value.int .u8 (b.toNat : Int) := by
    intro l
    induction l with
    | nil => intro _; exact ⟨[], rfl⟩
    | cons v l ih =>
      intro hl
      obtain ⟨n, rfl, hn⟩ := hl v (by simp)
      obtain ⟨bs, rfl⟩ := ih fun u hu => hl u (by simp [hu])
      simp only [inR] at hn
      refine ⟨UInt8.ofNat n.toNat :: bs, ?_⟩
      have : (UInt8.ofNat n.toNat).toNat = n.toNat := by
        rw [UInt8.toNat_ofNat']; omega
      simp only [List.map_cons, this, List.cons.injEq, Value.int.injEq, true_and, and_true]
      omega
  obtain ⟨bs, rfl⟩ := key cs h2
  simp only [List.length_map] at h1
  refine ⟨⟨bs.toArray, by simp [h1]⟩, ?_⟩
  have hr : List.range bs.length = List.range 64 := by rw [h1]
  rw [Go.Deep.map_by_index bs 0, hr]
  unfold byCells
  refine List.map_congr_left fun i hi => ?_
  simp [Bytes.at, List.getD_eq_getElem?_getD]

theorem open_ob {cs : List Value} (h : TyR kOb cs) : ∃ o : Obj, o.wf ∧ cs = obCells o := by
  have e : kOb = List.replicate 3 (.i .i64) ++ (List.replicate 96 (.i .i64) ++ List.replicate 64 (.i .u8)) := rfl
  rw [e] at h
  obtain ⟨h1, h2⟩ := h.split
  obtain ⟨h3, h4⟩ := h2.split
  simp only [List.length_replicate] at h1 h3 h4
  obtain ⟨s, hs, e1⟩ := open_slots h3
  obtain ⟨b, e2⟩ := open_bytes h4
  match cs, h1, e1, e2 with
  | x :: y :: z :: rest, h1, e1, e2 =>
    obtain ⟨⟨n1, rfl, r1⟩, ⟨n2, rfl, r2⟩, ⟨n3, rfl, r3⟩, _⟩ := h1
    refine ⟨⟨n1, n2, n3, s, b⟩, ⟨r1, r2, r3, hs⟩, ?_⟩
    simp only [List.drop_succ_cons, List.drop_zero] at e1 e2
    simp only [obCells, i64, List.cons.injEq, true_and]
    rw [← e1, ← e2, List.take_append_drop]
  | [], h1, _, _ => exact h1.elim
  | [_], h1, _, _ => exact h1.2.elim
  | [_, _], h1, _, _ => exact h1.2.2.elim

theorem open_key1 {cs : List Value} (h : TyR kKey cs) : ∃ k : Key, k.wf ∧ cs = keyCells k := by
  obtain ⟨ks, h1, h2, h3⟩ := open_keys 1 cs h
  match ks, h1 with
  | [k], _ => exact ⟨k, h2 k (by simp), by simpa using h3⟩
end Go.Sx
