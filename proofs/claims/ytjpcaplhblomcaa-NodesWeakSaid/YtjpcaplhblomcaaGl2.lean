/- From a law's contract to its row: arguments opened and read again. No condition. -/
import Derived.Test.YtjpcaplhblomcaaGl1
import Derived.Test.YtjpcaplhblomcaaSx16
import Derived.ChangeSame
import Derived.ChangeBook
import Derived.RowKit
set_option linter.unusedVariables false
set_option linter.unusedSimpArgs false
namespace Go.Sx
open Go.RowKit (Below)
open Go.ChangeShapes Go.WideShapes

section
variable {H : Type} {enc : TypeId × Value → H} {P : Program}

/-- A contract from a settled memory: true comes out, and nothing of old is otherwise. -/
theorem callBelow {f : Nat} {vs : List V} {res : List Res} (h : CallTo P f vs res (isV (.bo true)) (fun _ _ => False)) {ρ : Env} {W : World} (hH : HRep ρ (fun _ _ => False) res (known res) W (fun _ => False) W) (hok : okL (known res) vs) :
    Calls P f (denL ρ vs).toArray W fun e W' => e = .returned (.bool true) ∧ Below W.heap.size W W' :=
  (h ρ _ W _ W hH hok).mono fun e W' ⟨x, ρ', fps', res', g1, g2, g3, g4⟩ => by
    rcases g4 with ⟨rfl, hK⟩ | ⟨_, hK⟩
    · obtain ⟨e1, _, _⟩ := isV_isE hK ρ' (known res')
      refine ⟨by rw [e1]; rfl, g1.os, g1.tape, g1.output, g1.old, fun b hb => g1.same b hb (fun h => h)⟩
    · exact hK.elim

/-- Arguments are read again. -/
theorem trodAll_again {W W' : World} (hB : Below W.heap.size W W') (hl : laidOutB P = true) : ∀ {ts : List TypeId} {vs : List Value} {ds : List (DataW H)} {p : List MemPlace},
    (∀ t ∈ ts, P.readableRec t = true ∧ t < P.types.size) → DataW.TrodAll enc P W 0 (fun _ => true) true ts vs ds p → (∀ q ∈ p, q.block < W.heap.size) → ∀ sp : Nat → Bool, (∀ q ∈ p, sp q.block = true) → DataW.TrodAll enc P W' 0 sp true ts vs ds p
  | [], vs, ds, p, _, h, _, sp, _ => by
    obtain ⟨rfl, rfl, rfl⟩ := trodAll_nil h
    exact trodAll_mk0
  | t :: ts, vs, ds, p, hr, h, hlt, sp, hsp => by
    obtain ⟨v, vs', d, ds', p1, q1, rfl, rfl, rfl, ⟨n, h1⟩, h2⟩ := trodAll_cons h
    obtain ⟨r1, r2⟩ := hr t (by simp)
    refine trodAll_cons_mk ⟨n, ?_⟩ (trodAll_again hB hl (fun t ht => hr t (by simp [ht])) h2 (fun q hq => hlt q (List.mem_append_right _ hq)) sp fun q hq => hsp q (List.mem_append_right _ hq))
    exact DataW.trod_stays (kids_book hl r1) (book_sized r1) (fun h => by cases h) ⟨r2, book_self t⟩ h1 (fun q hq => hB.same (hlt q (List.mem_append_left _ hq))) fun q hq => hsp q (List.mem_append_left _ hq)

/-- What is asked behind a law. -/
theorem law_post {f : Func} {s : ChangeSpec} {apart fresh handsOn again : Bool} {W W' : World} {args : Array Value} {ds gs : List (DataW H)} {before : List MemPlace} {tb : TypeId}
    (hW : DataW.Whole enc P f.params.toList s.vars apart W args.toList ds gs before) (hvars : s.vars = []) (hB : Below W.heap.size W W') (hl : laidOutB P = true)
    (hr : ∀ t ∈ f.params.toList, P.readableRec t = true ∧ t < P.types.size) (hrt : f.resultTypes = #[tb]) (htb : P.underlying tb = some .bool)
    (hs : (s.fn H (ds ++ gs)).results = [.lit (.bool true)] ∧ (s.fn H (ds ++ gs)).args = ds ∧ (s.fn H (ds ++ gs)).vars = []) : s.post enc P f apart fresh handsOn again W args (.bool true) W' := by
  have hW' := hW
  have hlt := hW.lt
  obtain ⟨pa, pv, hA, hV, hps, hz, hn⟩ := hW
  rw [hvars] at hV
  obtain ⟨rfl, rfl⟩ := trodVars_none hV
  rw [List.append_nil] at hps
  subst hps
  have hag : ∀ sp : Nat → Bool, (∀ q ∈ before, sp q.block = true) → DataW.TrodAll enc P W' 0 sp true f.params.toList args.toList ds before := fun sp hsp => trodAll_again hB hl hr hA hlt sp hsp
  have hres : ∀ (b : Nat) (sp : Nat → Bool) (hd : Bool), DataW.TrodAll enc P W' b sp hd f.resultTypes.toList ((Value.bool true).resultList f.resultTypes.size) [.lit (.bool true)] [] := fun b sp hd => by
    rw [hrt]
    exact trodAll_mk1 (RowKit.shut_bool htb true)
  have hok : ∀ (j : Nat) (t : TypeId) (r : Value), f.resultTypes[j]? = some t → ((Value.bool true).resultList f.resultTypes.size)[j]? = some r → Value.okWide P W' .any 0 t r := RowKit.ok_one hrt rfl (RowKit.okWide_bool_mk htb true)
  refine ⟨ds, [], before, [], before, [], hW', by rw [hs.1]; exact hres _ _ _, ?_, ?_, hB.frame _, fun _ => ⟨hok, ?_⟩⟩
  · rw [hs.2.1]
    exact hag _ fun q hq => by simpa using hlt q hq
  · rw [hvars, hs.2.2]; rfl
  · refine ⟨[.lit (.bool true)] ++ ds, [], before, ⟨[] ++ before, [], trodAll_append (hag _ fun _ _ => rfl) (hres _ _ _), by rw [hvars]; rfl, by simp, fun b off hp => ?_, hn⟩, fun p hp _ => hp⟩
    have := hz b off hp
    rw [hB.frozen (p := ⟨b, off, none⟩) (hlt _ hp)]
    exact this

/-- What is known of a slice that was handed in. -/
def ArgTL (w : World) (v : Value) (esz : Nat) (l : TL) : Prop :=
  (∀ j, j < l.len → ok (fun _ => False) (l.get j) ∧ isTp (l.get j) = false ∧ vsz (l.get j) = esz) ∧ l.len ≤ 9223372036854775807 ∧
  ∃ (sa : Option Addr) (cap : Nat), v = .slice sa l.len cap ∧ (0 < l.len → ∃ a, sa = some a ∧ a.spot = none ∧ a.block < w.heap.size ∧ ∀ j, j < l.len → ∀ k, k < esz → w.cell? ⟨a.block, a.off + (j * esz + k), none⟩ = (cells Env.zero (l.get j))[k]?)

def slA : Value → Option Addr
  | .slice a _ _ => a
  | _ => none
def slN : Value → Nat
  | .slice _ n _ => n
  | _ => 0
def slC : Value → Nat
  | .slice _ _ c => c
  | _ => 0

/-- The environment of arguments. -/
def argEnv (A : List (Value × Nat × TL)) : Env :=
  { num := fun _ => 0, cap := fun i => slC (A.getD i (.slice none 0 0, 0, .bo [])).1, adr := fun i => (slA (A.getD i (.slice none 0 0, 0, .bo [])).1).getD ⟨0, 0, none⟩, sa := fun i => slA (A.getD i (.slice none 0 0, 0, .bo [])).1,
    sn := fun i => slN (A.getD i (.slice none 0 0, 0, .bo [])).1, ob := fun _ _ => 0 }
def argRes : List (Value × Nat × TL) → List Res
  | [] => []
  | a :: l => .arr none a.2.1 a.2.2 :: argRes l

theorem argRes_get : ∀ (A : List (Value × Nat × TL)) (i : Nat), rget (argRes A) i = match A[i]? with | some a => .arr none a.2.1 a.2.2 | none => .yet
  | [], i => by simp [argRes, rget]
  | a :: l, 0 => by simp [argRes, rget]
  | a :: l, i + 1 => by simp [argRes, rget, argRes_get l i]

theorem argRes_length : ∀ A : List (Value × Nat × TL), (argRes A).length = A.length
  | [] => rfl
  | a :: l => by simp [argRes, argRes_length l]

theorem arg_hrep {A : List (Value × Nat × TL)} {W : World} (h : ∀ a ∈ A, ArgTL W a.1 a.2.1 a.2.2) : HRep (argEnv A) (fun _ _ => False) (argRes A) (known (argRes A)) W (fun _ => False) W := by
  refine ⟨fun i hi => hi, Nat.le_refl _, rfl, rfl, rfl, fun i hi => ?_, fun i b _ h => h.elim, fun i j b _ _ _ h => h.elim, fun i b _ h => h.elim, fun _ _ _ => rfl⟩
  have hlt := rget_lt hi
  rw [argRes_length] at hlt
  have hA : A[i]? = some A[i] := List.getElem?_eq_getElem hlt
  have hh := h A[i] (List.getElem_mem hlt)
  generalize A[i] = a at hA hh
  rw [argRes_get, hA]
  simp only
  obtain ⟨h1, h2, sa, cap, h3, h4⟩ := hh
  have hd : A.getD i (.slice none 0 0, 0, .bo []) = a := by rw [List.getD_eq_getElem?_getD, hA]; rfl
  have e1 : (argEnv A).sa i = sa := by show slA (A.getD i _).1 = sa; rw [hd, h3]; rfl
  have e2 : (argEnv A).sn i = a.2.2.len := by show slN (A.getD i _).1 = _; rw [hd, h3]; rfl
  have e3 : (argEnv A).adr i = sa.getD ⟨0, 0, none⟩ := by show (slA (A.getD i _).1).getD _ = _; rw [hd, h3]; rfl
  refine ⟨h1, e2, h2, fun x hx => ?_, fun hl => ?_, fun hl => ?_, .inl ⟨rfl, fun hl => ?_, fun j hj k hk => ?_⟩⟩
  · rw [e1] at hx; rw [e3, hx]; rfl
  · obtain ⟨x, rfl, _⟩ := h4 hl
    rw [e1]; rfl
  · obtain ⟨x, rfl, g, _⟩ := h4 hl
    rw [e3]; exact g
  · obtain ⟨x, rfl, _, g, _⟩ := h4 hl
    exact ⟨fun h => h, by rw [e3]; exact g⟩
  · obtain ⟨x, rfl, _, _, g⟩ := h4 (by omega)
    have := g j hj k hk
    rw [e3]
    simp only [Option.getD_some]
    rw [this, cells_agree (N := fun _ => False) (ρ := Env.zero) (ρ' := argEnv A) (fun _ h => h.elim) _ (h1 j hj).1]

theorem arg_den {A : List (Value × Nat × TL)} {W : World} (h : ∀ a ∈ A, ArgTL W a.1 a.2.1 a.2.2) {i : Nat} {a : Value × Nat × TL} (hi : A[i]? = some a) : den (argEnv A) (.sa i) = a.1 ∧ known (argRes A) i := by
  obtain ⟨h1, h2, sa, cap, h3, h4⟩ := h a (List.mem_of_getElem? hi)
  have hd : A.getD i (.slice none 0 0, 0, .bo []) = a := by rw [List.getD_eq_getElem?_getD, hi]; rfl
  refine ⟨?_, by unfold known; rw [argRes_get, hi]; simp⟩
  show Value.slice (slA (A.getD i _).1) (slN (A.getD i _).1) (slC (A.getD i _).1) = a.1
  rw [hd, h3]; rfl

theorem choose_list {α : Type} {p : Nat → α → Prop} : ∀ n : Nat, (∀ i, i < n → ∃ y, p i y) → ∃ l : List α, l.length = n ∧ ∀ (i : Nat) (y : α), l[i]? = some y → p i y
  | 0, _ => ⟨[], rfl, by simp⟩
  | n + 1, h => by
    obtain ⟨l, h1, h2⟩ := choose_list n fun i hi => h i (by omega)
    obtain ⟨y, hy⟩ := h n (by omega)
    refine ⟨l ++ [y], by simp [h1], fun i z hz => ?_⟩
    by_cases hi : i < n
    · rw [List.getElem?_append_left (by omega)] at hz
      exact h2 i z hz
    · rw [List.getElem?_append_right (by omega)] at hz
      have : i - l.length = 0 := by
        have := (List.getElem?_eq_some_iff.1 hz).1
        simp at this; omega
      rw [this] at hz
      simp at hz
      subst hz
      rw [show i = n by omega]; exact hy

/-- A slice that was handed in is opened. -/
theorem open_list0 {α : Type} {W : World} {t e esz : TypeId} {v : Value} {d : DataW H} {ps : List MemPlace} (ht : P.underlying t = some (.slice e)) (hc : P.cellsOf e = esz) (hz : 0 < esz)
    (hval : ∃ a0 ln cp, v = .slice a0 ln cp) (hd : DataW.Trod enc P W 0 (fun _ => true) true t v d ps) (mk : α → V) (wf : α → Prop) (tl : List α → TL) (d0 : α) (htl : ∀ l : List α, (tl l).len = l.length ∧ ∀ i, (tl l).get i = mk (lget l i d0))
    (hmk : ∀ y, wf y → ok (fun _ => False) (mk y) ∧ isTp (mk y) = false ∧ vsz (mk y) = esz) (hop : ∀ n cs x, DataW.trod enc P W 0 (fun _ => true) true n e cs = some x → ∃ y, wf y ∧ cs = cells Env.zero (mk y)) :
    ∃ l : List α, (∀ y ∈ l, wf y) ∧ ArgTL W v esz (tl l) := by
  obtain ⟨a0, ln, cp, rfl⟩ := hval
  obtain ⟨fuel, hf⟩ := hd
  rcases Go.Deep.open_slice ht hf with ⟨hcs, _⟩ | ⟨a, len, cap, m, n, D, Pl, hcs, _, hlc, hcm, hm, _, hx⟩
  · simp [Value.cells] at hcs
    obtain ⟨rfl, rfl, rfl⟩ := hcs
    obtain ⟨e1, e2⟩ := htl []
    have e1 : (tl []).len = 0 := e1
    exact ⟨[], by simp, fun j hj => by omega, by omega, none, 0, by rw [e1], fun h => by omega⟩
  · simp [Value.cells] at hcs
    obtain ⟨rfl, rfl, rfl⟩ := hcs
    simp only [if_true] at hm
    subst hm
    have hx' : ∀ i, i < ln → ∃ y, wf y ∧ ∀ k, k < esz → W.cell? ((a.add (i * esz)).add k) = (cells Env.zero (mk y))[k]? := fun i hi => by
      obtain ⟨cs, g1, g2⟩ := hx i (by omega)
      rw [hc] at g1
      obtain ⟨y, y1, y2⟩ := hop n cs _ g2
      obtain ⟨_, _, g3⟩ := World.cells?_some g1
      exact ⟨y, y1, fun k hk => by rw [g3 k hk, y2]⟩
    obtain ⟨l, l1, l2⟩ := choose_list ln hx'
    obtain ⟨e1, e2⟩ := htl l
    have hget : ∀ j, j < ln → l[j]? = some (lget l j d0) := fun j hj => by
      unfold lget
      rw [List.getD_eq_getElem?_getD, List.getElem?_eq_getElem (by omega)]; rfl
    have hcell0 : ∀ j, j < ln → ∀ k, k < esz → W.cell? ((a.add (j * esz)).add k) = (cells Env.zero ((tl l).get j))[k]? := fun j hj k hk => by
      rw [e2]; exact (l2 j _ (hget j hj)).2 k hk
    refine ⟨l, fun y hy => ?_, fun j hj => ?_, ?_, some a, m, by rw [e1, l1], fun hl => ?_⟩
    · obtain ⟨i, hi, rfl⟩ := List.getElem_of_mem hy
      exact (l2 i _ (List.getElem?_eq_getElem hi)).1
    · rw [e2]; exact hmk _ (l2 j _ (hget j (by rw [e1, l1] at hj; exact hj))).1
    · have : m ≤ 9223372036854775807 := by simpa [maxLen] using hcm
      omega
    · have hln : 0 < ln := by rw [e1, l1] at hl; exact hl
      have h0 := hcell0 0 hln 0 hz
      have hsome : ∃ u, (cells Env.zero ((tl l).get 0))[0]? = some u := by
        have hk := hmk _ (l2 0 _ (hget 0 hln)).1
        rw [← e2] at hk
        have := cells_length Env.zero _ hk.1
        exact ⟨_, List.getElem?_eq_getElem (by rw [this, hk.2.2]; exact hz)⟩
      obtain ⟨u, hu⟩ := hsome
      rw [hu] at h0
      simp only [Nat.zero_mul, Addr.add, if_true] at h0
      have hspot : a.spot = none := by
        unfold World.cell? at h0
        split at h0
        · split at h0
          · simp at h0
          · rename_i hs; simpa using hs
        · simp at h0
      refine ⟨a, rfl, hspot, World.block_lt_of_cell? W a h0, fun j hj k hk => ?_⟩
      have := hcell0 j (by rw [e1, l1] at hj; exact hj) k hk
      rw [← this]
      congr 1
      obtain ⟨b, o, s⟩ := a
      simp only at hspot
      subst hspot
      rw [add_lit, add_lit]
      show (⟨b, o + (j * esz + k), none⟩ : Addr) = ⟨b, o + j * esz + k, none⟩
      rw [Nat.add_assoc]

theorem open_list {α : Type} {W : World} {t e esz : TypeId} {base : Nat} {v : Value} {d : DataW H} {ps : List MemPlace} (ht : P.underlying t = some (.slice e)) (hc : P.cellsOf e = esz) (hz : 0 < esz)
    (hval : Value.okWide P W .any base t v) (hd : DataW.Trod enc P W 0 (fun _ => true) true t v d ps) (mk : α → V) (wf : α → Prop) (tl : List α → TL) (d0 : α) (htl : ∀ l : List α, (tl l).len = l.length ∧ ∀ i, (tl l).get i = mk (lget l i d0))
    (hmk : ∀ y, wf y → ok (fun _ => False) (mk y) ∧ isTp (mk y) = false ∧ vsz (mk y) = esz) (hop : ∀ n cs x, DataW.trod enc P W 0 (fun _ => true) true n e cs = some x → ∃ y, wf y ∧ cs = cells Env.zero (mk y)) :
    ∃ l : List α, (∀ y ∈ l, wf y) ∧ ArgTL W v esz (tl l) :=
  open_list0 ht hc hz (okWide_slice ht hval) hd mk wf tl d0 htl hmk hop

end
end Go.Sx
