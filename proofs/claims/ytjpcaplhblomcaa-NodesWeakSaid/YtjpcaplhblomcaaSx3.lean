/- The memory of the executor: what is owned, what is only read, and that all else stays. No condition. -/
import Derived.Test.YtjpcaplhblomcaaSx2
import Derived.Laws.OwnMore
set_option linter.unusedVariables false
set_option linter.unusedSimpArgs false
namespace Go.Sx
open Go.RowKit (Below)

def lget {α : Type} (l : List α) (i : Nat) (d : α) : α := l.getD i d
def llen {α : Type} (l : List α) : Nat := l.length

/-- A list of values of one kind. -/
inductive TL where
  | fn (n : Nat) (get : Nat → V)
  | ob (l : List Obj)
  | key (l : List Key)
  | it (k : IntKind) (l : List Int)
  | bo (l : List Bool)
  | st (l : List ByteArray)

def TL.len : TL → Nat
  | .fn n _ => n
  | .ob l => llen l
  | .key l => llen l
  | .it _ l => llen l
  | .bo l => llen l
  | .st l => llen l

def TL.get : TL → Nat → V
  | .fn _ g, i => g i
  | .ob l, i => .ob (lget l i free)
  | .key l, i => .key (lget l i void)
  | .it k l, i => .it k (lget l i 0)
  | .bo l, i => .bo (lget l i false)
  | .st l, i => .st (lget l i ByteArray.empty)

/-- What a place stands for: nothing yet; nothing any more; a block; an array (own, of elements of a type; or only read); an own array of pointers to objects; the mark of its pointers; a store of objects, shut; anything that is only read. -/
inductive Res where
  | yet
  | gone
  | blk (ty : Nat) (c : V)
  | arr (own : Option Nat) (esz : Nat) (l : TL)
  | obs (ty q : Nat) (L : List Obj)
  | gen (j : Nat)
  | store (ty e : Nat) (L : List Obj)
  | lop (r : Loop) (s : LoopState) (j : Option Code)
  | dfr
  | mp (k : IntKind) (ks : List Int) (vs : List V)
  | ro (r : Res)

def rget : List Res → Nat → Res
  | [], _ => .yet
  | r :: _, 0 => r
  | _ :: l, i + 1 => rget l i

def rset : List Res → Nat → Res → List Res
  | [], _, _ => []
  | _ :: l, 0, r => r :: l
  | x :: l, i + 1, r => x :: rset l i r

theorem rget_eq : ∀ (l : List Res) (i : Nat), rget l i = l.getD i .yet
  | [], i => by simp [rget]
  | r :: l, 0 => by simp [rget]
  | r :: l, i + 1 => by simp [rget, rget_eq l i]

theorem rset_eq : ∀ (l : List Res) (i : Nat) (r : Res), rset l i r = l.set i r
  | [], i, r => by simp [rset]
  | x :: l, 0, r => by simp [rset]
  | x :: l, i + 1, r => by simp [rset, rset_eq l i]

theorem rget_rset (l : List Res) (i j : Nat) (r : Res) (h : i < l.length) : rget (rset l i r) j = if j = i then r else rget l j := by
  rw [rset_eq, rget_eq, rget_eq, List.getD_eq_getElem?_getD, List.getD_eq_getElem?_getD, List.getElem?_set]
  by_cases e : i = j
  · subst e; simp [h]
  · simp [e, Ne.symm e]

theorem rget_lt {l : List Res} {i : Nat} (h : rget l i ≠ .yet) : i < l.length := by
  rw [rget_eq] at h
  rcases Nat.lt_or_ge i l.length with h' | h'
  · exact h'
  · simp [List.getD_eq_getElem?_getD, List.getElem?_eq_none h'] at h

/-- Is there something at a place? -/
def known (res : List Res) (i : Nat) : Prop := rget res i ≠ .yet

def Env.zero : Env := ⟨fun _ => 0, fun _ => 0, fun _ => ⟨0, 0, none⟩, fun _ => none, fun _ => 0, fun _ _ => 0⟩

/-- The cells of a list. -/
def TL.cells (l : TL) : List Value := (List.range l.len).flatMap fun j => Sx.cells Env.zero (l.get j)

/-- The slice over a place. -/
def Env.sl (ρ : Env) (i : Nat) : Value := .slice (ρ.sa i) (ρ.sn i) (ρ.cap i)

/-- What holds of a place. K: the places that are known; w0: the world at the beginning; F0: the blocks of w0 that may change. -/
def Res.holds (K : Nat → Prop) (ρ : Env) (i : Nat) (fp : Nat → Prop) (w0 : World) (F0 : Nat → Prop) (w : World) : Res → Prop
  | .yet => True
  | .gone => True
  | .blk ty c => ok K c ∧ isTp c = false ∧ fp (ρ.num i) ∧ w.heap[ρ.num i]? = some (.cells (cells ρ c).toArray ty (0, 0))
  | .arr own esz l => (∀ j, j < l.len → ok (fun _ => False) (l.get j) ∧ isTp (l.get j) = false ∧ vsz (l.get j) = esz) ∧
      ρ.sn i = l.len ∧ l.len ≤ 9223372036854775807 ∧ (∀ a, ρ.sa i = some a → a = ρ.adr i) ∧ (0 < l.len → (ρ.sa i).isSome = true) ∧ (0 < l.len → (ρ.adr i).spot = none) ∧
      ((own = none ∧ (0 < l.len → ¬ F0 (ρ.adr i).block ∧ (ρ.adr i).block < w0.heap.size) ∧
        ∀ j, j < l.len → ∀ k, k < esz → w0.cell? ⟨(ρ.adr i).block, (ρ.adr i).off + (j * esz + k), none⟩ = (cells ρ (l.get j))[k]?) ∨
       ∃ e, (∀ e', own = some e' → e' = e) ∧ w.ownsRow 0 e esz (ρ.sl i) l.len l.cells ∧ ∀ a, ρ.sa i = some a → fp a.block)
  | .gen _ => True
  | .obs ty q L => K q ∧ (∀ o ∈ L, o.wf) ∧ ρ.sn i = L.length ∧ L.length ≤ 9223372036854775807 ∧ (∀ a, ρ.sa i = some a → a = ρ.adr i ∧ fp a.block) ∧ (0 < L.length → (ρ.sa i).isSome = true) ∧
      w.ownsRow 0 ty 1 (ρ.sl i) L.length ((List.range L.length).map fun j => Value.pointer (some ⟨ρ.ob q j, 0, none⟩)) ∧
      ∀ j, j < L.length → fp (ρ.ob q j) ∧ ∃ t, w.heap[ρ.ob q j]? = some (.cells (obCells (L.getD j free)).toArray t (0, 0))
  | .store ty e L => fp (ρ.num i) ∧ (∀ o ∈ L, o.wf) ∧ L.length ≤ 9223372036854775807 ∧ ∃ (sl : Value) (ob : Nat → Nat), w.heap[ρ.num i]? = some (.cells #[sl] ty (0, 0)) ∧
      w.ownsRow 0 e 1 sl L.length ((List.range L.length).map fun j => Value.pointer (some ⟨ob j, 0, none⟩)) ∧ (∀ b, sl.ownBlock = some b → fp b ∧ b ≠ ρ.num i) ∧
      ∀ j, j < L.length → fp (ob j) ∧ ob j ≠ ρ.num i ∧ ∃ t, w.heap[ob j]? = some (.cells (obCells (L.getD j free)).toArray t (0, 0))
  | .lop r s j => fp (ρ.num i) ∧ w.heap[ρ.num i]? = some (.loop { r with state := s, pending := j })
  | .dfr => fp (ρ.num i) ∧ w.heap[ρ.num i]? = some (.deferred (some []))
  | .mp k ks vs => fp (ρ.num i) ∧ okL K vs ∧ okC vs ∧ (∀ c ∈ ks, inR k c) ∧ ks.length = vs.length ∧ ∃ es clock, w.heap[ρ.num i]? = some (.map es clock) ∧ es.toList.map (·.key) = ks.map (Value.int k) ∧ es.toList.map (·.val) = denL ρ vs
  | .ro r => ∃ fp' : Nat → Prop, Res.holds K ρ i fp' w0 F0 w0 r ∧ ∀ b, fp' b → b < w0.heap.size ∧ ¬ F0 b

theorem ownsRow_keepV {w w' : World} {e size : Nat} {v : Value} {n : Nat} {xs : List Value} (h : w.ownsRow 0 e size v n xs) (hw : ∀ b, v.ownBlock = some b → w'.heap[b]? = w.heap[b]?) : w'.ownsRow 0 e size v n xs := by
  refine ⟨h.1, ?_⟩
  rcases h.2 with h0 | ⟨g, cap, cur, h1, h2, h3, h4⟩
  · exact .inl h0
  · refine .inr ⟨g, cap, cur, h1, h2, ?_, h4⟩
    rw [hw g (by rw [h1]; rfl)]
    exact h3

theorem ownsRow_keep {w w' : World} {e size : Nat} {ρ : Env} {i n : Nat} {xs : List Value} (h : w.ownsRow 0 e size (ρ.sl i) n xs) (hw : ∀ a, ρ.sa i = some a → w'.heap[a.block]? = w.heap[a.block]?) : w'.ownsRow 0 e size (ρ.sl i) n xs := by
  refine ⟨h.1, ?_⟩
  rcases h.2 with h0 | ⟨g, cap, cur, h1, h2, h3, h4⟩
  · exact .inl h0
  · refine .inr ⟨g, cap, cur, h1, h2, ?_, h4⟩
    simp only [Env.sl, Value.slice.injEq] at h1
    rw [hw _ h1.1]
    exact h3

theorem Res.holds_keep {K : Nat → Prop} {ρ : Env} {i : Nat} {fp : Nat → Prop} {w0 : World} {F0 : Nat → Prop} {w w' : World} (r : Res)
    (h : r.holds K ρ i fp w0 F0 w) (hw : ∀ b, fp b → w'.heap[b]? = w.heap[b]?) : r.holds K ρ i fp w0 F0 w' := by
  cases r with
  | yet => trivial
  | gone => trivial
  | blk ty c => exact ⟨h.1, h.2.1, h.2.2.1, by rw [hw _ h.2.2.1]; exact h.2.2.2⟩
  | arr own esz l =>
    obtain ⟨h1, h2, h3, h4, h5, h6, h7⟩ := h
    refine ⟨h1, h2, h3, h4, h5, h6, ?_⟩
    rcases h7 with h7 | ⟨e, e1, e2, e3⟩
    · exact .inl h7
    · exact .inr ⟨e, e1, ownsRow_keep e2 fun a ha => hw _ (e3 a ha), e3⟩
  | gen j => trivial
  | obs ty q L =>
    obtain ⟨h0, h1, h2, h3, h4, h5, h6, h7⟩ := h
    refine ⟨h0, h1, h2, h3, h4, h5, ownsRow_keep h6 fun a ha => hw _ (h4 a ha).2, fun j hj => ?_⟩
    obtain ⟨g1, t, g2⟩ := h7 j hj
    exact ⟨g1, t, by rw [hw _ g1]; exact g2⟩
  | store ty e L =>
    obtain ⟨h0, h1, h2, sl, ob, h3, h5, h6, h7⟩ := h
    refine ⟨h0, h1, h2, sl, ob, by rw [hw _ h0]; exact h3, ownsRow_keepV h5 fun b hb => hw _ (h6 b hb).1, h6, fun j hj => ?_⟩
    obtain ⟨g1, g0, t, g2⟩ := h7 j hj
    exact ⟨g1, g0, t, by rw [hw _ g1]; exact g2⟩
  | lop r s j => exact ⟨h.1, by rw [hw _ h.1]; exact h.2⟩
  | dfr => exact ⟨h.1, by rw [hw _ h.1]; exact h.2⟩
  | mp k ks vs =>
    obtain ⟨h0, h1, h2, h3, h4, es, cl, h5, h6⟩ := h
    exact ⟨h0, h1, h2, h3, h4, es, cl, by rw [hw _ h0]; exact h5, h6⟩
  | ro r => exact h

theorem Res.holds_env {K K' : Nat → Prop} {ρ ρ' : Env} {i : Nat} {fp : Nat → Prop} {w0 : World} {F0 : Nat → Prop} {w : World} (r : Res)
    (h : r.holds K ρ i fp w0 F0 w) (hK : ∀ j, K j → K' j) (ha : Env.agree K ρ ρ') (hi : K i) : r.holds K' ρ' i fp w0 F0 w := by
  obtain ⟨a1, a2, a3, a4, a5, a6⟩ := ha i hi
  have hsl : ρ'.sl i = ρ.sl i := by simp only [Env.sl, a2, a4, a5]
  induction r generalizing fp w with
  | lop r s j => exact ⟨by rw [a1]; exact h.1, by rw [a1]; exact h.2⟩
  | dfr => exact ⟨by rw [a1]; exact h.1, by rw [a1]; exact h.2⟩
  | mp k ks vs =>
    obtain ⟨h0, h1, h2, h3, h4, es, cl, h5, h6, h7⟩ := h
    exact ⟨by rw [a1]; exact h0, okL_mono hK _ h1, h2, h3, h4, es, cl, by rw [a1]; exact h5, h6, by rw [denL_agree ha vs h1]; exact h7⟩
  | store ty e L =>
    obtain ⟨h0, h1, h2, sl, ob, h3, h5, h6, h7⟩ := h
    exact ⟨by rw [a1]; exact h0, h1, h2, sl, ob, by rw [a1]; exact h3, h5, by rw [a1]; exact h6, by rw [a1]; exact h7⟩
  | ro r ih =>
    obtain ⟨fp', h1, h2⟩ := h
    exact ⟨fp', ih h1, h2⟩
  | yet => trivial
  | gone => trivial
  | blk ty c => exact ⟨ok_mono hK _ h.1, h.2.1, by rw [a1]; exact h.2.2.1, by rw [a1, cells_agree ha c h.1]; exact h.2.2.2⟩
  | arr own esz l =>
    obtain ⟨h1, h2, h3, h4, h5, h6, h7⟩ := h
    refine ⟨h1, by rw [a5]; exact h2, h3, by rw [a4, a3]; exact h4, by rw [a4]; exact h5, by rw [a3]; exact h6, ?_⟩
    rcases h7 with ⟨e1, e2, e3⟩ | ⟨e, e1, e2, e3⟩
    · refine .inl ⟨e1, by rw [a3]; exact e2, fun j hj k hk => ?_⟩
      rw [a3, e3 j hj k hk, cells_agree (N := fun _ => False) (ρ := ρ) (ρ' := ρ') (fun _ h => h.elim) _ (h1 j hj).1]
    · exact .inr ⟨e, e1, by rw [hsl]; exact e2, by rw [a4]; exact e3⟩
  | gen j => trivial
  | obs ty q L =>
    obtain ⟨h0, h1, h2, h3, h4, h5, h6, h7⟩ := h
    have a6 := (ha q h0).2.2.2.2.2
    exact ⟨hK q h0, h1, by rw [a5]; exact h2, h3, by rw [a4, a3]; exact h4, by rw [a4]; exact h5, by rw [hsl, a6]; exact h6, by rw [a6]; exact h7⟩

/-- The memory is as the places say; all else is as it was at the beginning. -/
structure HRep (ρ : Env) (fps : Nat → Nat → Prop) (res : List Res) (K : Nat → Prop) (w0 : World) (F0 : Nat → Prop) (w : World) : Prop where
  sub : ∀ i, known res i → K i
  old : w0.heap.size ≤ w.heap.size
  os : w.os = w0.os
  tape : w.tape = w0.tape
  output : w.output = w0.output
  holds : ∀ i, known res i → (rget res i).holds K ρ i (fps i) w0 F0 w
  lt : ∀ i b, known res i → fps i b → b < w.heap.size
  disj : ∀ i j b, known res i → known res j → i ≠ j → fps i b → ¬ fps j b
  inF : ∀ i b, known res i → fps i b → b < w0.heap.size → F0 b
  same : ∀ b, b < w0.heap.size → ¬ F0 b → w.heap[b]? = w0.heap[b]?

/-- What is seen at a place, also where it is only read. -/
def rlook (l : List Res) (i : Nat) : Res :=
  match rget l i with
  | .ro r => r
  | r => r

theorem rlook_known {l : List Res} {i : Nat} {r : Res} (h : rlook l i = r) (hr : r ≠ .yet) : known l i := by
  unfold rlook at h
  unfold known
  intro e
  rw [e] at h
  exact hr h.symm

theorem HRep.look {ρ : Env} {fps : Nat → Nat → Prop} {res : List Res} {K : Nat → Prop} {w0 : World} {F0 : Nat → Prop} {w : World} (h : HRep ρ fps res K w0 F0 w) {i : Nat} {r : Res}
    (hr : rlook res i = r) (hne : r ≠ .yet) : ∃ fp : Nat → Prop, r.holds K ρ i fp w0 F0 w ∧ ∀ b, fp b → b < w.heap.size := by
  have hk := rlook_known hr hne
  have hh := h.holds i hk
  unfold rlook at hr
  split at hr
  · rename_i r' he
    rw [he] at hh
    subst hr
    obtain ⟨fp', h1, h2⟩ := hh
    exact ⟨fp', Res.holds_keep _ h1 fun b hb => h.same b (h2 b hb).1 (h2 b hb).2, fun b hb => Nat.lt_of_lt_of_le (h2 b hb).1 h.old⟩
  · subst hr
    exact ⟨fps i, hh, fun b hb => h.lt i b hk hb⟩

/-- The places from nid on, so many. -/
def fresh (nid n : Nat) (i : Nat) : Prop := nid ≤ i ∧ i < nid + n

/-- Behind a step that only makes memory: what was there is as it was; the new places hold. -/
def Grew (K : Nat → Prop) (ρ ρ' : Env) (nid : Nat) (new : List Res) (w0 : World) (F0 : Nat → Prop) (w w' : World) : Prop :=
  Below w.heap.size w w' ∧ Env.agree (fun i => ¬ fresh nid new.length i) ρ ρ' ∧
  ∃ fp : Nat → Nat → Prop, (∀ k, k < new.length → (rget new k).holds (fun i => K i ∨ fresh nid new.length i) ρ' (nid + k) (fp k) w0 F0 w' ∧ ∀ b, fp k b → w.heap.size ≤ b ∧ b < w'.heap.size) ∧
    ∀ k l b, k < new.length → l < new.length → k ≠ l → fp k b → ¬ fp l b

theorem Grew.refl (K : Nat → Prop) (ρ : Env) (nid : Nat) (w0 : World) (F0 : Nat → Prop) (w : World) : Grew K ρ ρ nid [] w0 F0 w w :=
  ⟨Below.refl _ _, Env.agree.refl _ _, fun _ _ => False, fun k hk => by simp at hk, fun k l b hk => by simp at hk⟩

/-- The places behind such a step. -/
def Adds (res res' : List Res) (nid : Nat) (new : List Res) : Prop :=
  (∀ i, known res i → rget res' i = rget res i ∧ ¬ fresh nid new.length i) ∧
  (∀ i, known res' i → known res i ∨ fresh nid new.length i) ∧
  ∀ k, k < new.length → rget res' (nid + k) = rget new k

theorem Res.holds_K {K K' : Nat → Prop} {ρ : Env} {i : Nat} {fp : Nat → Prop} {w0 : World} {F0 : Nat → Prop} {w : World} (r : Res)
    (h : r.holds K ρ i fp w0 F0 w) (hK : ∀ j, K j → K' j) : r.holds K' ρ i fp w0 F0 w := by
  induction r generalizing fp w with
  | blk ty c => exact ⟨ok_mono hK _ h.1, h.2⟩
  | mp k ks vs => exact ⟨h.1, okL_mono hK _ h.2.1, h.2.2⟩
  | obs ty q L => exact ⟨hK q h.1, h.2⟩
  | ro r ih =>
    obtain ⟨fp', h1, h2⟩ := h
    exact ⟨fp', ih h1, h2⟩
  | _ => exact h

theorem HRep.grow {ρ ρ' : Env} {fps : Nat → Nat → Prop} {res res' : List Res} {w0 : World} {F0 : Nat → Prop} {w w' : World} {nid : Nat} {new : List Res} {K K' : Nat → Prop}
    (h : HRep ρ fps res K w0 F0 w) (ha : Adds res res' nid new) (hKf : ∀ i, K i → ¬ fresh nid new.length i) (hK' : ∀ i, K i ∨ fresh nid new.length i → K' i)
    (hg : Grew K ρ ρ' nid new w0 F0 w w') :
    ∃ fps', HRep ρ' fps' res' K' w0 F0 w' ∧ Env.agree K ρ ρ' := by
  obtain ⟨hb, hag, fp, h1, h2⟩ := hg
  obtain ⟨a1, a2, a3⟩ := ha
  have hag' : Env.agree K ρ ρ' := hag.mono hKf
  have hkey : ∀ i, known res i → ¬ fresh nid new.length i := fun i hi => (a1 i hi).2
  classical
  refine ⟨fun i => if fresh nid new.length i then fp (i - nid) else fps i, ⟨?_, Nat.le_trans h.old hb.size, hb.os.trans h.os, hb.tape.trans h.tape, hb.output.trans h.output, ?_, ?_, ?_, ?_, ?_⟩, hag'⟩
  · intro i hi
    rcases a2 i hi with hk | hf
    · exact hK' i (.inl (h.sub i hk))
    · exact hK' i (.inr hf)
  · intro i hi
    rcases a2 i hi with hk | hf
    · simp only [if_neg (hkey i hk)]
      rw [(a1 i hk).1]
      exact Res.holds_env _ (Res.holds_keep _ (h.holds i hk) fun b hbb => hb.block b (h.lt i b hk hbb)) (fun j hj => hK' j (.inl hj)) hag' (h.sub i hk)
    · simp only [if_pos hf]
      obtain ⟨e1, e2⟩ := hf
      have := (h1 (i - nid) (by omega)).1
      rw [show nid + (i - nid) = i by omega] at this
      have h3 := a3 (i - nid) (by omega)
      rw [show nid + (i - nid) = i by omega] at h3
      rw [h3]
      exact Res.holds_K _ this hK'
  · intro i b hi hbb
    rcases a2 i hi with hk | hf
    · simp only [if_neg (hkey i hk)] at hbb
      exact Nat.lt_of_lt_of_le (h.lt i b hk hbb) hb.size
    · simp only [if_pos hf] at hbb
      exact ((h1 (i - nid) (by unfold fresh at hf; omega)).2 b hbb).2
  · intro i j b hi hj hne hbi hbj
    rcases a2 i hi with hk | hf <;> rcases a2 j hj with hk' | hf'
    · simp only [if_neg (hkey i hk)] at hbi
      simp only [if_neg (hkey j hk')] at hbj
      exact h.disj i j b hk hk' hne hbi hbj
    · simp only [if_neg (hkey i hk)] at hbi
      simp only [if_pos hf'] at hbj
      have := ((h1 (j - nid) (by unfold fresh at hf'; omega)).2 b hbj).1
      have := h.lt i b hk hbi
      omega
    · simp only [if_pos hf] at hbi
      simp only [if_neg (hkey j hk')] at hbj
      have := ((h1 (i - nid) (by unfold fresh at hf; omega)).2 b hbi).1
      have := h.lt j b hk' hbj
      omega
    · simp only [if_pos hf] at hbi
      simp only [if_pos hf'] at hbj
      unfold fresh at hf hf'
      exact h2 (i - nid) (j - nid) b (by omega) (by omega) (by omega) hbi hbj
  · intro i b hi hbb hlt
    rcases a2 i hi with hk | hf
    · simp only [if_neg (hkey i hk)] at hbb
      exact h.inF i b hk hbb hlt
    · simp only [if_pos hf] at hbb
      have := ((h1 (i - nid) (by unfold fresh at hf; omega)).2 b hbb).1
      have := h.old
      omega
  · intro b hlt hF
    rw [hb.block b (Nat.lt_of_lt_of_le hlt h.old)]
    exact h.same b hlt hF

theorem rget_append (l m : List Res) (i : Nat) : rget (l ++ m) i = if i < l.length then rget l i else rget m (i - l.length) := by
  rw [rget_eq, rget_eq, rget_eq, List.getD_eq_getElem?_getD, List.getD_eq_getElem?_getD, List.getD_eq_getElem?_getD]
  split
  · rename_i h; rw [List.getElem?_append_left h]
  · rename_i h; rw [List.getElem?_append_right (by omega)]

theorem adds_append (res new : List Res) : Adds res (res ++ new) res.length new := by
  refine ⟨fun i hi => ?_, fun i hi => ?_, fun k hk => ?_⟩
  · have := rget_lt hi
    exact ⟨by rw [rget_append, if_pos this], by unfold fresh; omega⟩
  · unfold known at hi ⊢
    rw [rget_append] at hi
    by_cases h : i < res.length
    · rw [if_pos h] at hi; exact .inl hi
    · rw [if_neg h] at hi
      have := rget_lt hi
      exact .inr ⟨by omega, by omega⟩
  · rw [rget_append, if_neg (by omega)]; congr 1; omega

/-- An environment with a block's number at a place. -/
def Env.setNum (ρ : Env) (i b : Nat) : Env := { ρ with num := fun j => if j = i then b else ρ.num j }

theorem setNum_agree (ρ : Env) (i b : Nat) : Env.agree (fun j => ¬ fresh i 1 j) ρ (ρ.setNum i b) := fun j hj => by
  have : j ≠ i := fun e => hj ⟨by omega, by omega⟩
  simp [Env.setNum, this]

/-- A new block. -/
theorem Grew.alloc {K : Nat → Prop} {ρ : Env} {nid ty : Nat} {c : V} {w0 : World} {F0 : Nat → Prop} {w : World} (hc : ok K c) (ht : isTp c = false) (hn : ¬ K nid) :
    Grew K ρ (ρ.setNum nid w.heap.size) nid [.blk ty c] w0 F0 w (w.alloc (.cells (cells ρ c).toArray ty)) := by
  refine ⟨(Below.refl _ _).alloc (Nat.le_refl _) _, setNum_agree ρ nid _, fun _ b => b = w.heap.size, fun k hk => ?_, fun k l b hk hl hne => ?_⟩
  · simp only [List.length_singleton, Nat.lt_one_iff] at hk
    subst hk
    have ha : Env.agree K ρ (ρ.setNum nid w.heap.size) := (setNum_agree ρ nid _).mono fun i hi hf => by
      unfold fresh at hf
      exact hn ((show i = nid by omega) ▸ hi)
    refine ⟨⟨ok_mono (fun i hi => .inl hi) c hc, ht, by simp [Env.setNum], ?_⟩, fun b hb => by subst hb; simp⟩
    rw [cells_agree ha c hc, show (ρ.setNum nid w.heap.size).num (nid + 0) = w.heap.size by simp [Env.setNum]]
    exact heap_alloc_new w _
  · simp only [List.length_singleton, Nat.lt_one_iff] at hk hl
    omega

/-- A block that is written: what it holds then. -/
theorem HRep.write {ρ : Env} {fps : Nat → Nat → Prop} {res : List Res} {K : Nat → Prop} {w0 : World} {F0 : Nat → Prop} {w w' : World} {i ty : Nat} {c c' : V}
    (h : HRep ρ fps res K w0 F0 w) (hi : rget res i = .blk ty c) (hc : ok K c') (ht : isTp c' = false)
    (hos : w'.os = w.os) (htape : w'.tape = w.tape) (hout : w'.output = w.output) (hsize : w'.heap.size = w.heap.size)
    (hnew : w'.heap[ρ.num i]? = some (.cells (cells ρ c').toArray ty (0, 0))) (hold : ∀ b, b ≠ ρ.num i → w'.heap[b]? = w.heap[b]?) :
    HRep ρ fps (rset res i (.blk ty c')) K w0 F0 w' := by
  have hk : known res i := by unfold known; rw [hi]; simp
  have hlt := rget_lt hk
  have hh := h.holds i hk
  rw [hi] at hh
  obtain ⟨_, _, hfp, _⟩ := hh
  have hkn : ∀ j, known (rset res i (.blk ty c')) j ↔ known res j := fun j => by
    unfold known
    rw [rget_rset _ _ _ _ hlt]
    by_cases e : j = i
    · subst e; simp [hi]
    · simp [e]
  refine ⟨fun j hj => h.sub j ((hkn j).1 hj), by rw [hsize]; exact h.old, hos.trans h.os, htape.trans h.tape, hout.trans h.output, fun j hj => ?_, fun j b hj hb => by rw [hsize]; exact h.lt j b ((hkn j).1 hj) hb,
    fun j l b hj hl => h.disj j l b ((hkn j).1 hj) ((hkn l).1 hl), fun j b hj => h.inF j b ((hkn j).1 hj), fun b hb hF => ?_⟩
  · rw [rget_rset _ _ _ _ hlt]
    by_cases e : j = i
    · subst e
      simp only [if_true]
      exact ⟨hc, ht, hfp, hnew⟩
    · simp only [if_neg e]
      have hj' := (hkn j).1 hj
      refine Res.holds_keep _ (h.holds j hj') fun b hb => hold b fun eb => ?_
      subst eb
      exact h.disj j i _ hj' hk e hb hfp
  · rw [hold b fun e => hF (h.inF i _ hk hfp (e ▸ hb) |> fun x => e ▸ x)]
    exact h.same b hb hF

/-- Places are forgotten. -/
theorem HRep.forget {ρ : Env} {fps : Nat → Nat → Prop} {res res' : List Res} {K : Nat → Prop} {w0 : World} {F0 : Nat → Prop} {w : World}
    (h : HRep ρ fps res K w0 F0 w) (hf : ∀ i, known res' i → rget res' i = rget res i) : HRep ρ fps res' K w0 F0 w := by
  have hk : ∀ i, known res' i → known res i := fun i hi => by
    have := hf i hi
    unfold known at hi ⊢
    rwa [this] at hi
  exact ⟨fun i hi => h.sub i (hk i hi), h.old, h.os, h.tape, h.output, fun i hi => by rw [hf i hi]; exact h.holds i (hk i hi), fun i b hi => h.lt i b (hk i hi),
    fun i j b hi hj => h.disj i j b (hk i hi) (hk j hj), fun i b hi => h.inF i b (hk i hi), h.same⟩

theorem HRep.monoK {ρ : Env} {fps : Nat → Nat → Prop} {res : List Res} {K K' : Nat → Prop} {w0 : World} {F0 : Nat → Prop} {w : World}
    (h : HRep ρ fps res K w0 F0 w) (hK : ∀ i, K i → K' i) : HRep ρ fps res K' w0 F0 w :=
  ⟨fun i hi => hK i (h.sub i hi), h.old, h.os, h.tape, h.output, fun i hi => Res.holds_K _ (h.holds i hi) hK, h.lt, h.disj, h.inF, h.same⟩

/-- A step that turns some places: T: whose blocks may change; B: the places that are new or otherwise behind it, with their blocks. -/
theorem HRep.turn {ρ ρ' : Env} {fps : Nat → Nat → Prop} {res res' : List Res} {K K' : Nat → Prop} {w0 : World} {F0 : Nat → Prop} {w w' : World} (h : HRep ρ fps res K w0 F0 w) (T B : Nat → Prop) (fp' : Nat → Nat → Prop)
    (hK : ∀ i, known res' i → K' i) (hKK : ∀ i, K i → K' i) (hag : Env.agree K ρ ρ')
    (hA : ∀ i, known res' i → ¬ B i → known res i ∧ ¬ T i ∧ rget res' i = rget res i)
    (hB : ∀ i, known res' i → B i → (rget res' i).holds K' ρ' i (fp' i) w0 F0 w' ∧ ∀ b, fp' i b → (∃ t, T t ∧ known res t ∧ fps t b) ∨ (w.heap.size ≤ b ∧ b < w'.heap.size))
    (hBd : ∀ i j b, B i → B j → i ≠ j → fp' i b → ¬ fp' j b)
    (hos : w'.os = w.os) (htape : w'.tape = w.tape) (hout : w'.output = w.output) (hsize : w.heap.size ≤ w'.heap.size)
    (hsame : ∀ b, b < w.heap.size → (∀ t, T t → known res t → ¬ fps t b) → w'.heap[b]? = w.heap[b]?) :
    ∃ fps', HRep ρ' fps' res' K' w0 F0 w' := by
  classical
  have hAB : ∀ i j b, known res' i → known res' j → ¬ B i → B j → fps i b → ¬ fp' j b := by
    intro i j b hi hj hbi hbj hf hf'
    obtain ⟨k1, k2, _⟩ := hA i hi hbi
    rcases (hB j hj hbj).2 b hf' with ⟨t, ht, hkt, hft⟩ | ⟨hge, _⟩
    · exact h.disj i t b k1 hkt (fun e => k2 (e ▸ ht)) hf hft
    · have := h.lt i b k1 hf; omega
  refine ⟨fun i => if B i then fp' i else fps i, ⟨hK, Nat.le_trans h.old hsize, hos.trans h.os, htape.trans h.tape, hout.trans h.output, ?_, ?_, ?_, ?_, ?_⟩⟩
  · intro i hi
    by_cases hb : B i
    · simp only [if_pos hb]; exact (hB i hi hb).1
    · simp only [if_neg hb]
      obtain ⟨k1, k2, k3⟩ := hA i hi hb
      rw [k3]
      exact Res.holds_env _ (Res.holds_keep _ (h.holds i k1) fun b hf => hsame b (h.lt i b k1 hf) fun t ht hkt hft => h.disj i t b k1 hkt (fun e => k2 (e ▸ ht)) hf hft) hKK hag (h.sub i k1)
  · intro i b hi hf
    by_cases hb : B i
    · simp only [if_pos hb] at hf
      rcases (hB i hi hb).2 b hf with ⟨t, ht, hkt, hft⟩ | ⟨_, hlt⟩
      · exact Nat.lt_of_lt_of_le (h.lt t b hkt hft) hsize
      · exact hlt
    · simp only [if_neg hb] at hf
      exact Nat.lt_of_lt_of_le (h.lt i b (hA i hi hb).1 hf) hsize
  · intro i j b hi hj hne hf hf'
    by_cases hbi : B i <;> by_cases hbj : B j
    · simp only [if_pos hbi] at hf
      simp only [if_pos hbj] at hf'
      exact hBd i j b hbi hbj hne hf hf'
    · simp only [if_pos hbi] at hf
      simp only [if_neg hbj] at hf'
      exact hAB j i b hj hi hbj hbi hf' hf
    · simp only [if_neg hbi] at hf
      simp only [if_pos hbj] at hf'
      exact hAB i j b hi hj hbi hbj hf hf'
    · simp only [if_neg hbi] at hf
      simp only [if_neg hbj] at hf'
      exact h.disj i j b (hA i hi hbi).1 (hA j hj hbj).1 hne hf hf'
  · intro i b hi hf hlt
    by_cases hb : B i
    · simp only [if_pos hb] at hf
      rcases (hB i hi hb).2 b hf with ⟨t, ht, hkt, hft⟩ | ⟨hge, _⟩
      · exact h.inF t b hkt hft hlt
      · have := h.old; omega
    · simp only [if_neg hb] at hf
      exact h.inF i b (hA i hi hb).1 hf hlt
  · intro b hlt hF
    rw [hsame b (Nat.lt_of_lt_of_le hlt h.old) fun t _ hkt hft => hF (h.inF t b hkt hft hlt)]
    exact h.same b hlt hF

end Go.Sx
