/- Contracts of functions that read places: their arguments, put together. No condition. -/
import Derived.Test.YtjpcaplhblomcaaSx18
set_option linter.unusedVariables false
set_option linter.unusedSimpArgs false
namespace Go.Sx
open Go.RowKit (Below)

/-- How an argument is read: its places, what it says; what it is, with its places from a number on. -/
structure Arg (α : Type) where
  rd : List Res → V → Option (List (Nat × Res) × α)
  cn : α → Nat → V
  pl : α → List Res
structure ArgL (α : Type) where
  rd : List Res → List V → Option (List (Nat × Res) × α)
  cn : α → Nat → List V
  pl : α → List Res

def ArgOK {α : Type} (A : Arg α) : Prop := ∀ res v pls a, A.rd res v = some (pls, a) → pls.map (·.2) = A.pl a ∧ (∀ p ∈ pls, Sees res p.1 p.2 ∧ closedR p.2 = true) ∧ isTp (A.cn a 0) = isTp v ∧ (∀ n, isTp (A.cn a n) = isTp (A.cn a 0)) ∧
  ∀ (pre post : List (Nat × Res)), (∀ ρ K, ok K v → den (ρ.pull (fstR (pre ++ (pls ++ post)))) (A.cn a pre.length) = den ρ v) ∧ ∀ K, ok K v → ok (known (ros (pre ++ (pls ++ post)))) (A.cn a pre.length)
def ArgLOK {α : Type} (A : ArgL α) : Prop := ∀ res l pls a, A.rd res l = some (pls, a) → pls.map (·.2) = A.pl a ∧ (∀ p ∈ pls, Sees res p.1 p.2 ∧ closedR p.2 = true) ∧ (okC l → ∀ n, okC (A.cn a n)) ∧
  ∀ (pre post : List (Nat × Res)), (∀ ρ K, okL K l → denL (ρ.pull (fstR (pre ++ (pls ++ post)))) (A.cn a pre.length) = denL ρ l ∧ cellsL (ρ.pull (fstR (pre ++ (pls ++ post)))) (A.cn a pre.length) = cellsL ρ l) ∧ ∀ K, okL K l → okL (known (ros (pre ++ (pls ++ post)))) (A.cn a pre.length)

def nilA : ArgL Unit := ⟨fun _ l => match l with | [] => some ([], ()) | _ => none, fun _ _ => [], fun _ => []⟩
def consA {α β : Type} (A : Arg α) (B : ArgL β) : ArgL (α × β) :=
  ⟨fun res l => match l with
    | v :: l => match A.rd res v with
      | some (p, a) => match B.rd res l with
        | some (q, b) => some (p ++ q, (a, b))
        | none => none
      | none => none
    | [] => none, fun x n => A.cn x.1 n :: B.cn x.2 (n + (A.pl x.1).length), fun x => A.pl x.1 ++ B.pl x.2⟩
/-- A value. -/
def valA {α : Type} (r : V → Option α) (m : α → V) : Arg α := ⟨fun _ v => match r v with | some x => some ([], x) | none => none, fun x _ => m x, fun _ => []⟩
/-- A pointer to a store. -/
def stA (t e : Nat) : Arg (Option (List Obj)) :=
  ⟨fun res v => match rS t e res v with
    | some (o, L) => match o with
      | none => some ([], none)
      | some k => some ([(k, .store t e L)], some L)
    | none => none, fun o n => match o with | none => nilp | some _ => .lp n 0, fun o => match o with | none => [] | some L => [.store t e L]⟩
/-- A list of objects. -/
def liA : Arg (List Obj) :=
  ⟨fun res v => match rA res v with
    | some (k, L) => some ([(k, .arr none 163 (.ob L))], L)
    | none => none, fun _ n => .sa n, fun L => [.arr none 163 (.ob L)]⟩
/-- A list of values. -/
def laA {α : Type} (esz : Nat) (r : TL → Option α) (m : α → TL) : Arg α :=
  ⟨fun res v => match v with
    | .sa k => match rlook res k with
      | .arr _ e l => if e == esz then match r l with
        | some x => some ([(k, .arr none esz (m x))], x)
        | none => none
        else none
      | _ => none
    | _ => none, fun _ n => .sa n, fun x => [.arr none esz (m x)]⟩
/-- A struct. -/
def agA {α : Type} (B : ArgL α) : Arg α :=
  ⟨fun res v => match v with
    | .ag l => B.rd res l
    | _ => none, fun x n => .ag (B.cn x n), B.pl⟩

theorem pull_fst {pre pls post : List (Nat × Res)} {k : Nat} {r : Res} : fstR (pre ++ ((k, r) :: pls ++ post)) pre.length = k := fstR_get _ _ (k, r) (by simp)
theorem ros_known {pre pls post : List (Nat × Res)} {k : Nat} {r : Res} : known (ros (pre ++ ((k, r) :: pls ++ post))) pre.length := by
  unfold known
  rw [ros_get]
  simp

theorem nilA_ok : ArgLOK nilA := by
  intro res l pls a h
  simp only [nilA] at h
  split at h <;> simp only [Option.some.injEq, Prod.mk.injEq, reduceCtorEq] at h
  obtain ⟨rfl, _⟩ := h
  exact ⟨rfl, by simp, fun _ _ => trivial, fun pre post => ⟨fun _ _ _ => ⟨rfl, rfl⟩, fun _ _ => trivial⟩⟩

theorem consA_ok {α β : Type} {A : Arg α} {B : ArgL β} (hA : ArgOK A) (hB : ArgLOK B) : ArgLOK (consA A B) := by
  intro res l pls x h
  simp only [consA] at h
  split at h
  case h_2 => simp at h
  rename_i v l
  split at h
  case h_2 => simp at h
  rename_i p a ha
  split at h
  case h_2 => simp at h
  rename_i q b hb
  simp only [Option.some.injEq, Prod.mk.injEq] at h
  obtain ⟨rfl, rfl⟩ := h
  obtain ⟨a1, a2, a3, a3', a4⟩ := hA _ _ _ _ ha
  obtain ⟨b1, b2, b3, b4⟩ := hB _ _ _ _ hb
  refine ⟨by simp [consA, a1, b1], fun p' hp' => ?_, fun hc n => ?_, fun pre post => ?_⟩
  · rcases List.mem_append.1 hp' with hp' | hp'
    · exact a2 p' hp'
    · exact b2 p' hp'
  · rw [okC_iff] at hc ⊢
    intro z hz
    simp only [consA] at hz
    rcases List.mem_cons.1 hz with rfl | hz
    · rw [a3', a3]; exact hc v (by simp)
    · exact (okC_iff _).1 (b3 ((okC_iff _).2 fun y hy => hc y (by simp [hy])) _) z hz
  · have hlen : (A.pl a).length = p.length := by rw [← a1]; simp
    obtain ⟨c1, c2⟩ := a4 pre (q ++ post)
    obtain ⟨d1, d2⟩ := b4 (pre ++ p) post
    have e1 : pre ++ (p ++ q ++ post) = pre ++ (p ++ (q ++ post)) := by simp
    have e2 : (pre ++ p) ++ (q ++ post) = pre ++ (p ++ (q ++ post)) := by simp
    have e3 : (pre ++ p).length = pre.length + (A.pl a).length := by simp [hlen]
    rw [e2, e3] at d1 d2
    rw [e1]
    refine ⟨fun ρ K hK => ?_, fun K hK => ?_⟩
    · obtain ⟨f1, f2⟩ := d1 ρ K hK.2
      have f3 := c1 ρ K hK.1
      simp only [consA]
      exact ⟨by simp only [denL]; rw [f3, f1], by simp only [cellsL]; rw [f3, f2]⟩
    · exact ⟨c2 K hK.1, d2 K hK.2⟩

theorem valA_ok {α : Type} {r : V → Option α} {m : α → V} (hr : RdOK r m) (hid : ∀ x, idf (m x) = true) (ht : ∀ v x, r v = some x → isTp v = isTp (m x)) : ArgOK (valA r m) := by
  intro res v pls a h
  simp only [valA] at h
  split at h <;> simp only [Option.some.injEq, Prod.mk.injEq, reduceCtorEq] at h
  rename_i x hx
  obtain ⟨rfl, rfl⟩ := h
  obtain ⟨b1, b2⟩ := hr _ x hx
  refine ⟨rfl, by simp, (ht v x hx).symm, fun _ => rfl, fun pre post => ⟨fun ρ K hK => ?_, fun K hK => ok_empty (b2 K hK)⟩⟩
  show den _ (m x) = _
  rw [b1 ρ]
  exact idf_den (hid x) (b2 K hK) ρ _

theorem stA_ok (t e : Nat) : ArgOK (stA t e) := by
  intro res v pls a h
  simp only [stA] at h
  split at h
  case h_2 => simp at h
  rename_i o L hs
  rcases rS_spec hs with ⟨rfl, rfl, rfl⟩ | ⟨k, rfl, rfl, hse⟩ <;> simp only [Option.some.injEq, Prod.mk.injEq] at h <;> obtain ⟨rfl, rfl⟩ := h
  · exact ⟨rfl, by simp, rfl, fun _ => rfl, fun pre post => ⟨fun _ _ _ => rfl, fun _ _ => rfl⟩⟩
  · refine ⟨rfl, by simpa using ⟨hse, rfl⟩, rfl, fun _ => rfl, fun pre post => ⟨fun ρ K hK => ?_, fun K hK => ros_known (pls := [])⟩⟩
    simp only [stA, den, Env.pull]
    rw [pull_fst (pls := [])]

theorem liA_ok : ArgOK liA := by
  intro res v pls a h
  simp only [liA] at h
  split at h <;> simp only [Option.some.injEq, Prod.mk.injEq, reduceCtorEq] at h
  rename_i k L hs
  obtain ⟨rfl, rfl⟩ := h
  obtain ⟨rfl, hse, _⟩ := rA_spec hs
  refine ⟨rfl, by simpa using ⟨hse, rfl⟩, rfl, fun _ => rfl, fun pre post => ⟨fun ρ K hK => ?_, fun K hK => ros_known (pls := [])⟩⟩
  simp only [liA, den, Env.pull]
  rw [pull_fst (pls := [])]

theorem laA_ok {α : Type} {esz : Nat} {r : TL → Option α} {m : α → TL} (hr : ∀ l x, r l = some x → l = m x) : ArgOK (laA esz r m) := by
  intro res v pls a h
  simp only [laA] at h
  split at h
  case h_2 => simp at h
  rename_i k
  split at h
  case h_2 => simp at h
  rename_i own e l hl
  split at h
  case isFalse => simp at h
  rename_i he
  have he := beq_iff_eq.1 he
  subst he
  split at h <;> simp only [Option.some.injEq, Prod.mk.injEq, reduceCtorEq] at h
  rename_i x hx
  obtain ⟨rfl, rfl⟩ := h
  have := hr _ _ hx
  subst this
  refine ⟨rfl, by simpa using ⟨Sees.arr hl, rfl⟩, rfl, fun _ => rfl, fun pre post => ⟨fun ρ K hK => ?_, fun K hK => ros_known (pls := [])⟩⟩
  simp only [laA, den, Env.pull]
  rw [pull_fst (pls := [])]

theorem agA_ok {α : Type} {B : ArgL α} (hB : ArgLOK B) : ArgOK (agA B) := by
  intro res v pls a h
  simp only [agA] at h
  split at h
  case h_2 => simp at h
  rename_i l
  obtain ⟨b1, b2, b3, b4⟩ := hB _ _ _ _ h
  refine ⟨b1, b2, rfl, fun _ => rfl, fun pre post => ?_⟩
  obtain ⟨c1, c2⟩ := b4 pre post
  refine ⟨fun ρ K hK => ?_, fun K hK => ⟨c2 K hK.1, b3 hK.2 _⟩⟩
  simp only [agA, den]
  rw [(c1 ρ K hK.1).2]

/-- A function that reads what its arguments say, and gives a value. -/
def mkR {α : Type} (B : ArgL α) (Q : α → Option Prop) (F : α → V) : Ct := fun res _ xs => match B.rd res xs with
  | some (_, a) => some (Q a, F a, [])
  | none => none
def rosOf (l : List Res) : List Res := l.map .ro
theorem ros_of (pls : List (Nat × Res)) : ros pls = rosOf (pls.map (·.2)) := by
  induction pls with
  | nil => rfl
  | cons p l ih => obtain ⟨p, r⟩ := p; simp [ros, rosOf, ih]

theorem mkR_ok {P : Program} {f : Nat} {α : Type} {B : ArgL α} {Q : α → Option Prop} {F : α → V} (hB : ArgLOK B) (hF : ∀ a, idf (F a) = true)
    (h : ∀ a, holdsO (Q a) → okL (known (rosOf (B.pl a))) (B.cn a 0) → CallTo P f (B.cn a 0) (rosOf (B.pl a)) (isV (F a)) (fun _ _ => False)) : CtOK P f (mkR B Q F) := by
  refine ct_read fun res nid args q x new hg => ?_
  unfold mkR at hg
  split at hg <;> simp only [Option.some.injEq, Prod.mk.injEq, reduceCtorEq] at hg
  rename_i pls a ha
  obtain ⟨rfl, rfl, rfl⟩ := hg
  obtain ⟨b1, b2, _, b4⟩ := hB _ _ _ _ ha
  obtain ⟨c1, c2⟩ := b4 [] []
  simp only [List.nil_append, List.append_nil, List.length_nil] at c1 c2
  refine ⟨rfl, hF a, pls, B.cn a 0, b2, fun ρ K hK => (c1 ρ K hK).1, c2, fun hq hok => ?_⟩
  rw [ros_of, b1] at hok ⊢
  exact (h a hq hok).mono (fun _ _ => isV_isE) fun _ _ h => h

/-- A function that reads what its arguments say, and makes places. -/
def mkRN {α : Type} (B : ArgL α) (Q : α → Option Prop) (x : α → Nat → V) (new : α → Nat → List Res) : Ct := fun res nid xs => match B.rd res xs with
  | some (_, a) => some (Q a, x a nid, new a nid)
  | none => none
theorem ros_rep {ρ : Env} {fps : Nat → Nat → Prop} {res : List Res} {K : Nat → Prop} {w0 w : World} {F0 : Nat → Prop} (hH : HRep ρ fps res K w0 F0 w) {pls : List (Nat × Res)} (hcl : ∀ p ∈ pls, Sees res p.1 p.2 ∧ closedR p.2 = true) :
    HRep (ρ.pull (fstR pls)) (fun _ _ => False) (ros pls) (known (ros pls)) w (fun _ => False) w := by
  have hfr : ∀ b, b < w0.heap.size → ¬ F0 b → w.heap[b]? = w0.heap[b]? ∧ ¬ (fun _ : Nat => False) b := fun b hb hF => ⟨hH.same b hb hF, fun h => h⟩
  refine ⟨fun i hi => hi, Nat.le_refl _, rfl, rfl, rfl, fun i hi => ?_, fun i b hi h => h.elim, fun i j b hi hj hne h => h.elim, fun i b hi h => h.elim, fun _ _ _ => rfl⟩
  have hlt := rget_lt hi
  rw [ros_length] at hlt
  have hp : pls[i]? = some pls[i] := List.getElem?_eq_getElem hlt
  generalize pls[i] = p at hp
  rw [ros_get, hp]
  simp only
  obtain ⟨hs, hcl⟩ := hcl p (List.mem_of_getElem? hp)
  obtain ⟨fp, g1, g2⟩ := hs.2 ρ fps K w0 F0 w hH
  have hv : Env.via (fun x => if x = p.1 then some i else none) ρ (ρ.pull (fstR pls)) := pull_via fun x j hx => by
    split at hx
    · simp only [Option.some.injEq] at hx; subst hx; rename_i e; subst e
      exact fstR_get pls i p hp
    · simp at hx
  have := renR_spec (N' := known (ros pls)) hv (fun x j hx _ => by
    split at hx
    · simp only [Option.some.injEq] at hx; subst hx; exact hi
    · simp at hx) (p := p.1) (i := i) (by simp) _ _ _ (Res.rebase hH.old hfr _ _ g1)
  rw [closedR_renR hcl] at this
  refine ⟨fp, this, fun b hb => ⟨?_, fun h => h⟩⟩
  rcases g2 b hb with ⟨j, hj, hf⟩ | ⟨hl, _⟩
  · exact hH.lt j b hj hf
  · exact Nat.lt_of_lt_of_le hl hH.old

/-- What is behind a call that makes places, named from a number on. -/
theorem made_gives {ρ ρ1 : Env} {K : Nat → Prop} {fps1 : Nat → Nat → Prop} {r : List Res} {w0 w w' : World} {F0 : Nat → Prop} {nid : Nat} {π : List Nat} {x : Nat → V} {new : Nat → List Res} {v : V} (hnd : π.Nodup)
    (g1 : HRep ρ1 fps1 r (known r) w (fun _ => False) w') (g3 : ok (known r) v) (hN : NewAs π x new v r) : Gives K ρ nid (x nid) (new nid) w0 F0 w (den ρ1 v) w' := by
  obtain ⟨n1, n2⟩ := hN nid
  obtain ⟨l1, l2⟩ := newL_spec n2
  let ρ' : Env := ⟨fun i => if i < nid then ρ.num i else if i < nid + π.length then ρ1.num (π.getD (i - nid) 0) else ρ.num i, fun i => if i < nid then ρ.cap i else if i < nid + π.length then ρ1.cap (π.getD (i - nid) 0) else ρ.cap i,
    fun i => if i < nid then ρ.adr i else if i < nid + π.length then ρ1.adr (π.getD (i - nid) 0) else ρ.adr i, fun i => if i < nid then ρ.sa i else if i < nid + π.length then ρ1.sa (π.getD (i - nid) 0) else ρ.sa i,
    fun i => if i < nid then ρ.sn i else if i < nid + π.length then ρ1.sn (π.getD (i - nid) 0) else ρ.sn i, fun i => if i < nid then ρ.ob i else if i < nid + π.length then ρ1.ob (π.getD (i - nid) 0) else ρ.ob i⟩
  have hvia : Env.via (idxOf π nid) ρ1 ρ' := by
    intro p i hp
    obtain ⟨a1, a2, a3⟩ := idxOf_spec hp
    simp [ρ', if_neg (show ¬ i < nid by omega), if_pos a2, a3]
  have hat : ∀ k, k < (new nid).length → ∃ p, π[k]? = some p ∧ idxOf π nid p = some (nid + k) := fun k hk => by
    have hk' : k < π.length := by omega
    exact ⟨π[k], by simp [hk'], idxOf_of π nid k hnd (by simp [hk'])⟩
  have hNN : ∀ p i, idxOf π nid p = some i → known r p → K i ∨ fresh nid (new nid).length i := fun p i hp _ => by
    obtain ⟨a1, a2, a3⟩ := idxOf_spec hp
    exact .inr ⟨a1, by omega⟩
  refine ⟨ρ', ⟨⟨g1.os, g1.tape, g1.output, g1.old, fun b hb => g1.same b hb (by simp)⟩, fun i hi => ?_, fun k => fps1 (π.getD k 0), fun k hk => ?_, fun k l b hk hl hne => ?_⟩, ?_, ?_⟩
  · have : ¬ (nid ≤ i ∧ i < nid + π.length) := fun ⟨a, b⟩ => hi ⟨a, by omega⟩
    by_cases hlt : i < nid
    · simp [ρ', if_pos hlt]
    · simp [ρ', if_neg hlt, if_neg (show ¬ i < nid + π.length by omega)]
  · obtain ⟨p, p1, p2⟩ := hat k hk
    obtain ⟨m1, m2, m3⟩ := l2 k p p1
    have hgd : π.getD k 0 = p := by simp [List.getD_eq_getElem?_getD, p1]
    simp only [hgd]
    refine ⟨?_, fun b hb => ⟨?_, g1.lt p b m1 hb⟩⟩
    · rw [m3]
      exact renR_spec hvia hNN p2 _ _ _ (ownR_holds m2 (g1.holds p m1))
    · refine Nat.le_of_not_lt fun hlt => ?_
      exact g1.inF p b m1 hb hlt
  · obtain ⟨p, p1, p2⟩ := hat k hk
    obtain ⟨p', p1', p2'⟩ := hat l hl
    have hgd : π.getD k 0 = p := by simp [List.getD_eq_getElem?_getD, p1]
    have hgd' : π.getD l 0 = p' := by simp [List.getD_eq_getElem?_getD, p1']
    simp only [hgd, hgd']
    have hpp : p ≠ p' := by
      rintro rfl
      rw [p2] at p2'
      simp at p2'
      omega
    exact g1.disj p p' b (l2 k p p1).1 (l2 l p' p1').1 hpp
  · exact (renO_spec hvia hNN _ _ n1).1.symm
  · exact (renO_spec hvia hNN _ _ n1).2.1 g3

theorem mkRN_ok {P : Program} {f : Nat} {α : Type} {B : ArgL α} {Q : α → Option Prop} {x : α → Nat → V} {new : α → Nat → List Res} {π : α → List Nat} (hB : ArgLOK B) (hnd : ∀ a, (π a).Nodup) (hy : ∀ a nid, yfr (new a nid) = true)
    (h : ∀ a, holdsO (Q a) → okL (known (rosOf (B.pl a))) (B.cn a 0) → CallTo P f (B.cn a 0) (rosOf (B.pl a)) (fun v r => NewAs (π a) (x a) (new a) v r) (fun _ _ => False)) : CtOK P f (mkRN B Q x new) := by
  intro ρ fps res K w0 F0 w nid args q y new' hH hargs hg hq hfr
  unfold mkRN at hg
  split at hg <;> simp only [Option.some.injEq, Prod.mk.injEq, reduceCtorEq] at hg
  rename_i pls a ha
  obtain ⟨rfl, rfl, rfl⟩ := hg
  obtain ⟨b1, b2, _, b4⟩ := hB _ _ _ _ ha
  obtain ⟨c1, c2⟩ := b4 [] []
  simp only [List.nil_append, List.append_nil, List.length_nil] at c1 c2
  refine ⟨?_, fun k hk => yfr_spec (hy a nid) k hk⟩
  have hrep := ros_rep hH b2
  have hok := c2 K hargs
  rw [← (c1 ρ K hargs).1]
  have hro : ros pls = rosOf (B.pl a) := by rw [ros_of, b1]
  rw [hro] at hrep hok
  refine (h a hq hok _ _ _ _ _ hrep hok).mono fun e w' ⟨v, ρ1, fps1, r, g1, g2, g3, g4⟩ => ?_
  rcases g4 with ⟨rfl, hN⟩ | ⟨_, hF⟩
  · exact ⟨_, rfl, made_gives (hnd a) g1 g3 hN⟩
  · exact hF.elim
/-- What gives is a call. -/
theorem CallTo.ofGives {P : Program} {f : Nat} {args : List V} {res : List Res} {x : V} {new : List Res} {K KP : V → List Res → Prop} (hy : ∀ k, k < new.length → rget new k ≠ .yet)
    (h : ∀ ρ fps w0 F0 w, HRep ρ fps res (known res) w0 F0 w → okL (known res) args → Calls P f (denL ρ args).toArray w fun e w' => ∃ v, e = .returned v ∧ Gives (known res) ρ res.length x new w0 F0 w v w') (hK : K x (res ++ new)) : CallTo P f args res K KP := by
  intro ρ fps w0 F0 w hH hargs
  refine (h ρ fps w0 F0 w hH hargs).mono fun e w' ⟨v, he, ρ', hg, hv, hx⟩ => ?_
  have hfr' : ∀ i, known res i → ¬ fresh res.length new.length i := fun i hi hf => by have := rget_lt hi; unfold fresh at hf; omega
  have hK' : ∀ i, known res i ∨ fresh res.length new.length i → known (res ++ new) i := by
    intro i hi
    obtain ⟨b1, b2, b3⟩ := adds_append res new
    rcases hi with hi | ⟨f1, f2⟩
    · unfold known; rw [(b1 i hi).1]; exact hi
    · have := b3 (i - res.length) (by omega)
      rw [show res.length + (i - res.length) = i by omega] at this
      unfold known; rw [this]; exact hy _ (by omega)
  obtain ⟨fps', g1, g2⟩ := hH.grow (res' := res ++ new) (adds_append _ _) hfr' hK' hg
  exact ⟨x, ρ', fps', res ++ new, g1, ⟨g2, fun i hi => hK' i (.inl hi)⟩, ok_mono hK' _ hx, .inl ⟨by rw [he, hv], hK⟩⟩

/-- A function that reads, and makes one place or none. -/
def hMk {α : Type} (B : ArgL α) (Q : α → Prop) (c : α → Bool) (F0 : α → V) (F1 : α → Nat → V) (new : α → Res) : HCt := fun args res K =>
  match B.rd res args with
  | some (_, a) => Q a ∧ (c a = false → K (F0 a) res) ∧ (c a = true → K (F1 a res.length) (res ++ [new a]))
  | none => False
def kMk1 (c : Bool) (x0 : V) (F1 : Nat → V) (new : Res) (p : Option Nat) (v : V) (r : List Res) : Prop :=
  match p with
  | some p => c = true ∧ NewAs [p] F1 (fun _ => [new]) v r
  | none => c = false ∧ isV x0 v r
/-- Which place a result names first. -/
def fstP (v : V) : Option Nat :=
  match v with
  | .sa p => some p
  | .lp p _ => some p
  | .tp l => match l with
    | x :: _ => match x with
      | .sa p => some p
      | .lp p _ => some p
      | _ => none
    | [] => none
  | _ => none
def kMkV (c : Bool) (x0 : V) (F1 : Nat → V) (new : Res) (v : V) (r : List Res) : Prop := kMk1 c x0 F1 new (fstP v) v r

theorem hMk_ok {P : Program} {f : Nat} {α : Type} {B : ArgL α} {Q : α → Prop} {c : α → Bool} {F0 : α → V} {F1 : α → Nat → V} {new : α → Res} (hB : ArgLOK B) (hF : ∀ a, idf (F0 a) = true) (hn : ∀ a, new a ≠ .yet)
    (h : ∀ a, Q a → okL (known (rosOf (B.pl a))) (B.cn a 0) → CallTo P f (B.cn a 0) (rosOf (B.pl a)) (kMkV (c a) (F0 a) (F1 a) (new a)) (fun _ _ => False)) : HOK P f (hMk B Q c F0 F1 new) := by
  intro args res K KP hh
  unfold hMk at hh
  split at hh
  case h_2 => exact hh.elim
  rename_i pls a ha
  obtain ⟨hQ, h0, h1⟩ := hh
  obtain ⟨b1, b2, _, b4⟩ := hB _ _ _ _ ha
  obtain ⟨c1, c2⟩ := b4 [] []
  simp only [List.nil_append, List.append_nil, List.length_nil] at c1 c2
  have hro : ros pls = rosOf (B.pl a) := by rw [ros_of, b1]
  have main : ∀ ρ fps w0 F0' w, HRep ρ fps res (known res) w0 F0' w → okL (known res) args → Calls P f (denL ρ args).toArray w fun e w' => ∃ v ρ1 fps1 r, e = .returned (den ρ1 v) ∧ HRep ρ1 fps1 r (known r) w (fun _ => False) w' ∧ ok (known r) v ∧ kMkV (c a) (F0 a) (F1 a) (new a) v r := by
    intro ρ fps w0 F0' w hH hargs
    have hrep := ros_rep hH b2
    have hok := c2 _ hargs
    rw [hro] at hrep hok
    rw [← (c1 ρ _ hargs).1]
    refine (h a hQ hok _ _ _ _ _ hrep hok).mono fun e w' ⟨v, ρ1, fps1, r, g1, g2, g3, g4⟩ => ?_
    rcases g4 with ⟨rfl, hN⟩ | ⟨_, hF⟩
    · exact ⟨v, ρ1, fps1, r, rfl, g1, g3, hN⟩
    · exact hF.elim
  cases hc : c a with
  | true =>
    refine CallTo.ofGives (x := F1 a res.length) (new := [new a]) (fun k hk => by simp at hk; subst hk; exact hn a) (fun ρ fps w0 F0' w hH hargs => ?_) (h1 hc)
    refine (main ρ fps w0 F0' w hH hargs).mono fun e w' ⟨v, ρ1, fps1, r, he, g1, g3, hv⟩ => ?_
    unfold kMkV kMk1 at hv
    split at hv
    · exact ⟨_, he, made_gives (new := fun _ => [new a]) (by simp) g1 g3 hv.2⟩
    · rw [hc] at hv; simp at hv
  | false =>
    have h0' := h0 hc
    rw [← List.append_nil res] at h0'
    refine CallTo.ofGives (x := F0 a) (new := []) (fun k hk => by simp at hk) (fun ρ fps w0 F0' w hH hargs => ?_) h0'
    refine (main ρ fps w0 F0' w hH hargs).mono fun e w' ⟨v, ρ1, fps1, r, he, g1, g3, hv⟩ => ?_
    unfold kMkV kMk1 at hv
    split at hv
    · rw [hc] at hv; simp at hv
    · refine ⟨_, he, ρ, ⟨⟨g1.os, g1.tape, g1.output, g1.old, fun b hb => g1.same b hb (fun h => h)⟩, Env.agree.refl _ _, fun _ _ => False, fun k hk => by simp at hk, fun k l b hk => by simp at hk⟩, ?_, ?_⟩
      · obtain ⟨e1, e2, _⟩ := isV_isE hv.2 ρ1 (known r)
        rw [e1]
        exact idf_den (hF a) (e2 g3) ρ ρ1
      · obtain ⟨e1, e2, _⟩ := isV_isE hv.2 ρ1 (known r)
        exact idf_ok _ (hF a) (e2 g3)
end Go.Sx
