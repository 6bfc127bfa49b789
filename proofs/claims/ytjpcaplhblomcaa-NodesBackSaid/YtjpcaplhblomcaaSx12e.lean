/- The executor: a drawn region, whole. No condition. -/
import Derived.Test.YtjpcaplhblomcaaSx12d
set_option linter.unusedVariables false
set_option linter.unusedSimpArgs false
namespace Go.Sx
open Go.RowKit (Below)

theorem planGo_spec {C : Ctx} {ops : List Oper} {ds : List (Option Nat × Nat)} {sl : List S} {res : List Res} : ∀ (l : List Oper) (i : Nat) (done drs : List Dr) (rest : List Oper), planGo C ops ds sl res i l done = (drs, rest) → done.length = i → ops.drop i = l →
    (∀ k d, done[k]? = some d → ∃ o, ops[k]? = some o ∧ planOne C ops ds sl res (done.take k) k o = some d) →
    rest = ops.drop drs.length ∧ drs.length ≤ ops.length ∧ ∀ k d, drs[k]? = some d → ∃ o, ops[k]? = some o ∧ planOne C ops ds sl res (drs.take k) k o = some d
  | [], i, done, drs, rest, h, hi, hl, hp => by
    simp only [planGo, Prod.mk.injEq] at h
    obtain ⟨rfl, rfl⟩ := h
    refine ⟨by rw [hi]; exact hl.symm, ?_, hp⟩
    rcases Nat.lt_or_ge done.length (ops.length + 1) with h | h
    · omega
    · have hne : 0 < done.length := by omega
      have := hp (done.length - 1) (done[done.length - 1]'(by omega)) (List.getElem?_eq_getElem (by omega))
      obtain ⟨o, ho, _⟩ := this
      have := (List.getElem?_eq_some_iff.1 ho).1
      omega
  | o :: l, i, done, drs, rest, h, hi, hl, hp => by
    simp only [planGo] at h
    have hoi : ops[i]? = some o := by
      have : (ops.drop i)[0]? = some o := by rw [hl]; rfl
      simpa using this
    split at h
    · rename_i d hd
      refine planGo_spec l (i + 1) (done ++ [d]) drs rest h (by simp [hi]) ?_ fun k e hk => ?_
      · have : (ops.drop i).drop 1 = l := by rw [hl]; rfl
        rw [← this, List.drop_drop]
      · by_cases hlt : k < done.length
        · rw [List.getElem?_append_left hlt] at hk
          obtain ⟨o', h1, h2⟩ := hp k e hk
          refine ⟨o', h1, ?_⟩
          rw [List.take_append_of_le_length (by omega)]
          exact h2
        · rw [List.getElem?_append_right (by omega)] at hk
          have hk0 : k - done.length = 0 := by
            rcases Nat.lt_or_ge (k - done.length) 1 with h | h
            · omega
            · rw [List.getElem?_eq_none (by simpa using h)] at hk; simp at hk
          rw [hk0] at hk
          simp only [List.getElem?_cons_zero, Option.some.injEq] at hk
          subst hk
          have hki : k = i := by omega
          subst hki
          refine ⟨o, hoi, ?_⟩
          rw [show List.take k (done ++ [d]) = done by rw [← hi, List.take_left']; rfl]
          exact hd
    · simp only [Prod.mk.injEq] at h
      obtain ⟨rfl, rfl⟩ := h
      refine ⟨by rw [hi]; exact hl.symm, ?_, hp⟩
      have := (List.getElem?_eq_some_iff.1 hoi).1
      omega

theorem reqAll_spec : ∀ {drs : List Dr} {k : Prop}, reqAll drs k → (∀ (i : Nat) (d : Dr), drs[i]? = some d → (d.g = true → holdsO d.q)) ∧ k
  | [], k, h => ⟨by simp, h⟩
  | d :: l, k, h => by
    have key : (d.g = true → holdsO d.q) ∧ reqAll l k := by
      simp only [reqAll] at h
      split at h
      · exact reqG_iff h
      · exact ⟨fun _ => (reqO_iff h).1, (reqO_iff h).2⟩
    obtain ⟨h1, h2⟩ := reqAll_spec key.2
    refine ⟨fun i e hi => ?_, h2⟩
    cases i with
    | zero => simp only [List.getElem?_cons_zero, Option.some.injEq] at hi; subst hi; exact key.1
    | succ i => exact h1 i e (by simpa using hi)

def cnt (listed : Array Bool) (n : Nat) : Nat := ((List.range n).filter fun k => !listed.getD k false).length

theorem filter_lt {α : Type} {p q : α → Bool} : ∀ {l : List α}, (∀ x ∈ l, q x = true → p x = true) → (∃ x ∈ l, p x = true ∧ q x = false) → (l.filter q).length < (l.filter p).length
  | [], _, ⟨x, hx, _⟩ => by simp at hx
  | y :: l, h, ⟨x, hx, h1, h2⟩ => by
    have hle : ∀ (l : List α), (∀ x ∈ l, q x = true → p x = true) → (l.filter q).length ≤ (l.filter p).length := by
      intro l
      induction l with
      | nil => simp
      | cons z l ih =>
        intro hh
        have := ih fun x hx => hh x (by simp [hx])
        have hz := hh z (by simp)
        simp only [List.filter_cons]
        cases hq : q z <;> cases hp : p z <;> simp_all <;> omega
    have h' : ∀ x ∈ l, q x = true → p x = true := fun x hx => h x (by simp [hx])
    simp only [List.filter_cons]
    rcases List.mem_cons.1 hx with rfl | hx
    · rw [if_pos h1, if_neg (by simp [h2])]
      have := hle l h'
      simp only [List.length_cons]
      omega
    · have ih := filter_lt h' ⟨x, hx, h1, h2⟩
      have hy := h y (by simp)
      cases hq : q y <;> cases hp : p y <;> simp_all <;> omega

theorem cnt_set {listed : Array Bool} {n i : Nat} (hs : listed.size = n) (hi : i < n) (hl : listed.getD i false = false) : cnt (listed.setIfInBounds i true) n < cnt listed n := by
  refine filter_lt (fun x hx h => ?_) ⟨i, List.mem_range.2 hi, ?_, ?_⟩
  · by_cases e : i = x
    · subst e; simpa using hl
    · rw [getD_set_ne false e] at h; exact h
  · simp only [hl, Bool.not_false]
  · simp [hs, hi]

theorem L_set {listed : Array Bool} {i : Nat} (hi : i < listed.size) : (fun k => (listed.setIfInBounds i true).getD k false) = ins (fun k => listed.getD k false) i := by
  funext k
  unfold ins
  by_cases e : k = i
  · subst e; simp [hi]
  · rw [getD_set_ne false (Ne.symm e)]; simp [e]

theorem viewR_all {p : Nat → Bool} : ∀ (l : List Dr) (j : Nat), (∀ k, k < l.length → p (j + k) = true) → viewR p j l = viewR (fun _ => true) j l
  | [], j, _ => by simp [viewR]
  | d :: l, j, h => by
    rw [viewR_cons, viewR_cons, viewR_all l (j + 1) fun k hk => by rw [show j + 1 + k = j + (k + 1) by omega]; exact h (k + 1) (by simpa using hk)]
    have := h 0 (by simp)
    simp only [Nat.add_zero] at this
    rw [if_pos this, if_pos rfl]

section
variable {C : Ctx} {opsA : Array Oper} {ds : List (Option Nat × Nat)} {sl : List S} {res : List Res} {drs : List Dr} {defs : List (Nat × List V × List V)} {ρ0 ρ : Env} {w0 w : World} {F0 : Nat → Prop} {fps : Nat → Nat → Prop} {a : Act}
  {Q : Exit → Act → World → Prop}

/-- An operation, in a round or not. -/
theorem op_in {P : Program} {ops : Array Oper} {ro : Option Nat} {i : Nat} {K : Act → World → Prop} (hQ : ¬ LetsOut Q) (hnd : ro ≠ none → ∀ o ∈ ops.toList, notDefer o) (h : wpOp P ops Q i K a w) : wpOpIn (FF ro) 0 P ops Q i K a w := by
  unfold wpOp at h
  unfold wpOpIn
  split
  · rename_i ho; rw [ho] at h; exact h
  · rename_i o ho
    rw [ho] at h
    simp only at h
    have hmem : o ∈ ops.toList := by rw [← Array.getElem?_toList] at ho; exact List.mem_of_getElem? ho
    split
    · rename_i hw
      rw [if_pos hw] at h
      exact oper_in (fun hr => hnd hr o hmem) (h.resolve_right fun hh => hQ hh.2)
    · rename_i hw
      rw [if_neg hw] at h
      exact ⟨fun _ _ => trivial, h⟩

theorem any_front {ro : Option Nat} (hQ : ¬ LetsOut Q) (hnd : ro ≠ none → ∀ o ∈ opsA.toList, notDefer o) (hC : C.Sound) (P : Planned C opsA.toList ds sl res drs) (hq : ∀ (i : Nat) (d : Dr), drs[i]? = some d → (d.g = true → holdsO d.q)) (hle : drs.length ≤ opsA.size)
    (htail : ∀ i, i < opsA.size → drs.length ≤ i → ∀ k, k < drs.length → (ancAt ds i).testBit k = true)
    (hfin : ∀ (fuel : Nat) (listed : Array Bool) ρ fps a w, listed.size = opsA.size → cnt listed opsA.size ≤ fuel → (∀ k, k < drs.length → listed.getD k false = true) → (∀ k, drs.length ≤ k → listed.getD k false = false) →
      Inv ds sl res drs defs ρ0 w0 F0 (fun k => listed.getD k false) ρ fps a w → wpAnyIn (FF ro) 0 C.P .any opsA Q fuel listed a w) :
    ∀ (fuel : Nat) (listed : Array Bool) ρ fps a w, listed.size = opsA.size → cnt listed opsA.size ≤ fuel → (∀ k, drs.length ≤ k → listed.getD k false = false) →
      Inv ds sl res drs defs ρ0 w0 F0 (fun k => listed.getD k false) ρ fps a w → wpAnyIn (FF ro) 0 C.P .any opsA Q fuel listed a w := by
  intro fuel
  induction fuel with
  | zero =>
    intro listed ρ fps a w hs hc hno I
    refine hfin 0 listed ρ fps a w hs hc (fun k hk => ?_) hno I
    cases h : listed.getD k false with
    | true => rfl
    | false =>
      have := cnt_set (n := opsA.size) hs (by omega) h
      omega
  | succ fuel ih =>
    intro listed ρ fps a w hs hc hno I
    by_cases hall : ∀ k, k < drs.length → listed.getD k false = true
    · exact hfin _ listed ρ fps a w hs hc hall hno I
    · have hready : ∀ i ∈ Region.ready .any opsA listed, i < drs.length ∧ listed.getD i false = false ∧ ∀ k, (ancAt ds i).testBit k = true → listed.getD k false = true := by
        intro i hi
        obtain ⟨h1, o, h2, h3⟩ := mem_ready.1 hi
        have hisz : i < opsA.size := (Array.getElem?_eq_some_iff.1 h2).1
        obtain ⟨p1, p2, p3, p4⟩ := P.at h2
        have hL : ∀ k, (ancAt ds i).testBit k = true → listed.getD k false = true := fun k hk => by
          obtain ⟨e, e1, e2, e3⟩ := (p3 k).1 hk
          have := h3 e e1 e2
          rcases e3 with rfl | e3
          · exact this
          · exact I.down e.on k this e3
        refine ⟨?_, ?_, hL⟩
        · rcases Nat.lt_or_ge i drs.length with h | h
          · exact h
          · exact absurd (fun k hk => hL k (htail i hisz h k hk)) hall
        · have : i < listed.size := by omega
          simpa [Array.getD_eq_getD_getElem?, this] using h1
      have hnil : Region.ready .any opsA listed ≠ [] := by
        intro hnil
        have hmin : ∀ i, i < drs.length → listed.getD i false = true := by
          intro i
          induction i using Nat.strongRecOn with
          | _ i ihi =>
            intro hi
            cases h : listed.getD i false with
            | true => rfl
            | false =>
              have hio : opsA[i]? = some (opsA[i]'(by omega)) := Array.getElem?_eq_getElem (by omega)
              obtain ⟨p1, p2, p3, p4⟩ := P.at hio
              have : i ∈ Region.ready .any opsA listed := by
                rw [mem_ready]
                refine ⟨?_, _, hio, fun e e1 e2 => ?_⟩
                · have : i < listed.size := by omega
                  simpa [Array.getD_eq_getD_getElem?, this] using h
                · have := p2 e.on ((p3 e.on).2 ⟨e, e1, e2, .inl rfl⟩)
                  exact ihi e.on this (by omega)
              rw [hnil] at this
              simp at this
        exact hall hmin
      refine ⟨fun h => absurd h hnil, fun i hi => ?_⟩
      obtain ⟨h1, h2, h3⟩ := hready i hi
      have hisz : i < listed.size := by omega
      refine op_in hQ hnd (Inv.step rfl hC P hq I (d := drs[i]'h1) (List.getElem?_eq_getElem h1) h2 h3 fun ρ' fps' a' w' I' => ?_)
      refine ih (listed.setIfInBounds i true) ρ' fps' a' w' (by simpa using hs) ?_ ?_ ?_
      · have := cnt_set (n := opsA.size) hs (by omega) h2
        omega
      · intro k hk
        rw [getD_set_ne false (by omega)]
        exact hno k hk
      · rw [L_set hisz]; exact I'

/-- What is known when the planned ones are done. -/
theorem Inv.rep {listed : Array Bool} (P : Planned C opsA.toList ds sl res drs) (hall : ∀ k, k < drs.length → listed.getD k false = true) (hno : ∀ k, drs.length ≤ k → listed.getD k false = false)
    (I : Inv ds sl res drs defs ρ0 w0 F0 (fun k => listed.getD k false) ρ fps a w) :
    Rep ρ fps { slots := viewS (allM' drs.length) drs.length 0 ds (drS drs) sl, res := addR res (viewR (fun _ => true) 0 drs), defs := defs } w0 F0 a w ∧ Good ρ0 res ρ (addR res (viewR (fun _ => true) 0 drs)) := by
  have hbit : ∀ k, (allM' drs.length).testBit k = true ↔ k < drs.length := fun k => by simp [allM', Nat.testBit_two_pow_sub_one]
  have hv := P.view I (anc := allM' drs.length) (i := drs.length) (Nat.le_refl _) (fun k hk => ⟨hall k ((hbit k).1 hk), (hbit k).1 hk⟩) (fun k r hk hr => by
      have hk' := (hbit k).1 hk
      obtain ⟨o, ho, _⟩ := P.plan k _ (List.getElem?_eq_getElem hk')
      have := (P.at (i := k) (o := o) (by simpa using ho)).2.1 r hr
      exact (hbit r).2 (by omega)) (fun k m t _ h2 _ => hno k h2)
  rw [List.take_length] at hv
  have hviews : viewR (fun k => listed.getD k false) 0 drs = viewR (fun _ => true) 0 drs := viewR_all drs 0 fun k hk => by simpa using hall k hk
  have hheap := I.heap
  rw [hviews] at hheap
  have hknown : ∀ id, KL res drs (fun k => listed.getD k false) id → known (res ++ viewR (fun _ => true) 0 drs) id := by
    intro id h
    unfold known
    rw [rget_view]
    rcases h with h | ⟨h1, j, y, h2, h3⟩
    · rw [if_pos (rget_lt h)]; exact h
    · rw [if_neg (by omega), h2]
      simp only [if_true]
      obtain ⟨⟨d, hd, hy⟩, _⟩ := (locate_spec drs _ j y).1 h2
      rw [hd]
      exact I.newk j d hd h3 y hy
  rw [addR_eq]
  refine ⟨⟨hv.env hknown (Env.agree.refl _ _), hheap.monoK hknown, I.defs.1, fun d hd => ?_⟩, I.agree, fun i hi => hknown i (.inl hi)⟩
  have := I.defs.2 d hd
  exact ⟨okL_mono (fun i hi => hknown i (.inl hi)) _ this.1, okL_mono (fun i hi => hknown i (.inl hi)) _ this.2⟩

theorem clean_plain (l : List S) (t : Nat) : (∃ x, sget (clean l) t = .v x) ∨ sget (clean l) t = .und := by
  rw [sget_clean]
  split
  · exact .inl ⟨_, rfl⟩
  · exact .inr rfl

/-- Nothing more to do. -/
theorem anyIn_done {P : Program} {ro : Option Nat} {md : Region.Mode} {ops : Array Oper} {listed : Array Bool} (h : Region.ready md ops listed = []) (hq : Q .normal a w) : ∀ fuel, wpAnyIn (FF ro) 0 P md ops Q fuel listed a w
  | 0 => ⟨h, hq⟩
  | fuel + 1 => ⟨fun _ => hq, fun i hi => by rw [h] at hi; simp at hi⟩

theorem tailOK_spec {ds : List (Option Nat × Nat)} : ∀ {l : List Oper} {i : Nat}, tailOK ds i l = true → ∀ j, j < l.length → ancAt ds (i + j) = allM' (i + j)
  | [], i, _, j, hj => by simp at hj
  | o :: l, i, h, j, hj => by
    simp only [tailOK, Bool.and_eq_true, beq_iff_eq] at h
    cases j with
    | zero => exact h.1
    | succ j =>
      have := tailOK_spec h.2 j (by simpa using hj)
      rwa [show i + 1 + j = i + (j + 1) by omega] at this

/-- The rest of a region. -/
theorem tail_spec {H : Handler} {Y : YHandler} {K : Out → St → Prop} {ro : Option Nat} {res0 : List Res} (hC : C.Sound) (hH : H.OK C.P) (hY : YOK C.P Y ρ0 res0) (hnd : ro ≠ none → ∀ o ∈ opsA.toList, notDefer o)
    (P : Planned C opsA.toList ds sl res drs) (n : Nat) (hbit : ∀ i, i < opsA.size → n ≤ i → ∀ k, (ancAt ds i).testBit k = true ↔ k < i) :
    ∀ (l : List Oper) (m : Nat) (listed : Array Bool) (fuel : Nat) (σ : St) ρ fps a w, opsA.toList.drop m = l → n ≤ m → listed.size = opsA.size → cnt listed opsA.size ≤ fuel → (∀ k, k < m → listed.getD k false = true) → (∀ k, m ≤ k → listed.getD k false = false) →
      tailS C H Y opsA.toList l σ K → Rep ρ fps σ w0 F0 a w → Good ρ0 res0 ρ σ.res → wpAnyIn (FF ro) 0 C.P .any opsA (Post ρ0 res0 w0 F0 K) fuel listed a w
  | [], m, listed, fuel, σ, ρ, fps, a, w, hl, hnm, hs, hc, hall, hno, h, hr, hg => by
    have hm : opsA.size ≤ m := by
      have := congrArg List.length hl
      simp at this
      omega
    simp only [tailS, cleanK_eq] at h
    refine anyIn_done ?_ ⟨.norm, _, ρ, fps, trivial, h, ⟨hr.1.clean, hr.2.1, hr.2.2.1, hr.2.2.2⟩, hg⟩ fuel
    cases hrd : Region.ready .any opsA listed with
    | nil => rfl
    | cons i l =>
      obtain ⟨h1, o, h2, _⟩ := mem_ready.1 (show i ∈ Region.ready .any opsA listed by rw [hrd]; simp)
      have hisz : i < opsA.size := (Array.getElem?_eq_some_iff.1 h2).1
      have := hall i (by omega)
      have hlt : i < listed.size := by omega
      simp only [Array.getD_eq_getD_getElem?, Array.getElem?_eq_getElem hlt, Option.getD_some] at this h1
      rw [this] at h1; simp at h1
  | o :: l, m, listed, fuel, σ, ρ, fps, a, w, hl, hnm, hs, hc, hall, hno, h, hr, hg => by
    have hom : opsA[m]? = some o := by
      have : (opsA.toList.drop m)[0]? = some o := by rw [hl]; rfl
      simpa using this
    have hmsz : m < opsA.size := (Array.getElem?_eq_some_iff.1 hom).1
    have hl' : opsA.toList.drop (m + 1) = l := by
      have : (opsA.toList.drop m).drop 1 = l := by rw [hl]; rfl
      rw [← this, List.drop_drop]
    have hml : listed.getD m false = false := hno _ (Nat.le_refl _)
    have hmlt : m < listed.size := by omega
    cases fuel with
    | zero =>
      have := cnt_set (n := opsA.size) hs hmsz hml
      omega
    | succ fuel =>
      obtain ⟨p1, p2, p3, p4⟩ := P.at hom
      have hmr : m ∈ Region.ready .any opsA listed := by
        rw [mem_ready]
        refine ⟨?_, o, hom, fun e e1 e2 => hall _ (p2 e.on ((p3 e.on).2 ⟨e, e1, e2, .inl rfl⟩))⟩
        simpa [Array.getD_eq_getD_getElem?, hmlt] using hml
      refine ⟨fun hnil => (by rw [hnil] at hmr; simp at hmr), fun i hi => ?_⟩
      obtain ⟨h1, o', h2, h3⟩ := mem_ready.1 hi
      have hisz : i < opsA.size := (Array.getElem?_eq_some_iff.1 h2).1
      have him : i = m := by
        rcases Nat.lt_trichotomy i m with h | h | h
        · have := hall i h
          have hlt : i < listed.size := by omega
          simp only [Array.getD_eq_getD_getElem?, Array.getElem?_eq_getElem hlt, Option.getD_some] at this h1
          rw [this] at h1; simp at h1
        · exact h
        · exfalso
          obtain ⟨q1, q2, q3, q4⟩ := P.at h2
          obtain ⟨e, e1, e2, e3⟩ := (q3 m).1 ((hbit i hisz (by omega) m).2 h)
          have he := h3 e e1 e2
          rcases e3 with rfl | e3
          · rw [hml] at he; simp at he
          · have hlt : m < e.on := by
              have hi' := q2 e.on ((q3 e.on).2 ⟨e, e1, e2, .inl rfl⟩)
              obtain ⟨_, r2, _, _⟩ := P.at (i := e.on) (o := opsA[e.on]'(by omega)) (Array.getElem?_eq_getElem (by omega))
              exact r2 m e3
            rw [hno _ (by omega)] at he; simp at he
      subst him
      have hoo : o' = o := by rw [hom] at h2; exact (Option.some.inj h2).symm
      subst hoo
      have key := stepS_spec (ro := ro) (next := wpAnyIn (FF ro) 0 C.P .any opsA (Post ρ0 res0 w0 F0 K) fuel (listed.setIfInBounds i true)) (Q := Post ρ0 res0 w0 F0 K) hC hH (hY.later hg)
        (fun hr => hnd hr o' (by rw [← Array.getElem?_toList] at hom; exact List.mem_of_getElem? hom)) h hr
        (fun σ' ρ'' fps'' a'' w'' hK' hr' hg' => tail_spec hC hH hY hnd P n hbit l (i + 1) (listed.setIfInBounds i true) fuel σ' ρ'' fps'' a'' w'' hl' (by omega) (by simpa using hs)
          (by have := cnt_set (n := opsA.size) hs hmsz hml; omega)
          (fun k hk => by
            by_cases e : i = k
            · subst e; simp [hmlt]
            · rw [getD_set_ne false e]; exact hall k (by omega))
          (fun k hk => by rw [getD_set_ne false (by omega)]; exact hno k (by omega)) hK' hr' (hg.trans hg'))
        (fun v σ' ρ'' fps'' w'' hK' hv hr' hg' => ⟨.pan v, σ', ρ'', fps'', ⟨rfl, hv⟩, hK', hr', hg.trans hg'⟩)
      unfold wpOpIn
      simp only [hom]
      split
      · rename_i hw; rw [if_pos hw] at key; exact key
      · rename_i hw; rw [if_neg hw] at key; exact ⟨fun _ _ => trivial, key⟩

theorem drawS_spec {H : Handler} {Y : YHandler} {σ : St} {K : Out → St → Prop} {id : Nat} {ro : Option Nat} (hC : C.Sound) (hH : H.OK C.P) (hY : YOK C.P Y ρ σ.res) (hnd : ro ≠ none → ∀ o ∈ opsA.toList, notDefer o) (h : drawS C H Y opsA.toList σ K) (hr : Rep ρ fps σ w0 F0 a w) :
    (Code.region id opsA true).wpIn (FF ro) 0 C.P (Post ρ σ.res w0 F0 K) a w := by
  refine wpIn_region_any hC.mixed ?_
  unfold drawS drawGo at h
  generalize dsGo opsA.toList [] = ds at h
  split at h
  · rename_i hok
    simp only [Bool.and_eq_true] at hok
    rw [cleanK_eq, planK_eq] at h
    generalize hpg : planGo C opsA.toList ds (clean σ.slots) σ.res 0 opsA.toList [] = pr at h
    obtain ⟨drs, rest⟩ := pr
    simp only at h
    obtain ⟨g1, g2, g3⟩ := planGo_spec _ 0 [] drs rest hpg rfl rfl (by simp)
    have P : Planned C opsA.toList ds (clean σ.slots) σ.res drs := ⟨hok.1, hok.2, clean_plain σ.slots, g3⟩
    unfold drawEnd at h
    obtain ⟨hq, hK⟩ := reqAll_spec h
    obtain ⟨r1, r2, r3, r4⟩ := hr
    have hsz : drs.length ≤ opsA.size := by simpa using g2
    have hget : ∀ k, (Array.replicate opsA.size false).getD k false = false := fun k => by
      simp only [Array.getD_eq_getD_getElem?, Array.getElem?_replicate]; split <;> rfl
    have hL0 : ∀ id, KL σ.res drs (fun k => (Array.replicate opsA.size false).getD k false) id → known σ.res id := by
      rintro id (h | ⟨_, j, y, _, h⟩)
      · exact h
      · simp only [hget] at h; simp at h
    have I0 : Inv ds (clean σ.slots) σ.res drs σ.defs ρ w0 F0 (fun k => (Array.replicate opsA.size false).getD k false) ρ fps a { w with drawn := w.drawn + 1 } := by
      have hd : HRep ρ fps σ.res (known σ.res) w0 F0 { w with drawn := w.drawn + 1 } := ⟨r2.sub, r2.old, r2.os, r2.tape, r2.output, fun i hi => Res.holds_keep _ (r2.holds i hi) fun _ _ => rfl, r2.lt, r2.disj, r2.inF, r2.same⟩
      refine ⟨r1.clean.1, fun t j m d _ _ hl => by simp only [hget] at hl; simp at hl, fun t _ => ?_, ?_, fun i k hi => by simp only [hget] at hi; simp at hi, ⟨r3, r4⟩, Env.agree.refl _ _, fun j d _ hl => by simp only [hget] at hl; simp at hl⟩
      · exact (SlotOK.plain (clean_plain σ.slots t) (r1.clean.2 t)).env (fun i hi => .inl hi) (Env.agree.refl _ _)
      · refine (hd.monoK fun i hi => .inl hi).forget fun id hk => ?_
        have := hL0 id (known_view hk)
        rw [rget_view, if_pos (rget_lt this)]
    have hcnt : cnt (Array.replicate opsA.size false) opsA.size ≤ opsA.size := by
      have := List.length_filter_le (fun k => !(Array.replicate opsA.size false).getD k false) (List.range opsA.size)
      simpa [cnt] using this
    cases rest with
    | nil =>
      simp only [frcK_eq, cleanK_eq] at hK
      have hlen : drs.length = opsA.size := by
        have := congrArg List.length g1
        simp at this
        omega
      refine any_front Post.noOut hnd hC P hq hsz (fun i h1 h2 => by omega) ?_ opsA.size _ ρ fps a _ (by simp) hcnt (fun k _ => hget k) I0
      intro fuel listed ρ' fps' a' w' hs hc hall hno I
      obtain ⟨hrep, hgood⟩ := I.rep P hall hno
      refine anyIn_done ?_ ⟨.norm, _, ρ', fps', trivial, hK, ⟨hrep.1.clean, hrep.2.1, hrep.2.2.1, hrep.2.2.2⟩, hgood⟩ fuel
      cases hrd : Region.ready .any opsA listed with
      | nil => rfl
      | cons i l =>
        obtain ⟨h1, o, h2, _⟩ := mem_ready.1 (show i ∈ Region.ready .any opsA listed by rw [hrd]; simp)
        have hisz : i < opsA.size := (Array.getElem?_eq_some_iff.1 h2).1
        have := hall i (by omega)
        have hlt : i < listed.size := by omega
        simp only [Array.getD_eq_getD_getElem?, Array.getElem?_eq_getElem hlt, Option.getD_some] at this h1
        rw [this] at h1; simp at h1
    | cons o rest =>
      simp only [frcK_eq] at hK
      split at hK
      · rename_i htl
        have htl := tailOK_spec htl
        have hlen : opsA.size = drs.length + (rest.length + 1) := by
          have := congrArg List.length g1
          simp at this
          omega
        have hbit : ∀ i, i < opsA.size → drs.length ≤ i → ∀ k, (ancAt ds i).testBit k = true ↔ k < i := fun i h1 h2 k => by
          have := htl (i - drs.length) (by simp; omega)
          rw [show drs.length + (i - drs.length) = i by omega] at this
          rw [this]; simp [allM', Nat.testBit_two_pow_sub_one]
        refine any_front Post.noOut hnd hC P hq hsz (fun i h1 h2 k hk => (hbit i h1 h2 k).2 (by omega)) ?_ opsA.size _ ρ fps a _ (by simp) hcnt (fun k _ => hget k) I0
        intro fuel listed ρ' fps' a' w' hs hc hall hno I
        obtain ⟨hrep, hgood⟩ := I.rep P hall hno
        exact tail_spec hC hH hY hnd P drs.length hbit (o :: rest) drs.length listed fuel _ ρ' fps' a' w' g1.symm (Nat.le_refl _) hs hc hall hno hK hrep hgood
      · exact hK.elim
  · exact h.elim

end
end Go.Sx
