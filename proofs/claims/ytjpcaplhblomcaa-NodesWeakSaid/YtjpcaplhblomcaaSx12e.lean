/- The executor: a drawn region, whole. No condition. -/
import Derived.Test.YtjpcaplhblomcaaSx12d
set_option linter.unusedVariables false
set_option linter.unusedSimpArgs false
namespace Go.Sx
open Go.RowKit (Below)

theorem planGo_spec {C : Ctx} {ops : List Oper} {ds : List (Option Nat × Nat)} {sl : List S} {res : List Res} : ∀ (l : List Oper) (i : Nat) (done drs : List Dr) (rest : List Oper), planGo C ops ds sl res i l done = (drs, rest) → done.length = i → ops.drop i = l →
    (∀ k d, done[k]? = some d → ∃ o, ops[k]? = some o ∧ planOne C ops ds sl res (done.take k) k o = some d) →
    rest = ops.drop drs.length ∧ drs.length ≤ ops.length ∧ ∀ k d, drs[k]? = some d → ∃ o, ops[k]? = some o ∧ planOne C ops ds sl res (drs.take k) k o = some d
  | [], i, done, drs, rest, h, hi, hl, hp => by
    simp only [planGo, Prod.mk.injEq] at h
    obtain ⟨rfl, rfl⟩ := h
    refine ⟨by rw [hi]; exact hl.symm, ?_, hp⟩
    rcases Nat.lt_or_ge done.length (ops.length + 1) with h | h
    · omega
    · have hne : 0 < done.length := by omega
      have := hp (done.length - 1) (done[done.length - 1]'(by omega)) (List.getElem?_eq_getElem (by omega))
      obtain ⟨o, ho, _⟩ := this
      have := (List.getElem?_eq_some_iff.1 ho).1
      omega
  | o :: l, i, done, drs, rest, h, hi, hl, hp => by
    simp only [planGo] at h
    have hoi : ops[i]? = some o := by
      have : (ops.drop i)[0]? = some o := by rw [hl]; rfl
      simpa using this
    split at h
    · rename_i d hd
      refine planGo_spec l (i + 1) (done ++ [d]) drs rest h (by simp [hi]) ?_ fun k e hk => ?_
      · have : (ops.drop i).drop 1 = l := by rw [hl]; rfl
        rw [← this, List.drop_drop]
      · by_cases hlt : k < done.length
        · rw [List.getElem?_append_left hlt] at hk
          obtain ⟨o', h1, h2⟩ := hp k e hk
          refine ⟨o', h1, ?_⟩
          rw [List.take_append_of_le_length (by omega)]
          exact h2
        · rw [List.getElem?_append_right (by omega)] at hk
          have hk0 : k - done.length = 0 := by
            rcases Nat.lt_or_ge (k - done.length) 1 with h | h
            · omega
            · rw [List.getElem?_eq_none (by simpa using h)] at hk; simp at hk
          rw [hk0] at hk
          simp only [List.getElem?_cons_zero, Option.some.injEq] at hk
          subst hk
          have hki : k = i := by omega
          subst hki
          refine ⟨o, hoi, ?_⟩
          rw [show List.take k (done ++ [d]) = done by rw [← hi, List.take_left']; rfl]
          exact hd
    · simp only [Prod.mk.injEq] at h
      obtain ⟨rfl, rfl⟩ := h
      refine ⟨by rw [hi]; exact hl.symm, ?_, hp⟩
      have := (List.getElem?_eq_some_iff.1 hoi).1
      omega

theorem reqAll_spec : ∀ {drs : List Dr} {k : Prop}, reqAll drs k → (∀ (i : Nat) (d : Dr), drs[i]? = some d → (d.g = true → holdsO d.q)) ∧ k
  | [], k, h => ⟨by simp, h⟩
  | d :: l, k, h => by
    have key : (d.g = true → holdsO d.q) ∧ reqAll l k := by
      simp only [reqAll] at h
      split at h
      · exact reqG_iff h
      · exact ⟨fun _ => (reqO_iff h).1, (reqO_iff h).2⟩
    obtain ⟨h1, h2⟩ := reqAll_spec key.2
    refine ⟨fun i e hi => ?_, h2⟩
    cases i with
    | zero => simp only [List.getElem?_cons_zero, Option.some.injEq] at hi; subst hi; exact key.1
    | succ i => exact h1 i e (by simpa using hi)

def cnt (listed : Array Bool) (n : Nat) : Nat := ((List.range n).filter fun k => !listed.getD k false).length

theorem filter_lt {α : Type} {p q : α → Bool} : ∀ {l : List α}, (∀ x ∈ l, q x = true → p x = true) → (∃ x ∈ l, p x = true ∧ q x = false) → (l.filter q).length < (l.filter p).length
  | [], _, ⟨x, hx, _⟩ => by simp at hx
  | y :: l, h, ⟨x, hx, h1, h2⟩ => by
    have hle : ∀ (l : List α), (∀ x ∈ l, q x = true → p x = true) → (l.filter q).length ≤ (l.filter p).length := by
      intro l
      induction l with
      | nil => simp
      | cons z l ih =>
        intro hh
        have := ih fun x hx => hh x (by simp [hx])
        have hz := hh z (by simp)
        simp only [List.filter_cons]
        cases hq : q z <;> cases hp : p z <;> simp_all <;> omega
    have h' : ∀ x ∈ l, q x = true → p x = true := fun x hx => h x (by simp [hx])
    simp only [List.filter_cons]
    rcases List.mem_cons.1 hx with rfl | hx
    · rw [if_pos h1, if_neg (by simp [h2])]
      have := hle l h'
      simp only [List.length_cons]
      omega
    · have ih := filter_lt h' ⟨x, hx, h1, h2⟩
      have hy := h y (by simp)
      cases hq : q y <;> cases hp : p y <;> simp_all <;> omega

theorem cnt_set {listed : Array Bool} {n i : Nat} (hs : listed.size = n) (hi : i < n) (hl : listed.getD i false = false) : cnt (listed.setIfInBounds i true) n < cnt listed n := by
  refine filter_lt (fun x hx h => ?_) ⟨i, List.mem_range.2 hi, ?_, ?_⟩
  · by_cases e : i = x
    · subst e; simpa using hl
    · rw [getD_set_ne false e] at h; exact h
  · simp only [hl, Bool.not_false]
  · simp [hs, hi]

theorem L_set {listed : Array Bool} {i : Nat} (hi : i < listed.size) : (fun k => (listed.setIfInBounds i true).getD k false) = ins (fun k => listed.getD k false) i := by
  funext k
  unfold ins
  by_cases e : k = i
  · subst e; simp [hi]
  · rw [getD_set_ne false (Ne.symm e)]; simp [e]

theorem viewR_all {p : Nat → Bool} : ∀ (l : List Dr) (j : Nat), (∀ k, k < l.length → p (j + k) = true) → viewR p j l = viewR (fun _ => true) j l
  | [], j, _ => by simp [viewR]
  | d :: l, j, h => by
    rw [viewR_cons, viewR_cons, viewR_all l (j + 1) fun k hk => by rw [show j + 1 + k = j + (k + 1) by omega]; exact h (k + 1) (by simpa using hk)]
    have := h 0 (by simp)
    simp only [Nat.add_zero] at this
    rw [if_pos this, if_pos rfl]

section
variable {C : Ctx} {opsA : Array Oper} {ds : List (Option Nat × Nat)} {sl : List S} {res : List Res} {drs : List Dr} {defs : List (Nat × List V × List V)} {ρ0 ρ : Env} {w0 w : World} {F0 : Nat → Prop} {fps : Nat → Nat → Prop} {a : Act}
  {Q : Exit → Act → World → Prop}

/-- An operation, in a round or not. -/
theorem op_in {P : Program} {ops : Array Oper} {ro : Option Nat} {i : Nat} {K : Act → World → Prop} (hQ : ¬ LetsOut Q) (hnd : ro ≠ none → ∀ o ∈ ops.toList, notDefer o) (h : wpOp P ops Q i K a w) : wpOpIn (FF ro) 0 P ops Q i K a w := by
  unfold wpOp at h
  unfold wpOpIn
  split
  · rename_i ho; rw [ho] at h; exact h
  · rename_i o ho
    rw [ho] at h
    simp only at h
    have hmem : o ∈ ops.toList := by rw [← Array.getElem?_toList] at ho; exact List.mem_of_getElem? ho
    split
    · rename_i hw
      rw [if_pos hw] at h
      exact oper_in (fun hr => hnd hr o hmem) (h.resolve_right fun hh => hQ hh.2)
    · rename_i hw
      rw [if_neg hw] at h
      exact ⟨fun _ _ => trivial, h⟩

theorem any_front {ro : Option Nat} (hQ : ¬ LetsOut Q) (hnd : ro ≠ none → ∀ o ∈ opsA.toList, notDefer o) (hC : C.Sound) (P : Planned C opsA.toList ds sl res drs) (hq : ∀ (i : Nat) (d : Dr), drs[i]? = some d → (d.g = true → holdsO d.q)) (hle : drs.length ≤ opsA.size)
    (htail : ∀ i, i < opsA.size → drs.length < i → ∀ k, k < drs.length → (ancAt ds i).testBit k = true)
    (hlate : ∀ (fuel : Nat) (listed : Array Bool) ρ fps a w, listed.size = opsA.size → cnt listed opsA.size ≤ fuel + 1 → drs.length < opsA.size → (∀ k, drs.length ≤ k → listed.getD k false = false) → (∃ k, k < drs.length ∧ listed.getD k false = false) →
      (∀ k, (ancAt ds drs.length).testBit k = true → listed.getD k false = true) → Inv ds sl res drs defs ρ0 w0 F0 (fun k => listed.getD k false) ρ fps a w →
      wpOpIn (FF ro) 0 C.P opsA Q drs.length (wpAnyIn (FF ro) 0 C.P .any opsA Q fuel (listed.setIfInBounds drs.length true)) a w)
    (hfin : ∀ (fuel : Nat) (listed : Array Bool) ρ fps a w, listed.size = opsA.size → cnt listed opsA.size ≤ fuel → (∀ k, k < drs.length → listed.getD k false = true) → (∀ k, drs.length ≤ k → listed.getD k false = false) →
      Inv ds sl res drs defs ρ0 w0 F0 (fun k => listed.getD k false) ρ fps a w → wpAnyIn (FF ro) 0 C.P .any opsA Q fuel listed a w) :
    ∀ (fuel : Nat) (listed : Array Bool) ρ fps a w, listed.size = opsA.size → cnt listed opsA.size ≤ fuel → (∀ k, drs.length ≤ k → listed.getD k false = false) →
      Inv ds sl res drs defs ρ0 w0 F0 (fun k => listed.getD k false) ρ fps a w → wpAnyIn (FF ro) 0 C.P .any opsA Q fuel listed a w := by
  intro fuel
  induction fuel with
  | zero =>
    intro listed ρ fps a w hs hc hno I
    refine hfin 0 listed ρ fps a w hs hc (fun k hk => ?_) hno I
    cases h : listed.getD k false with
    | true => rfl
    | false =>
      have := cnt_set (n := opsA.size) hs (by omega) h
      omega
  | succ fuel ih =>
    intro listed ρ fps a w hs hc hno I
    by_cases hall : ∀ k, k < drs.length → listed.getD k false = true
    · exact hfin _ listed ρ fps a w hs hc hall hno I
    · have hready : ∀ i ∈ Region.ready .any opsA listed, (i < drs.length ∨ (i = drs.length ∧ i < opsA.size)) ∧ listed.getD i false = false ∧ ∀ k, (ancAt ds i).testBit k = true → listed.getD k false = true := by
        intro i hi
        obtain ⟨h1, o, h2, h3⟩ := mem_ready.1 hi
        have hisz : i < opsA.size := (Array.getElem?_eq_some_iff.1 h2).1
        obtain ⟨p1, p2, p3, p4⟩ := P.at h2
        have hL : ∀ k, (ancAt ds i).testBit k = true → listed.getD k false = true := fun k hk => by
          obtain ⟨e, e1, e2, e3⟩ := (p3 k).1 hk
          have := h3 e e1 e2
          rcases e3 with rfl | e3
          · exact this
          · exact I.down e.on k this e3
        refine ⟨?_, ?_, hL⟩
        · rcases Nat.lt_trichotomy i drs.length with h | h | h
          · exact .inl h
          · exact .inr ⟨h, hisz⟩
          · exact absurd (fun k hk => hL k (htail i hisz h k hk)) hall
        · have : i < listed.size := by omega
          simpa [Array.getD_eq_getD_getElem?, this] using h1
      have hnil : Region.ready .any opsA listed ≠ [] := by
        intro hnil
        have hmin : ∀ i, i < drs.length → listed.getD i false = true := by
          intro i
          induction i using Nat.strongRecOn with
          | _ i ihi =>
            intro hi
            cases h : listed.getD i false with
            | true => rfl
            | false =>
              have hio : opsA[i]? = some (opsA[i]'(by omega)) := Array.getElem?_eq_getElem (by omega)
              obtain ⟨p1, p2, p3, p4⟩ := P.at hio
              have : i ∈ Region.ready .any opsA listed := by
                rw [mem_ready]
                refine ⟨?_, _, hio, fun e e1 e2 => ?_⟩
                · have : i < listed.size := by omega
                  simpa [Array.getD_eq_getD_getElem?, this] using h
                · have := p2 e.on ((p3 e.on).2 ⟨e, e1, e2, .inl rfl⟩)
                  exact ihi e.on this (by omega)
              rw [hnil] at this
              simp at this
        exact hall hmin
      refine ⟨fun h => absurd h hnil, fun i hi => ?_⟩
      obtain ⟨h1, h2, h3⟩ := hready i hi
      rcases h1 with h1 | ⟨h1, h1'⟩
      case inr =>
        subst h1
        have hex : ∃ k, k < drs.length ∧ listed.getD k false = false := by
          refine Classical.byContradiction fun hno => hall fun k hk => ?_
          cases h : listed.getD k false with
          | true => rfl
          | false => exact absurd ⟨k, hk, h⟩ hno
        exact hlate fuel listed ρ fps a w hs hc h1' hno hex h3 I
      have hisz : i < listed.size := by omega
      refine op_in hQ hnd (Inv.step rfl hC P hq I (d := drs[i]'h1) (List.getElem?_eq_getElem h1) h2 h3 fun ρ' fps' a' w' I' => ?_)
      refine ih (listed.setIfInBounds i true) ρ' fps' a' w' (by simpa using hs) ?_ ?_ ?_
      · have := cnt_set (n := opsA.size) hs (by omega) h2
        omega
      · intro k hk
        rw [getD_set_ne false (by omega)]
        exact hno k hk
      · rw [L_set hisz]; exact I'

/-- What is known when the planned ones are done. -/
theorem Inv.rep {listed : Array Bool} (P : Planned C opsA.toList ds sl res drs) (hall : ∀ k, k < drs.length → listed.getD k false = true) (hno : ∀ k, drs.length ≤ k → listed.getD k false = false)
    (I : Inv ds sl res drs defs ρ0 w0 F0 (fun k => listed.getD k false) ρ fps a w) :
    Rep ρ fps { slots := viewS (allM' drs.length) drs.length 0 ds (drS drs) sl, res := addR res (viewR (fun _ => true) 0 drs), defs := defs } w0 F0 a w ∧ Good ρ0 res ρ (addR res (viewR (fun _ => true) 0 drs)) := by
  have hbit : ∀ k, (allM' drs.length).testBit k = true ↔ k < drs.length := fun k => by simp [allM', Nat.testBit_two_pow_sub_one]
  have hv := P.view I (anc := allM' drs.length) (i := drs.length) (Nat.le_refl _) (fun k hk => ⟨hall k ((hbit k).1 hk), (hbit k).1 hk⟩) (fun k r hk hr => by
      have hk' := (hbit k).1 hk
      obtain ⟨o, ho, _⟩ := P.plan k _ (List.getElem?_eq_getElem hk')
      have := (P.at (i := k) (o := o) (by simpa using ho)).2.1 r hr
      exact (hbit r).2 (by omega)) (fun k m t _ h2 _ => hno k h2)
  rw [List.take_length] at hv
  have hviews : viewR (fun k => listed.getD k false) 0 drs = viewR (fun _ => true) 0 drs := viewR_all drs 0 fun k hk => by simpa using hall k hk
  have hheap := I.heap
  rw [hviews] at hheap
  have hknown : ∀ id, KL res drs (fun k => listed.getD k false) id → known (res ++ viewR (fun _ => true) 0 drs) id := by
    intro id h
    unfold known
    rw [rget_view]
    rcases h with h | ⟨h1, j, y, h2, h3⟩
    · rw [if_pos (rget_lt h)]; exact h
    · rw [if_neg (by omega), h2]
      simp only [if_true]
      obtain ⟨⟨d, hd, hy⟩, _⟩ := (locate_spec drs _ j y).1 h2
      rw [hd]
      exact I.newk j d hd h3 y hy
  rw [addR_eq]
  refine ⟨⟨hv.env hknown (Env.agree.refl _ _), hheap.monoK hknown, I.defs.1, fun d hd => ?_⟩, I.agree, fun i hi => hknown i (.inl hi)⟩
  have := I.defs.2 d hd
  exact ⟨okL_mono (fun i hi => hknown i (.inl hi)) _ this.1, okL_mono (fun i hi => hknown i (.inl hi)) _ this.2⟩

theorem clean_plain (l : List S) (t : Nat) : (∃ x, sget (clean l) t = .v x) ∨ sget (clean l) t = .und := by
  rw [sget_clean]
  split
  · exact .inl ⟨_, rfl⟩
  · exact .inr rfl

/-- Nothing more to do. -/
theorem anyIn_done {P : Program} {ro : Option Nat} {md : Region.Mode} {ops : Array Oper} {listed : Array Bool} (h : Region.ready md ops listed = []) (hq : Q .normal a w) : ∀ fuel, wpAnyIn (FF ro) 0 P md ops Q fuel listed a w
  | 0 => ⟨h, hq⟩
  | fuel + 1 => ⟨fun _ => hq, fun i hi => by rw [h] at hi; simp at hi⟩

theorem tailOK_spec {ds : List (Option Nat × Nat)} : ∀ {l : List Oper} {i : Nat}, tailOK ds i l = true → ∀ j, j < l.length → ancAt ds (i + j) = allM' (i + j)
  | [], i, _, j, hj => by simp at hj
  | o :: l, i, h, j, hj => by
    simp only [tailOK, Bool.and_eq_true, beq_iff_eq] at h
    cases j with
    | zero => exact h.1
    | succ j =>
      have := tailOK_spec h.2 j (by simpa using hj)
      rwa [show i + 1 + j = i + (j + 1) by omega] at this

/-- The rest of a region. -/
theorem tail_spec {H : Handler} {Y : YHandler} {K : Out → St → Prop} {ro : Option Nat} {res0 : List Res} (hC : C.Sound) (hH : H.OK C.P) (hY : YOK C.P Y ρ0 res0) (hnd : ro ≠ none → ∀ o ∈ opsA.toList, notDefer o)
    (P : Planned C opsA.toList ds sl res drs) (n : Nat) (hbit : ∀ i, i < opsA.size → n < i → ∀ k, (ancAt ds i).testBit k = true ↔ k < i) :
    ∀ (l : List Oper) (m : Nat) (listed : Array Bool) (fuel : Nat) (σ : St) ρ fps a w, opsA.toList.drop m = l → n ≤ m → listed.size = opsA.size → cnt listed opsA.size ≤ fuel → (∀ k, k < m → listed.getD k false = true) → (∀ k, m ≤ k → listed.getD k false = false) →
      tailS C H Y opsA.toList l σ K → Rep ρ fps σ w0 F0 a w → Good ρ0 res0 ρ σ.res → wpAnyIn (FF ro) 0 C.P .any opsA (Post ρ0 res0 w0 F0 K) fuel listed a w
  | [], m, listed, fuel, σ, ρ, fps, a, w, hl, hnm, hs, hc, hall, hno, h, hr, hg => by
    have hm : opsA.size ≤ m := by
      have := congrArg List.length hl
      simp at this
      omega
    simp only [tailS, cleanK_eq] at h
    refine anyIn_done ?_ ⟨.norm, _, ρ, fps, trivial, h, ⟨hr.1.clean, hr.2.1, hr.2.2.1, hr.2.2.2⟩, hg⟩ fuel
    cases hrd : Region.ready .any opsA listed with
    | nil => rfl
    | cons i l =>
      obtain ⟨h1, o, h2, _⟩ := mem_ready.1 (show i ∈ Region.ready .any opsA listed by rw [hrd]; simp)
      have hisz : i < opsA.size := (Array.getElem?_eq_some_iff.1 h2).1
      have := hall i (by omega)
      have hlt : i < listed.size := by omega
      simp only [Array.getD_eq_getD_getElem?, Array.getElem?_eq_getElem hlt, Option.getD_some] at this h1
      rw [this] at h1; simp at h1
  | o :: l, m, listed, fuel, σ, ρ, fps, a, w, hl, hnm, hs, hc, hall, hno, h, hr, hg => by
    have hom : opsA[m]? = some o := by
      have : (opsA.toList.drop m)[0]? = some o := by rw [hl]; rfl
      simpa using this
    have hmsz : m < opsA.size := (Array.getElem?_eq_some_iff.1 hom).1
    have hl' : opsA.toList.drop (m + 1) = l := by
      have : (opsA.toList.drop m).drop 1 = l := by rw [hl]; rfl
      rw [← this, List.drop_drop]
    have hml : listed.getD m false = false := hno _ (Nat.le_refl _)
    have hmlt : m < listed.size := by omega
    cases fuel with
    | zero =>
      have := cnt_set (n := opsA.size) hs hmsz hml
      omega
    | succ fuel =>
      obtain ⟨p1, p2, p3, p4⟩ := P.at hom
      have hmr : m ∈ Region.ready .any opsA listed := by
        rw [mem_ready]
        refine ⟨?_, o, hom, fun e e1 e2 => hall _ (p2 e.on ((p3 e.on).2 ⟨e, e1, e2, .inl rfl⟩))⟩
        simpa [Array.getD_eq_getD_getElem?, hmlt] using hml
      refine ⟨fun hnil => (by rw [hnil] at hmr; simp at hmr), fun i hi => ?_⟩
      obtain ⟨h1, o', h2, h3⟩ := mem_ready.1 hi
      have hisz : i < opsA.size := (Array.getElem?_eq_some_iff.1 h2).1
      have him : i = m := by
        rcases Nat.lt_trichotomy i m with h | h | h
        · have := hall i h
          have hlt : i < listed.size := by omega
          simp only [Array.getD_eq_getD_getElem?, Array.getElem?_eq_getElem hlt, Option.getD_some] at this h1
          rw [this] at h1; simp at h1
        · exact h
        · exfalso
          obtain ⟨q1, q2, q3, q4⟩ := P.at h2
          obtain ⟨e, e1, e2, e3⟩ := (q3 m).1 ((hbit i hisz (by omega) m).2 h)
          have he := h3 e e1 e2
          rcases e3 with rfl | e3
          · rw [hml] at he; simp at he
          · have hlt : m < e.on := by
              have hi' := q2 e.on ((q3 e.on).2 ⟨e, e1, e2, .inl rfl⟩)
              obtain ⟨_, r2, _, _⟩ := P.at (i := e.on) (o := opsA[e.on]'(by omega)) (Array.getElem?_eq_getElem (by omega))
              exact r2 m e3
            rw [hno _ (by omega)] at he; simp at he
      subst him
      have hoo : o' = o := by rw [hom] at h2; exact (Option.some.inj h2).symm
      subst hoo
      have key := stepS_spec (ro := ro) (next := wpAnyIn (FF ro) 0 C.P .any opsA (Post ρ0 res0 w0 F0 K) fuel (listed.setIfInBounds i true)) (Q := Post ρ0 res0 w0 F0 K) hC hH (hY.later hg)
        (fun hr => hnd hr o' (by rw [← Array.getElem?_toList] at hom; exact List.mem_of_getElem? hom)) h hr
        (fun σ' ρ'' fps'' a'' w'' hK' hr' hg' => tail_spec hC hH hY hnd P n hbit l (i + 1) (listed.setIfInBounds i true) fuel σ' ρ'' fps'' a'' w'' hl' (by omega) (by simpa using hs)
          (by have := cnt_set (n := opsA.size) hs hmsz hml; omega)
          (fun k hk => by
            by_cases e : i = k
            · subst e; simp [hmlt]
            · rw [getD_set_ne false e]; exact hall k (by omega))
          (fun k hk => by rw [getD_set_ne false (by omega)]; exact hno k (by omega)) hK' hr' (hg.trans hg'))
        (fun v σ' ρ'' fps'' w'' hK' hv hr' hg' => ⟨.pan v, σ', ρ'', fps'', ⟨rfl, hv⟩, hK', hr', hg.trans hg'⟩)
      unfold wpOpIn
      simp only [hom]
      split
      · rename_i hw; rw [if_pos hw] at key; exact key
      · rename_i hw; rw [if_neg hw] at key; exact ⟨fun _ _ => trivial, key⟩

theorem getq {A : Array Bool} {i : Nat} (hi : i < A.size) : A[i]?.getD true = A.getD i false := by simp [Array.getD_eq_getD_getElem?, hi]
theorem opNe_eval {o : Operand} {d : Nat} {a : Act} {v : Value} (h : opNe o d = true) : (a.put (some d) v).eval o = a.eval o := by
  cases o <;> try rfl
  rename_i s
  simp only [opNe, Bool.not_eq_true', beq_eq_false_iff_ne] at h
  simp only [Act.eval, Act.put]
  simp [Ne.symm h]

theorem tailLate_spec {ops : List Oper} {ds : List (Option Nat × Nat)} {n : Nat} {o : Oper} {l : List Oper} (h : tailLate ops ds n o l = true) : ∃ (e : Nat) (oe : Oper) (y : Operand) (ix d t : Nat) (p x : Operand),
    ops[e]? = some oe ∧ (oe.op = .extract y ix ∧ oe.dst = some d ∧ oe.guard = none) ∧ (o.op = .store t p x ∧ o.dst = none ∧ o.guard = none) ∧ opNe p d = true ∧ opNe x d = true ∧ opNe y d = true ∧ e < n ∧ (ancAt ds n).testBit e = false ∧ (∀ k, (ancAt ds n).testBit k = true ↔ k < n ∧ k ≠ e) ∧ tailOK ds (n + 1) l = true := by
  unfold tailLate at h
  split at h
  case h_2 => simp at h
  rename_i t p x hop
  split at h
  case h_2 => simp at h
  rename_i hdst
  split at h
  case h_2 => simp at h
  rename_i hgu
  split at h
  case h_2 => simp at h
  rename_i e he
  split at h
  case h_2 => simp at h
  rename_i oe hoe
  split at h
  case h_2 => simp at h
  rename_i y ix hoy
  split at h
  case h_2 => simp at h
  rename_i d hd
  split at h
  case h_2 => simp at h
  rename_i hge
  simp only [Bool.and_eq_true] at h
  have hmem := List.mem_of_find?_eq_some he
  have hpr := List.find?_some he
  simp only [Bool.and_eq_true, Bool.not_eq_true', beq_iff_eq] at hpr
  obtain ⟨p1, p2⟩ := hpr
  have hlt := List.mem_range.1 hmem
  refine ⟨e, oe, y, ix, d, t, p, x, hoe, ⟨hoy, hd, hge⟩, ⟨hop, hdst, hgu⟩, h.1.1.1, h.1.1.2, h.1.2, hlt, p1, fun k => ?_, h.2⟩
  have hk := congrArg (fun m => Nat.testBit m k) p2
  simp only [Nat.testBit_or, allM', Nat.testBit_two_pow_sub_one, Nat.testBit_two_pow] at hk
  constructor
  · intro hb
    rw [hb] at hk
    have hkn : k < n := by simpa using hk
    exact ⟨hkn, fun e' => by subst e'; rw [hb] at p1; simp at p1⟩
  · rintro ⟨h1, h2⟩
    have : decide (e = k) = false := by simp [Ne.symm h2]
    rw [this] at hk
    simpa [h1] using hk

/-- A part that is taken out, whatever the memory is. -/
theorem run_extract {P : Program} {tu v : Value} {ix : Nat} {w w' : World} (h : (Instr.extract tu ix).run P w = .ok v w') : w' = w ∧ ∀ w2, (Instr.extract tu ix).run P w2 = .ok v w2 := by
  cases tu <;> simp [Instr.extract] at h ⊢
  rename_i vs
  cases hv : vs[ix]? with
  | none => simp [hv] at h
  | some z =>
    simp [hv] at h ⊢
    exact ⟨h.2.symm, h.1⟩

/-- A store, while a part of a tuple is yet to be taken out. -/
theorem late_spec {H : Handler} {Y : YHandler} {K : Out → St → Prop} {ro : Option Nat} (hC : C.Sound) (hH : H.OK C.P) (hY : YOK C.P Y ρ0 res) (hnd : ro ≠ none → ∀ o ∈ opsA.toList, notDefer o)
    (P : Planned C opsA.toList ds sl res drs) (hq : ∀ (i : Nat) (d : Dr), drs[i]? = some d → (d.g = true → holdsO d.q)) {e : Nat} {oe on : Oper} {y : Operand} {ix d t : Nat} {p x : Operand} {l : List Oper} (hoe : opsA[e]? = some oe) (he : oe.op = .extract y ix ∧ oe.dst = some d ∧ oe.guard = none)
    (hon : on.op = .store t p x ∧ on.dst = none ∧ on.guard = none) (hdrop : opsA.toList.drop drs.length = on :: l) (hp : opNe p d = true) (hx : opNe x d = true) (hyd : opNe y d = true) (hel : e < drs.length) (_hef : (ancAt ds drs.length).testBit e = false)
    (hanc : ∀ k, (ancAt ds drs.length).testBit k = true ↔ k < drs.length ∧ k ≠ e) (hbit : ∀ i, i < opsA.size → drs.length < i → ∀ k, (ancAt ds i).testBit k = true ↔ k < i)
    (htl : tailS C H Y opsA.toList (on :: l) { slots := viewS (allM' drs.length) drs.length 0 ds (drS drs) sl, res := addR res (viewR (fun _ => true) 0 drs), defs := defs } K) :
    ∀ (fuel : Nat) (listed : Array Bool) ρ fps a w, listed.size = opsA.size → cnt listed opsA.size ≤ fuel + 1 → drs.length < opsA.size → (∀ k, drs.length ≤ k → listed.getD k false = false) → (∃ k, k < drs.length ∧ listed.getD k false = false) →
      (∀ k, (ancAt ds drs.length).testBit k = true → listed.getD k false = true) → Inv ds sl res drs defs ρ0 w0 F0 (fun k => listed.getD k false) ρ fps a w →
      wpOpIn (FF ro) 0 C.P opsA (Post ρ0 res w0 F0 K) drs.length (wpAnyIn (FF ro) 0 C.P .any opsA (Post ρ0 res w0 F0 K) fuel (listed.setIfInBounds drs.length true)) a w := by
  intro fuel listed ρ fps a w hs hc hsl hno hex hL I
  have hle : ∀ k, k < drs.length → k ≠ e → listed.getD k false = true := fun k h1 h2 => hL k ((hanc k).2 ⟨h1, h2⟩)
  have hlf : listed.getD e false = false := by
    obtain ⟨k, hk, hkf⟩ := hex
    by_cases h : k = e
    · subst h; exact hkf
    · rw [hle k hk h] at hkf; simp at hkf
  have hesz : e < opsA.size := by omega
  have heall : ∀ k, (ancAt ds e).testBit k = true → listed.getD k false = true := fun k hk => by
    have := (P.at hoe).2.1 k hk
    exact hle k (by omega) (by omega)
  -- the part, taken out
  have hst := Inv.step (K := fun a' w' => ∃ ρ' fps', Inv ds sl res drs defs ρ0 w0 F0 (ins (fun k => listed.getD k false) e) ρ' fps' a' w') (Q := fun _ _ _ => False) rfl hC P hq I (d := drs[e]'hel) (List.getElem?_eq_getElem hel) hlf heall fun ρ' fps' a' w' I' => ⟨ρ', fps', I'⟩
  unfold wpOp at hst
  rw [hoe] at hst
  simp only at hst
  rw [if_pos (by simp [Region.wanted, he.2.2])] at hst
  have hst := hst.resolve_right fun hh => by
    obtain ⟨_, hh⟩ := hh
    exact absurd hh (by simp [LetsOut])
  have hexec : execOp a.eval oe = (Instr.extract (a.eval y) ix >>= fun v => pure (Next.value v)) := by simp only [execOp, he.1]
  have hrunE : ∃ v, (∀ w2, (execOp a.eval oe).run C.P w2 = .ok (.value v) w2) ∧ ∃ ρ' fps', Inv ds sl res drs defs ρ0 w0 F0 (ins (fun k => listed.getD k false) e) ρ' fps' (a.put (some d) v) w := by
    unfold Oper.wp at hst
    rw [hexec] at hst ⊢
    cases hr : (Instr.extract (a.eval y) ix).run C.P w with
    | ok v w' =>
      obtain ⟨rfl, hall⟩ := run_extract hr
      rw [Sem.run_bind, hr] at hst
      simp only [Result.andThen_ok, Sem.run_pure, Oper.upon, he.2.1] at hst
      exact ⟨v, fun w2 => by rw [Sem.run_bind, hall w2]; rfl, hst⟩
    | halt r w' =>
      exfalso
      rw [Sem.run_bind, hr] at hst
      cases r <;> simp [Result.andThen, Oper.upon] at hst
  obtain ⟨v, hrun, ρ1, fps1, I1⟩ := hrunE
  have hL1 : ins (fun k => listed.getD k false) e = fun k => (listed.setIfInBounds e true).getD k false := (L_set (by omega)).symm
  rw [hL1] at I1
  obtain ⟨hrep, hgood⟩ := I1.rep P (fun k hk => by
    by_cases h : e = k
    · subst h; simp [show e < listed.size by omega]
    · rw [getD_set_ne false h]; exact hle k hk (Ne.symm h)) (fun k hk => by rw [getD_set_ne false (by omega)]; exact hno k hk)
  -- the store
  have hno' : opsA[drs.length]? = some on := by
    have : (opsA.toList.drop drs.length)[0]? = some on := by rw [hdrop]; rfl
    simpa using this
  have hl' : opsA.toList.drop (drs.length + 1) = l := by
    have : (opsA.toList.drop drs.length).drop 1 = l := by rw [hdrop]; rfl
    rw [← this, List.drop_drop]
  simp only [tailS] at htl
  have htl : stepS C H Y opsA.toList on { slots := viewS (allM' drs.length) drs.length 0 ds (drS drs) sl, res := addR res (viewR (fun _ => true) 0 drs), defs := defs } (fun σ' => tailS C H Y opsA.toList l σ' K) (fun _ _ => False) := by
    obtain ⟨o1, o2, o3, o4, o5, o6⟩ := on
    obtain ⟨h1, h2, h3⟩ := hon
    simp only at h1 h2 h3
    subst h1
    subst h2
    subst h3
    exact htl
  have hstep := stepS_spec (ro := ro) (w0 := w0) (F0 := F0) (next := fun a' w' => a' = a.put (some d) v → wpAnyIn (FF ro) 0 C.P .any opsA (Post ρ0 res w0 F0 K) fuel (listed.setIfInBounds drs.length true) a w') (Q := fun _ _ _ => False) hC hH (hY.later hgood)
    (fun hr => hnd hr on (by rw [← Array.getElem?_toList] at hno'; exact List.mem_of_getElem? hno')) htl hrep
    (fun σ' ρ' fps' a' w' hK' hr' hg' ha' => ?_) (fun v' σ' ρ' fps' w' hK' hv hr' hg' => ?_)
  · unfold wpOpIn
    rw [hno']
    simp only
    have hw1 : Region.wanted on (yielded opsA a.tmps) = true := by simp [Region.wanted, hon.2.2]
    have hw2 : Region.wanted on (yielded opsA (a.put (some d) v).tmps) = true := by simp [Region.wanted, hon.2.2]
    rw [if_pos hw1]
    rw [if_pos hw2] at hstep
    have hsem : on.semAt (FF ro).round a.eval = on.semAt (FF ro).round (a.put (some d) v).eval := by
      have e1 : execOp a.eval on = execOp (a.put (some d) v).eval on := by simp only [execOp, hon.1, opNe_eval hp, opNe_eval hx]
      show on.semAt ro _ = on.semAt ro _
      cases ro with
      | none => rw [Oper.semAt_none, Oper.semAt_none, e1]
      | some r => rw [Oper.semAt_some r _ on (by simp [hon.1]), Oper.semAt_some r _ on (by simp [hon.1]), e1]
    unfold Oper.wpIn at hstep ⊢
    refine ⟨fun _ _ => trivial, ?_⟩
    rw [hsem]
    have hstep := hstep.2
    generalize hres : (on.semAt (FF ro).round (a.put (some d) v).eval).run C.P w = r at *
    have hsk : ∀ nx w2, r = .ok nx w2 → nx = .skip := by
      intro nx w2 hr
      subst hr
      have e1 : on.semAt (FF ro).round (a.put (some d) v).eval = execOp (a.put (some d) v).eval on := by
        show on.semAt ro _ = _
        cases ro with
        | none => rw [Oper.semAt_none]
        | some r => rw [Oper.semAt_some r _ on (by simp [hon.1])]
      rw [e1] at hres
      simp only [execOp, hon.1, Sem.run_bind] at hres
      cases hs2 : (Instr.storeAt t ((a.put (some d) v).eval p) ((a.put (some d) v).eval x)).run C.P w with
      | ok u w3 => rw [hs2] at hres; simp only [Result.andThen_ok, Sem.run_pure, Result.ok.injEq] at hres; exact hres.1.symm
      | halt u w3 => rw [hs2] at hres; simp [Result.andThen] at hres
    cases r with
    | ok nx w2 =>
      have := hsk nx w2 rfl
      subst this
      simp only [Oper.uponIn, hon.2.1, Act.put] at hstep ⊢
      first | exact hstep trivial | exact hstep rfl
    | halt u w2 => cases u <;> simp only [Oper.uponIn] at hstep ⊢ <;> exact hstep.elim
  · -- the part is taken out behind the store
    subst ha'
    have hfz : drs.length < listed.size := by omega
    have hcn := cnt_set (n := opsA.size) hs hsl (hno _ (Nat.le_refl _))
    cases fuel with
    | zero =>
      have : cnt (listed.setIfInBounds drs.length true) opsA.size = 0 := by omega
      have h2 := cnt_set (listed := listed.setIfInBounds drs.length true) (n := opsA.size) (by simpa using hs) hesz (by rw [getD_set_ne false (by omega)]; exact hlf)
      omega
    | succ fuel =>
      have hlee : (listed.setIfInBounds drs.length true).getD e false = false := by rw [getD_set_ne false (by omega)]; exact hlf
      have hcn2 := cnt_set (listed := listed.setIfInBounds drs.length true) (n := opsA.size) (by simpa using hs) hesz hlee
      have hready : e ∈ Region.ready .any opsA (listed.setIfInBounds drs.length true) := by
        rw [mem_ready]
        refine ⟨?_, oe, hoe, fun ed e1 e2 => ?_⟩
        · have hsz : e < (listed.setIfInBounds drs.length true).size := by simp; omega
          have hq := (getq hsz).trans hlee
          first | exact hq | simpa using hq
        · have h1 := (P.at hoe).2.1 ed.on (((P.at hoe).2.2.1 ed.on).2 ⟨ed, e1, e2, .inl rfl⟩)
          rw [getD_set_ne false (by omega)]
          exact hle _ (by omega) (by omega)
      refine ⟨fun hnil => (by rw [hnil] at hready; simp at hready), fun i hi => ?_⟩
      obtain ⟨h1, o', h2, h3⟩ := mem_ready.1 hi
      have hisz : i < opsA.size := (Array.getElem?_eq_some_iff.1 h2).1
      have hie : i = e := by
        have hif : (listed.setIfInBounds drs.length true).getD i false = false := by
          have hsz : i < (listed.setIfInBounds drs.length true).size := by simp; omega
          rw [← getq hsz]
          first | exact h1 | simpa using h1
        rcases Nat.lt_trichotomy i drs.length with h | h | h
        · refine Classical.byContradiction fun hne => ?_
          rw [getD_set_ne false (by omega), hle i h hne] at hif
          simp at hif
        · subst h
          simp [hfz] at hif
        · exfalso
          obtain ⟨q1, q2, q3, q4⟩ := P.at h2
          obtain ⟨ed, e1, e2, e3⟩ := (q3 e).1 ((hbit i hisz h e).2 (by omega))
          have hed := h3 ed e1 e2
          have hdi := q2 ed.on ((q3 ed.on).2 ⟨ed, e1, e2, .inl rfl⟩)
          rcases e3 with rfl | e3
          · rw [hlee] at hed; simp at hed
          · obtain ⟨_, r2, _, _⟩ := P.at (i := ed.on) (o := opsA[ed.on]'(by omega)) (Array.getElem?_eq_getElem (by omega))
            have hlt := r2 e e3
            rcases Nat.lt_trichotomy ed.on drs.length with g | g | g
            · exact absurd ((hanc ed.on).2 ⟨g, by omega⟩) (fun hh => by
                have := (P.at hno').2.2.2 ed.on e hh e3
                rw [_hef] at this; simp at this)
            · rw [g] at e3
              rw [_hef] at e3; simp at e3
            · rw [getD_set_ne false (by omega), hno _ (by omega)] at hed; simp at hed
      subst hie
      have hoo : o' = oe := by rw [hoe] at h2; exact (Option.some.inj h2).symm
      subst hoo
      unfold wpOpIn
      rw [hoe]
      simp only
      rw [if_pos (by simp [Region.wanted, he.2.2])]
      refine oper_in (fun _ c => by rw [he.1]; simp) ?_
      unfold Oper.wp
      rw [hrun w']
      simp only [Oper.upon, he.2.1]
      refine tail_spec hC hH hY hnd P drs.length hbit l (drs.length + 1) _ fuel σ' ρ' fps' _ w' hl' (by omega) (by simpa using hs) (by omega) (fun k hk => ?_) (fun k hk => ?_) hK' hr' (hgood.trans hg')
      · by_cases g : i = k
        · subst g; simp [show i < listed.size by omega]
        · rw [getD_set_ne false g]
          by_cases g2 : drs.length = k
          · subst g2; simp [hfz]
          · rw [getD_set_ne false g2]; exact hle k (by omega) (Ne.symm g)
      · rw [getD_set_ne false (by omega), getD_set_ne false (by omega)]
        exact hno k (by omega)
  · exact hK'.elim

theorem drawS_spec {H : Handler} {Y : YHandler} {σ : St} {K : Out → St → Prop} {id : Nat} {ro : Option Nat} (hC : C.Sound) (hH : H.OK C.P) (hY : YOK C.P Y ρ σ.res) (hnd : ro ≠ none → ∀ o ∈ opsA.toList, notDefer o) (h : drawS C H Y opsA.toList σ K) (hr : Rep ρ fps σ w0 F0 a w) :
    (Code.region id opsA true).wpIn (FF ro) 0 C.P (Post ρ σ.res w0 F0 K) a w := by
  refine wpIn_region_any hC.mixed ?_
  unfold drawS drawGo at h
  generalize dsGo opsA.toList [] = ds at h
  split at h
  · rename_i hok
    simp only [Bool.and_eq_true] at hok
    rw [cleanK_eq, planK_eq] at h
    generalize hpg : planGo C opsA.toList ds (clean σ.slots) σ.res 0 opsA.toList [] = pr at h
    obtain ⟨drs, rest⟩ := pr
    simp only at h
    obtain ⟨g1, g2, g3⟩ := planGo_spec _ 0 [] drs rest hpg rfl rfl (by simp)
    have P : Planned C opsA.toList ds (clean σ.slots) σ.res drs := ⟨hok.1, hok.2, clean_plain σ.slots, g3⟩
    unfold drawEnd at h
    obtain ⟨hq, hK⟩ := reqAll_spec h
    obtain ⟨r1, r2, r3, r4⟩ := hr
    have hsz : drs.length ≤ opsA.size := by simpa using g2
    have hget : ∀ k, (Array.replicate opsA.size false).getD k false = false := fun k => by
      simp only [Array.getD_eq_getD_getElem?, Array.getElem?_replicate]; split <;> rfl
    have hL0 : ∀ id, KL σ.res drs (fun k => (Array.replicate opsA.size false).getD k false) id → known σ.res id := by
      rintro id (h | ⟨_, j, y, _, h⟩)
      · exact h
      · simp only [hget] at h; simp at h
    have I0 : Inv ds (clean σ.slots) σ.res drs σ.defs ρ w0 F0 (fun k => (Array.replicate opsA.size false).getD k false) ρ fps a { w with drawn := w.drawn + 1 } := by
      have hd : HRep ρ fps σ.res (known σ.res) w0 F0 { w with drawn := w.drawn + 1 } := ⟨r2.sub, r2.old, r2.os, r2.tape, r2.output, fun i hi => Res.holds_keep _ (r2.holds i hi) fun _ _ => rfl, r2.lt, r2.disj, r2.inF, r2.same⟩
      refine ⟨r1.clean.1, fun t j m d _ _ hl => by simp only [hget] at hl; simp at hl, fun t _ => ?_, ?_, fun i k hi => by simp only [hget] at hi; simp at hi, ⟨r3, r4⟩, Env.agree.refl _ _, fun j d _ hl => by simp only [hget] at hl; simp at hl⟩
      · exact (SlotOK.plain (clean_plain σ.slots t) (r1.clean.2 t)).env (fun i hi => .inl hi) (Env.agree.refl _ _)
      · refine (hd.monoK fun i hi => .inl hi).forget fun id hk => ?_
        have := hL0 id (known_view hk)
        rw [rget_view, if_pos (rget_lt this)]
    have hcnt : cnt (Array.replicate opsA.size false) opsA.size ≤ opsA.size := by
      have := List.length_filter_le (fun k => !(Array.replicate opsA.size false).getD k false) (List.range opsA.size)
      simpa [cnt] using this
    cases rest with
    | nil =>
      simp only [frcK_eq, cleanK_eq] at hK
      have hlen : drs.length = opsA.size := by
        have := congrArg List.length g1
        simp at this
        omega
      refine any_front Post.noOut hnd hC P hq hsz (fun i h1 h2 => by omega) (fun _ _ _ _ _ _ _ _ h => by omega) ?_ opsA.size _ ρ fps a _ (by simp) hcnt (fun k _ => hget k) I0
      intro fuel listed ρ' fps' a' w' hs hc hall hno I
      obtain ⟨hrep, hgood⟩ := I.rep P hall hno
      refine anyIn_done ?_ ⟨.norm, _, ρ', fps', trivial, hK, ⟨hrep.1.clean, hrep.2.1, hrep.2.2.1, hrep.2.2.2⟩, hgood⟩ fuel
      cases hrd : Region.ready .any opsA listed with
      | nil => rfl
      | cons i l =>
        obtain ⟨h1, o, h2, _⟩ := mem_ready.1 (show i ∈ Region.ready .any opsA listed by rw [hrd]; simp)
        have hisz : i < opsA.size := (Array.getElem?_eq_some_iff.1 h2).1
        have := hall i (by omega)
        have hlt : i < listed.size := by omega
        simp only [Array.getD_eq_getD_getElem?, Array.getElem?_eq_getElem hlt, Option.getD_some] at this h1
        rw [this] at h1; simp at h1
    | cons o rest =>
      simp only [frcK_eq] at hK
      split at hK
      · rename_i htl0
        have hlen : opsA.size = drs.length + (rest.length + 1) := by
          have := congrArg List.length g1
          simp at this
          omega
        rw [Bool.or_eq_true] at htl0
        rcases htl0 with htl | htl
        · have htl := tailOK_spec htl
          have hbit : ∀ i, i < opsA.size → drs.length ≤ i → ∀ k, (ancAt ds i).testBit k = true ↔ k < i := fun i h1 h2 k => by
            have := htl (i - drs.length) (by simp; omega)
            rw [show drs.length + (i - drs.length) = i by omega] at this
            rw [this]; simp [allM', Nat.testBit_two_pow_sub_one]
          refine any_front Post.noOut hnd hC P hq hsz (fun i h1 h2 k hk => (hbit i h1 (by omega) k).2 (by omega)) (fun _ listed _ _ _ _ _ _ hsl _ hex hanc _ => ?_) ?_ opsA.size _ ρ fps a _ (by simp) hcnt (fun k _ => hget k) I0
          · obtain ⟨k, hk, hkf⟩ := hex
            have := hanc k ((hbit _ hsl (Nat.le_refl _) k).2 hk)
            rw [hkf] at this; simp at this
          intro fuel listed ρ' fps' a' w' hs hc hall hno I
          obtain ⟨hrep, hgood⟩ := I.rep P hall hno
          exact tail_spec hC hH hY hnd P drs.length (fun i h1 h2 => hbit i h1 (by omega)) (o :: rest) drs.length listed fuel _ ρ' fps' a' w' g1.symm (Nat.le_refl _) hs hc hall hno hK hrep hgood
        · obtain ⟨e, oe, y, ix, d, t, p, x, l1, l2, l3, l4, l5, l6, l7, l8, l9, l10⟩ := tailLate_spec htl
          have htl := tailOK_spec l10
          have hbit : ∀ i, i < opsA.size → drs.length < i → ∀ k, (ancAt ds i).testBit k = true ↔ k < i := fun i h1 h2 k => by
            have := htl (i - (drs.length + 1)) (by omega)
            rw [show drs.length + 1 + (i - (drs.length + 1)) = i by omega] at this
            rw [this]; simp [allM', Nat.testBit_two_pow_sub_one]
          refine any_front Post.noOut hnd hC P hq hsz (fun i h1 h2 k hk => (hbit i h1 h2 k).2 (by omega)) (fun fuel listed ρ' fps' a' w' hs hc hsl hno hex hanc I => ?_) ?_ opsA.size _ ρ fps a _ (by simp) hcnt (fun k _ => hget k) I0
          · exact late_spec hC hH hY hnd P hq (by simpa using l1) l2 l3 g1.symm l4 l5 l6 l7 l8 l9 hbit hK fuel listed ρ' fps' a' w' hs hc hsl hno hex hanc I
          intro fuel listed ρ' fps' a' w' hs hc hall hno I
          obtain ⟨hrep, hgood⟩ := I.rep P hall hno
          exact tail_spec hC hH hY hnd P drs.length hbit (o :: rest) drs.length listed fuel _ ρ' fps' a' w' g1.symm (Nat.le_refl _) hs hc hall hno hK hrep hgood
      · exact hK.elim
  · exact h.elim

end
end Go.Sx
