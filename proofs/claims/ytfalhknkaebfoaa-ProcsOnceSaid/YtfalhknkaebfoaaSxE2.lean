/- The executor: a drawn region, whole. No condition. -/
import Derived.Test.YtfalhknkaebfoaaSxE
set_option linter.unusedVariables false
set_option linter.unusedSimpArgs false
namespace Go.Sx
open Go.RowKit (Below)

theorem planGo_spec {C : Ctx} {ops : List Oper} {ds : List (Option Nat × Nat)} {sl : List S} {res : List Res} {st : Bool} {hid : List (Nat × Nat)} : ∀ (l : List Oper) (i : Nat) (done drs : List Dr) (rest : List Oper), planGo C ops ds sl res st hid i l done = (drs, rest) → done.length = i → ops.drop i = l →
    (∀ k d, done[k]? = some d → ∃ o, ops[k]? = some o ∧ planOne C ops ds sl res st hid (done.take k) k o = some d) →
    rest = ops.drop drs.length ∧ drs.length ≤ ops.length ∧ ∀ k d, drs[k]? = some d → ∃ o, ops[k]? = some o ∧ planOne C ops ds sl res st hid (drs.take k) k o = some d
  | [], i, done, drs, rest, h, hi, hl, hp => by
    simp only [planGo, Prod.mk.injEq] at h
    obtain ⟨rfl, rfl⟩ := h
    refine ⟨by rw [hi]; exact hl.symm, ?_, hp⟩
    rcases Nat.lt_or_ge done.length (ops.length + 1) with h | h
    · omega
    · have hne : 0 < done.length := by omega
      have := hp (done.length - 1) (done[done.length - 1]'(by omega)) (List.getElem?_eq_getElem (by omega))
      obtain ⟨o, ho, _⟩ := this
      have := (List.getElem?_eq_some_iff.1 ho).1
      omega
  | o :: l, i, done, drs, rest, h, hi, hl, hp => by
    simp only [planGo] at h
    have hoi : ops[i]? = some o := by
      have : (ops.drop i)[0]? = some o := by rw [hl]; rfl
      simpa using this
    split at h
    · rename_i d hd
      refine planGo_spec l (i + 1) (done ++ [d]) drs rest h (by simp [hi]) ?_ fun k e hk => ?_
      · have : (ops.drop i).drop 1 = l := by rw [hl]; rfl
        rw [← this, List.drop_drop]
      · by_cases hlt : k < done.length
        · rw [List.getElem?_append_left hlt] at hk
          obtain ⟨o', h1, h2⟩ := hp k e hk
          refine ⟨o', h1, ?_⟩
          rw [List.take_append_of_le_length (by omega)]
          exact h2
        · rw [List.getElem?_append_right (by omega)] at hk
          have hk0 : k - done.length = 0 := by
            rcases Nat.lt_or_ge (k - done.length) 1 with h | h
            · omega
            · rw [List.getElem?_eq_none (by simpa using h)] at hk; simp at hk
          rw [hk0] at hk
          simp only [List.getElem?_cons_zero, Option.some.injEq] at hk
          subst hk
          have hki : k = i := by omega
          subst hki
          refine ⟨o, hoi, ?_⟩
          rw [show List.take k (done ++ [d]) = done by rw [← hi, List.take_left']; rfl]
          exact hd
    · simp only [Prod.mk.injEq] at h
      obtain ⟨rfl, rfl⟩ := h
      refine ⟨by rw [hi]; exact hl.symm, ?_, hp⟩
      have := (List.getElem?_eq_some_iff.1 hoi).1
      omega

theorem reqAll_spec : ∀ {drs : List Dr} {k : Prop}, reqAll drs k → (∀ (i : Nat) (d : Dr), drs[i]? = some d → (d.g = true → holdsO d.q)) ∧ k
  | [], k, h => ⟨by simp, h⟩
  | d :: l, k, h => by
    have key : (d.g = true → holdsO d.q) ∧ reqAll l k := by
      simp only [reqAll] at h
      split at h
      · exact reqG_iff h
      · exact ⟨fun _ => (reqO_iff h).1, (reqO_iff h).2⟩
    obtain ⟨h1, h2⟩ := reqAll_spec key.2
    refine ⟨fun i e hi => ?_, h2⟩
    cases i with
    | zero => simp only [List.getElem?_cons_zero, Option.some.injEq] at hi; subst hi; exact key.1
    | succ i => exact h1 i e (by simpa using hi)

def cnt (listed : Array Bool) (n : Nat) : Nat := ((List.range n).filter fun k => !listed.getD k false).length

theorem filter_lt {α : Type} {p q : α → Bool} : ∀ {l : List α}, (∀ x ∈ l, q x = true → p x = true) → (∃ x ∈ l, p x = true ∧ q x = false) → (l.filter q).length < (l.filter p).length
  | [], _, ⟨x, hx, _⟩ => by simp at hx
  | y :: l, h, ⟨x, hx, h1, h2⟩ => by
    have hle : ∀ (l : List α), (∀ x ∈ l, q x = true → p x = true) → (l.filter q).length ≤ (l.filter p).length := by
      intro l
      induction l with
      | nil => simp
      | cons z l ih =>
        intro hh
        have := ih fun x hx => hh x (by simp [hx])
        have hz := hh z (by simp)
        simp only [List.filter_cons]
        cases hq : q z <;> cases hp : p z <;> simp_all <;> omega
    have h' : ∀ x ∈ l, q x = true → p x = true := fun x hx => h x (by simp [hx])
    simp only [List.filter_cons]
    rcases List.mem_cons.1 hx with rfl | hx
    · rw [if_pos h1, if_neg (by simp [h2])]
      have := hle l h'
      simp only [List.length_cons]
      omega
    · have ih := filter_lt h' ⟨x, hx, h1, h2⟩
      have hy := h y (by simp)
      cases hq : q y <;> cases hp : p y <;> simp_all <;> omega

theorem cnt_set {listed : Array Bool} {n i : Nat} (hs : listed.size = n) (hi : i < n) (hl : listed.getD i false = false) : cnt (listed.setIfInBounds i true) n < cnt listed n := by
  refine filter_lt (fun x hx h => ?_) ⟨i, List.mem_range.2 hi, ?_, ?_⟩
  · by_cases e : i = x
    · subst e; simpa using hl
    · rw [getD_set_ne false e] at h; exact h
  · simp only [hl, Bool.not_false]
  · simp [hs, hi]

theorem L_set {listed : Array Bool} {i : Nat} (hi : i < listed.size) : (fun k => (listed.setIfInBounds i true).getD k false) = ins (fun k => listed.getD k false) i := by
  funext k
  unfold ins
  by_cases e : k = i
  · subst e; simp [hi]
  · rw [getD_set_ne false (Ne.symm e)]; simp [e]

theorem viewR_all {p : Nat → Bool} : ∀ (l : List Dr) (j : Nat), (∀ k, k < l.length → p (j + k) = true) → viewR p j l = viewR (fun _ => true) j l
  | [], j, _ => by simp [viewR]
  | d :: l, j, h => by
    rw [viewR_cons, viewR_cons, viewR_all l (j + 1) fun k hk => by rw [show j + 1 + k = j + (k + 1) by omega]; exact h (k + 1) (by simpa using hk)]
    have := h 0 (by simp)
    simp only [Nat.add_zero] at this
    rw [if_pos this, if_pos rfl]

theorem upV_all {p : Nat → Bool} : ∀ (l : List Dr) (j : Nat) (R : List Res), (∀ k, k < l.length → p (j + k) = true) → upV p j l R = upV (fun _ => true) j l R
  | [], j, R, _ => rfl
  | d :: l, j, R, h => by
    have h0 := h 0 (by simp)
    simp only [Nat.add_zero] at h0
    have h' : ∀ k, k < l.length → p (j + 1 + k) = true := fun k hk => by rw [show j + 1 + k = j + (k + 1) by omega]; exact h (k + 1) (by simpa using hk)
    simp only [upV, h0, if_true]
    split
    · exact upV_all l _ R h'
    · exact upV_all l _ _ h'

section
variable {C : Ctx} {opsA : Array Oper} {ds : List (Option Nat × Nat)} {sl : List S} {res : List Res} {drs : List Dr} {defs : List (Nat × List V × List V)} {ρ0 ρ : Env} {w0 w : World} {F0 : Nat → Prop} {fps : Nat → Nat → Prop} {a : Act}
  {Q : Exit → Act → World → Prop}

theorem any_front {ro : Option Nat} (hQ : ¬ LetsOut Q) (hnd : ro ≠ none → ∀ o ∈ opsA.toList, notDefer o) (hC : C.Sound) (P : Planned C opsA.toList ds sl res drs) (hq : ∀ (i : Nat) (d : Dr), drs[i]? = some d → (d.g = true → holdsO d.q)) (hle : drs.length ≤ opsA.size)
    (htail : ∀ i, i < opsA.size → drs.length < i → ∀ k, k < drs.length → (ancAt ds i).testBit k = true)
    (hlate : ∀ (fuel : Nat) (listed : Array Bool) ρ fps a w, listed.size = opsA.size → cnt listed opsA.size ≤ fuel + 1 → drs.length < opsA.size → (∀ k, drs.length ≤ k → listed.getD k false = false) → (∃ k, k < drs.length ∧ listed.getD k false = false) →
      (∀ k, (ancAt ds drs.length).testBit k = true → listed.getD k false = true) → Inv ds sl res drs defs ρ0 w0 F0 (fun k => listed.getD k false) ρ fps a w →
      wpOpIn (FF C.P ro) 0 C.P opsA Q drs.length (wpAnyIn (FF C.P ro) 0 C.P .any opsA Q fuel (listed.setIfInBounds drs.length true)) a w)
    (hfin : ∀ (fuel : Nat) (listed : Array Bool) ρ fps a w, listed.size = opsA.size → cnt listed opsA.size ≤ fuel → (∀ k, k < drs.length → listed.getD k false = true) → (∀ k, drs.length ≤ k → listed.getD k false = false) →
      Inv ds sl res drs defs ρ0 w0 F0 (fun k => listed.getD k false) ρ fps a w → wpAnyIn (FF C.P ro) 0 C.P .any opsA Q fuel listed a w) :
    ∀ (fuel : Nat) (listed : Array Bool) ρ fps a w, listed.size = opsA.size → cnt listed opsA.size ≤ fuel → (∀ k, drs.length ≤ k → listed.getD k false = false) →
      Inv ds sl res drs defs ρ0 w0 F0 (fun k => listed.getD k false) ρ fps a w → wpAnyIn (FF C.P ro) 0 C.P .any opsA Q fuel listed a w := by
  intro fuel
  induction fuel with
  | zero =>
    intro listed ρ fps a w hs hc hno I
    refine hfin 0 listed ρ fps a w hs hc (fun k hk => ?_) hno I
    cases h : listed.getD k false with
    | true => rfl
    | false =>
      have := cnt_set (n := opsA.size) hs (by omega) h
      omega
  | succ fuel ih =>
    intro listed ρ fps a w hs hc hno I
    by_cases hall : ∀ k, k < drs.length → listed.getD k false = true
    · exact hfin _ listed ρ fps a w hs hc hall hno I
    · have hready : ∀ i ∈ Region.ready .any opsA listed, (i < drs.length ∨ (i = drs.length ∧ i < opsA.size)) ∧ listed.getD i false = false ∧ ∀ k, (ancAt ds i).testBit k = true → listed.getD k false = true := by
        intro i hi
        obtain ⟨h1, o, h2, h3⟩ := mem_ready.1 hi
        have hisz : i < opsA.size := (Array.getElem?_eq_some_iff.1 h2).1
        obtain ⟨p1, p2, p3, p4⟩ := P.at h2
        have hL : ∀ k, (ancAt ds i).testBit k = true → listed.getD k false = true := fun k hk => by
          obtain ⟨e, e1, e2, e3⟩ := (p3 k).1 hk
          have := h3 e e1 e2
          rcases e3 with rfl | e3
          · exact this
          · exact I.down e.on k this e3
        refine ⟨?_, ?_, hL⟩
        · rcases Nat.lt_trichotomy i drs.length with h | h | h
          · exact .inl h
          · exact .inr ⟨h, hisz⟩
          · exact absurd (fun k hk => hL k (htail i hisz h k hk)) hall
        · have : i < listed.size := by omega
          simpa [Array.getD_eq_getD_getElem?, this] using h1
      have hnil : Region.ready .any opsA listed ≠ [] := by
        intro hnil
        have hmin : ∀ i, i < drs.length → listed.getD i false = true := by
          intro i
          induction i using Nat.strongRecOn with
          | _ i ihi =>
            intro hi
            cases h : listed.getD i false with
            | true => rfl
            | false =>
              have hio : opsA[i]? = some (opsA[i]'(by omega)) := Array.getElem?_eq_getElem (by omega)
              obtain ⟨p1, p2, p3, p4⟩ := P.at hio
              have : i ∈ Region.ready .any opsA listed := by
                rw [mem_ready]
                refine ⟨?_, _, hio, fun e e1 e2 => ?_⟩
                · have : i < listed.size := by omega
                  simpa [Array.getD_eq_getD_getElem?, this] using h
                · have := p2 e.on ((p3 e.on).2 ⟨e, e1, e2, .inl rfl⟩)
                  exact ihi e.on this (by omega)
              rw [hnil] at this
              simp at this
        exact hall hmin
      refine ⟨fun h => absurd h hnil, fun i hi => ?_⟩
      obtain ⟨h1, h2, h3⟩ := hready i hi
      rcases h1 with h1 | ⟨h1, h1'⟩
      case inr =>
        subst h1
        have hex : ∃ k, k < drs.length ∧ listed.getD k false = false := by
          refine Classical.byContradiction fun hno => hall fun k hk => ?_
          cases h : listed.getD k false with
          | true => rfl
          | false => exact absurd ⟨k, hk, h⟩ hno
        exact hlate fuel listed ρ fps a w hs hc h1' hno hex h3 I
      have hisz : i < listed.size := by omega
      refine Inv.step rfl hnd hC P hq I (d := drs[i]'h1) (List.getElem?_eq_getElem h1) h2 h3 fun ρ' fps' a' w' I' => ?_
      refine ih (listed.setIfInBounds i true) ρ' fps' a' w' (by simpa using hs) ?_ ?_ ?_
      · have := cnt_set (n := opsA.size) hs (by omega) h2
        omega
      · intro k hk
        rw [getD_set_ne false (by omega)]
        exact hno k hk
      · rw [L_set hisz]; exact I'

/-- What is known when the planned ones are done. -/
theorem Inv.rep {listed : Array Bool} (P : Planned C opsA.toList ds sl res drs) (hall : ∀ k, k < drs.length → listed.getD k false = true) (hno : ∀ k, drs.length ≤ k → listed.getD k false = false)
    (I : Inv ds sl res drs defs ρ0 w0 F0 (fun k => listed.getD k false) ρ fps a w) :
    Rep ρ fps { slots := viewS (allM' drs.length) drs.length 0 ds (drS drs) sl, res := avAll res drs, defs := defs } w0 F0 a w ∧ Good ρ0 res ρ (avAll res drs) := by
  have hbit : ∀ k, (allM' drs.length).testBit k = true ↔ k < drs.length := fun k => by simp [allM', Nat.testBit_two_pow_sub_one]
  have hv := P.view I (anc := allM' drs.length) (i := drs.length) (Nat.le_refl _) (fun k hk => ⟨hall k ((hbit k).1 hk), (hbit k).1 hk⟩) (fun k r hk hr => by
      have hk' := (hbit k).1 hk
      obtain ⟨_, _, hpl, _⟩ := P.plan
      obtain ⟨o, ho, _⟩ := hpl k _ (List.getElem?_eq_getElem hk')
      have := (P.at (i := k) (o := o) (by simpa using ho)).2.1 r hr
      exact (hbit r).2 (by omega)) (fun k m t _ h2 _ => hno k h2)
  rw [List.take_length] at hv
  have hviews : viewR (fun k => listed.getD k false) 0 drs = viewR (fun _ => true) 0 drs := viewR_all drs 0 fun k hk => by simpa using hall k hk
  have hAV : AV res drs (fun k => listed.getD k false) = avAll res drs := by
    unfold AV avAll
    rw [hviews, addR_eq]
    exact upV_all drs 0 _ fun k hk => by simpa using hall k hk
  have hheap := I.heap
  rw [hAV] at hheap
  have hknown : ∀ id, KL res drs (fun k => listed.getD k false) id → known (avAll res drs) id := by
    intro id h
    rw [← hAV]
    have hlt : id < res.length + lens drs := by
      rcases h with h | ⟨h1, j, y, h2, h3⟩
      · have := rget_lt h; omega
      · rw [locate_spec] at h2
        obtain ⟨⟨d, hd, hy⟩, h4⟩ := h2
        have := lens_take_le drs drs.length j y ⟨d, hd, hy⟩ (List.getElem?_eq_some_iff.1 hd).1
        rw [List.take_length] at this
        omega
    unfold known
    rw [AV_get hlt]
    cases hl : lastUp (fun k => listed.getD k false) id 0 drs with
    | some r =>
      obtain ⟨k, d', e1, e2, _⟩ := lastUp_some _ _ hl
      obtain ⟨_, ty, c, e⟩ := store_known P k d' _ e1 e2
      simp only at e
      simp [e]
    | none =>
      simp only [Option.getD_none]
      rw [rget_view]
      rcases h with h | ⟨h1, j, y, h2, h3⟩
      · rw [if_pos (rget_lt h)]; exact h
      · rw [if_neg (by omega), h2]
        simp only [h3, if_true]
        obtain ⟨⟨d, hd, hy⟩, _⟩ := (locate_spec drs _ j y).1 h2
        rw [hd]
        exact I.newk j d hd h3 y hy
  refine ⟨⟨hv.env hknown (Env.agree.refl _ _), hheap.monoK hknown, I.defs.1, fun d hd => ?_⟩, I.agree, fun i hi => hknown i (.inl hi)⟩
  have := I.defs.2 d hd
  exact ⟨okL_mono (fun i hi => hknown i (.inl hi)) _ this.1, okL_mono (fun i hi => hknown i (.inl hi)) _ this.2⟩

theorem clean_plain (l : List S) (t : Nat) : (∃ x, sget (clean l) t = .v x) ∨ sget (clean l) t = .und := by
  rw [sget_clean]
  split
  · exact .inl ⟨_, rfl⟩
  · exact .inr rfl

/-- Nothing more to do. -/
theorem anyIn_done {P : Program} {ro : Option Nat} {md : Region.Mode} {ops : Array Oper} {listed : Array Bool} (h : Region.ready md ops listed = []) (hq : Q .normal a w) : ∀ fuel, wpAnyIn (FF C.P ro) 0 P md ops Q fuel listed a w
  | 0 => ⟨h, hq⟩
  | fuel + 1 => ⟨fun _ => hq, fun i hi => by rw [h] at hi; simp at hi⟩

theorem tailOK_spec {ds : List (Option Nat × Nat)} : ∀ {l : List Oper} {i : Nat}, tailOK ds i l = true → ∀ j, j < l.length → ancAt ds (i + j) = allM' (i + j)
  | [], i, _, j, hj => by simp at hj
  | o :: l, i, h, j, hj => by
    simp only [tailOK, Bool.and_eq_true, beq_iff_eq] at h
    cases j with
    | zero => exact h.1
    | succ j =>
      have := tailOK_spec h.2 j (by simpa using hj)
      rwa [show i + 1 + j = i + (j + 1) by omega] at this

/-- The rest of a region. -/
theorem tail_spec {H : Handler} {Y : YHandler} {K : Out → St → Prop} {ro : Option Nat} {res0 : List Res} (hC : C.Sound) (hH : H.OK C.P) (hY : YOK C.P Y ρ0 res0) (hnd : ro ≠ none → ∀ o ∈ opsA.toList, notDefer o)
    (P : Planned C opsA.toList ds sl res drs) (n : Nat) (hbit : ∀ i, i < opsA.size → n < i → ∀ k, (ancAt ds i).testBit k = true ↔ k < i) :
    ∀ (l : List Oper) (m : Nat) (listed : Array Bool) (fuel : Nat) (σ : St) ρ fps a w, opsA.toList.drop m = l → n ≤ m → listed.size = opsA.size → cnt listed opsA.size ≤ fuel → (∀ k, k < m → listed.getD k false = true) → (∀ k, m ≤ k → listed.getD k false = false) →
      tailS C H Y opsA.toList l σ K → Rep ρ fps σ w0 F0 a w → Good ρ0 res0 ρ σ.res → wpAnyIn (FF C.P ro) 0 C.P .any opsA (Post ρ0 res0 w0 F0 K) fuel listed a w
  | [], m, listed, fuel, σ, ρ, fps, a, w, hl, hnm, hs, hc, hall, hno, h, hr, hg => by
    have hm : opsA.size ≤ m := by
      have := congrArg List.length hl
      simp at this
      omega
    simp only [tailS, cleanK_eq] at h
    refine anyIn_done ?_ ⟨.norm, _, ρ, fps, trivial, h, ⟨hr.1.clean, hr.2.1, hr.2.2.1, hr.2.2.2⟩, hg⟩ fuel
    cases hrd : Region.ready .any opsA listed with
    | nil => rfl
    | cons i l =>
      obtain ⟨h1, o, h2, _⟩ := mem_ready.1 (show i ∈ Region.ready .any opsA listed by rw [hrd]; simp)
      have hisz : i < opsA.size := (Array.getElem?_eq_some_iff.1 h2).1
      have := hall i (by omega)
      have hlt : i < listed.size := by omega
      simp only [Array.getD_eq_getD_getElem?, Array.getElem?_eq_getElem hlt, Option.getD_some] at this h1
      rw [this] at h1; simp at h1
  | o :: l, m, listed, fuel, σ, ρ, fps, a, w, hl, hnm, hs, hc, hall, hno, h, hr, hg => by
    have hom : opsA[m]? = some o := by
      have : (opsA.toList.drop m)[0]? = some o := by rw [hl]; rfl
      simpa using this
    have hmsz : m < opsA.size := (Array.getElem?_eq_some_iff.1 hom).1
    have hl' : opsA.toList.drop (m + 1) = l := by
      have : (opsA.toList.drop m).drop 1 = l := by rw [hl]; rfl
      rw [← this, List.drop_drop]
    have hml : listed.getD m false = false := hno _ (Nat.le_refl _)
    have hmlt : m < listed.size := by omega
    cases fuel with
    | zero =>
      have := cnt_set (n := opsA.size) hs hmsz hml
      omega
    | succ fuel =>
      obtain ⟨p1, p2, p3, p4⟩ := P.at hom
      have hmr : m ∈ Region.ready .any opsA listed := by
        rw [mem_ready]
        refine ⟨?_, o, hom, fun e e1 e2 => hall _ (p2 e.on ((p3 e.on).2 ⟨e, e1, e2, .inl rfl⟩))⟩
        simpa [Array.getD_eq_getD_getElem?, hmlt] using hml
      refine ⟨fun hnil => (by rw [hnil] at hmr; simp at hmr), fun i hi => ?_⟩
      obtain ⟨h1, o', h2, h3⟩ := mem_ready.1 hi
      have hisz : i < opsA.size := (Array.getElem?_eq_some_iff.1 h2).1
      have him : i = m := by
        rcases Nat.lt_trichotomy i m with h | h | h
        · have := hall i h
          have hlt : i < listed.size := by omega
          simp only [Array.getD_eq_getD_getElem?, Array.getElem?_eq_getElem hlt, Option.getD_some] at this h1
          rw [this] at h1; simp at h1
        · exact h
        · exfalso
          obtain ⟨q1, q2, q3, q4⟩ := P.at h2
          obtain ⟨e, e1, e2, e3⟩ := (q3 m).1 ((hbit i hisz (by omega) m).2 h)
          have he := h3 e e1 e2
          rcases e3 with rfl | e3
          · rw [hml] at he; simp at he
          · have hlt : m < e.on := by
              have hi' := q2 e.on ((q3 e.on).2 ⟨e, e1, e2, .inl rfl⟩)
              obtain ⟨_, r2, _, _⟩ := P.at (i := e.on) (o := opsA[e.on]'(by omega)) (Array.getElem?_eq_getElem (by omega))
              exact r2 m e3
            rw [hno _ (by omega)] at he; simp at he
      subst him
      have hoo : o' = o := by rw [hom] at h2; exact (Option.some.inj h2).symm
      subst hoo
      have key := stepS_spec (ro := ro) (next := wpAnyIn (FF C.P ro) 0 C.P .any opsA (Post ρ0 res0 w0 F0 K) fuel (listed.setIfInBounds i true)) (Q := Post ρ0 res0 w0 F0 K) hC hH (hY.later hg)
        (fun hr => hnd hr o' (by rw [← Array.getElem?_toList] at hom; exact List.mem_of_getElem? hom)) h hr
        (fun σ' ρ'' fps'' a'' w'' hK' hr' hg' => tail_spec hC hH hY hnd P n hbit l (i + 1) (listed.setIfInBounds i true) fuel σ' ρ'' fps'' a'' w'' hl' (by omega) (by simpa using hs)
          (by have := cnt_set (n := opsA.size) hs hmsz hml; omega)
          (fun k hk => by
            by_cases e : i = k
            · subst e; simp [hmlt]
            · rw [getD_set_ne false e]; exact hall k (by omega))
          (fun k hk => by rw [getD_set_ne false (by omega)]; exact hno k (by omega)) hK' hr' (hg.trans hg'))
        (fun v σ' ρ'' fps'' w'' hK' hv hr' hg' => ⟨.pan v, σ', ρ'', fps'', ⟨rfl, hv⟩, hK', hr', hg.trans hg'⟩)
      unfold wpOpIn
      simp only [hom]
      split
      · rename_i hw; rw [if_pos hw] at key; exact key.2
      · rename_i hw; rw [if_neg hw] at key; exact key

theorem getq {A : Array Bool} {i : Nat} (hi : i < A.size) : A[i]?.getD true = A.getD i false := by simp [Array.getD_eq_getD_getElem?, hi]
theorem opNe_eval {o : Operand} {d : Nat} {a : Act} {v : Value} (h : opNe o d = true) : (a.put (some d) v).eval o = a.eval o := by
  cases o <;> try rfl
  rename_i s
  simp only [opNe, Bool.not_eq_true', beq_eq_false_iff_ne] at h
  simp only [Act.eval, Act.put]
  simp [Ne.symm h]

theorem tailLate_spec {ops : List Oper} {ds : List (Option Nat × Nat)} {n : Nat} {o : Oper} {l : List Oper} (h : tailLate ops ds n o l = true) : ∃ (e : Nat) (oe : Oper) (y : Operand) (ix d t : Nat) (p x : Operand),
    ops[e]? = some oe ∧ (oe.op = .extract y ix ∧ oe.dst = some d ∧ oe.guard = none) ∧ (o.op = .store t p x ∧ o.dst = none ∧ o.guard = none) ∧ opNe p d = true ∧ opNe x d = true ∧ opNe y d = true ∧ e < n ∧ (ancAt ds n).testBit e = false ∧ (∀ k, (ancAt ds n).testBit k = true ↔ k < n ∧ k ≠ e) ∧ tailOK ds (n + 1) l = true := by
  unfold tailLate at h
  split at h
  case h_2 => simp at h
  rename_i t p x hop
  split at h
  case h_2 => simp at h
  rename_i hdst
  split at h
  case h_2 => simp at h
  rename_i hgu
  split at h
  case h_2 => simp at h
  rename_i e he
  split at h
  case h_2 => simp at h
  rename_i oe hoe
  split at h
  case h_2 => simp at h
  rename_i y ix hoy
  split at h
  case h_2 => simp at h
  rename_i d hd
  split at h
  case h_2 => simp at h
  rename_i hge
  simp only [Bool.and_eq_true] at h
  have hmem := List.mem_of_find?_eq_some he
  have hpr := List.find?_some he
  simp only [Bool.and_eq_true, Bool.not_eq_true', beq_iff_eq] at hpr
  obtain ⟨p1, p2⟩ := hpr
  have hlt := List.mem_range.1 hmem
  refine ⟨e, oe, y, ix, d, t, p, x, hoe, ⟨hoy, hd, hge⟩, ⟨hop, hdst, hgu⟩, h.1.1.1, h.1.1.2, h.1.2, hlt, p1, fun k => ?_, h.2⟩
  have hk := congrArg (fun m => Nat.testBit m k) p2
  simp only [Nat.testBit_or, allM', Nat.testBit_two_pow_sub_one, Nat.testBit_two_pow] at hk
  constructor
  · intro hb
    rw [hb] at hk
    have hkn : k < n := by simpa using hk
    exact ⟨hkn, fun e' => by subst e'; rw [hb] at p1; simp at p1⟩
  · rintro ⟨h1, h2⟩
    have : decide (e = k) = false := by simp [Ne.symm h2]
    rw [this] at hk
    simpa [h1] using hk

/-- A part that is taken out, whatever the memory is. -/
theorem run_extract {P : Program} {tu v : Value} {ix : Nat} {w w' : World} (h : (Instr.extract tu ix).run P w = .ok v w') : w' = w ∧ ∀ w2, (Instr.extract tu ix).run P w2 = .ok v w2 := by
  cases tu <;> simp [Instr.extract] at h ⊢
  rename_i vs
  cases hv : vs[ix]? with
  | none => simp [hv] at h
  | some z =>
    simp [hv] at h ⊢
    exact ⟨h.2.symm, h.1⟩

/-- A store, while a part of a tuple is yet to be taken out. -/
theorem late_spec {H : Handler} {Y : YHandler} {K : Out → St → Prop} {ro : Option Nat} (hC : C.Sound) (hH : H.OK C.P) (hY : YOK C.P Y ρ0 res) (hnd : ro ≠ none → ∀ o ∈ opsA.toList, notDefer o)
    (P : Planned C opsA.toList ds sl res drs) (hq : ∀ (i : Nat) (d : Dr), drs[i]? = some d → (d.g = true → holdsO d.q)) {e : Nat} {oe on : Oper} {y : Operand} {ix d t : Nat} {p x : Operand} {l : List Oper} (hoe : opsA[e]? = some oe) (he : oe.op = .extract y ix ∧ oe.dst = some d ∧ oe.guard = none)
    (hon : on.op = .store t p x ∧ on.dst = none ∧ on.guard = none) (hdrop : opsA.toList.drop drs.length = on :: l) (hp : opNe p d = true) (hx : opNe x d = true) (hyd : opNe y d = true) (hel : e < drs.length) (_hef : (ancAt ds drs.length).testBit e = false)
    (hanc : ∀ k, (ancAt ds drs.length).testBit k = true ↔ k < drs.length ∧ k ≠ e) (hbit : ∀ i, i < opsA.size → drs.length < i → ∀ k, (ancAt ds i).testBit k = true ↔ k < i)
    (htl : tailS C H Y opsA.toList (on :: l) { slots := viewS (allM' drs.length) drs.length 0 ds (drS drs) sl, res := avAll res drs, defs := defs } K) :
    ∀ (fuel : Nat) (listed : Array Bool) ρ fps a w, listed.size = opsA.size → cnt listed opsA.size ≤ fuel + 1 → drs.length < opsA.size → (∀ k, drs.length ≤ k → listed.getD k false = false) → (∃ k, k < drs.length ∧ listed.getD k false = false) →
      (∀ k, (ancAt ds drs.length).testBit k = true → listed.getD k false = true) → Inv ds sl res drs defs ρ0 w0 F0 (fun k => listed.getD k false) ρ fps a w →
      wpOpIn (FF C.P ro) 0 C.P opsA (Post ρ0 res w0 F0 K) drs.length (wpAnyIn (FF C.P ro) 0 C.P .any opsA (Post ρ0 res w0 F0 K) fuel (listed.setIfInBounds drs.length true)) a w := by
  intro fuel listed ρ fps a w hs hc hsl hno hex hL I
  have hle : ∀ k, k < drs.length → k ≠ e → listed.getD k false = true := fun k h1 h2 => hL k ((hanc k).2 ⟨h1, h2⟩)
  have hlf : listed.getD e false = false := by
    obtain ⟨k, hk, hkf⟩ := hex
    by_cases h : k = e
    · subst h; exact hkf
    · rw [hle k hk h] at hkf; simp at hkf
  have hesz : e < opsA.size := by omega
  have heall : ∀ k, (ancAt ds e).testBit k = true → listed.getD k false = true := fun k hk => by
    have := (P.at hoe).2.1 k hk
    exact hle k (by omega) (by omega)
  -- the part, taken out
  have hst := Inv.step (K := fun a' w' => ∃ ρ' fps', Inv ds sl res drs defs ρ0 w0 F0 (ins (fun k => listed.getD k false) e) ρ' fps' a' w') (Q := fun _ _ _ => False) (ro := ro) rfl hnd hC P hq I (d := drs[e]'hel) (List.getElem?_eq_getElem hel) hlf heall fun ρ' fps' a' w' I' => ⟨ρ', fps', I'⟩
  unfold wpOpIn at hst
  rw [hoe] at hst
  simp only at hst
  rw [if_pos (by simp [Region.wanted, he.2.2])] at hst
  have hst := hst.2
  have hsemE : oe.semAt (FF C.P ro).round a.eval = execOp a.eval oe := by
    show oe.semAt ro a.eval = _
    cases ro with
    | none => exact Oper.semAt_none _ _
    | some l => exact Oper.semAt_some l _ oe (by simp [he.1])
  rw [hsemE] at hst
  have hexec : execOp a.eval oe = (Instr.extract (a.eval y) ix >>= fun v => pure (Next.value v)) := by simp only [execOp, he.1]
  have hrunE : ∃ v, (∀ w2, (execOp a.eval oe).run C.P w2 = .ok (.value v) w2) ∧ ∃ ρ' fps', Inv ds sl res drs defs ρ0 w0 F0 (ins (fun k => listed.getD k false) e) ρ' fps' (a.put (some d) v) w := by
    rw [hexec] at hst ⊢
    cases hr : (Instr.extract (a.eval y) ix).run C.P w with
    | ok v w' =>
      obtain ⟨rfl, hall⟩ := run_extract hr
      rw [Sem.run_bind, hr] at hst
      simp only [Result.andThen_ok, Sem.run_pure, Oper.uponIn, he.2.1] at hst
      exact ⟨v, fun w2 => by rw [Sem.run_bind, hall w2]; rfl, hst⟩
    | halt r w' =>
      exfalso
      rw [Sem.run_bind, hr] at hst
      cases r <;> simp [Result.andThen, Oper.uponIn] at hst
  obtain ⟨v, hrun, ρ1, fps1, I1⟩ := hrunE
  have hL1 : ins (fun k => listed.getD k false) e = fun k => (listed.setIfInBounds e true).getD k false := (L_set (by omega)).symm
  rw [hL1] at I1
  obtain ⟨hrep, hgood⟩ := I1.rep P (fun k hk => by
    by_cases h : e = k
    · subst h; simp [show e < listed.size by omega]
    · rw [getD_set_ne false h]; exact hle k hk (Ne.symm h)) (fun k hk => by rw [getD_set_ne false (by omega)]; exact hno k hk)
  -- the store
  have hno' : opsA[drs.length]? = some on := by
    have : (opsA.toList.drop drs.length)[0]? = some on := by rw [hdrop]; rfl
    simpa using this
  have hl' : opsA.toList.drop (drs.length + 1) = l := by
    have : (opsA.toList.drop drs.length).drop 1 = l := by rw [hdrop]; rfl
    rw [← this, List.drop_drop]
  simp only [tailS] at htl
  have htl : stepS C H Y opsA.toList on { slots := viewS (allM' drs.length) drs.length 0 ds (drS drs) sl, res := avAll res drs, defs := defs } (fun σ' => tailS C H Y opsA.toList l σ' K) (fun _ _ => False) := by
    obtain ⟨o1, o2, o3, o4, o5, o6⟩ := on
    obtain ⟨h1, h2, h3⟩ := hon
    simp only at h1 h2 h3
    subst h1
    subst h2
    subst h3
    exact htl
  have hstep := stepS_spec (ro := ro) (w0 := w0) (F0 := F0) (next := fun a' w' => a' = a.put (some d) v → wpAnyIn (FF C.P ro) 0 C.P .any opsA (Post ρ0 res w0 F0 K) fuel (listed.setIfInBounds drs.length true) a w') (Q := fun _ _ _ => False) hC hH (hY.later hgood)
    (fun hr => hnd hr on (by rw [← Array.getElem?_toList] at hno'; exact List.mem_of_getElem? hno')) htl hrep
    (fun σ' ρ' fps' a' w' hK' hr' hg' ha' => ?_) (fun v' σ' ρ' fps' w' hK' hv hr' hg' => ?_)
  · unfold wpOpIn
    rw [hno']
    simp only
    have hw1 : Region.wanted on (yielded opsA a.tmps) = true := by simp [Region.wanted, hon.2.2]
    have hw2 : Region.wanted on (yielded opsA (a.put (some d) v).tmps) = true := by simp [Region.wanted, hon.2.2]
    rw [if_pos hw1]
    have hstep := hstep.2
    rw [if_pos hw2] at hstep
    have hsem : on.semAt (FF C.P ro).round a.eval = on.semAt (FF C.P ro).round (a.put (some d) v).eval := by
      have e1 : execOp a.eval on = execOp (a.put (some d) v).eval on := by simp only [execOp, hon.1, opNe_eval hp, opNe_eval hx]
      show on.semAt ro _ = on.semAt ro _
      cases ro with
      | none => rw [Oper.semAt_none, Oper.semAt_none, e1]
      | some r => rw [Oper.semAt_some r _ on (by simp [hon.1]), Oper.semAt_some r _ on (by simp [hon.1]), e1]
    have habS : ∀ f, on.about C.P w a.eval = some f → (FF C.P ro).fn f := fun f hf => by
      unfold Oper.about at hf
      rw [hon.1] at hf
      simp at hf
    unfold Oper.wpIn at hstep ⊢
    refine ⟨habS, ?_⟩
    rw [hsem]
    have hstep := hstep.2
    generalize hres : (on.semAt (FF C.P ro).round (a.put (some d) v).eval).run C.P w = r at *
    have hsk : ∀ nx w2, r = .ok nx w2 → nx = .skip := by
      intro nx w2 hr
      subst hr
      have e1 : on.semAt (FF C.P ro).round (a.put (some d) v).eval = execOp (a.put (some d) v).eval on := by
        show on.semAt ro _ = _
        cases ro with
        | none => rw [Oper.semAt_none]
        | some r => rw [Oper.semAt_some r _ on (by simp [hon.1])]
      rw [e1] at hres
      simp only [execOp, hon.1, Sem.run_bind] at hres
      cases hs2 : (Instr.storeAt t ((a.put (some d) v).eval p) ((a.put (some d) v).eval x)).run C.P w with
      | ok u w3 => rw [hs2] at hres; simp only [Result.andThen_ok, Sem.run_pure, Result.ok.injEq] at hres; exact hres.1.symm
      | halt u w3 => rw [hs2] at hres; simp [Result.andThen] at hres
    cases r with
    | ok nx w2 =>
      have := hsk nx w2 rfl
      subst this
      simp only [Oper.uponIn, hon.2.1, Act.put] at hstep ⊢
      first | exact hstep trivial | exact hstep rfl
    | halt u w2 => cases u <;> simp only [Oper.uponIn] at hstep ⊢ <;> exact hstep.elim
  · -- the part is taken out behind the store
    subst ha'
    have hfz : drs.length < listed.size := by omega
    have hcn := cnt_set (n := opsA.size) hs hsl (hno _ (Nat.le_refl _))
    cases fuel with
    | zero =>
      have : cnt (listed.setIfInBounds drs.length true) opsA.size = 0 := by omega
      have h2 := cnt_set (listed := listed.setIfInBounds drs.length true) (n := opsA.size) (by simpa using hs) hesz (by rw [getD_set_ne false (by omega)]; exact hlf)
      omega
    | succ fuel =>
      have hlee : (listed.setIfInBounds drs.length true).getD e false = false := by rw [getD_set_ne false (by omega)]; exact hlf
      have hcn2 := cnt_set (listed := listed.setIfInBounds drs.length true) (n := opsA.size) (by simpa using hs) hesz hlee
      have hready : e ∈ Region.ready .any opsA (listed.setIfInBounds drs.length true) := by
        rw [mem_ready]
        refine ⟨?_, oe, hoe, fun ed e1 e2 => ?_⟩
        · have hsz : e < (listed.setIfInBounds drs.length true).size := by simp; omega
          have hq := (getq hsz).trans hlee
          first | exact hq | simpa using hq
        · have h1 := (P.at hoe).2.1 ed.on (((P.at hoe).2.2.1 ed.on).2 ⟨ed, e1, e2, .inl rfl⟩)
          rw [getD_set_ne false (by omega)]
          exact hle _ (by omega) (by omega)
      refine ⟨fun hnil => (by rw [hnil] at hready; simp at hready), fun i hi => ?_⟩
      obtain ⟨h1, o', h2, h3⟩ := mem_ready.1 hi
      have hisz : i < opsA.size := (Array.getElem?_eq_some_iff.1 h2).1
      have hie : i = e := by
        have hif : (listed.setIfInBounds drs.length true).getD i false = false := by
          have hsz : i < (listed.setIfInBounds drs.length true).size := by simp; omega
          rw [← getq hsz]
          first | exact h1 | simpa using h1
        rcases Nat.lt_trichotomy i drs.length with h | h | h
        · refine Classical.byContradiction fun hne => ?_
          rw [getD_set_ne false (by omega), hle i h hne] at hif
          simp at hif
        · subst h
          simp [hfz] at hif
        · exfalso
          obtain ⟨q1, q2, q3, q4⟩ := P.at h2
          obtain ⟨ed, e1, e2, e3⟩ := (q3 e).1 ((hbit i hisz h e).2 (by omega))
          have hed := h3 ed e1 e2
          have hdi := q2 ed.on ((q3 ed.on).2 ⟨ed, e1, e2, .inl rfl⟩)
          rcases e3 with rfl | e3
          · rw [hlee] at hed; simp at hed
          · obtain ⟨_, r2, _, _⟩ := P.at (i := ed.on) (o := opsA[ed.on]'(by omega)) (Array.getElem?_eq_getElem (by omega))
            have hlt := r2 e e3
            rcases Nat.lt_trichotomy ed.on drs.length with g | g | g
            · exact absurd ((hanc ed.on).2 ⟨g, by omega⟩) (fun hh => by
                have := (P.at hno').2.2.2 ed.on e hh e3
                rw [_hef] at this; simp at this)
            · rw [g] at e3
              rw [_hef] at e3; simp at e3
            · rw [getD_set_ne false (by omega), hno _ (by omega)] at hed; simp at hed
      subst hie
      have hoo : o' = oe := by rw [hoe] at h2; exact (Option.some.inj h2).symm
      subst hoo
      unfold wpOpIn
      rw [hoe]
      simp only
      rw [if_pos (by simp [Region.wanted, he.2.2])]
      refine oper_in (fun _ c => by rw [he.1]; simp) (fun f hf => by unfold Oper.about at hf; rw [he.1] at hf; simp at hf) ?_
      rw [hrun w']
      simp only [Oper.uponIn, he.2.1]
      refine tail_spec hC hH hY hnd P drs.length hbit l (drs.length + 1) _ fuel σ' ρ' fps' _ w' hl' (by omega) (by simpa using hs) (by omega) (fun k hk => ?_) (fun k hk => ?_) hK' hr' (hgood.trans hg')
      · by_cases g : i = k
        · subst g; simp [show i < listed.size by omega]
        · rw [getD_set_ne false g]
          by_cases g2 : drs.length = k
          · subst g2; simp [hfz]
          · rw [getD_set_ne false g2]; exact hle k (by omega) (Ne.symm g)
      · rw [getD_set_ne false (by omega), getD_set_ne false (by omega)]
        exact hno k (by omega)
  · exact hK'.elim

/-- What an operation gives that takes a value, or a part of a tuple. -/
def pureVal (o : Oper) (a : Act) : Option Value :=
  match o.op with
  | .move x => some (a.eval x)
  | .assign x => some (a.eval x)
  | .extract x ix => match a.eval x with
    | .tuple vs => vs[ix]?
    | _ => none
  | _ => none
def foldP : List (Nat × Oper) → Act → Option Act
  | [], a => some a
  | p :: l, a => match pureVal p.2 a with
    | some v => foldP l (a.put p.2.dst v)
    | none => none

theorem isPure_dst {o : Oper} (h : isPure o = true) : o.guard = none ∧ (∃ d, o.dst = some d) ∧ ∃ x, srcOf o = some x := by
  unfold isPure at h
  split at h
  · rename_i h1
    split at h
    · rename_i d h2
      exact ⟨h1, ⟨d, h2⟩, Option.isSome_iff_exists.1 h⟩
    · simp at h
  · simp at h

theorem pure_run {o : Oper} (h : isPure o = true) {P : Program} (a : Act) (w : World) : (∃ v, pureVal o a = some v ∧ (execOp a.eval o).run P w = .ok (.value v) w) ∨ (pureVal o a = none ∧ ∃ s, (execOp a.eval o).run P w = .halt (.stuck s) w) := by
  obtain ⟨_, _, x, hx⟩ := isPure_dst h
  unfold srcOf at hx
  unfold pureVal
  split at hx
  · rename_i y hop
    exact .inl ⟨a.eval y, by first | rw [hop] | rfl, by simp only [execOp, hop]; rfl⟩
  · rename_i y hop
    exact .inl ⟨a.eval y, by first | rw [hop] | rfl, by simp only [execOp, hop]; rfl⟩
  · rename_i y ix hop
    simp only [execOp, hop]
    cases hv : a.eval y <;> try exact .inr ⟨rfl, _, rfl⟩
    rename_i vs
    simp only [Instr.extract]
    cases hix : vs[ix]? with
    | some v => exact .inl ⟨v, rfl, rfl⟩
    | none => exact .inr ⟨rfl, _, rfl⟩
  · simp at hx

theorem pureVal_put {o : Oper} {d : Nat} {v : Value} {a : Act} {x : Operand} (hx : srcOf o = some x) (h : opNe x d = true) : pureVal o (a.put (some d) v) = pureVal o a := by
  unfold srcOf at hx
  unfold pureVal
  split at hx <;> simp only [Option.some.injEq, reduceCtorEq] at hx <;> rename_i hop <;> subst hx <;> simp only [hop, opNe_eval h]

theorem put_comm (a : Act) {d e : Nat} (h : d ≠ e) (u v : Value) : (a.put (some d) u).put (some e) v = (a.put (some e) v).put (some d) u := by
  have : (a.tmps.setIfInBounds d u).setIfInBounds e v = (a.tmps.setIfInBounds e v).setIfInBounds d u := by
    apply Array.ext_getElem?
    intro i
    by_cases e1 : e = i
    · subst e1
      rw [Array.getElem?_setIfInBounds_ne h]
      by_cases hi : e < a.tmps.size
      · rw [Array.getElem?_setIfInBounds_self_of_lt (by simpa using hi), Array.getElem?_setIfInBounds_self_of_lt hi]
      · rw [Array.getElem?_eq_none (by simp; omega), Array.getElem?_eq_none (by simp; omega)]
    · rw [Array.getElem?_setIfInBounds_ne e1]
      by_cases e2 : d = i
      · subst e2
        by_cases hi : d < a.tmps.size
        · rw [Array.getElem?_setIfInBounds_self_of_lt hi, Array.getElem?_setIfInBounds_self_of_lt (by simpa using hi)]
        · rw [Array.getElem?_eq_none (by simp; omega), Array.getElem?_eq_none (by simp; omega)]
      · rw [Array.getElem?_setIfInBounds_ne e2, Array.getElem?_setIfInBounds_ne e2, Array.getElem?_setIfInBounds_ne e1]
  simp only [Act.put, this]

theorem fold_swap {x y : Nat × Oper} {l : List (Nat × Oper)} {a : Act} (h : apart x.2 y.2 = true) : foldP (x :: y :: l) a = foldP (y :: x :: l) a := by
  unfold apart at h
  split at h
  · rename_i sx dx sy dy h1 h2 h3 h4
    simp only [Bool.and_eq_true, Bool.not_eq_true', beq_eq_false_iff_ne] at h
    obtain ⟨⟨g1, g2⟩, g3⟩ := h
    simp only [foldP, h2, h4]
    have e1 : ∀ v, pureVal y.2 (a.put (some dx) v) = pureVal y.2 a := fun v => pureVal_put h3 g1
    have e2 : ∀ v, pureVal x.2 (a.put (some dy) v) = pureVal x.2 a := fun v => pureVal_put h1 g2
    cases hx : pureVal x.2 a with
    | none =>
      cases hy : pureVal y.2 a with
      | none => rfl
      | some v => simp only [e2, hx]
    | some u =>
      simp only [e1]
      cases hy : pureVal y.2 a with
      | none => rfl
      | some v => simp only [e2, hx, put_comm a g3]
  · simp at h

theorem fold_front {y : Nat × Oper} {r2 : List (Nat × Oper)} : ∀ (r1 : List (Nat × Oper)) (a : Act), (∀ p ∈ r1, apart p.2 y.2 = true) → foldP (r1 ++ y :: r2) a = foldP (y :: (r1 ++ r2)) a
  | [], a, _ => rfl
  | p :: r1, a, h => by
    have : foldP (p :: (r1 ++ y :: r2)) a = foldP (p :: y :: (r1 ++ r2)) a := by
      simp only [foldP]
      cases pureVal p.2 a with
      | none => rfl
      | some v => exact fold_front r1 _ fun q hq => h q (by simp [hq])
    rw [List.cons_append, this, fold_swap (h p (by simp))]
    rfl

def PairR (ds : List (Option Nat × Nat)) (p q : Nat × Oper) : Prop := p.1 < q.1 ∧ ((ancAt ds q.1).testBit p.1 = true ∨ apart p.2 q.2 = true)

/-- What only takes values, in any order. -/
theorem pure_any {ro : Option Nat} (P : Planned C opsA.toList ds sl res drs) {Q : Exit → Act → World → Prop} {w : World} {a' : Act} (hQ : Q .normal a' w) : ∀ (fuel : Nat) (r : List (Nat × Oper)) (listed : Array Bool) (a : Act),
    listed.size = opsA.size → cnt listed opsA.size ≤ fuel → (∀ i, i < opsA.size → (listed.getD i false = false ↔ ∃ o, (i, o) ∈ r)) → (∀ p ∈ r, opsA[p.1]? = some p.2 ∧ isPure p.2 = true) → r.Pairwise (PairR ds) →
    (∀ i k, i < opsA.size → listed.getD i false = true → (ancAt ds i).testBit k = true → listed.getD k false = true) → foldP r a = some a' → wpAnyIn (FF C.P ro) 0 C.P .any opsA Q fuel listed a w := by
  intro fuel
  induction fuel with
  | zero =>
    intro r listed a hs hc hr hp hpw hdn hf
    have hr0 : r = [] := by
      cases r with
      | nil => rfl
      | cons p r =>
        have h1 := (hp p (by simp)).1
        have hlt := (Array.getElem?_eq_some_iff.1 h1).1
        have := cnt_set (n := opsA.size) hs hlt ((hr p.1 hlt).2 ⟨p.2, by simp⟩)
        omega
    subst hr0
    simp only [foldP, Option.some.injEq] at hf
    subst hf
    refine anyIn_done ?_ hQ 0
    cases hrd : Region.ready .any opsA listed with
    | nil => rfl
    | cons i l =>
      obtain ⟨h1, o, h2, _⟩ := mem_ready.1 (show i ∈ Region.ready .any opsA listed by rw [hrd]; simp)
      have hisz : i < opsA.size := (Array.getElem?_eq_some_iff.1 h2).1
      have hlt : i < listed.size := by omega
      have hf : listed.getD i false = false := (getq hlt).symm.trans (by simpa [Array.getD_eq_getD_getElem?] using h1)
      obtain ⟨o, ho⟩ := (hr i hisz).1 hf
      simp at ho
  | succ fuel ih =>
    intro r listed a hs hc hr hp hpw hdn hf
    refine ⟨fun hnil => ?_, fun i hi => ?_⟩
    · cases r with
      | nil => simp only [foldP, Option.some.injEq] at hf; subst hf; exact hQ
      | cons p r =>
        exfalso
        have h1 := (hp p (by simp)).1
        have hlt := (Array.getElem?_eq_some_iff.1 h1).1
        have hfl := (hr p.1 hlt).2 ⟨p.2, by simp⟩
        have : p.1 ∈ Region.ready .any opsA listed := by
          rw [mem_ready]
          refine ⟨?_, p.2, h1, fun e e1 e2 => ?_⟩
          · have hsz : p.1 < listed.size := by omega
            have := (getq hsz).trans hfl
            simpa [Array.getD_eq_getD_getElem?] using this
          · have hk := (P.at h1).2.1 e.on (((P.at h1).2.2.1 e.on).2 ⟨e, e1, e2, .inl rfl⟩)
            cases hl : listed.getD e.on false with
            | true => rfl
            | false =>
              obtain ⟨o, ho⟩ := (hr e.on (by omega)).1 hl
              rcases List.mem_cons.1 ho with rfl | ho
              · simp only at hk; omega
              · have := ((List.pairwise_cons.1 hpw).1 _ ho).1
                simp only at this; omega
        rw [hnil] at this
        simp at this
    · obtain ⟨h1, o, h2, h3⟩ := mem_ready.1 hi
      have hisz : i < opsA.size := (Array.getElem?_eq_some_iff.1 h2).1
      have hlt : i < listed.size := by omega
      have hfl : listed.getD i false = false := (getq hlt).symm.trans (by simpa [Array.getD_eq_getD_getElem?] using h1)
      obtain ⟨o', ho'⟩ := (hr i hisz).1 hfl
      have hoo : o' = o := by
        have := (hp _ ho').1
        simp only at this
        rw [h2] at this
        exact (Option.some.inj this).symm
      subst hoo
      have hpo := (hp _ ho').2
      simp only at hpo
      have hancL : ∀ k, (ancAt ds i).testBit k = true → listed.getD k false = true := fun k hk => by
        obtain ⟨e, e1, e2, e3⟩ := ((P.at h2).2.2.1 k).1 hk
        have he := h3 e e1 e2
        rcases e3 with rfl | e3
        · exact he
        · have hon := (P.at h2).2.1 e.on (((P.at h2).2.2.1 e.on).2 ⟨e, e1, e2, .inl rfl⟩)
          exact hdn e.on k (by omega) he e3
      obtain ⟨r1, r2, rfl⟩ := List.append_of_mem ho'
      have hpw' := List.pairwise_append.1 hpw
      have hap : ∀ p ∈ r1, apart p.2 o' = true := fun p hpm => by
        have hpr := hpw'.2.2 p hpm (i, o') (by simp)
        rcases hpr.2 with h | h
        · have hpl := hancL p.1 h
          have hp1 := (hp p (by simp [hpm])).1
          have hplt := (Array.getElem?_eq_some_iff.1 hp1).1
          have := (hr p.1 hplt).2 ⟨p.2, by simp [hpm]⟩
          rw [hpl] at this; simp at this
        · exact h
      rw [fold_front r1 a hap] at hf
      simp only [foldP] at hf
      obtain ⟨hg, ⟨d, hd⟩, _⟩ := isPure_dst hpo
      unfold wpOpIn
      rw [h2]
      simp only
      rw [if_pos (by simp [Region.wanted, hg])]
      rcases pure_run (P := C.P) hpo a w with ⟨v, hv, hrun⟩ | ⟨hv, _⟩
      case inr => rw [hv] at hf; simp at hf
      rw [hv] at hf
      simp only at hf
      have hnc : ∀ c, o'.op ≠ .call c := fun c hc => by obtain ⟨_, _, x, hx⟩ := isPure_dst hpo; simp [srcOf, hc] at hx
      have hnd' : notDefer o' := fun c hc => by obtain ⟨_, _, x, hx⟩ := isPure_dst hpo; simp [srcOf, hc] at hx
      refine oper_in (fun _ => hnd') (fun f hf => by
        unfold Oper.about at hf
        split at hf
        · rename_i c hc; exact absurd hc (hnc c)
        · simp at hf) ?_
      rw [hrun]
      simp only [Oper.uponIn]
      have hcn := cnt_set (n := opsA.size) hs hisz hfl
      have hdisj : ∀ p ∈ r1 ++ r2, p.1 ≠ i := fun p hpm => by
        rcases List.mem_append.1 hpm with h | h
        · have := (hpw'.2.2 p h (i, o') (by simp)).1
          simp only at this; omega
        · have := ((List.pairwise_cons.1 hpw'.2.1).1 p h).1
          simp only at this; omega
      refine ih (r1 ++ r2) (listed.setIfInBounds i true) _ (by simpa using hs) (by omega) (fun k hk => ?_) (fun p hpm => hp p (by
        rcases List.mem_append.1 hpm with h | h
        · simp [h]
        · simp [h])) ?_ (fun k j hk hkl hj => ?_) hf
      · by_cases e : i = k
        · subst e
          constructor
          · intro h; simp [hlt] at h
          · rintro ⟨o2, ho2⟩
            exact absurd rfl (hdisj _ ho2)
        · rw [getD_set_ne false e, hr k hk]
          constructor
          · rintro ⟨o2, ho2⟩
            refine ⟨o2, ?_⟩
            rcases List.mem_append.1 ho2 with h | h
            · simp [h]
            · rcases List.mem_cons.1 h with h | h
              · simp only [Prod.mk.injEq] at h; exact absurd h.1.symm e
              · simp [h]
          · rintro ⟨o2, ho2⟩
            refine ⟨o2, ?_⟩
            rcases List.mem_append.1 ho2 with h | h
            · simp [h]
            · simp [h]
      · rw [List.pairwise_append]
        exact ⟨hpw'.1, (List.pairwise_cons.1 hpw'.2.1).2, fun x hx y hy => hpw'.2.2 x hx y (by simp [hy])⟩
      · by_cases e : i = j
        · subst e; simp [hlt]
        · rw [getD_set_ne false e]
          by_cases e2 : i = k
          · subst e2; exact hancL j hj
          · rw [getD_set_ne false e2] at hkl
            exact hdn k j hk hkl hj

def idxL : Nat → List Oper → List (Nat × Oper)
  | _, [] => []
  | i, o :: l => (i, o) :: idxL (i + 1) l
theorem idxL_mem : ∀ {l : List Oper} {i : Nat} {p : Nat × Oper}, p ∈ idxL i l ↔ i ≤ p.1 ∧ l[p.1 - i]? = some p.2
  | [], i, p => by simp [idxL]
  | o :: l, i, p => by
    simp only [idxL, List.mem_cons, idxL_mem (l := l) (i := i + 1)]
    constructor
    · rintro (rfl | ⟨h1, h2⟩)
      · simp
      · refine ⟨by omega, ?_⟩
        rw [show p.1 - i = (p.1 - (i + 1)) + 1 by omega]
        simpa using h2
    · rintro ⟨h1, h2⟩
      by_cases e : p.1 = i
      · rw [e, Nat.sub_self] at h2
        simp only [List.getElem?_cons_zero, Option.some.injEq] at h2
        exact .inl (by rw [← e, h2])
      · refine .inr ⟨by omega, ?_⟩
        rw [show p.1 - i = (p.1 - (i + 1)) + 1 by omega] at h2
        simpa using h2

theorem pairsOK_spec {ds : List (Option Nat × Nat)} {j : Nat} {x : Oper} : ∀ {l : List Oper} {i : Nat}, j < i → pairsOK ds j x i l = true → ∀ q ∈ idxL i l, PairR ds (j, x) q
  | [], _, _, _, q, hq => by simp [idxL] at hq
  | y :: l, i, hj, h, q, hq => by
    simp only [pairsOK, Bool.and_eq_true, Bool.or_eq_true] at h
    rcases List.mem_cons.1 hq with rfl | hq
    · exact ⟨hj, h.1⟩
    · exact pairsOK_spec (by omega) h.2 q hq

theorem pureOK_spec {ds : List (Option Nat × Nat)} {n : Nat} : ∀ {l : List Oper} {i : Nat}, n < i → pureOK ds n i l = true → (idxL i l).Pairwise (PairR ds) ∧ (∀ p ∈ idxL i l, isPure p.2 = true ∧ ∀ k, k ≤ n → (ancAt ds p.1).testBit k = true)
  | [], _, _, _ => ⟨List.Pairwise.nil, by simp [idxL]⟩
  | x :: l, i, hi, h => by
    simp only [pureOK, Bool.and_eq_true, beq_iff_eq] at h
    obtain ⟨⟨⟨h1, h2⟩, h3⟩, h4⟩ := h
    obtain ⟨i1, i2⟩ := pureOK_spec (by omega) h4
    refine ⟨List.pairwise_cons.2 ⟨fun q hq => pairsOK_spec (by omega) h3 q hq, i1⟩, fun p hp => ?_⟩
    rcases List.mem_cons.1 hp with rfl | hp
    · refine ⟨h1, fun k hk => ?_⟩
      have := congrArg (fun m => Nat.testBit m k) h2
      simp only [Nat.testBit_or, allM', Nat.testBit_two_pow_sub_one] at this
      rw [show decide (k < n + 1) = true by simp; omega, Bool.or_true] at this
      exact this.symm
    · exact i2 p hp

/-- The same in the order of the text. -/
theorem foldP_spec {H : Handler} {Y : YHandler} {K : Out → St → Prop} {res0 : List Res} (hC : C.Sound) (hH : H.OK C.P) (hY : YOK C.P Y ρ0 res0) : ∀ (l : List Oper) (i : Nat) (σ : St) (ρ : Env) (fps : Nat → Nat → Prop) (a : Act), (∀ p ∈ idxL i l, isPure p.2 = true) →
    tailS C H Y opsA.toList l σ K → Rep ρ fps σ w0 F0 a w → Good ρ0 res0 ρ σ.res → ∃ a', foldP (idxL i l) a = some a' ∧ Post ρ0 res0 w0 F0 K .normal a' w
  | [], i, σ, ρ, fps, a, _, h, hr, hg => by
    simp only [tailS, cleanK_eq] at h
    exact ⟨a, rfl, .norm, _, ρ, fps, trivial, h, ⟨hr.1.clean, hr.2.1, hr.2.2.1, hr.2.2.2⟩, hg⟩
  | o :: l, i, σ, ρ, fps, a, hp, h, hr, hg => by
    have hpo : isPure o = true := hp (i, o) (by simp [idxL])
    obtain ⟨hgu, ⟨d, hd⟩, x, hx⟩ := isPure_dst hpo
    have key := stepS_spec (ro := none) (w0 := w0) (F0 := F0) (next := fun a1 w1 => w1 = w → ∃ a', foldP (idxL (i + 1) l) a1 = some a' ∧ Post ρ0 res0 w0 F0 K .normal a' w) (Q := fun _ _ _ => True) hC hH (hY.later hg)
      (fun hr => absurd rfl hr) h hr (fun σ' ρ' fps' a1 w1 hK' hr' hg' hw => by
        rw [hw] at hr'
        exact foldP_spec hC hH hY l (i + 1) σ' ρ' fps' a1 (fun p hpm => hp p (by simp [idxL, hpm])) hK' hr' (hg.trans hg')) (fun _ _ _ _ _ _ _ _ _ => trivial)
    have key := key.2
    rw [if_pos (by simp [Region.wanted, hgu])] at key
    have key := key.2
    have hsem : o.semAt (FF C.P none).round a.eval = execOp a.eval o := Oper.semAt_none _ _
    rw [hsem] at key
    rcases pure_run (P := C.P) hpo a w with ⟨v, hv, hrun⟩ | ⟨_, s, hrun⟩
    · rw [hrun] at key
      simp only [Oper.uponIn] at key
      obtain ⟨a', h1, h2⟩ := key trivial
      exact ⟨a', by simp only [idxL, foldP, hv]; exact h1, h2⟩
    · rw [hrun] at key
      exact key.elim

/-- An operation, then what only takes values. -/
theorem pure_spec {H : Handler} {Y : YHandler} {K : Out → St → Prop} {ro : Option Nat} {res0 : List Res} (hC : C.Sound) (hH : H.OK C.P) (hY : YOK C.P Y ρ0 res0) (hnd : ro ≠ none → ∀ o ∈ opsA.toList, notDefer o)
    (P : Planned C opsA.toList ds sl res drs) {n : Nat} {o : Oper} {l : List Oper} (hdrop : opsA.toList.drop n = o :: l) (hpure : pureOK ds n (n + 1) l = true)
    {listed : Array Bool} {fuel : Nat} {σ : St} (hs : listed.size = opsA.size) (hc : cnt listed opsA.size ≤ fuel) (hall : ∀ k, k < n → listed.getD k false = true) (hno : ∀ k, n ≤ k → listed.getD k false = false)
    (h : tailS C H Y opsA.toList (o :: l) σ K) (hr : Rep ρ fps σ w0 F0 a w) (hg : Good ρ0 res0 ρ σ.res) : wpAnyIn (FF C.P ro) 0 C.P .any opsA (Post ρ0 res0 w0 F0 K) fuel listed a w := by
  have hon : opsA[n]? = some o := by
    have : (opsA.toList.drop n)[0]? = some o := by rw [hdrop]; rfl
    simpa using this
  have hnsz : n < opsA.size := (Array.getElem?_eq_some_iff.1 hon).1
  have hl' : opsA.toList.drop (n + 1) = l := by
    have : (opsA.toList.drop n).drop 1 = l := by rw [hdrop]; rfl
    rw [← this, List.drop_drop]
  have hmem : ∀ p : Nat × Oper, p ∈ idxL (n + 1) l ↔ n < p.1 ∧ opsA[p.1]? = some p.2 := fun p => by
    rw [idxL_mem, ← hl']
    simp only [List.getElem?_drop]
    constructor
    · rintro ⟨h1, h2⟩
      rw [show n + 1 + (p.1 - (n + 1)) = p.1 by omega] at h2
      exact ⟨by omega, by simpa using h2⟩
    · rintro ⟨h1, h2⟩
      rw [show n + 1 + (p.1 - (n + 1)) = p.1 by omega]
      exact ⟨by omega, by simpa using h2⟩
  obtain ⟨hpw, hpp⟩ := pureOK_spec (by omega) hpure
  have hnl : listed.getD n false = false := hno _ (Nat.le_refl _)
  have hnlt : n < listed.size := by omega
  cases fuel with
  | zero =>
    have := cnt_set (n := opsA.size) hs hnsz hnl
    omega
  | succ fuel =>
    obtain ⟨p1, p2, p3, p4⟩ := P.at hon
    have hnr : n ∈ Region.ready .any opsA listed := by
      rw [mem_ready]
      refine ⟨?_, o, hon, fun e e1 e2 => hall _ (p2 e.on ((p3 e.on).2 ⟨e, e1, e2, .inl rfl⟩))⟩
      simpa [Array.getD_eq_getD_getElem?, hnlt] using hnl
    refine ⟨fun hnil => (by rw [hnil] at hnr; simp at hnr), fun i hi => ?_⟩
    obtain ⟨h1, o', h2, h3⟩ := mem_ready.1 hi
    have hisz : i < opsA.size := (Array.getElem?_eq_some_iff.1 h2).1
    have hilt : i < listed.size := by omega
    have hfl : listed.getD i false = false := (getq hilt).symm.trans (by simpa [Array.getD_eq_getD_getElem?] using h1)
    have hin : i = n := by
      rcases Nat.lt_trichotomy i n with h | h | h
      · rw [hall i h] at hfl; simp at hfl
      · exact h
      · exfalso
        have := (hpp (i, o') ((hmem _).2 ⟨h, h2⟩)).2 n (Nat.le_refl _)
        simp only at this
        obtain ⟨q1, q2, q3, q4⟩ := P.at h2
        obtain ⟨e, e1, e2, e3⟩ := (q3 n).1 this
        have he := h3 e e1 e2
        rcases e3 with rfl | e3
        · rw [hnl] at he; simp at he
        · have hi' := q2 e.on ((q3 e.on).2 ⟨e, e1, e2, .inl rfl⟩)
          obtain ⟨_, r2, _, _⟩ := P.at (i := e.on) (o := opsA[e.on]'(by omega)) (Array.getElem?_eq_getElem (by omega))
          have := r2 n e3
          rw [hno _ (by omega)] at he; simp at he
    subst hin
    have hoo : o' = o := by rw [hon] at h2; exact (Option.some.inj h2).symm
    subst hoo
    have hcn := cnt_set (n := opsA.size) hs hnsz hnl
    simp only [tailS] at h
    have key := stepS_spec (ro := ro) (next := wpAnyIn (FF C.P ro) 0 C.P .any opsA (Post ρ0 res0 w0 F0 K) fuel (listed.setIfInBounds i true)) (Q := Post ρ0 res0 w0 F0 K) hC hH (hY.later hg)
      (fun hr => hnd hr o' (by rw [← Array.getElem?_toList] at hon; exact List.mem_of_getElem? hon)) h hr
      (fun σ' ρ'' fps'' a'' w'' hK' hr' hg' => by
        obtain ⟨af, f1, f2⟩ := foldP_spec (opsA := opsA) hC hH hY l (i + 1) σ' ρ'' fps'' a'' (fun p hpm => (hpp p hpm).1) hK' hr' (hg.trans hg')
        refine pure_any P f2 fuel (idxL (i + 1) l) (listed.setIfInBounds i true) a'' (by simpa using hs) (by omega) (fun k hk => ?_) (fun p hpm => ⟨((hmem p).1 hpm).2, (hpp p hpm).1⟩) hpw (fun k j hk hkl hj => ?_) f1
        · by_cases e : i = k
          · subst e
            constructor
            · intro h; simp [hnlt] at h
            · rintro ⟨o2, ho2⟩
              have := ((hmem _).1 ho2).1
              simp only at this; omega
          · rw [getD_set_ne false e]
            constructor
            · intro hf
              have hik : i < k := by
                rcases Nat.lt_trichotomy i k with h | h | h
                · exact h
                · exact absurd h e
                · rw [hall k h] at hf; simp at hf
              exact ⟨opsA[k]'hk, (hmem _).2 ⟨hik, Array.getElem?_eq_getElem hk⟩⟩
            · rintro ⟨o2, ho2⟩
              have := ((hmem _).1 ho2).1
              exact hno k (by simp only at this; omega)
        · have hki : k ≤ i := by
            rcases Nat.lt_or_ge i k with h | h
            · rw [getD_set_ne false (by omega), hno k (by omega)] at hkl; simp at hkl
            · exact h
          have hjk := (P.at (i := k) (o := opsA[k]'hk) (Array.getElem?_eq_getElem hk)).2.1 j hj
          rw [getD_set_ne false (by omega)]
          exact hall j (by omega))
      (fun v σ' ρ'' fps'' w'' hK' hv hr' hg' => ⟨.pan v, σ', ρ'', fps'', ⟨rfl, hv⟩, hK', hr', hg.trans hg'⟩)
    unfold wpOpIn
    simp only [hon]
    split
    · rename_i hw; rw [if_pos hw] at key; exact key.2
    · rename_i hw; rw [if_neg hw] at key; exact key

/-- A plan, and what is done by it. -/
theorem drawEnd_spec {H : Handler} {Y : YHandler} {σ : St} {K : Out → St → Prop} {ro : Option Nat} {st : Bool} {hid : List (Nat × Nat)} {rest : List Oper} (hC : C.Sound) (hH : H.OK C.P) (hY : YOK C.P Y ρ σ.res) (hnd : ro ≠ none → ∀ o ∈ opsA.toList, notDefer o)
    (hok : okGo ds 0 opsA.toList ds = true ∧ dist ds = true) (hpg : planGo C opsA.toList ds (clean σ.slots) σ.res st hid 0 opsA.toList [] = (drs, rest)) (hhid : ∀ s d u, drs[s]? = some d → d.up = some u → (s, u.1) ∈ hid)
    (h : drawEnd C H Y opsA.toList ds σ K drs rest) (hr : Rep ρ fps σ w0 F0 a w) :
    wpAnyIn (FF C.P ro) 0 C.P .any opsA (Post ρ σ.res w0 F0 K) opsA.size (Array.replicate opsA.size false) a { w with drawn := w.drawn + 1 } := by
    obtain ⟨g1, g2, g3⟩ := planGo_spec _ 0 [] drs rest hpg rfl rfl (by simp)
    have P : Planned C opsA.toList ds (clean σ.slots) σ.res drs := ⟨hok.1, hok.2, clean_plain σ.slots, st, hid, g3, hhid⟩
    unfold drawEnd at h
    obtain ⟨hq, hK⟩ := reqAll_spec h
    obtain ⟨r1, r2, r3, r4⟩ := hr
    have hsz : drs.length ≤ opsA.size := by simpa using g2
    have hget : ∀ k, (Array.replicate opsA.size false).getD k false = false := fun k => by
      simp only [Array.getD_eq_getD_getElem?, Array.getElem?_replicate]; split <;> rfl
    have hL0 : ∀ id, KL σ.res drs (fun k => (Array.replicate opsA.size false).getD k false) id → known σ.res id := by
      rintro id (h | ⟨_, j, y, _, h⟩)
      · exact h
      · simp only [hget] at h; simp at h
    have I0 : Inv ds (clean σ.slots) σ.res drs σ.defs ρ w0 F0 (fun k => (Array.replicate opsA.size false).getD k false) ρ fps a { w with drawn := w.drawn + 1 } := by
      have hd : HRep ρ fps σ.res (known σ.res) w0 F0 { w with drawn := w.drawn + 1 } := ⟨r2.sub, r2.old, r2.os, r2.tape, r2.output, fun i hi => Res.holds_keep _ (r2.holds i hi) fun _ _ => rfl, r2.lt, r2.disj, r2.inF, r2.same⟩
      refine ⟨r1.clean.1, fun t j m d _ _ hl => by simp only [hget] at hl; simp at hl, fun t _ => ?_, ?_, fun i k hi => by simp only [hget] at hi; simp at hi, ⟨r3, r4⟩, Env.agree.refl _ _, fun j d _ hl => by simp only [hget] at hl; simp at hl⟩
      · exact (SlotOK.plain (clean_plain σ.slots t) (r1.clean.2 t)).env (fun i hi => .inl hi) (Env.agree.refl _ _)
      · refine (hd.monoK fun i hi => .inl hi).forget fun id hk => ?_
        have := hL0 id (AV_known P (fun i k hi => by simp only [hget] at hi; simp at hi) hk)
        have hlt := rget_lt hk
        rw [AV_length] at hlt
        rw [AV_get hlt]
        cases hl : lastUp (fun k => (Array.replicate opsA.size false).getD k false) id 0 drs with
        | some r =>
          obtain ⟨_, _, _, _, hx⟩ := lastUp_some _ _ hl
          simp only [hget] at hx; simp at hx
        | none =>
          simp only [Option.getD_none]
          rw [rget_view, if_pos (rget_lt this)]
    have hcnt : cnt (Array.replicate opsA.size false) opsA.size ≤ opsA.size := by
      have := List.length_filter_le (fun k => !(Array.replicate opsA.size false).getD k false) (List.range opsA.size)
      simpa [cnt] using this
    cases rest with
    | nil =>
      simp only [frcK_eq, cleanK_eq] at hK
      have hlen : drs.length = opsA.size := by
        have := congrArg List.length g1
        simp at this
        omega
      refine any_front Post.noOut hnd hC P hq hsz (fun i h1 h2 => by omega) (fun _ _ _ _ _ _ _ _ h => by omega) ?_ opsA.size _ ρ fps a _ (by simp) hcnt (fun k _ => hget k) I0
      intro fuel listed ρ' fps' a' w' hs hc hall hno I
      obtain ⟨hrep, hgood⟩ := I.rep P hall hno
      refine anyIn_done ?_ ⟨.norm, _, ρ', fps', trivial, hK, ⟨hrep.1.clean, hrep.2.1, hrep.2.2.1, hrep.2.2.2⟩, hgood⟩ fuel
      cases hrd : Region.ready .any opsA listed with
      | nil => rfl
      | cons i l =>
        obtain ⟨h1, o, h2, _⟩ := mem_ready.1 (show i ∈ Region.ready .any opsA listed by rw [hrd]; simp)
        have hisz : i < opsA.size := (Array.getElem?_eq_some_iff.1 h2).1
        have := hall i (by omega)
        have hlt : i < listed.size := by omega
        simp only [Array.getD_eq_getD_getElem?, Array.getElem?_eq_getElem hlt, Option.getD_some] at this h1
        rw [this] at h1; simp at h1
    | cons o rest =>
      simp only [frcK_eq] at hK
      split at hK
      · rename_i htl0
        have hlen : opsA.size = drs.length + (rest.length + 1) := by
          have := congrArg List.length g1
          simp at this
          omega
        rw [Bool.or_eq_true, Bool.or_eq_true] at htl0
        rcases htl0 with (htl | htl) | htl
        · have htl := tailOK_spec htl
          have hbit : ∀ i, i < opsA.size → drs.length ≤ i → ∀ k, (ancAt ds i).testBit k = true ↔ k < i := fun i h1 h2 k => by
            have := htl (i - drs.length) (by simp; omega)
            rw [show drs.length + (i - drs.length) = i by omega] at this
            rw [this]; simp [allM', Nat.testBit_two_pow_sub_one]
          refine any_front Post.noOut hnd hC P hq hsz (fun i h1 h2 k hk => (hbit i h1 (by omega) k).2 (by omega)) (fun _ listed _ _ _ _ _ _ hsl _ hex hanc _ => ?_) ?_ opsA.size _ ρ fps a _ (by simp) hcnt (fun k _ => hget k) I0
          · obtain ⟨k, hk, hkf⟩ := hex
            have := hanc k ((hbit _ hsl (Nat.le_refl _) k).2 hk)
            rw [hkf] at this; simp at this
          intro fuel listed ρ' fps' a' w' hs hc hall hno I
          obtain ⟨hrep, hgood⟩ := I.rep P hall hno
          exact tail_spec hC hH hY hnd P drs.length (fun i h1 h2 => hbit i h1 (by omega)) (o :: rest) drs.length listed fuel _ ρ' fps' a' w' g1.symm (Nat.le_refl _) hs hc hall hno hK hrep hgood
        · obtain ⟨e, oe, y, ix, d, t, p, x, l1, l2, l3, l4, l5, l6, l7, l8, l9, l10⟩ := tailLate_spec htl
          have htl := tailOK_spec l10
          have hbit : ∀ i, i < opsA.size → drs.length < i → ∀ k, (ancAt ds i).testBit k = true ↔ k < i := fun i h1 h2 k => by
            have := htl (i - (drs.length + 1)) (by omega)
            rw [show drs.length + 1 + (i - (drs.length + 1)) = i by omega] at this
            rw [this]; simp [allM', Nat.testBit_two_pow_sub_one]
          refine any_front Post.noOut hnd hC P hq hsz (fun i h1 h2 k hk => (hbit i h1 h2 k).2 (by omega)) (fun fuel listed ρ' fps' a' w' hs hc hsl hno hex hanc I => ?_) ?_ opsA.size _ ρ fps a _ (by simp) hcnt (fun k _ => hget k) I0
          · exact late_spec hC hH hY hnd P hq (by simpa using l1) l2 l3 g1.symm l4 l5 l6 l7 l8 l9 hbit hK fuel listed ρ' fps' a' w' hs hc hsl hno hex hanc I
          intro fuel listed ρ' fps' a' w' hs hc hall hno I
          obtain ⟨hrep, hgood⟩ := I.rep P hall hno
          exact tail_spec hC hH hY hnd P drs.length hbit (o :: rest) drs.length listed fuel _ ρ' fps' a' w' g1.symm (Nat.le_refl _) hs hc hall hno hK hrep hgood
        · simp only [tailPure, Bool.and_eq_true, beq_iff_eq] at htl
          obtain ⟨t1, t2⟩ := htl
          have t3 := (pureOK_spec (by omega) t2).2
          have hmem : ∀ i, i < opsA.size → drs.length < i → ∀ k, k ≤ drs.length → (ancAt ds i).testBit k = true := fun i h1 h2 k hk => by
            have hl' : opsA.toList.drop (drs.length + 1) = rest := by
              have : (opsA.toList.drop drs.length).drop 1 = rest := by rw [← g1]; rfl
              rw [← this, List.drop_drop]
            refine (t3 (i, opsA[i]'h1) ?_).2 k hk
            rw [idxL_mem, ← hl']
            simp only [List.getElem?_drop]
            refine ⟨by omega, ?_⟩
            rw [show drs.length + 1 + (i - (drs.length + 1)) = i by omega]
            simp [h1]
          refine any_front Post.noOut hnd hC P hq hsz (fun i h1 h2 k hk => hmem i h1 h2 k (by omega)) (fun _ listed _ _ _ _ _ _ hsl _ hex hanc _ => ?_) ?_ opsA.size _ ρ fps a _ (by simp) hcnt (fun k _ => hget k) I0
          · obtain ⟨k, hk, hkf⟩ := hex
            have := hanc k (by rw [t1]; simp [allM', Nat.testBit_two_pow_sub_one, hk])
            rw [hkf] at this; simp at this
          intro fuel listed ρ' fps' a' w' hs hc hall hno I
          obtain ⟨hrep, hgood⟩ := I.rep P hall hno
          exact pure_spec hC hH hY hnd P g1.symm t2 hs hc hall hno hK hrep hgood
      · exact hK.elim

theorem planOne_up {ops : List Oper} {hid : List (Nat × Nat)} {done : List Dr} {i : Nat} {o : Oper} {d : Dr} (h : planOne C ops ds sl res false hid done i o = some d) : d.up = none := by
  unfold planOne at h
  split at h
  case isFalse => simp at h
  unfold planOp2 at h
  split at h
  · rename_i hd
    simp only [Option.some.injEq] at h
    subst h
    exact planOp_up hd
  · simp at h
theorem upsOf_mem {u : Nat × Res} : ∀ (l : List Dr) (j s : Nat) (d : Dr), l[s]? = some d → d.up = some u → (j + s, u.1) ∈ upsOf j l
  | [], j, s, d, h, _ => by simp at h
  | x :: l, j, 0, d, h, hu => by
    simp only [List.getElem?_cons_zero, Option.some.injEq] at h
    subst h
    simp [upsOf, hu]
  | x :: l, j, s + 1, d, h, hu => by
    have := upsOf_mem l (j + 1) s d (by simpa using h) hu
    rw [show j + 1 + s = j + (s + 1) by omega] at this
    simp only [upsOf]
    split
    · exact this
    · exact List.mem_cons_of_mem _ this
theorem upsIn_eq : ∀ {l m : List (Nat × Nat)}, upsIn l m = true → l = m
  | [], [], _ => rfl
  | [], _ :: _, h => by simp [upsIn] at h
  | _ :: _, [], h => by simp [upsIn] at h
  | (a, b) :: l, (c, d) :: m, h => by
    simp only [upsIn, Bool.and_eq_true, beq_iff_eq] at h
    obtain ⟨⟨rfl, rfl⟩, h3⟩ := h
    rw [upsIn_eq h3]

theorem drawS_spec {H : Handler} {Y : YHandler} {σ : St} {K : Out → St → Prop} {id : Nat} {ro : Option Nat} (hC : C.Sound) (hH : H.OK C.P) (hY : YOK C.P Y ρ σ.res) (hnd : ro ≠ none → ∀ o ∈ opsA.toList, notDefer o) {alt : Prop} (h : drawS C H Y opsA.toList σ K alt) (hr : Rep ρ fps σ w0 F0 a w) (halt : alt → wpAnyIn (FF C.P ro) 0 C.P .any opsA (Post ρ σ.res w0 F0 K) opsA.size (Array.replicate opsA.size false) a { w with drawn := w.drawn + 1 }) :
    (Code.region id opsA true).wpIn (FF C.P ro) 0 C.P (Post ρ σ.res w0 F0 K) a w := by
  refine wpIn_region_any hC.mixed ?_
  unfold drawS drawGo at h
  generalize dsGo opsA.toList [] = ds at h
  split at h
  · rename_i hok
    simp only [Bool.and_eq_true] at hok
    rw [cleanK_eq, planK_eq] at h
    generalize hpg : planGo C opsA.toList ds (clean σ.slots) σ.res false [] 0 opsA.toList [] = pr at h
    obtain ⟨drs, rest⟩ := pr
    simp only at h
    split at h
    · refine drawEnd_spec hC hH hY hnd hok hpg (fun s d u hd hu => ?_) h hr
      obtain ⟨_, _, g3⟩ := planGo_spec _ 0 [] drs rest hpg rfl rfl (by simp)
      obtain ⟨o, _, hp⟩ := g3 s d hd
      rw [planOne_up hp] at hu; simp at hu
    · rw [planK_eq, planK_eq] at h
      generalize hpg2 : planGo C opsA.toList ds (clean σ.slots) σ.res true (upsOf 0 (planGo C opsA.toList ds (clean σ.slots) σ.res true [] 0 opsA.toList []).1) 0 opsA.toList [] = pr at h
      obtain ⟨drs2, rest2⟩ := pr
      simp only at h
      split at h
      · rename_i hui
        rw [Bool.and_eq_true] at hui
        refine drawEnd_spec hC hH hY hnd hok hpg2 (fun s d u hd hu => ?_) h hr
        rw [← upsIn_eq hui.1]
        have := upsOf_mem drs2 0 s d hd hu
        rwa [Nat.zero_add] at this
      · exact halt h
  · exact h.elim

end
end Go.Sx
/- The executor: some places only read for a while. No condition. -/
set_option linter.unusedVariables false
set_option linter.unusedSimpArgs false
namespace Go.Sx
open Go.RowKit (Below)

/-- The same, from a later beginning. -/
theorem Res.rebase {K : Nat → Prop} {ρ : Env} {i : Nat} {w0 w : World} {F0 F1 : Nat → Prop} (hs : w0.heap.size ≤ w.heap.size) (hf : ∀ b, b < w0.heap.size → ¬ F0 b → w.heap[b]? = w0.heap[b]? ∧ ¬ F1 b) :
    ∀ (r : Res) (fp : Nat → Prop), r.holds K ρ i fp w0 F0 w → r.holds K ρ i fp w F1 w
  | .yet, _, h | .gone, _, h | .blk _ _, _, h | .obs _ _ _, _, h | .gen _, _, h | .store _ _ _, _, h | .lop _ _ _, _, h | .dfr, _, h | .mp _ _ _, _, h => h
  | .arr own esz l, fp, h => by
    obtain ⟨h1, h2, h3, h4, h5, h6, h7⟩ := h
    refine ⟨h1, h2, h3, h4, h5, h6, ?_⟩
    rcases h7 with ⟨g1, g2, g3⟩ | h7
    · refine .inl ⟨g1, fun hl => ⟨(hf _ (g2 hl).2 (g2 hl).1).2, Nat.lt_of_lt_of_le (g2 hl).2 hs⟩, fun j hj k hk => ?_⟩
      rw [← g3 j hj k hk]
      have := g2 (by omega)
      exact World.cell?_of_block (w := w0) (hf _ this.2 this.1).1
    · exact .inr h7
  | .ro r, fp, h => by
    obtain ⟨fp', h1, h2⟩ := h
    exact ⟨fp', Res.rebase hs hf r fp' (Res.holds_keep _ h1 fun b hb => (hf b (h2 b hb).1 (h2 b hb).2).1), fun b hb => ⟨Nat.lt_of_lt_of_le (h2 b hb).1 hs, (hf b (h2 b hb).1 (h2 b hb).2).2⟩⟩

/-- Is a place free of what is only read? -/
def ownR : Res → Bool
  | .arr own _ _ => own.isSome
  | .ro _ => false
  | _ => true

theorem ownR_holds {K : Nat → Prop} {ρ : Env} {i : Nat} {fp : Nat → Prop} {w0 w1 w : World} {F0 F1 : Nat → Prop} {r : Res} (h : ownR r = true) (hr : r.holds K ρ i fp w1 F1 w) : r.holds K ρ i fp w0 F0 w := by
  cases r with
  | ro r => simp [ownR] at h
  | arr own e l =>
    obtain ⟨h1, h2, h3, h4, h5, h6, h7⟩ := hr
    refine ⟨h1, h2, h3, h4, h5, h6, ?_⟩
    rcases h7 with ⟨g1, _⟩ | h7
    · subst g1; simp [ownR] at h
    · exact .inr h7
  | _ => exact hr

theorem HRep.below {ρ : Env} {fps : Nat → Nat → Prop} {res : List Res} {K : Nat → Prop} {w0 w w' : World} {F0 : Nat → Prop} (h : HRep ρ fps res K w0 F0 w) (hb : Below w.heap.size w w') : HRep ρ fps res K w0 F0 w' :=
  ⟨h.sub, Nat.le_trans h.old hb.size, hb.os.trans h.os, hb.tape.trans h.tape, hb.output.trans h.output, fun i hi => Res.holds_keep _ (h.holds i hi) fun b hbb => hb.block b (h.lt i b hi hbb),
    fun i b hi hbb => Nat.lt_of_lt_of_le (h.lt i b hi hbb) hb.size, h.disj, h.inF, fun b h1 h2 => (hb.block b (Nat.lt_of_lt_of_le h1 h.old)).trans (h.same b h1 h2)⟩

theorem HRep.envK {ρ ρ' : Env} {fps : Nat → Nat → Prop} {res : List Res} {K K' : Nat → Prop} {w0 w : World} {F0 : Nat → Prop} (h : HRep ρ fps res K w0 F0 w) (hK : ∀ i, K i → K' i) (ha : Env.agree K ρ ρ') : HRep ρ' fps res K' w0 F0 w :=
  ⟨fun i hi => hK i (h.sub i hi), h.old, h.os, h.tape, h.output, fun i hi => Res.holds_env _ (h.holds i hi) hK ha (h.sub i hi), h.lt, h.disj, h.inF, h.same⟩

/-- Some blocks made only read. -/
def roB (B : List Nat) : Nat → List Res → List Res
  | _, [] => []
  | j, r :: l => (if B.contains j then .ro r else r) :: roB B (j + 1) l
/-- What was only read is as it was. -/
def backB (B : List Nat) : Nat → List Res → List Res → Option (List Res)
  | _, [], [] => some []
  | j, [], r :: rs => if ownR r then match backB B (j + 1) [] rs with | some l => some (r :: l) | none => none else none
  | _, _ :: _, [] => none
  | j, o :: os, r :: rs => if B.contains j || !ownR o then match backB B (j + 1) os rs with | some l => some (o :: l) | none => none
    else if ownR r then match backB B (j + 1) os rs with | some l => some (r :: l) | none => none else none
/-- Only these blocks, and what is only read. -/
def keepR (B : List Nat) : Nat → List Res → List Res
  | _, [] => []
  | j, r :: l => (if B.contains j || !ownR r then r else .yet) :: keepR B (j + 1) l

theorem roB_get (B : List Nat) : ∀ (l : List Res) (j i : Nat), i < l.length → rget (roB B j l) i = if B.contains (j + i) then .ro (rget l i) else rget l i
  | [], j, i, h => by simp at h
  | r :: l, j, 0, h => by simp [roB, rget]
  | r :: l, j, i + 1, h => by
    simp only [roB, rget]
    rw [roB_get B l (j + 1) i (by simpa using h), show j + 1 + i = j + (i + 1) by omega]
theorem roB_length (B : List Nat) : ∀ (l : List Res) (j : Nat), (roB B j l).length = l.length
  | [], j => rfl
  | r :: l, j => by simp [roB, roB_length B l]
theorem keepR_get (B : List Nat) : ∀ (l : List Res) (j i : Nat), rget (keepR B j l) i = if (B.contains (j + i) || !ownR (rget l i)) = true then rget l i else .yet
  | [], j, i => by simp [keepR, rget]
  | r :: l, j, 0 => by simp [keepR, rget]
  | r :: l, j, i + 1 => by
    simp only [keepR, rget]
    rw [keepR_get B l (j + 1) i, show j + 1 + i = j + (i + 1) by omega]
    rfl

def prot (B : List Nat) (res : List Res) (i : Nat) : Prop := i < res.length ∧ (B.contains i = true ∨ ownR (rget res i) = false)

theorem backB_spec (B : List Nat) : ∀ (os rs l : List Res) (j : Nat), backB B j os rs = some l → ∀ i, ((i < os.length ∧ (B.contains (j + i) = true ∨ ownR (rget os i) = false)) → rget l i = rget os i) ∧
    (¬ (i < os.length ∧ (B.contains (j + i) = true ∨ ownR (rget os i) = false)) → rget l i = rget rs i ∧ ownR (rget rs i) = true)
  | [], [], l, j, h, i => by
    simp only [backB, Option.some.injEq] at h
    subst h
    exact ⟨fun h => absurd h.1 (by simp), fun _ => ⟨rfl, rfl⟩⟩
  | [], r :: rs, l, j, h, i => by
    simp only [backB] at h
    split at h
    · rename_i ho
      split at h
      · rename_i l' hl
        simp only [Option.some.injEq] at h
        subst h
        refine ⟨fun h => absurd h.1 (by simp), fun _ => ?_⟩
        cases i with
        | zero => exact ⟨rfl, ho⟩
        | succ i => exact (backB_spec B [] rs l' (j + 1) hl i).2 (by simp)
      · simp at h
    · simp at h
  | _ :: _, [], l, j, h, i => by simp [backB] at h
  | o :: os, r :: rs, l, j, h, i => by
    simp only [backB] at h
    split at h
    · rename_i hp
      split at h
      · rename_i l' hl
        simp only [Option.some.injEq] at h
        subst h
        cases i with
        | zero =>
          refine ⟨fun _ => rfl, fun hn => absurd ⟨by simp, ?_⟩ hn⟩
          simpa [rget] using hp
        | succ i =>
          have := backB_spec B os rs l' (j + 1) hl i
          rw [show j + 1 + i = j + (i + 1) by omega] at this
          simpa [rget] using this
      · simp at h
    · rename_i hp
      split at h
      · rename_i ho
        split at h
        · rename_i l' hl
          simp only [Option.some.injEq] at h
          subst h
          cases i with
          | zero =>
            refine ⟨fun hn => absurd hn.2 ?_, fun _ => ⟨rfl, ho⟩⟩
            simp only [Bool.or_eq_true, Bool.not_eq_true'] at hp
            simpa [rget] using hp
          | succ i =>
            have := backB_spec B os rs l' (j + 1) hl i
            rw [show j + 1 + i = j + (i + 1) by omega] at this
            simpa [rget] using this
        · simp at h
      · simp at h

section
variable {ρ : Env} {fps : Nat → Nat → Prop} {res : List Res} {B : List Nat} {w0 w : World} {F0 : Nat → Prop}

/-- Blocks that may change. -/
def ownB (B : List Nat) (res : List Res) (i : Nat) : Prop := B.contains i = false ∧ ownR (rget res i) = true
def F1 (B : List Nat) (res : List Res) (fps : Nat → Nat → Prop) (b : Nat) : Prop := ∃ i, known res i ∧ ownB B res i ∧ fps i b

theorem roB_known (hB : ∀ i, B.contains i = true → ∃ ty c, rget res i = .blk ty c) (i : Nat) : known (roB B 0 res) i ↔ known res i := by
  unfold known
  by_cases h : i < res.length
  · rw [roB_get B res 0 i h, Nat.zero_add]
    split
    · rename_i hb
      obtain ⟨ty, c, e⟩ := hB i hb
      simp [e]
    · rfl
  · have h1 : rget res i = .yet := Classical.byContradiction fun hn => h (rget_lt hn)
    have h2 : rget (roB B 0 res) i = .yet := Classical.byContradiction fun hn => h (by have := rget_lt hn; rwa [roB_length] at this)
    rw [h1, h2]

theorem HRep.toRo (h : HRep ρ fps res (known res) w0 F0 w) (hB : ∀ i, B.contains i = true → ∃ ty c, rget res i = .blk ty c) :
    HRep ρ (fun i b => ownB B res i ∧ fps i b) (roB B 0 res) (known (roB B 0 res)) w (F1 B res fps) w := by
  have hkn := roB_known hB
  have hF : ∀ i b, known res i → ¬ ownB B res i → fps i b → ¬ F1 B res fps b := fun i b hi hn hb ⟨k, k1, k2, k3⟩ => h.disj i k b hi k1 (fun e => hn (e ▸ k2)) hb k3
  have hf : ∀ b, b < w0.heap.size → ¬ F0 b → w.heap[b]? = w0.heap[b]? ∧ ¬ F1 B res fps b := fun b h1 h2 => ⟨h.same b h1 h2, fun ⟨k, k1, _, k3⟩ => h2 (h.inF k b k1 k3 h1)⟩
  refine ⟨fun i hi => hi, Nat.le_refl _, rfl, rfl, rfl, fun i hi => ?_, fun i b hi hb => h.lt i b ((hkn i).1 hi) hb.2, fun i j b hi hj hne h1 h2 => h.disj i j b ((hkn i).1 hi) ((hkn j).1 hj) hne h1.2 h2.2,
    fun i b hi hb _ => ⟨i, (hkn i).1 hi, hb.1, hb.2⟩, fun _ _ _ => rfl⟩
  have hi' := (hkn i).1 hi
  have hh := h.holds i hi'
  have hK : ∀ j, known res j → known (roB B 0 res) j := fun j hj => (hkn j).2 hj
  rw [roB_get B res 0 i (rget_lt hi'), Nat.zero_add]
  split
  · rename_i hb
    obtain ⟨ty, c, hr⟩ := hB i hb
    rw [hr] at hh ⊢
    refine ⟨fun b => b = ρ.num i, ⟨ok_mono hK _ hh.1, hh.2.1, rfl, hh.2.2.2⟩, fun b e => ?_⟩
    subst e
    exact ⟨h.lt i _ hi' hh.2.2.1, hF i _ hi' (fun e => by rw [e.1] at hb; simp at hb) hh.2.2.1⟩
  · rename_i hb
    by_cases ho : ownR (rget res i) = true
    · have e : (fun b => ownB B res i ∧ fps i b) = fps i := by
        funext b
        simp only [eq_iff_iff]
        exact ⟨fun h => h.2, fun h => ⟨⟨by simpa using hb, ho⟩, h⟩⟩
      rw [e]
      exact Res.holds_K _ (ownR_holds ho hh) hK
    · have hno : ¬ ownB B res i := fun e => ho e.2
      have hreb := Res.holds_K _ (Res.rebase (F1 := F1 B res fps) h.old hf _ _ hh) hK
      cases hr : rget res i with
      | ro r => rw [hr] at hreb; exact hreb
      | arr own esz l =>
        rw [hr] at hreb hh
        have hown : own = none := by
          rw [hr] at ho
          cases own with
          | none => rfl
          | some _ => simp [ownR] at ho
        obtain ⟨h1, h2, h3, h4, h5, h6, h7⟩ := hreb
        refine ⟨h1, h2, h3, h4, h5, h6, .inl ⟨hown, fun hl => ?_, fun j hj k hk => ?_⟩⟩
        · rcases h7 with ⟨_, g2, _⟩ | ⟨e, e1, e2, e3⟩
          · exact g2 hl
          · obtain ⟨a, ha⟩ := Option.isSome_iff_exists.1 (h5 hl)
            have hb := e3 a ha
            have := h4 a ha
            subst this
            exact ⟨hF i _ hi' hno hb, h.lt i _ hi' hb⟩
        · exact (arr_cells h (own := own) (esz := esz) (l := l) (id := i) (by unfold rlook; rw [hr]) hj).2.2.2 k hk
      | yet => exact absurd hr hi'
      | _ => rw [hr] at ho; simp [ownR] at ho

/-- Back again. -/
theorem HRep.unRo {ρ' : Env} {fps' : Nat → Nat → Prop} {res' r : List Res} {w' : World} (h : HRep ρ fps res (known res) w0 F0 w) (hB : ∀ i, B.contains i = true → ∃ ty c, rget res i = .blk ty c)
    (h2 : HRep ρ' fps' res' (known res') w (F1 B res fps) w') (hg : Good ρ (roB B 0 res) ρ' res') (hb : backB B 0 res res' = some r) :
    ∃ fps'', HRep ρ' fps'' r (known r) w0 F0 w' ∧ Good ρ res ρ' r ∧ (∀ i, known res' i → known r i) ∧
      (∀ g, g < w.heap.size → (∀ i, known res i → ¬ fps i g) → w'.heap[g]? = w.heap[g]? ∧ ∀ i, known r i → ¬ fps'' i g) ∧ (∀ i, prot B res i → rget r i = rget res i) := by
  have hkn := roB_known hB
  have hF : ∀ i b, known res i → ¬ ownB B res i → fps i b → ¬ F1 B res fps b := fun i b hi hn hb ⟨k, k1, k2, k3⟩ => h.disj i k b hi k1 (fun e => hn (e ▸ k2)) hb k3
  have hsp : ∀ i, (prot B res i → rget r i = rget res i) ∧ (¬ prot B res i → rget r i = rget res' i ∧ ownR (rget res' i) = true) := fun i => by
    have := backB_spec B res res' r 0 hb i
    rwa [Nat.zero_add] at this
  have hpk : ∀ i, prot B res i → known res i := fun i hp => by
    rcases hp.2 with hc | hc
    · obtain ⟨ty, c, e⟩ := hB i hc
      unfold known; simp [e]
    · intro e; rw [e] at hc; simp [ownR] at hc
  have hpo : ∀ i, prot B res i → ¬ ownB B res i := fun i hp ho => by
    rcases hp.2 with hc | hc
    · rw [ho.1] at hc; simp at hc
    · rw [ho.2] at hc; simp at hc
  have k1 : ∀ i, known res' i → known r i := fun i hi => by
    by_cases hp : prot B res i
    · unfold known; rw [(hsp i).1 hp]; exact hpk i hp
    · unfold known; rw [((hsp i).2 hp).1]; exact hi
  have k2 : ∀ i, known r i → (prot B res i ∧ known res i) ∨ (¬ prot B res i ∧ known res' i) := fun i hi => by
    by_cases hp : prot B res i
    · exact .inl ⟨hp, hpk i hp⟩
    · unfold known at hi; rw [((hsp i).2 hp).1] at hi; exact .inr ⟨hp, hi⟩
  have k3 : ∀ i, known res i → known r i := fun i hi => k1 i (hg.2 i ((hkn i).2 hi))
  have hag : Env.agree (known res) ρ ρ' := hg.1.mono fun i hi => (hkn i).2 hi
  have hin : ∀ j b, known res' j → fps' j b → b < w.heap.size → F1 B res fps b := h2.inF
  classical
  refine ⟨fun i b => if prot B res i then fps i b else fps' i b, ⟨fun i hi => hi, Nat.le_trans h.old h2.old, h2.os.trans h.os, h2.tape.trans h.tape, h2.output.trans h.output, fun i hi => ?_, fun i b hi hbb => ?_, fun i j b hi hj hne h3 h4 => ?_, fun i b hi hbb hlt => ?_, fun b hlt hn => ?_⟩,
    ⟨hag, k3⟩, k1, fun g hlt hn => ?_, fun i hp => (hsp i).1 hp⟩
  · rcases k2 i hi with ⟨hp, hk⟩ | ⟨hp, hk⟩
    · simp only [if_pos hp]
      rw [(hsp i).1 hp]
      exact Res.holds_env _ (Res.holds_keep _ (h.holds i hk) fun b hbb => h2.same b (h.lt i b hk hbb) (hF i b hk (hpo i hp) hbb)) k3 hag hk
    · simp only [if_neg hp]
      rw [((hsp i).2 hp).1]
      exact Res.holds_K _ (ownR_holds ((hsp i).2 hp).2 (h2.holds i hk)) k1
  · rcases k2 i hi with ⟨hp, hk⟩ | ⟨hp, hk⟩
    · simp only [if_pos hp] at hbb
      exact Nat.lt_of_lt_of_le (h.lt i b hk hbb) h2.old
    · simp only [if_neg hp] at hbb
      exact h2.lt i b hk hbb
  · have mix : ∀ i j, prot B res i → known res i → known res' j → fps i b → ¬ fps' j b := fun i j hp hk hk' h3 h4 =>
      hF i b hk (hpo i hp) h3 (hin j b hk' h4 (h.lt i b hk h3))
    rcases k2 i hi with ⟨hp, hk⟩ | ⟨hp, hk⟩ <;> rcases k2 j hj with ⟨hp', hk'⟩ | ⟨hp', hk'⟩
    · simp only [if_pos hp] at h3
      simp only [if_pos hp'] at h4
      exact h.disj i j b hk hk' hne h3 h4
    · simp only [if_pos hp] at h3
      simp only [if_neg hp'] at h4
      exact mix i j hp hk hk' h3 h4
    · simp only [if_neg hp] at h3
      simp only [if_pos hp'] at h4
      exact mix j i hp' hk' hk h4 h3
    · simp only [if_neg hp] at h3
      simp only [if_neg hp'] at h4
      exact h2.disj i j b hk hk' hne h3 h4
  · rcases k2 i hi with ⟨hp, hk⟩ | ⟨hp, hk⟩
    · simp only [if_pos hp] at hbb
      exact h.inF i b hk hbb hlt
    · simp only [if_neg hp] at hbb
      obtain ⟨k, e1, _, e3⟩ := hin i b hk hbb (Nat.lt_of_lt_of_le hlt h.old)
      exact h.inF k b e1 e3 hlt
  · exact (h2.same b (Nat.lt_of_lt_of_le hlt h.old) fun ⟨k, e1, _, e3⟩ => hn (h.inF k b e1 e3 hlt)).trans (h.same b hlt hn)
  · have hnF : ¬ F1 B res fps g := fun ⟨k, e1, _, e3⟩ => hn k e1 e3
    refine ⟨h2.same g hlt hnF, fun i hi hbb => ?_⟩
    rcases k2 i hi with ⟨hp, hk⟩ | ⟨hp, hk⟩
    · simp only [if_pos hp] at hbb
      exact hn i hk hbb
    · simp only [if_neg hp] at hbb
      exact hnF (hin i g hk hbb hlt)
end
end Go.Sx
/- The executor: regions whose order is drawn, with calls that change memory, and readings that float past them. No condition. -/
set_option linter.unusedVariables false
set_option linter.unusedSimpArgs false
namespace Go.Sx
open Go.RowKit (Below)

/-- What only reads, and makes nothing. -/
def isFl (o : Oper) : Bool :=
  match o.guard with
  | some _ => false
  | none => match o.dst with
    | none => false
    | some _ => match o.op with
      | .move _ => true
      | .assign _ => true
      | .extract _ _ => true
      | .load _ _ => true
      | .fieldAddr _ _ _ => true
      | .field _ _ _ => true
      | .indexAddr _ _ _ => true
      | .index _ _ _ => true
      | .binOp _ _ _ _ _ => true
      | .unOp _ _ _ => true
      | .nilCheck _ => true
      | .build _ _ => true
      | .lookup _ _ _ _ => true
      | _ => false
def isAl (m : Nat) (o : Oper) : Bool :=
  match o.guard with
  | some _ => false
  | none => match o.dst with
    | none => false
    | some _ => match o.op with
      | .alloc _ => m == 0
      | _ => false
def isTo (o : Oper) : Bool :=
  match o.guard with
  | some _ => false
  | none => match o.op with
    | .call _ => true
    | .store _ _ _ => true
    | _ => false

/-- What an operation names was done before it. -/
def refGo (m s : Nat) : Nat → List (Option Nat × Nat) → Bool
  | _, [] => true
  | k, d :: l => (match d.1 with | some t => !(t == s) || Nat.testBit m k | none => true) && refGo m s (k + 1) l
def refOp (ds : List (Option Nat × Nat)) (m : Nat) : Operand → Bool
  | .tmp s => refGo m s 0 ds
  | _ => true
def mixOK (ds dd : List (Option Nat × Nat)) (tm am : Nat) : Nat → List Oper → Bool
  | _, [] => true
  | i, o :: l => (if isFl o then (ancAt ds i &&& am) == 0 else isAl (ancAt ds i) o || (isTo o && (ancAt ds i ||| (tm % 2 ^ i)) == ancAt ds i)) && o.op.operands.toList.all (refOp dd (ancAt ds i)) && mixOK ds dd tm am (i + 1) l
/-- What the operations give is not seen. -/
def undK : List (Option Nat × Nat) → List S → (List S → Prop) → Prop
  | [], sl, k => k sl
  | p :: l, sl, k => match p.1 with
    | some t => ssetK sl t .und fun sl => undK l sl k
    | none => undK l sl k
def undL : List (Option Nat × Nat) → List S → List S
  | [], sl => sl
  | p :: l, sl => match p.1 with
    | some t => undL l (sset sl t .und)
    | none => undL l sl
theorem undK_eq : ∀ (l : List (Option Nat × Nat)) (sl : List S) (k : List S → Prop), undK l sl k = k (undL l sl)
  | [], _, _ => rfl
  | (some t, _) :: l, sl, k => by simp only [undK, undL, ssetK_eq]; exact undK_eq l _ k
  | (none, _) :: l, sl, k => by simp only [undK, undL]; exact undK_eq l _ k
def mskB (p : Nat → Oper → Bool) : Nat → List Oper → Nat
  | _, [] => 0
  | i, o :: l => (if p i o then 2 ^ i else 0) ||| mskB p (i + 1) l
def tailFrom (ds : List (Option Nat × Nat)) : Nat → List Oper → Nat
  | i, [] => i
  | i, o :: l => if tailOK ds i (o :: l) then i else tailFrom ds (i + 1) l

/-- All that reads, and may by now. -/
def mixFl (C : Ctx) (ds : List (Option Nat × Nat)) (a1 : Nat) (rsB rs0 : List Res) (ph0 : Bool) : List (Nat × Oper) → Nat → List S → (Nat → List S → Prop) → Prop
  | [], m, sl, k => k m sl
  | p :: l, m, sl, k => if isFl p.2 && !(Nat.testBit m p.1) && (ancAt ds p.1 ||| m) == m then
      (if Nat.testBit a1 p.1 && !ph0 then False else
        match opRO C sl (if Nat.testBit a1 p.1 then rs0 else rsB) 0 [] p.2.op with
        | some (q, x, new) => if new.isEmpty then putK sl p.2.dst (.v x) fun sl => reqO q (mixFl C ds a1 rsB rs0 ph0 l (m ||| 2 ^ p.1) sl k) else False
        | none => False)
    else mixFl C ds a1 rsB rs0 ph0 l m sl k

/-- What was allotted is taken up. -/
def mixAd (C : Ctx) (ds : List (Option Nat × Nat)) (sel : Nat) : List (Nat × Oper) → Nat → St → (Nat → St → Prop) → Prop
  | [], m, σ, k => k m σ
  | p :: l, m, σ, k => if isAl (ancAt ds p.1) p.2 && Nat.testBit sel p.1 && !(Nat.testBit m p.1) then
      match p.2.op with
      | .alloc t => match C.Z t with
        | some z => putK σ.slots p.2.dst (.v (.lp σ.res.length 0)) fun sl => mixAd C ds sel l (m ||| 2 ^ p.1) { σ with slots := sl, res := addR σ.res [.blk t z] } k
        | none => False
      | _ => False
    else mixAd C ds sel l m σ k

/-- What was not taken up is not seen. -/
def alU (ds : List (Option Nat × Nat)) (m : Nat) (sl : List S) : List (Nat × Oper) → Bool
  | [] => true
  | p :: l => (if isAl (ancAt ds p.1) p.2 && !(Nat.testBit m p.1) then (match p.2.dst with
      | some t => (match sget sl t with | .und => true | _ => false)
      | none => true) else true) && alU ds m sl l
def alZ (C : Ctx) (o : Oper) : Bool :=
  match o.op with
  | .alloc t => (match C.Z t with | some _ => true | none => false)
  | _ => true

def mixT (C : Ctx) (H : Handler) (Y : YHandler) (ops : List Oper) (ds : List (Option Nat × Nat)) (d a1 : Nat) (B : List Nat) (rsB rs0 : List Res) (xs : List (Nat × Oper)) (K : Out → St → Prop) : List (Nat × Oper) → Nat → St → Prop
  | [], m, σ => mixAd C ds (allM' d) xs m σ fun m σ => if m == allM' d then tailS C H Y ops (ops.drop d) σ K else False
  | p :: l, m, σ => mixAd C ds (ancAt ds p.1) xs m σ fun m σ => if (ancAt ds p.1 ||| m) == m then
      stepS C H noY ops p.2 { σ with res := roB B 0 σ.res }
        (fun σ' => match backB B 0 σ.res σ'.res with
          | some r => if alU ds (m ||| 2 ^ p.1) σ'.slots xs then mixFl C ds a1 rsB rs0 false xs (m ||| 2 ^ p.1) σ'.slots fun m sl => mixT C H Y ops ds d a1 B rsB rs0 xs K l m { σ' with slots := sl, res := r } else False
          | none => False)
        (fun v σ' => match backB B 0 σ.res σ'.res with
          | some r => cleanK σ'.slots fun sl => undK (ds.take d) sl fun sl => K (.pan v) { σ' with slots := sl, res := r }
          | none => False)
      else False

/-- The blocks that are read at a time that is open. -/
def colB (C : Ctx) (ds : List (Option Nat × Nat)) (a1 : Nat) (rs0 : List Res) : List (Nat × Oper) → Nat → List S → List Nat
  | [], _, _ => []
  | p :: l, m, sl => if isFl p.2 && (ancAt ds p.1 ||| m) == m then
      match opRO C sl rs0 0 [] p.2.op with
      | some (_, x, _) => (if Nat.testBit a1 p.1 then [] else match p.2.op with
          | .load _ q => match oval sl [] q with
            | some y => match y with
              | .lp id _ => match rget rs0 id with
                | .blk _ _ => [id]
                | _ => []
              | _ => []
            | none => []
          | _ => []) ++ colB C ds a1 rs0 l (m ||| 2 ^ p.1) (match p.2.dst with | some t => sset sl t (.v x) | none => sl)
      | none => colB C ds a1 rs0 l m sl
    else colB C ds a1 rs0 l m sl
def isBlk : Res → Bool
  | .blk _ _ => true
  | _ => false
def natsK : List Nat → (List Nat → Prop) → Prop
  | [], k => k []
  | x :: l, k => natsK l fun l' => k (x :: l')
theorem natsK_eq : ∀ (l : List Nat) (k : List Nat → Prop), natsK l k = k l
  | [], _ => rfl
  | x :: l, k => by simp only [natsK]; exact natsK_eq l _

def a1Of (ds : List (Option Nat × Nat)) : List (Nat × Oper) → Nat
  | [] => 0
  | p :: _ => ancAt ds p.1

def mixS (C : Ctx) (H : Handler) (Y : YHandler) (ops : List Oper) (ds : List (Option Nat × Nat)) (σ : St) (K : Out → St → Prop) : Prop :=
  let d := tailFrom ds 0 ops
  let xs := idxL 0 (ops.take d)
  let ts := xs.filter fun p => isTo p.2
  let a1 := a1Of ds ts
  if okGo ds 0 ops ds && dist ds && mixOK ds (ds.take d) (mskB (fun _ o => isTo o) 0 (ops.take d)) (mskB (fun i o => isAl (ancAt ds i) o) 0 (ops.take d)) 0 (ops.take d) && (ops.take d).all (alZ C) then
    cleanK σ.slots fun sl => undK (ds.take d) sl fun sl => natsK (colB C ds a1 σ.res xs 0 sl) fun B => if B.all (fun i => isBlk (rget σ.res i)) then
      mixFl C ds a1 (keepR B 0 σ.res) σ.res true xs 0 sl fun m sl => mixT C H Y ops ds d a1 B (keepR B 0 σ.res) σ.res xs K ts m { σ with slots := sl }
    else False
  else False

/-- Two activations that differ only at some slots. -/
def Near (N : Nat → Prop) (a b : Act) : Prop := a.defers = b.defers ∧ a.tmps.size = b.tmps.size ∧ ∀ t, ¬ N t → a.tmps.getD t undef = b.tmps.getD t undef
theorem getD_put (a : Act) (d : Option Nat) (v : Value) (t : Nat) : (a.put d v).tmps.getD t undef = if d = some t ∧ t < a.tmps.size then v else a.tmps.getD t undef := by
  cases d with
  | none => simp [Act.put]
  | some e =>
    simp only [Act.put, Array.getD_eq_getD_getElem?, Option.some.injEq]
    by_cases h : e = t
    · subst h
      by_cases hl : e < a.tmps.size
      · simp [hl]
      · simp [hl]
    · simp [h, Array.getElem?_setIfInBounds_ne h]
theorem put_size (a : Act) (d : Option Nat) (v : Value) : (a.put d v).tmps.size = a.tmps.size := by cases d <;> simp [Act.put]
theorem Near.put {N : Nat → Prop} {a b : Act} (h : Near N a b) (d : Option Nat) (v : Value) : Near N (a.put d v) (b.put d v) := by
  refine ⟨by rw [put_defers, put_defers]; exact h.1, by rw [put_size, put_size]; exact h.2.1, fun t ht => ?_⟩
  rw [getD_put, getD_put, h.2.1, h.2.2 t ht]
theorem Near.eval {N : Nat → Prop} {a b : Act} (h : Near N a b) {x : Operand} (hx : ∀ t, x = .tmp t → ¬ N t) : a.eval x = b.eval x := by
  cases x with
  | tmp t => exact h.2.2 t (hx t rfl)
  | _ => rfl

/-- An operation at two activations that are alike where it looks. -/
theorem opc {P : Program} {ro : Option Nat} {o : Oper} {N : Nat → Prop} {a b : Act} {w : World} {next next' : Act → World → Prop} {Q Q' : Exit → Act → World → Prop} (ht : isTo o = true) (hab : Near N a b) (hN : ∀ t, Operand.tmp t ∈ o.op.operands → ¬ N t)
    (hn : ∀ a' b' w', Near N a' b' → (∃ v, b'.tmps = (b.put o.dst v).tmps) → next b' w' → next' a' w') (hQ : ∀ c w', Q (.panic c) b w' → Q' (.panic c) a w') (hl : LetsOut Q → LetsOut Q') (h : o.wpIn (FF P ro) 0 P b w next Q) : o.wpIn (FF P ro) 0 P a w next' Q' := by
  have hev : ∀ x ∈ o.op.operands, a.eval x = b.eval x := fun x hx => hab.eval fun t e => hN t (e ▸ hx)
  have hop : (∃ c, o.op = .call c) ∨ ∃ t p x, o.op = .store t p x := by
    unfold isTo at ht
    split at ht
    · simp at ht
    · split at ht
      · rename_i c hc; exact .inl ⟨c, hc⟩
      · rename_i t p x hc; exact .inr ⟨t, p, x, hc⟩
      · simp at ht
  have hnd : ∀ c, o.op ≠ .defer c := fun c e => by rcases hop with ⟨_, h⟩ | ⟨_, _, _, h⟩ <;> rw [h] at e <;> simp at e
  have hns : ∀ cs b, o.op ≠ .select cs b := fun c b e => by rcases hop with ⟨_, h⟩ | ⟨_, _, _, h⟩ <;> rw [h] at e <;> simp at e
  unfold Oper.wpIn at h ⊢
  rw [Oper.semAt_eq _ _ _ hnd] at h ⊢
  rw [execOp_congr o hns hev]
  refine ⟨fun f hf => h.1 f (by rw [← about_congr o w hev]; exact hf), ?_⟩
  replace h := h.2
  generalize (execOp b.eval o).run P w = r at *
  cases r with
  | ok x w' =>
    cases x <;> simp only [Oper.uponIn] at h ⊢
    case value u => exact hn _ _ _ (hab.put _ _) ⟨_, rfl⟩ h
    case skip => exact hn _ _ _ (hab.put _ _) ⟨_, rfl⟩ h
    case defer d => exact hn _ _ _ (Near.put (N := N) (a := { a with defers := d :: a.defers }) (b := { b with defers := d :: b.defers }) ⟨by simp only [hab.1], hab.2.1, hab.2.2⟩ _ _) ⟨undef, by cases o.dst <;> rfl⟩ h
    case enter f args =>
      refine ⟨h.1, CallsIn.mono h.2 fun e w'' he => ?_⟩
      cases e with
      | returned u => exact hn _ _ _ (hab.put _ _) ⟨_, rfl⟩ he
      | panicked c => exact hQ _ _ he
      | outgrown => exact hl he
    case row row args => exact ⟨h.1, RowsIn.mono h.2 fun u w'' he => hn _ _ _ (hab.put _ _) ⟨_, rfl⟩ he⟩
    case round l f tmps assign body =>
      refine ⟨h.1, RoundIn.mono h.2 fun e w'' he => ?_⟩
      cases e with
      | returned u => exact hn _ _ _ (hab.put _ _) ⟨_, rfl⟩ he
      | panicked c => exact hQ _ _ he
      | outgrown => exact hl he
  | halt x w' =>
    cases x <;> simp only [Oper.uponIn] at h ⊢
    case panic u => exact hQ _ _ h

/-- What an operation gives, at every activation that is alike where it looks. -/
def Vst (P : Program) (o : Oper) (b : Act) (v : Value) (cond : World → Prop) : Prop := ∀ a w, (∀ x ∈ o.op.operands, a.eval x = b.eval x) → cond w → Yields P o a w fun v' w' => v' = v ∧ Below w.heap.size w w'

theorem fl_kind {o : Oper} (h : isFl o = true) : o.guard = none ∧ (∃ t, o.dst = some t) ∧ (∀ c, o.op ≠ .call c) ∧ (∀ c, o.op ≠ .defer c) ∧ (∀ cs b, o.op ≠ .select cs b) ∧ (∀ t, o.op ≠ .alloc t) ∧ ∀ t p x, o.op ≠ .store t p x := by
  unfold isFl at h
  split at h
  · simp at h
  · rename_i hg
    split at h
    · simp at h
    · rename_i t ht
      refine ⟨hg, ⟨t, ht⟩, ?_, ?_, ?_, ?_, ?_⟩ <;> intros <;> intro e <;> rw [e] at h <;> simp at h
theorem al_kind {m : Nat} {o : Oper} (h : isAl m o = true) : o.guard = none ∧ (∃ t, o.dst = some t) ∧ (∃ t, o.op = .alloc t) ∧ m = 0 := by
  unfold isAl at h
  split at h
  · simp at h
  · rename_i hg
    split at h
    · simp at h
    · rename_i t ht
      split at h
      · rename_i t2 h2; exact ⟨hg, ⟨t, ht⟩, ⟨t2, h2⟩, by simpa using h⟩
      · simp at h
theorem to_kind {o : Oper} (h : isTo o = true) : o.guard = none ∧ (∀ t, o.op ≠ .alloc t) ∧ isFl o = false := by
  unfold isTo at h
  split at h
  · simp at h
  · rename_i hg
    refine ⟨hg, fun t e => by rw [e] at h; simp at h, ?_⟩
    cases hf : isFl o with
    | false => rfl
    | true =>
      obtain ⟨_, _, f1, _, _, _, f2⟩ := fl_kind hf
      split at h
      · rename_i c hc; exact absurd hc (f1 c)
      · rename_i t p x hc; exact absurd hc (f2 t p x)
      · simp at h

theorem refGo_spec {m s : Nat} : ∀ {l : List (Option Nat × Nat)} {k0 : Nat}, refGo m s k0 l = true → ∀ k mm, l[k]? = some (some s, mm) → m.testBit (k0 + k) = true
  | [], _, _, k, _, h => by simp at h
  | p :: l, k0, h, k, mm, hk => by
    simp only [refGo, Bool.and_eq_true] at h
    cases k with
    | zero =>
      simp at hk
      subst hk
      simpa using h.1
    | succ k =>
      have := refGo_spec h.2 k mm (by simpa using hk)
      rwa [show k0 + 1 + k = k0 + (k + 1) by omega] at this

theorem mskB_bit {p : Nat → Oper → Bool} : ∀ {l : List Oper} {i j : Nat} {o : Oper}, l[j]? = some o → p (i + j) o = true → (mskB p i l).testBit (i + j) = true
  | [], i, j, o, h, _ => by simp at h
  | x :: l, i, 0, o, h, hp => by
    simp at h
    subst h
    simp only [Nat.add_zero] at hp ⊢
    simp [mskB, hp, Nat.testBit_or]
  | x :: l, i, j + 1, o, h, hp => by
    have := mskB_bit (p := p) (l := l) (i := i + 1) (j := j) (by simpa using h) (by rw [show i + 1 + j = i + (j + 1) by omega]; exact hp)
    rw [show i + 1 + j = i + (j + 1) by omega] at this
    simp only [mskB, Nat.testBit_or, this, Bool.or_true]

theorem mixOK_spec {ds dd : List (Option Nat × Nat)} {tm am : Nat} : ∀ {l : List Oper} {i : Nat}, mixOK ds dd tm am i l = true → ∀ j o, l[j]? = some o →
    (isFl o = true ∧ (ancAt ds (i + j)) &&& am = 0 ∨ isFl o = false ∧ (isAl (ancAt ds (i + j)) o = true ∨ isTo o = true ∧ ∀ k, k < i + j → tm.testBit k = true → (ancAt ds (i + j)).testBit k = true)) ∧
    ∀ t, Operand.tmp t ∈ o.op.operands → ∀ k mm, dd[k]? = some (some t, mm) → (ancAt ds (i + j)).testBit k = true
  | [], _, _, j, o, h => by simp at h
  | x :: l, i, h, j + 1, o, ho => by
    simp only [mixOK, Bool.and_eq_true] at h
    have := mixOK_spec h.2 j o (by simpa using ho)
    rwa [show i + 1 + j = i + (j + 1) by omega] at this
  | x :: l, i, h, 0, o, ho => by
    simp at ho
    subst ho
    simp only [mixOK, Bool.and_eq_true] at h
    obtain ⟨⟨h1, h2⟩, _⟩ := h
    rw [Nat.add_zero]
    refine ⟨?_, fun t ht k mm hk => ?_⟩
    · cases hf : isFl x with
      | true => rw [hf] at h1; left; simpa using h1
      | false =>
        rw [hf] at h1
        right
        refine ⟨rfl, ?_⟩
        simp only [Bool.false_eq_true, if_false, Bool.or_eq_true, Bool.and_eq_true, beq_iff_eq] at h1
        rcases h1 with h1 | ⟨h1, h3⟩
        · exact .inl h1
        · refine .inr ⟨h1, fun k hk hb => ?_⟩
          rw [← h3, Nat.testBit_or, Nat.testBit_mod_two_pow]
          simp [hk, hb]
    · rw [List.all_eq_true] at h2
      have := h2 (.tmp t) (by simpa using ht)
      have := refGo_spec (show refGo (ancAt ds i) t 0 dd = true from this) k mm hk
      rwa [Nat.zero_add] at this

theorem tailFrom_spec {ds : List (Option Nat × Nat)} : ∀ {l : List Oper} {i : Nat}, ∃ j, tailFrom ds i l = i + j ∧ j ≤ l.length ∧ tailOK ds (i + j) (l.drop j) = true
  | [], i => ⟨0, rfl, Nat.le_refl _, rfl⟩
  | x :: l, i => by
    simp only [tailFrom]
    split
    · rename_i h; exact ⟨0, rfl, by simp, by simpa using h⟩
    · obtain ⟨j, h1, h2, h3⟩ := tailFrom_spec (ds := ds) (l := l) (i := i + 1)
      exact ⟨j + 1, by rw [h1]; omega, by simpa using h2, by rw [show i + (j + 1) = i + 1 + j by omega]; simpa using h3⟩
end Go.Sx
/- The executor: regions whose order is drawn, with calls that change memory: what holds on the way. No condition. -/
set_option linter.unusedVariables false
set_option linter.unusedSimpArgs false
namespace Go.Sx
open Go.RowKit (Below)

theorem no_enter {o : Oper} (h : isFl o = true ∨ ∃ m, isAl m o = true) {e : Operand → Value} {P : Program} {w w' : World} {f : Nat} {args : Array Value} : (execOp e o).run P w ≠ .ok (.enter f args) w' := by
  have key : ∀ s : Sem Value, (do pure (Next.value (← s)) : Sem Next).run P w ≠ .ok (.enter f args) w' := by
    intro s
    rw [Sem.run_bind]
    cases s.run P w <;> simp
  obtain ⟨dst, op, type, pos, after, guard⟩ := o
  cases op
  case nilCheck y =>
    intro hh
    simp only [execOp] at hh
    split at hh
    · simp [runtimePanic] at hh
    · simp [runtimePanic] at hh
    · simp [runtimePanic] at hh
    · split at hh
      · simp [runtimePanic] at hh
      · rename_i t x _
        rw [Sem.run_bind] at hh
        generalize Sem.run P program w = r at hh
        cases r with
        | halt x w1 => simp at hh
        | ok x w1 =>
          simp only [Result.andThen_ok] at hh
          rw [Sem.run_bind] at hh
          generalize Sem.run P (nilAhead _ _ _ _) w1 = r2 at hh
          cases r2 with
          | halt x w1 => simp at hh
          | ok y w2 =>
            simp only [Result.andThen_ok] at hh
            split at hh
            · rw [Sem.run_bind] at hh
              generalize Sem.run P (unsupported _) w2 = r3 at hh
              cases r3 <;> simp at hh
            · simp at hh
      · simp at hh
    · simp at hh
  all_goals first | exact key _ | (exfalso; cases guard <;> cases dst <;> simp [isFl, isAl] at h; done) | simp [execOp]

theorem fa_about {o : Oper} (h : isFl o = true ∨ ∃ m, isAl m o = true) (P : Program) (w : World) (e : Operand → Value) : o.about P w e = none := by
  obtain ⟨dst, op, type, pos, after, guard⟩ := o
  cases op <;> first | rfl | (exfalso; cases guard <;> cases dst <;> simp [isFl, isAl] at h; done)

theorem yields_in {P : Program} {o : Oper} {a : Act} {w : World} {R : Value → World → Prop} {next : Act → World → Prop} {Q : Exit → Act → World → Prop} {ro : Option Nat} (hf : isFl o = true ∨ ∃ m, isAl m o = true) (hd : ro ≠ none → notDefer o) (hy : Yields P o a w R)
    (hn : ∀ v w', R v w' → next (a.put o.dst v) w') : o.wpIn (FF P ro) 0 P a w next Q :=
  oper_in hd (fun f h => by rw [fa_about hf] at h; simp at h) (hy.wp hn)

/-- What the region's operations are. -/
structure Facts (opsA : Array Oper) (ds : List (Option Nat × Nat)) (d a1 : Nat) : Prop where
  at' : ∀ i o, opsA[i]? = some o → (∀ k, (ancAt ds i).testBit k = true → k < i) ∧
    (∀ k, (ancAt ds i).testBit k = true ↔ ∃ e ∈ o.after, Region.binds .any e = true ∧ (e.on = k ∨ (ancAt ds e.on).testBit k = true)) ∧
    ∀ k r, (ancAt ds i).testBit k = true → (ancAt ds k).testBit r = true → (ancAt ds i).testBit r = true
  dsat : ∀ i o, opsA[i]? = some o → ds[i]? = some (o.dst, ancAt ds i)
  kind : ∀ i o, i < d → opsA[i]? = some o → (isFl o = true ∧ ∀ k o', (ancAt ds i).testBit k = true → opsA[k]? = some o' → isAl (ancAt ds k) o' = false) ∨
    (isFl o = false ∧ (isAl (ancAt ds i) o = true ∨ isTo o = true ∧ ∀ k o', k < i → opsA[k]? = some o' → isTo o' = true → (ancAt ds i).testBit k = true))
  opnd : ∀ i o t, i < d → opsA[i]? = some o → Operand.tmp t ∈ o.op.operands → ∀ k o', k < d → opsA[k]? = some o' → o'.dst = some t → (ancAt ds i).testBit k = true
  dist : ∀ (i j : Nat) (o o' : Oper) (t : Nat), opsA[i]? = some o → opsA[j]? = some o' → o.dst = some t → o'.dst = some t → i = j
  tail : ∀ i, i < opsA.size → d ≤ i → ∀ k, (ancAt ds i).testBit k = true ↔ k < i
  ta1 : ∀ i o, i < d → opsA[i]? = some o → isTo o = true → ∀ k, a1.testBit k = true → (ancAt ds i).testBit k = true
  a1d : ∀ k, a1.testBit k = true → k < d
  dle : d ≤ opsA.size

def alA (opsA : Array Oper) (ds : List (Option Nat × Nat)) (i : Nat) : Prop := ∃ o, opsA[i]? = some o ∧ isAl (ancAt ds i) o = true
def flA (opsA : Array Oper) (i : Nat) : Prop := ∃ o, opsA[i]? = some o ∧ isFl o = true
theorem fl_al {opsA : Array Oper} {ds : List (Option Nat × Nat)} {i : Nat} (h : flA opsA i) (h' : alA opsA ds i) : False := by
  obtain ⟨o, h1, h2⟩ := h
  obtain ⟨o', h3, h4⟩ := h'
  rw [h1] at h3
  simp only [Option.some.injEq] at h3
  subst h3
  obtain ⟨_, _, ⟨t, ht⟩, _⟩ := al_kind h4
  exact (fl_kind h2).2.2.2.2.2.1 t ht

/-- Slots that are planned and not done yet. -/
def NS (opsA : Array Oper) (m : Nat) (L : Nat → Bool) (t : Nat) : Prop := ∃ i o, opsA[i]? = some o ∧ o.dst = some t ∧ m.testBit i = true ∧ L i = false
/-- Worlds in which some places are as they were. -/
def cnd (w0 : World) (F0 : Nat → Prop) (rs0 : List Res) (p : Nat → Prop) (ρ : Env) (res : List Res) (w : World) : Prop := ∃ ρ' fps' res', HRep ρ' fps' res' (known res') w0 F0 w ∧ Good ρ res ρ' res' ∧ ∀ i, p i → rget res' i = rget rs0 i
def prS (a1 : Nat) (B : List Nat) (rs0 : List Res) (i k : Nat) : Prop := if a1.testBit i = true then known rs0 k else prot B rs0 k

theorem cnd.mono {w0 : World} {F0 : Nat → Prop} {rs0 : List Res} {p : Nat → Prop} {ρ ρ1 : Env} {res res1 : List Res} {w : World} (hg : Good ρ res ρ1 res1) (h : cnd w0 F0 rs0 p ρ1 res1 w) : cnd w0 F0 rs0 p ρ res w :=
  let ⟨ρ', fps', res', h1, h2, h3⟩ := h
  ⟨ρ', fps', res', h1, hg.trans h2, h3⟩
theorem Vst.mono {P : Program} {o : Oper} {b b' : Act} {v : Value} {c c' : World → Prop} (h : Vst P o b v c) (hb : ∀ x ∈ o.op.operands, b'.eval x = b.eval x) (hc : ∀ w, c' w → c w) : Vst P o b' v c' :=
  fun a w ha hw => h a w (fun x hx => (ha x hx).trans (hb x hx)) (hc w hw)

/-- What an operation gives, now and later. -/
theorem vst_of {C : Ctx} {o : Oper} {q : Option Prop} {x : V} {sl : List S} {R res rs0 : List Res} {ρ : Env} {fps : Nat → Nat → Prop} {b : Act} {w w0 : World} {F0 p : Nat → Prop} (hC : C.Sound) (hf : isFl o = true) (h : opRO C sl R 0 [] o.op = some (q, x, [])) (hq : holdsO q) (hF : FRep ρ (known res) sl b)
    (hR : ∀ i, known R i → p i ∧ rget R i = rget rs0 i) (hH : HRep ρ fps res (known res) w0 F0 w) (hp : ∀ i, p i → rget res i = rget rs0 i) : ok (known res) x ∧ Vst C.P o b (den ρ x) (cnd w0 F0 rs0 p ρ res) := by
  have base : ∀ ρ' fps' res' w', HRep ρ' fps' res' (known res') w0 F0 w' → Good ρ res ρ' res' → (∀ i, p i → rget res' i = rget rs0 i) → Yields C.P o b w' (Gives (known res') ρ' 0 x [] w0 F0 w') := fun ρ' fps' res' w' h1 h2 h3 =>
    (opRO_spec hC h (hF.env h2.2 h2.1) (h1.forget fun i hi => (hR i hi).2.trans (h3 i (hR i hi).1).symm) rfl hq (fun k hk => by simp at hk)).1
  have nof : ∀ {K : Nat → Prop} {i : Nat}, K i ∨ fresh 0 ([] : List Res).length i → K i := fun h => h.elim id fun h => by unfold fresh at h; simp at h
  have hok : ok (known res) x := by
    rcases base ρ fps res w hH (Good.refl _ _) hp with ⟨v, w', h1, ρ'', _, _, h4⟩ | ⟨f, args, h1, _⟩
    · exact ok_mono (fun i hi => nof hi) x h4
    · exact absurd h1 (no_enter (.inl hf))
  refine ⟨hok, fun a' w' he hc => ?_⟩
  obtain ⟨ρ', fps', res', h1, h2, h3⟩ := hc
  have he' : execOp a'.eval o = execOp b.eval o := execOp_congr o (fl_kind hf).2.2.2.2.1 he
  rcases base ρ' fps' res' w' h1 h2 h3 with ⟨v, w'', e1, ρ'', e2, e3, e4⟩ | ⟨f, args, h1, _⟩
  · refine .inl ⟨v, w'', by rw [he']; exact e1, ?_, e2.1⟩
    rw [e3, den_agree (N := known res') (e2.2.1.mono fun i _ h => by unfold fresh at h; simp at h) x (ok_mono h2.2 x hok), den_agree h2.1 x hok]
  · exact absurd h1 (no_enter (.inl hf))

def putT (x : Array Value) (d : Option Nat) (v : Value) : Array Value := match d with | some t => x.setIfInBounds t v | none => x
theorem put_tmps (a : Act) (d : Option Nat) (v : Value) : (a.put d v).tmps = putT a.tmps d v := by cases d <;> rfl
theorem putT_comm {x : Array Value} {d d' : Option Nat} {v v' : Value} (h : ∀ t, d = some t → d' = some t → False) : putT (putT x d v) d' v' = putT (putT x d' v') d v := by
  cases d with
  | none => rfl
  | some t =>
    cases d' with
    | none => rfl
    | some t' =>
      have hne : t ≠ t' := fun e => h t rfl (by rw [e])
      exact Array.setIfInBounds_comm _ _ hne
theorem putT_same (x : Array Value) (d : Option Nat) (v : Value) : putT (putT x d v) d v = putT x d v := by
  cases d with
  | none => rfl
  | some t => simp [putT]
theorem FRep.tmps {ρ : Env} {K : Nat → Prop} {sl : List S} {a a' : Act} (h : FRep ρ K sl a) (e : a'.tmps = a.tmps) : FRep ρ K sl a' := by unfold FRep at h ⊢; rw [e]; exact h
theorem eval_tmps {a a' : Act} (x : Operand) (h : ∀ t, x = .tmp t → a'.tmps.getD t undef = a.tmps.getD t undef) : a'.eval x = a.eval x := by
  cases x with
  | tmp t => exact h t rfl
  | _ => rfl
theorem getD_putT {x : Array Value} {d : Option Nat} {v : Value} {t : Nat} (h : d ≠ some t) : (putT x d v).getD t undef = x.getD t undef := by
  cases d with
  | none => rfl
  | some e =>
    have : e ≠ t := fun h' => h (by rw [h'])
    simp [putT, Array.getD_eq_getD_getElem?, Array.getElem?_setIfInBounds_ne this]
theorem FRep.putUnd {ρ : Env} {K : Nat → Prop} {sl : List S} {a : Act} (h : FRep ρ K sl a) {d : Option Nat} {v : Value} (hu : ∀ t, d = some t → sget sl t = .und) : FRep ρ K sl (a.put d v) := by
  refine ⟨by rw [put_size]; exact h.1, fun t => ?_⟩
  by_cases e : d = some t
  · rw [hu t e]; trivial
  · rw [put_tmps, getD_putT e]; exact h.2 t
theorem Near.mono {N N' : Nat → Prop} {a b : Act} (h : Near N a b) (hN : ∀ t, N t → N' t) : Near N' a b := ⟨h.1, h.2.1, fun t ht => h.2.2 t fun h => ht (hN t h)⟩

/-- A block that was made before becomes a place. -/
theorem HRep.adopt {ρ : Env} {fps : Nat → Nat → Prop} {res : List Res} {w0 w : World} {F0 : Nat → Prop} {g t : Nat} {z : V} (h : HRep ρ fps res (known res) w0 F0 w) (hz : ok (fun _ => False) z) (ht : isTp z = false)
    (hb : w.heap[g]? = some (.cells (cells Env.zero z).toArray t (0, 0))) (hg : w0.heap.size ≤ g) (hn : ∀ k, known res k → ¬ fps k g) :
    HRep (ρ.setNum res.length g) (fun i b => if i = res.length then b = g else fps i b) (addR res [.blk t z]) (known (addR res [.blk t z])) w0 F0 w ∧ Good ρ res (ρ.setNum res.length g) (addR res [.blk t z]) := by
  have hget : ∀ i, rget (addR res [.blk t z]) i = if i = res.length then .blk t z else rget res i := fun i => by
    show rget (res ++ [.blk t z]) i = _
    rw [rget_append]
    by_cases h1 : i < res.length
    · rw [if_pos h1, if_neg (by omega)]
    · rw [if_neg h1]
      by_cases h2 : i = res.length
      · subst h2; simp [rget]
      · rw [if_neg h2]
        have : rget res i = .yet := Classical.byContradiction fun hh => h1 (rget_lt hh)
        rw [this]
        cases hx : i - res.length with
        | zero => omega
        | succ n => simp [rget]
  have hkn : ∀ i, known res i → i ≠ res.length ∧ known (addR res [.blk t z]) i := fun i hi => by
    have := rget_lt hi
    refine ⟨by omega, ?_⟩
    unfold known
    rw [hget, if_neg (by omega)]; exact hi
  have hk' : ∀ i, known (addR res [.blk t z]) i → i = res.length ∨ (i ≠ res.length ∧ known res i) := fun i hi => by
    by_cases e : i = res.length
    · exact .inl e
    · unfold known at hi
      rw [hget, if_neg e] at hi
      exact .inr ⟨e, hi⟩
  have hag : Env.agree (known res) ρ (ρ.setNum res.length g) := fun i hi => by
    have := (hkn i hi).1
    simp [Env.setNum, this]
  have hlt : g < w.heap.size := (Array.getElem?_eq_some_iff.1 hb).1
  refine ⟨⟨fun i hi => hi, h.old, h.os, h.tape, h.output, fun i hi => ?_, fun i b hi hbb => ?_, fun i j b hi hj hne h3 h4 => ?_, fun i b hi hbb hl => ?_, h.same⟩, hag, fun i hi => (hkn i hi).2⟩
  · rcases hk' i hi with e | ⟨e, hk⟩
    · subst e
      rw [hget, if_pos rfl]
      refine ⟨ok_empty hz, ht, by simp [Env.setNum], ?_⟩
      rw [cells_agree (N := fun _ => False) (ρ := Env.zero) (fun _ h => h.elim) z hz]
      simpa [Env.setNum] using hb
    · rw [hget, if_neg e]
      have := Res.holds_env _ (h.holds i hk) (fun j hj => (hkn j hj).2) hag hk
      simpa only [if_neg e] using this
  · rcases hk' i hi with e | ⟨e, hk⟩
    · simp only [if_pos e] at hbb; subst hbb; exact hlt
    · simp only [if_neg e] at hbb; exact h.lt i b hk hbb
  · rcases hk' i hi with e | ⟨e, hk⟩ <;> rcases hk' j hj with e' | ⟨e', hk'⟩
    · omega
    · simp only [if_pos e] at h3; simp only [if_neg e'] at h4; subst h3; exact hn j hk' h4
    · simp only [if_neg e] at h3; simp only [if_pos e'] at h4; subst h4; exact hn i hk h3
    · simp only [if_neg e] at h3; simp only [if_neg e'] at h4; exact h.disj i j b hk hk' hne h3 h4
  · rcases hk' i hi with e | ⟨e, hk⟩
    · simp only [if_pos e] at hbb; omega
    · simp only [if_neg e] at hbb; exact h.inF i b hk hbb hl

/-- What holds on the way. -/
structure Mix (C : Ctx) (opsA : Array Oper) (ds : List (Option Nat × Nat)) (d a1 : Nat) (B : List Nat) (rs0 : List Res) (ρs : Env) (w0 : World) (F0 : Nat → Prop) (m : Nat) (σ : St) (L : Nat → Bool) (ρ : Env) (fps : Nat → Nat → Prop) (a b : Act) (w : World) (gb : Nat → Nat) : Prop where
  rep : Rep ρ fps σ w0 F0 b w
  good : Good ρs rs0 ρ σ.res
  near : Near (NS opsA m L) a b
  lm : ∀ i, L i = true → i < d ∧ (m.testBit i = true ∨ alA opsA ds i)
  ml : ∀ i, m.testBit i = true → i < d ∧ (L i = true ∨ flA opsA i)
  mdn : ∀ i k, m.testBit i = true → (ancAt ds i).testBit k = true → m.testBit k = true
  val : ∀ i o, opsA[i]? = some o → isFl o = true → m.testBit i = true → L i = false → ∃ v, putT b.tmps o.dst v = b.tmps ∧ Vst C.P o b v (cnd w0 F0 rs0 (prS a1 B rs0 i) ρ σ.res)
  alc : ∀ i o, i < d → opsA[i]? = some o → isAl (ancAt ds i) o = true → m.testBit i = false → (∀ t, o.dst = some t → sget σ.slots t = .und) ∧
    (L i = true → ∃ t z, o.op = .alloc t ∧ C.Z t = some z ∧ putT b.tmps o.dst (.pointer (some ⟨gb i, 0, none⟩)) = b.tmps ∧ w.heap[gb i]? = some (.cells (cells Env.zero z).toArray t (0, 0)) ∧ w0.heap.size ≤ gb i ∧ ∀ k, known σ.res k → ¬ fps k (gb i))
  inj : ∀ i j, alA opsA ds i → alA opsA ds j → L i = true → L j = true → m.testBit i = false → m.testBit j = false → gb i = gb j → i = j
  prt : ∀ i, prot B rs0 i → rget σ.res i = rget rs0 i
  ph0 : (∃ i, a1.testBit i = true ∧ L i = false) → σ.res = rs0

theorem bit_or {m i k : Nat} : (m ||| 2 ^ i).testBit k = true ↔ m.testBit k = true ∨ k = i := by
  rw [Nat.testBit_or, Bool.or_eq_true, Nat.testBit_two_pow, decide_eq_true_eq]
  exact ⟨fun h => h.imp id Eq.symm, fun h => h.imp id Eq.symm⟩
theorem sub_or {x m : Nat} (h : (x ||| m) = m) {k : Nat} (hk : x.testBit k = true) : m.testBit k = true := by rw [← h, Nat.testBit_or, hk]; rfl

theorem keepR_known {B : List Nat} {rs0 : List Res} (hB : ∀ i, B.contains i = true → ∃ ty c, rget rs0 i = .blk ty c) (i : Nat) (h : known (keepR B 0 rs0) i) : prot B rs0 i ∧ rget (keepR B 0 rs0) i = rget rs0 i := by
  unfold known at h
  rw [keepR_get, Nat.zero_add] at h ⊢
  split at h
  · rename_i hc
    rw [if_pos hc]
    refine ⟨⟨rget_lt h, ?_⟩, rfl⟩
    simpa using hc
  · exact absurd rfl h
theorem prot_known {B : List Nat} {rs0 : List Res} (hB : ∀ i, B.contains i = true → ∃ ty c, rget rs0 i = .blk ty c) {i : Nat} (h : prot B rs0 i) : known rs0 i := by
  rcases h.2 with hc | hc
  · obtain ⟨ty, c, e⟩ := hB i hc
    unfold known; simp [e]
  · intro e; rw [e] at hc; simp [ownR] at hc
end Go.Sx
/- The executor: regions whose order is drawn, with calls that change memory: the steps. No condition. -/
set_option linter.unusedVariables false
set_option linter.unusedSimpArgs false
namespace Go.Sx
open Go.RowKit (Below)

theorem putS_get {sl sl2 : List S} {dd : Option Nat} {s : S} (h : putS sl dd s = some sl2) {t : Nat} (ht : dd ≠ some t) : sget sl2 t = sget sl t := by
  unfold putS at h
  cases dd with
  | none => simp only [Option.some.injEq] at h; rw [h]
  | some e =>
    simp only at h
    split at h
    · simp only [Option.some.injEq] at h
      rw [← h, sget_sset, if_neg fun hh => ht (by rw [hh.1])]
    · simp at h
theorem addR1_get (res : List Res) (r : Res) (i : Nat) : rget (addR res [r]) i = if i = res.length then r else rget res i := by
  show rget (res ++ [r]) i = _
  rw [rget_append]
  by_cases h1 : i < res.length
  · rw [if_pos h1, if_neg (by omega)]
  · rw [if_neg h1]
    by_cases h2 : i = res.length
    · subst h2; simp [rget]
    · rw [if_neg h2]
      have : rget res i = .yet := Classical.byContradiction fun hh => h1 (rget_lt hh)
      rw [this]
      cases hx : i - res.length with
      | zero => omega
      | succ n => simp [rget]
theorem getD_out {x : Array Value} {t : Nat} (h : ¬ t < x.size) : x.getD t undef = undef := by simp [Array.getD_eq_getD_getElem?, Array.getElem?_eq_none (Nat.not_lt.1 h)]
theorem getD_putT_self {x y : Array Value} {t : Nat} {v : Value} (h : x.size = y.size) : (putT x (some t) v).getD t undef = (putT y (some t) v).getD t undef := by
  by_cases ht : t < x.size
  · have ht' : t < y.size := h ▸ ht
    simp [putT, ht, ht']
  · have ht' : ¬ t < y.size := h ▸ ht
    rw [getD_out (by simpa [putT] using ht), getD_out (by simpa [putT] using ht')]

section
variable {C : Ctx} {opsA : Array Oper} {ds : List (Option Nat × Nat)} {d a1 : Nat} {B : List Nat} {rs0 : List Res} {ρs ρ : Env} {w0 w : World} {F0 : Nat → Prop} {m : Nat} {L : Nat → Bool} {fps : Nat → Nat → Prop} {a b : Act} {gb : Nat → Nat} {σ : St}

theorem Mix.Lfl (M : Mix C opsA ds d a1 B rs0 ρs w0 F0 m σ L ρ fps a b w gb) {i : Nat} {o : Oper} (ho : opsA[i]? = some o) (hfl : isFl o = true) (hm : m.testBit i = false) : L i = false := by
  cases h : L i with
  | false => rfl
  | true =>
    rcases (M.lm i h).2 with h' | h'
    · rw [hm] at h'; simp at h'
    · exact (fl_al ⟨o, ho, hfl⟩ h').elim

theorem Mix.ne {i j : Nat} (h : m.testBit j = true) (h' : m.testBit i = false) : j ≠ i := fun e => by rw [e, h'] at h; simp at h

theorem Mix.oeval (hf : Facts opsA ds d a1) (M : Mix C opsA ds d a1 B rs0 ρs w0 F0 m σ L ρ fps a b w gb) {i : Nat} {o : Oper} (ho : opsA[i]? = some o) (hi : i < d) (hm : m.testBit i = false) {b' : Act} {v : Value} (hb' : b'.tmps = putT b.tmps o.dst v)
    {j : Nat} {o' : Oper} (hjd : j < d) (hj : opsA[j]? = some o') (hmj : m.testBit j = true ∨ j = i) : ∀ y ∈ o'.op.operands, b'.eval y = b.eval y := fun y hy => eval_tmps y fun t e => by
  subst e
  rw [hb']
  refine getD_putT fun hd => ?_
  have := hf.opnd j o' t hjd hj hy i o hi ho hd
  rcases hmj with h | rfl
  · rw [M.mdn j i h this] at hm; simp at hm
  · have := (hf.at' j o' hj).1 j this; omega

theorem bit_false {m i j : Nat} (h : (m ||| 2 ^ i).testBit j = false) : m.testBit j = false ∧ j ≠ i := by
  constructor
  · cases hm : m.testBit j with
    | false => rfl
    | true => rw [bit_or.2 (.inl hm)] at h; simp at h
  · intro e; rw [bit_or.2 (.inr e)] at h; simp at h

/-- One more is planned. -/
theorem Mix.addFl (hf : Facts opsA ds d a1) (M : Mix C opsA ds d a1 B rs0 ρs w0 F0 m σ L ρ fps a b w gb) {i : Nat} {o : Oper} {x : V} {sl2 : List S} (ho : opsA[i]? = some o) (hi : i < d) (hfl : isFl o = true) (hm : m.testBit i = false) (hanc : (ancAt ds i ||| m) = m)
    (hx : ok (known σ.res) x) (hV : Vst C.P o b (den ρ x) (cnd w0 F0 rs0 (prS a1 B rs0 i) ρ σ.res)) (hp : putS σ.slots o.dst (.v x) = some sl2) :
    Mix C opsA ds d a1 B rs0 ρs w0 F0 (m ||| 2 ^ i) { σ with slots := sl2 } L ρ fps a (b.put o.dst (den ρ x)) w gb := by
  have hLi := M.Lfl ho hfl hm
  have nd : ∀ j o', opsA[j]? = some o' → j ≠ i → ∀ t, o.dst = some t → o'.dst = some t → False := fun j o' hj hne t ht e => hne (hf.dist j i o' o t hj ho e ht)
  refine ⟨⟨M.rep.1.putS hp fun _ _ _ _ => ⟨rfl, hx⟩, M.rep.2.1, by rw [put_defers]; exact M.rep.2.2.1, M.rep.2.2.2⟩, M.good, ⟨by rw [put_defers]; exact M.near.1, by rw [put_size]; exact M.near.2.1, fun t ht => ?_⟩, fun j hj => ?_, fun j hj => ?_, fun j k hj hk => ?_, fun j o' hj hfl' hmj hLj => ?_, fun j o' hjd hj hal hmj => ?_, fun j k h1 h2 h3 h4 h5 h6 => M.inj j k h1 h2 h3 h4 (bit_false h5).1 (bit_false h6).1, M.prt, M.ph0⟩
  · rw [put_tmps, getD_putT fun hd => ht ⟨i, o, ho, hd, bit_or.2 (.inr rfl), hLi⟩]
    exact M.near.2.2 t fun ⟨i', o', e1, e2, e3, e4⟩ => ht ⟨i', o', e1, e2, bit_or.2 (.inl e3), e4⟩
  · have := M.lm j hj
    exact ⟨this.1, this.2.imp (fun h => bit_or.2 (.inl h)) id⟩
  · rcases bit_or.1 hj with h | rfl
    · exact M.ml j h
    · exact ⟨hi, .inr ⟨o, ho, hfl⟩⟩
  · rcases bit_or.1 hj with h | rfl
    · exact bit_or.2 (.inl (M.mdn j k h hk))
    · exact bit_or.2 (.inl (sub_or hanc hk))
  · rcases bit_or.1 hmj with h | rfl
    · obtain ⟨v', e1, e2⟩ := M.val j o' hj hfl' h hLj
      refine ⟨v', ?_, e2.mono (M.oeval hf ho hi hm (put_tmps _ _ _) (M.ml j h).1 hj (.inl h)) fun _ h => h⟩
      rw [put_tmps, putT_comm (nd j o' hj (Mix.ne h hm)), e1]
    · rw [ho] at hj
      simp only [Option.some.injEq] at hj
      subst hj
      exact ⟨den ρ x, by rw [put_tmps, putT_same], hV.mono (M.oeval hf ho hi hm (put_tmps _ _ _) hi ho (.inr rfl)) fun _ h => h⟩
  · obtain ⟨hmj, hne⟩ := bit_false hmj
    obtain ⟨u1, u2⟩ := M.alc j o' hjd hj hal hmj
    refine ⟨fun t ht => ?_, fun hl => ?_⟩
    · rw [show ({ σ with slots := sl2 } : St).slots = sl2 from rfl, putS_get hp fun hd => nd j o' hj hne t hd ht]
      exact u1 t ht
    · obtain ⟨t, z, e1, e2, e3, e4⟩ := u2 hl
      exact ⟨t, z, e1, e2, by rw [put_tmps, putT_comm (nd j o' hj hne), e3], e4⟩

/-- All that may be planned is planned. -/
theorem mixFl_spec (hC : C.Sound) (hf : Facts opsA ds d a1) (hB : ∀ i, B.contains i = true → ∃ ty c, rget rs0 i = .blk ty c) {ph0 : Bool} (hph : ph0 = true → σ.res = rs0) {k : Nat → List S → Prop} :
    ∀ (l : List Oper) (i m : Nat) (sl : List S) (b : Act), (∀ j o, l[j]? = some o → opsA[i + j]? = some o ∧ i + j < d) → Mix C opsA ds d a1 B rs0 ρs w0 F0 m { σ with slots := sl } L ρ fps a b w gb →
      mixFl C ds a1 (keepR B 0 rs0) rs0 ph0 (idxL i l) m sl k →
      ∃ m' sl' b', Mix C opsA ds d a1 B rs0 ρs w0 F0 m' { σ with slots := sl' } L ρ fps a b' w gb ∧ k m' sl' ∧ (∀ x, m.testBit x = true → m'.testBit x = true) ∧ (∀ x, m'.testBit x = true → m.testBit x = true ∨ (i ≤ x ∧ flA opsA x)) ∧
        ∀ j o, l[j]? = some o → isFl o = true → (∀ x, (ancAt ds (i + j)).testBit x = true → m'.testBit x = true) → m'.testBit (i + j) = true
  | [], i, m, sl, b, hl, M, h => ⟨m, sl, b, M, h, fun _ h => h, fun _ h => .inl h, fun j o hj => by simp at hj⟩
  | o :: l, i, m, sl, b, hl, M, h => by
    have hl' : ∀ j o', l[j]? = some o' → opsA[i + 1 + j]? = some o' ∧ i + 1 + j < d := fun j o' hj => by
      have := hl (j + 1) o' (by simpa using hj)
      rwa [show i + (j + 1) = i + 1 + j by omega] at this
    obtain ⟨ho, hi⟩ := hl 0 o (by simp)
    rw [Nat.add_zero] at ho hi
    simp only [idxL, mixFl] at h
    split at h
    · rename_i hc
      simp only [Bool.and_eq_true, Bool.not_eq_true', beq_iff_eq] at hc
      obtain ⟨⟨hfl, hm⟩, hanc⟩ := hc
      split at h
      · exact h.elim
      · rename_i hcond
        split at h
        · rename_i q x new hop
          split at h
          · rename_i hnew
            have hnew : new = [] := by simpa using hnew
            subst hnew
            rw [putK_eq] at h
            split at h
            · rename_i sl2 hp
              obtain ⟨hq, h⟩ := reqO_iff h
              have hpr : ∀ y, prS a1 B rs0 i y → rget ({ σ with slots := sl } : St).res y = rget rs0 y := fun y hy => by
                unfold prS at hy
                split at hy
                · rename_i ha
                  have : ph0 = true := by
                    cases hh : ph0 with
                    | true => rfl
                    | false => rw [ha, hh] at hcond; simp at hcond
                  show rget σ.res y = _
                  rw [hph this]
                · exact M.prt y hy
              obtain ⟨v1, v2⟩ := vst_of (rs0 := rs0) (p := prS a1 B rs0 i) hC hfl hop hq M.rep.1 (fun y hy => by
                unfold prS
                split at hy
                · rename_i ha; rw [if_pos ha, if_pos ha]; exact ⟨hy, rfl⟩
                · rename_i ha; rw [if_neg ha, if_neg ha]; exact keepR_known hB y hy) M.rep.2.1 hpr
              have M2 := M.addFl hf ho hi hfl hm hanc v1 v2 hp
              obtain ⟨m', sl', b', r1, r2, r3, r4, r5⟩ := mixFl_spec hC hf hB hph l (i + 1) _ sl2 _ hl' M2 h
              refine ⟨m', sl', b', r1, r2, fun x hx => r3 x (bit_or.2 (.inl hx)), fun x hx => ?_, fun j o' hj hfl' hx => ?_⟩
              · rcases r4 x hx with h | ⟨h1, h2⟩
                · rcases bit_or.1 h with h | rfl
                  · exact .inl h
                  · exact .inr ⟨Nat.le_refl _, o, ho, hfl⟩
                · exact .inr ⟨by omega, h2⟩
              · cases j with
                | zero => exact r3 _ (bit_or.2 (.inr rfl))
                | succ j =>
                  have := r5 j o' (by simpa using hj) hfl' (by rw [show i + 1 + j = i + (j + 1) by omega]; exact hx)
                  rwa [show i + 1 + j = i + (j + 1) by omega] at this
            · exact h.elim
          · exact h.elim
        · exact h.elim
    · rename_i hc
      obtain ⟨m', sl', b', r1, r2, r3, r4, r5⟩ := mixFl_spec hC hf hB hph l (i + 1) m sl b hl' M h
      refine ⟨m', sl', b', r1, r2, r3, fun x hx => (r4 x hx).imp id fun h => ⟨by omega, h.2⟩, fun j o' hj hfl' hx => ?_⟩
      cases j with
      | zero =>
        simp only [List.getElem?_cons_zero, Option.some.injEq] at hj
        subst hj
        rw [Nat.add_zero] at hx ⊢
        cases hmi : m.testBit i with
        | true => exact r3 i hmi
        | false =>
          exfalso
          refine hc ?_
          simp only [Bool.and_eq_true, Bool.not_eq_true', beq_iff_eq]
          refine ⟨⟨hfl', hmi⟩, Nat.eq_of_testBit_eq fun x => ?_⟩
          rw [Nat.testBit_or]
          cases hax : (ancAt ds i).testBit x with
          | false => simp
          | true =>
            have hlt := (hf.at' i o ho).1 x hax
            rcases r4 x (hx x hax) with h | ⟨h, _⟩
            · simp [h]
            · omega
      | succ j =>
        have := r5 j o' (by simpa using hj) hfl' (by rw [show i + 1 + j = i + (j + 1) by omega]; exact hx)
        rwa [show i + 1 + j = i + (j + 1) by omega] at this

/-- What was allotted is taken up. -/
theorem Mix.addAl (hC : C.Sound) (hf : Facts opsA ds d a1) (hB : ∀ i, B.contains i = true → ∃ ty c, rget rs0 i = .blk ty c) (M : Mix C opsA ds d a1 B rs0 ρs w0 F0 m σ L ρ fps a b w gb) {i : Nat} {o : Oper} {t : Nat} {z : V} {sl2 : List S} (ho : opsA[i]? = some o) (hi : i < d)
    (hal : isAl (ancAt ds i) o = true) (hm : m.testBit i = false) (hL : L i = true) (ha1 : ∀ x, a1.testBit x = true → L x = true) (hop : o.op = .alloc t) (hz : C.Z t = some z) (hp : putS σ.slots o.dst (.v (.lp σ.res.length 0)) = some sl2) :
    ∃ ρ' fps', Mix C opsA ds d a1 B rs0 ρs w0 F0 (m ||| 2 ^ i) { σ with slots := sl2, res := addR σ.res [.blk t z] } L ρ' fps' a b w gb := by
  obtain ⟨_, u2⟩ := M.alc i o hi ho hal hm
  obtain ⟨t', z', e1, e2, e3, e4, e5, e6⟩ := u2 hL
  rw [hop] at e1
  simp only [Op.alloc.injEq] at e1
  subst e1
  rw [hz] at e2
  simp only [Option.some.injEq] at e2
  subst e2
  obtain ⟨_, _, _, hz3, hz4, _⟩ := hC.z t z hz
  obtain ⟨H, G⟩ := M.rep.2.1.adopt hz3 hz4 e4 e5 e6
  have nd : ∀ j o', opsA[j]? = some o' → j ≠ i → ∀ t, o.dst = some t → o'.dst = some t → False := fun j o' hj hne t ht e => hne (hf.dist j i o' o t hj ho e ht)
  have kn : known (addR σ.res [.blk t z]) σ.res.length := by unfold known; rw [addR1_get, if_pos rfl]; simp
  have kold : ∀ k, known (addR σ.res [.blk t z]) k → k ≠ σ.res.length → known σ.res k := fun k hk hne => by
    unfold known at hk ⊢
    rwa [addR1_get, if_neg hne] at hk
  refine ⟨_, _, ⟨?_, H, ?_⟩, M.good.trans G, M.near.mono fun t ⟨i', o', e1, e2, e3, e4⟩ => ⟨i', o', e1, e2, bit_or.2 (.inl e3), e4⟩, fun j hj => ?_, fun j hj => ?_, fun j k hj hk => ?_, fun j o' hj hfl' hmj hLj => ?_, fun j o' hjd hj hal' hmj => ?_,
    fun j k h1 h2 h3 h4 h5 h6 => M.inj j k h1 h2 h3 h4 (bit_false h5).1 (bit_false h6).1, fun k hk => ?_, fun ⟨x, h1, h2⟩ => by rw [ha1 x h1] at h2; simp at h2⟩
  · exact ((M.rep.1.env G.2 G.1).putS (x := .pointer (some ⟨gb i, 0, none⟩)) hp fun _ _ _ _ => ⟨by simp [den, Env.setNum], kn⟩).tmps (by rw [put_tmps, e3])
  · obtain ⟨q1, q2⟩ := defs_env M.rep.2.2.2 G.1 G.2
    exact ⟨M.rep.2.2.1.trans q1.symm, q2⟩
  · have := M.lm j hj
    exact ⟨this.1, this.2.imp (fun h => bit_or.2 (.inl h)) id⟩
  · rcases bit_or.1 hj with h | rfl
    · exact M.ml j h
    · exact ⟨hi, .inl hL⟩
  · rcases bit_or.1 hj with h | rfl
    · exact bit_or.2 (.inl (M.mdn j k h hk))
    · rw [(al_kind hal).2.2.2] at hk; simp at hk
  · rcases bit_or.1 hmj with h | rfl
    · obtain ⟨v', e1, e2⟩ := M.val j o' hj hfl' h hLj
      exact ⟨v', e1, e2.mono (fun _ _ => rfl) fun w' hw => hw.mono G⟩
    · rw [hL] at hLj; simp at hLj
  · obtain ⟨hmj, hne⟩ := bit_false hmj
    obtain ⟨u1, u2⟩ := M.alc j o' hjd hj hal' hmj
    refine ⟨fun t ht => ?_, fun hl => ?_⟩
    · show sget sl2 t = _
      rw [putS_get hp fun hd => nd j o' hj hne t hd ht]
      exact u1 t ht
    · obtain ⟨t, z, f1, f2, f3, f4, f5, f6⟩ := u2 hl
      refine ⟨t, z, f1, f2, f3, f4, f5, fun k hk => ?_⟩
      by_cases e : k = σ.res.length
      · simp only [if_pos e]
        exact fun e' => hne (M.inj j i ⟨o', hj, hal'⟩ ⟨o, ho, hal⟩ hl hL hmj hm e')
      · simp only [if_neg e]
        exact f6 k (kold k hk e)
  · have h1 := M.prt k hk
    have : known σ.res k := by unfold known; rw [h1]; exact prot_known hB hk
    have := rget_lt this
    show rget (addR σ.res [.blk t z]) k = _
    rw [addR1_get, if_neg (by omega), h1]

theorem mixAd_spec (hC : C.Sound) (hf : Facts opsA ds d a1) (hB : ∀ i, B.contains i = true → ∃ ty c, rget rs0 i = .blk ty c) {sel : Nat} {k : Nat → St → Prop} (ha1 : ∀ x, a1.testBit x = true → L x = true) :
    ∀ (l : List Oper) (i m : Nat) (σ : St) (ρ : Env) (fps : Nat → Nat → Prop), (∀ j o, l[j]? = some o → opsA[i + j]? = some o ∧ i + j < d) → (∀ j, sel.testBit j = true → L j = true ∨ ¬ j < d) → Mix C opsA ds d a1 B rs0 ρs w0 F0 m σ L ρ fps a b w gb → mixAd C ds sel (idxL i l) m σ k →
      ∃ m' σ' ρ' fps', Mix C opsA ds d a1 B rs0 ρs w0 F0 m' σ' L ρ' fps' a b w gb ∧ k m' σ' ∧ (∀ x, m.testBit x = true → m'.testBit x = true) ∧ ∀ x, m'.testBit x = true → m.testBit x = true ∨ alA opsA ds x
  | [], i, m, σ, ρ, fps, hl, hs, M, h => ⟨m, σ, ρ, fps, M, h, fun _ h => h, fun _ h => .inl h⟩
  | o :: l, i, m, σ, ρ, fps, hl, hs, M, h => by
    have hl' : ∀ j o', l[j]? = some o' → opsA[i + 1 + j]? = some o' ∧ i + 1 + j < d := fun j o' hj => by
      have := hl (j + 1) o' (by simpa using hj)
      rwa [show i + (j + 1) = i + 1 + j by omega] at this
    obtain ⟨ho, hi⟩ := hl 0 o (by simp)
    rw [Nat.add_zero] at ho hi
    simp only [idxL, mixAd] at h
    split at h
    · rename_i hc
      simp only [Bool.and_eq_true, Bool.not_eq_true'] at hc
      obtain ⟨⟨hal, hsel⟩, hm⟩ := hc
      split at h
      · rename_i t hop
        split at h
        · rename_i z hz
          rw [putK_eq] at h
          split at h
          · rename_i sl2 hp
            have hL : L i = true := (hs i hsel).elim id fun h => absurd hi h
            obtain ⟨ρ', fps', M2⟩ := M.addAl hC hf hB ho hi hal hm hL ha1 hop hz hp
            obtain ⟨m', σ', ρ'', fps'', r1, r2, r3, r4⟩ := mixAd_spec hC hf hB ha1 l (i + 1) _ _ ρ' fps' hl' hs M2 h
            refine ⟨m', σ', ρ'', fps'', r1, r2, fun x hx => r3 x (bit_or.2 (.inl hx)), fun x hx => ?_⟩
            rcases r4 x hx with h | h
            · rcases bit_or.1 h with h | rfl
              · exact .inl h
              · exact .inr ⟨o, ho, hal⟩
            · exact .inr h
          · exact h.elim
        · exact h.elim
      · exact h.elim
    · exact mixAd_spec hC hf hB ha1 l (i + 1) m σ ρ fps hl' hs M h

/-- What reads is done. -/
theorem Mix.doFl {ro : Option Nat} {next : Act → World → Prop} {Q : Exit → Act → World → Prop} (hf : Facts opsA ds d a1) (M : Mix C opsA ds d a1 B rs0 ρs w0 F0 m σ L ρ fps a b w gb) {i : Nat} {o : Oper} (ho : opsA[i]? = some o) (hi : i < d) (hfl : isFl o = true) (hm : m.testBit i = true) (hL : L i = false)
    (hanc : ∀ k, (ancAt ds i).testBit k = true → L k = true) (hd : ro ≠ none → notDefer o) (hn : ∀ a' w', Mix C opsA ds d a1 B rs0 ρs w0 F0 m σ (ins L i) ρ fps a' b w' gb → next a' w') : o.wpIn (FF C.P ro) 0 C.P a w next Q := by
  obtain ⟨v, e1, e2⟩ := M.val i o ho hfl hm hL
  have hop : ∀ y ∈ o.op.operands, a.eval y = b.eval y := fun y hy => M.near.eval fun t e => by
    subst e
    rintro ⟨i', o', h1, h2, h3, h4⟩
    have := hanc i' (hf.opnd i o t hi ho hy i' o' (M.ml i' h3).1 h1 h2)
    rw [h4] at this; simp at this
  have hcnd : cnd w0 F0 rs0 (prS a1 B rs0 i) ρ σ.res w := ⟨ρ, fps, σ.res, M.rep.2.1, Good.refl _ _, fun y hy => by
    unfold prS at hy
    split at hy
    · rename_i ha; rw [M.ph0 ⟨i, ha, hL⟩]
    · exact M.prt y hy⟩
  refine yields_in (.inl hfl) hd (e2 a w hop hcnd) fun v' w' ⟨hv, hw⟩ => hn _ _ ?_
  subst hv
  have insF : ∀ {j}, ins L i j = false → L j = false := fun h => by unfold ins at h; simp at h; exact h.2
  have insT : ∀ {j}, ins L i j = true → j = i ∨ L j = true := fun h => by unfold ins at h; simpa using h
  refine ⟨⟨M.rep.1, M.rep.2.1.below hw, M.rep.2.2⟩, M.good, ⟨by rw [put_defers]; exact M.near.1, by rw [put_size]; exact M.near.2.1, fun t ht => ?_⟩, fun j hj => ?_, fun j hj => ?_, M.mdn, fun j o' hj hfl' hmj hLj => M.val j o' hj hfl' hmj (insF hLj), fun j o' hjd hj hal hmj => ?_, fun j k h1 h2 h3 h4 h5 h6 => ?_, M.prt, fun ⟨x, h1, h2⟩ => M.ph0 ⟨x, h1, insF h2⟩⟩
  · by_cases e : o.dst = some t
    · rw [put_tmps, ← e1, e]
      exact getD_putT_self M.near.2.1
    · rw [put_tmps, getD_putT e]
      refine M.near.2.2 t fun ⟨i', o', h1, h2, h3, h4⟩ => ht ⟨i', o', h1, h2, h3, ?_⟩
      unfold ins
      have : i' ≠ i := fun e' => by
        subst e'
        rw [ho] at h1
        simp only [Option.some.injEq] at h1
        subst h1
        exact e h2
      simp [this, h4]
  · rcases insT hj with rfl | h
    · exact ⟨hi, .inl hm⟩
    · exact M.lm j h
  · have := M.ml j hj
    exact ⟨this.1, this.2.imp (fun h => by simp [ins, h]) id⟩
  · obtain ⟨u1, u2⟩ := M.alc j o' hjd hj hal hmj
    refine ⟨u1, fun hl => ?_⟩
    rcases insT hl with rfl | h
    · rw [hm] at hmj; simp at hmj
    · obtain ⟨t, z, f1, f2, f3, f4, f5, f6⟩ := u2 h
      exact ⟨t, z, f1, f2, f3, by rw [hw.block _ (Array.getElem?_eq_some_iff.1 f4).1]; exact f4, f5, f6⟩
  · have h7 : L j = true := (insT h3).elim (fun e => by rw [e, hm] at h5; simp at h5) id
    have h8 : L k = true := (insT h4).elim (fun e => by rw [e, hm] at h6; simp at h6) id
    exact M.inj j k h1 h2 h7 h8 h5 h6

/-- What allots is done. -/
theorem Mix.doAl {ro : Option Nat} {next : Act → World → Prop} {Q : Exit → Act → World → Prop} (hC : C.Sound) (hf : Facts opsA ds d a1) (M : Mix C opsA ds d a1 B rs0 ρs w0 F0 m σ L ρ fps a b w gb) {i : Nat} {o : Oper} (ho : opsA[i]? = some o) (hi : i < d) (hal : isAl (ancAt ds i) o = true) (hL : L i = false)
    (hz : alZ C o = true) (hd : ro ≠ none → notDefer o) (hn : ∀ a' b' w' gb', Mix C opsA ds d a1 B rs0 ρs w0 F0 m σ (ins L i) ρ fps a' b' w' gb' → next a' w') : o.wpIn (FF C.P ro) 0 C.P a w next Q := by
  obtain ⟨hg, ⟨t0, hdst⟩, ⟨t, hop⟩, _⟩ := al_kind hal
  have hm : m.testBit i = false := by
    cases h : m.testBit i with
    | false => rfl
    | true =>
      rcases (M.ml i h).2 with h' | h'
      · rw [hL] at h'; simp at h'
      · exact (fl_al h' ⟨o, ho, hal⟩).elim
  obtain ⟨z, hz⟩ : ∃ z, C.Z t = some z := by
    unfold alZ at hz
    rw [hop] at hz
    simp only at hz
    split at hz
    · rename_i z hz'; exact ⟨z, hz'⟩
    · simp at hz
  obtain ⟨_, _, _, hz3, _, _⟩ := hC.z t z hz
  have hno : ¬ known σ.res σ.res.length := fun h => by have := rget_lt h; omega
  have hy := (opRO_spec (a := b) (o := o) (q := none) (x := .lp σ.res.length 0) (new := [.blk t z]) (nid := σ.res.length) (ch := []) hC (by rw [hop]; simp [opRO, hz]) M.rep.1 M.rep.2.1 rfl trivial (fun k hk => by
    simp only [List.length_singleton, Nat.lt_one_iff] at hk; subst hk; exact hno)).1
  have he : execOp a.eval o = execOp b.eval o := by simp [execOp, hop]
  have hy' : Yields C.P o a w (Gives (known σ.res) ρ σ.res.length (.lp σ.res.length 0) [.blk t z] w0 F0 w) := by
    unfold Yields at hy ⊢; rw [he]; exact hy
  refine yields_in (.inr ⟨_, hal⟩) hd hy' fun v w' ⟨ρ', ⟨hw, hag, fp, g1, g2⟩, hv, _⟩ => ?_
  have g0 := g1 0 (by simp)
  simp only [rget, Nat.add_zero] at g0
  obtain ⟨⟨_, _, g3, g4⟩, g5⟩ := g0
  obtain ⟨g6, g7⟩ := g5 _ g3
  rw [cells_agree (N := fun _ => False) (ρ := Env.zero) (fun _ h => h.elim) z hz3] at g4
  have hv : v = .pointer (some ⟨ρ'.num σ.res.length, 0, none⟩) := by rw [hv]; simp [den]
  generalize ρ'.num σ.res.length = g at *
  subst hv
  have nd : ∀ j o', opsA[j]? = some o' → j ≠ i → ∀ t, o.dst = some t → o'.dst = some t → False := fun j o' hj hne t ht e => hne (hf.dist j i o' o t hj ho e ht)
  have insF : ∀ {j}, ins L i j = false → L j = false := fun h => by unfold ins at h; simp at h; exact h.2
  have insT : ∀ {j}, ins L i j = true → j = i ∨ L j = true := fun h => by unfold ins at h; simpa using h
  have hund := (M.alc i o hi ho hal hm).1
  refine hn _ (b.put o.dst (.pointer (some ⟨g, 0, none⟩))) w' (fun j => if j = i then g else gb j) ⟨⟨M.rep.1.putUnd hund, M.rep.2.1.below hw, by rw [put_defers]; exact M.rep.2.2.1, M.rep.2.2.2⟩, M.good, (M.near.mono fun t ⟨i', o', e1, e2, e3, e4⟩ => ⟨i', o', e1, e2, e3, by
    have := Mix.ne e3 hm
    simp [ins, this, e4]⟩).put _ _, fun j hj => ?_, fun j hj => ?_, M.mdn, fun j o' hj hfl' hmj hLj => ?_, fun j o' hjd hj hal' hmj => ?_, fun j k h1 h2 h3 h4 h5 h6 h7 => ?_, M.prt, fun ⟨x, h1, h2⟩ => M.ph0 ⟨x, h1, insF h2⟩⟩
  · rcases insT hj with rfl | h
    · exact ⟨hi, .inr ⟨o, ho, hal⟩⟩
    · exact M.lm j h
  · have := M.ml j hj
    exact ⟨this.1, this.2.imp (fun h => by simp [ins, h]) id⟩
  · obtain ⟨v', e1, e2⟩ := M.val j o' hj hfl' hmj (insF hLj)
    refine ⟨v', ?_, e2.mono (M.oeval hf ho hi hm (put_tmps _ _ _) (M.ml j hmj).1 hj (.inl hmj)) fun _ h => h⟩
    rw [put_tmps, putT_comm (nd j o' hj (Mix.ne hmj hm)), e1]
  · obtain ⟨u1, u2⟩ := M.alc j o' hjd hj hal' hmj
    refine ⟨u1, fun hl => ?_⟩
    by_cases e : j = i
    · subst e
      rw [ho] at hj
      simp only [Option.some.injEq] at hj
      subst hj
      refine ⟨t, z, hop, hz, ?_, ?_, ?_, fun k hk => ?_⟩
      · simp only [if_true]; rw [put_tmps, putT_same]
      · simpa using g4
      · simp only [if_true]; exact Nat.le_trans M.rep.2.1.old g6
      · simp only [if_true]
        intro h
        have := M.rep.2.1.lt k g hk h
        omega
    · have hl : L j = true := (insT hl).elim (fun h => absurd h e) id
      obtain ⟨t', z', f1, f2, f3, f4, f5, f6⟩ := u2 hl
      simp only [if_neg e]
      exact ⟨t', z', f1, f2, by rw [put_tmps, putT_comm (nd j o' hj e), f3], by rw [hw.block _ (Array.getElem?_eq_some_iff.1 f4).1]; exact f4, f5, f6⟩
  · have blt : ∀ x, alA opsA ds x → ins L i x = true → m.testBit x = false → x ≠ i → gb x < w.heap.size ∧ L x = true := fun x ⟨ox, hx1, hx2⟩ hx3 hx4 hx5 => by
      have hl : L x = true := (insT hx3).elim (fun h => absurd h hx5) id
      obtain ⟨t', z', f1, f2, f3, f4, f5, f6⟩ := (M.alc x ox (M.lm x hl).1 hx1 hx2 hx4).2 hl
      exact ⟨(Array.getElem?_eq_some_iff.1 f4).1, hl⟩
    by_cases e : j = i <;> by_cases e' : k = i
    · rw [e, e']
    · simp only [if_pos e, if_neg e'] at h7
      have := (blt k h2 h4 h6 e').1; omega
    · simp only [if_neg e, if_pos e'] at h7
      have := (blt j h1 h3 h5 e).1; omega
    · simp only [if_neg e, if_neg e'] at h7
      exact M.inj j k h1 h2 (blt j h1 h3 h5 e).2 (blt k h2 h4 h6 e').2 h5 h6 h7

theorem alU_spec {sl : List S} : ∀ {l : List (Nat × Oper)}, alU ds m sl l = true → ∀ p ∈ l, isAl (ancAt ds p.1) p.2 = true → m.testBit p.1 = false → ∀ t, p.2.dst = some t → sget sl t = .und
  | [], _, p, hp, _, _, _, _ => by simp at hp
  | q :: l, h, p, hp, h1, h2, t, ht => by
    simp only [alU, Bool.and_eq_true] at h
    rcases List.mem_cons.1 hp with rfl | hp
    · have h := h.1
      rw [if_pos (by simp [h1, h2]), ht] at h
      simp only at h
      split at h
      · rename_i hs; exact hs
      · simp at h
    · exact alU_spec h.2 p hp h1 h2 t ht

theorem undL_length : ∀ (l : List (Option Nat × Nat)) (sl : List S), (undL l sl).length = sl.length
  | [], sl => rfl
  | (some t, _) :: l, sl => by simp only [undL]; rw [undL_length l, sset_length]
  | (none, _) :: l, sl => by simp only [undL]; exact undL_length l sl
theorem undL_get (t : Nat) : ∀ (l : List (Option Nat × Nat)) (sl : List S), sget (undL l sl) t = .und ∨ (sget (undL l sl) t = sget sl t ∧ ∀ m, (some t, m) ∉ l)
  | [], sl => .inr ⟨rfl, by simp⟩
  | (none, m) :: l, sl => by
    simp only [undL]
    rcases undL_get t l sl with h | ⟨h1, h2⟩
    · exact .inl h
    · exact .inr ⟨h1, fun m' h => by rcases List.mem_cons.1 h with h | h <;> simp_all⟩
  | (some e, m) :: l, sl => by
    simp only [undL]
    rcases undL_get t l (sset sl e .und) with h | ⟨h1, h2⟩
    · exact .inl h
    · by_cases he : t = e
      · subst he
        left
        rw [h1, sget_sset]
        split
        · rfl
        · rename_i hn
          rw [sget_eq, List.getD_eq_getElem?_getD, List.getElem?_eq_none (by simp at hn; omega)]; rfl
      · refine .inr ⟨by rw [h1, sget_sset, if_neg fun h => he h.1], fun m' h => ?_⟩
        rcases List.mem_cons.1 h with h | h
        · simp only [Prod.mk.injEq, Option.some.injEq] at h; exact he h.1
        · exact h2 m' h

/-- What changes memory is done. -/
theorem Mix.doTo {H : Handler} {ro : Option Nat} {next : Act → World → Prop} {K : Out → St → Prop} {kk : Nat → St → Prop} {xs : List (Nat × Oper)} (hC : C.Sound) (hH : H.OK C.P) (hf : Facts opsA ds d a1) (hB : ∀ i, B.contains i = true → ∃ ty c, rget rs0 i = .blk ty c)
    (M : Mix C opsA ds d a1 B rs0 ρs w0 F0 m σ L ρ fps a b w gb) {i : Nat} {o : Oper} (ho : opsA[i]? = some o) (hi : i < d) (hto : isTo o = true) (hm : m.testBit i = false) (hancL : ∀ k, (ancAt ds i).testBit k = true → L k = true) (hanc : (ancAt ds i ||| m) = m) (hd : ro ≠ none → notDefer o)
    (hxs : ∀ j o', j < d → opsA[j]? = some o' → (j, o') ∈ xs)
    (h : stepS C H noY opsA.toList o { σ with res := roB B 0 σ.res }
        (fun σ' => match backB B 0 σ.res σ'.res with
          | some r => if alU ds (m ||| 2 ^ i) σ'.slots xs then kk (m ||| 2 ^ i) { σ' with res := r } else False
          | none => False)
        (fun v σ' => match backB B 0 σ.res σ'.res with
          | some r => cleanK σ'.slots fun sl => undK (ds.take d) sl fun sl => K (.pan v) { σ' with slots := sl, res := r }
          | none => False))
    (hn : ∀ σ' ρ' fps' a' b' w', kk (m ||| 2 ^ i) σ' → Mix C opsA ds d a1 B rs0 ρs w0 F0 (m ||| 2 ^ i) σ' (ins L i) ρ' fps' a' b' w' gb → next a' w') : o.wpIn (FF C.P ro) 0 C.P a w next (Post ρs rs0 w0 F0 K) := by
  have hkn : ∀ {j}, B.contains j = true → rget σ.res j = rget rs0 j := fun {j} hj => by
    obtain ⟨ty, c, e⟩ := hB j hj
    exact M.prt j ⟨rget_lt (by rw [e]; simp), .inl hj⟩
  have hB' : ∀ j, B.contains j = true → ∃ ty c, rget σ.res j = .blk ty c := fun j hj => by rw [hkn hj]; exact hB j hj
  have h2 := M.rep.2.1.toRo hB'
  have hro := roB_known (res := σ.res) hB'
  have hrep : Rep ρ _ { σ with res := roB B 0 σ.res } w (F1 B σ.res fps) b w :=
    ⟨M.rep.1.env (fun j hj => (hro j).2 hj) (Env.agree.refl _ _), h2, M.rep.2.2.1, fun d hd => ⟨okL_mono (fun j hj => (hro j).2 hj) _ (M.rep.2.2.2 d hd).1, okL_mono (fun j hj => (hro j).2 hj) _ (M.rep.2.2.2 d hd).2⟩⟩
  have key := stepS_spec (ro := ro)
    (next := fun b' w' => ∃ σ' ρ' fps', (match backB B 0 σ.res σ'.res with
          | some r => if alU ds (m ||| 2 ^ i) σ'.slots xs then kk (m ||| 2 ^ i) { σ' with res := r } else False
          | none => False) ∧ Rep ρ' fps' σ' w (F1 B σ.res fps) b' w' ∧ Good ρ (roB B 0 σ.res) ρ' σ'.res)
    (Q := fun e b' w' => ∃ v σ' ρ' fps', e = .panic [{ v := den ρ' v, recovered := false }] ∧ (match backB B 0 σ.res σ'.res with
          | some r => cleanK σ'.slots fun sl => undK (ds.take d) sl fun sl => K (.pan v) { σ' with slots := sl, res := r }
          | none => False) ∧ ok (known σ'.res) v ∧ Rep ρ' fps' σ' w (F1 B σ.res fps) b' w' ∧ Good ρ (roB B 0 σ.res) ρ' σ'.res)
    hC hH noY_ok hd h hrep (fun σ' ρ' fps' a' w' k1 k2 k3 => ⟨σ', ρ', fps', k1, k2, k3⟩) (fun v σ' ρ' fps' w' k1 k2 k3 k4 => ⟨v, σ', ρ', fps', rfl, k1, k2, k3, k4⟩)
  have hw := key.2
  rw [if_pos (by simp [Region.wanted, (to_kind hto).1])] at hw
  have insF : ∀ {j}, ins L i j = false → j ≠ i ∧ L j = false := fun h => by unfold ins at h; simpa using h
  have insT : ∀ {j}, ins L i j = true → j = i ∨ L j = true := fun h => by unfold ins at h; simpa using h
  refine opc (N := NS opsA m L) hto M.near (fun t ht => ?_) ?_ ?_ ?_ hw
  · rintro ⟨i', o', h1, h2, h3, h4⟩
    have := hancL i' (hf.opnd i o t hi ho ht i' o' (M.ml i' h3).1 h1 h2)
    rw [h4] at this; simp at this
  · rintro a' b' w' hab ⟨u, hu⟩ ⟨σ', ρ', fps', k1, k2, k3⟩
    split at k1
    case h_2 => exact k1.elim
    rename_i r hr
    split at k1
    case isFalse => exact k1.elim
    rename_i halu
    obtain ⟨fps'', q1, q2, q3, q4, q5⟩ := HRep.unRo M.rep.2.1 hB' k2.2.1 k3 hr
    rw [put_tmps] at hu
    have nd : ∀ j o', opsA[j]? = some o' → j ≠ i → ∀ t, o.dst = some t → o'.dst = some t → False := fun j o' hj hne t ht e => hne (hf.dist j i o' o t hj ho e ht)
    refine hn _ ρ' fps'' a' b' w' k1 ⟨⟨k2.1.env q3 (Env.agree.refl _ _), q1, k2.2.2.1, fun d hd => ⟨okL_mono q3 _ (k2.2.2.2 d hd).1, okL_mono q3 _ (k2.2.2.2 d hd).2⟩⟩, M.good.trans q2,
      hab.mono fun t ⟨i', o', e1, e2, e3, e4⟩ => ⟨i', o', e1, e2, bit_or.2 (.inl e3), by have := Mix.ne e3 hm; simp [ins, this, e4]⟩, fun j hj => ?_, fun j hj => ?_, fun j k hj hk => ?_, fun j o' hj hfl' hmj hLj => ?_, fun j o' hjd hj hal hmj => ?_,
      fun j k h1 h2 h3 h4 h5 h6 => ?_, fun k hk => ?_, fun ⟨x, h1, h2⟩ => ?_⟩
    · rcases insT hj with rfl | h
      · exact ⟨hi, .inl (bit_or.2 (.inr rfl))⟩
      · have := M.lm j h
        exact ⟨this.1, this.2.imp (fun h => bit_or.2 (.inl h)) id⟩
    · rcases bit_or.1 hj with h | rfl
      · have := M.ml j h
        exact ⟨this.1, this.2.imp (fun h => by simp [ins, h]) id⟩
      · exact ⟨hi, .inl (by simp [ins])⟩
    · rcases bit_or.1 hj with h | rfl
      · exact bit_or.2 (.inl (M.mdn j k h hk))
      · exact bit_or.2 (.inl (sub_or hanc hk))
    · obtain ⟨hne, hLj⟩ := insF hLj
      have hmj : m.testBit j = true := (bit_or.1 hmj).elim id fun e => absurd e hne
      obtain ⟨v', e1, e2⟩ := M.val j o' hj hfl' hmj hLj
      refine ⟨v', ?_, e2.mono (M.oeval hf ho hi hm hu (M.ml j hmj).1 hj (.inl hmj)) fun _ h => h.mono q2⟩
      rw [hu, putT_comm (nd j o' hj hne), e1]
    · have hal' := alU_spec halu (j, o') (hxs j o' hjd hj) hal hmj
      obtain ⟨hmj, hne⟩ := bit_false hmj
      obtain ⟨u1, u2⟩ := M.alc j o' hjd hj hal hmj
      refine ⟨hal', fun hl => ?_⟩
      have hl : L j = true := (insT hl).elim (fun e => absurd e hne) id
      obtain ⟨t, z, f1, f2, f3, f4, f5, f6⟩ := u2 hl
      obtain ⟨p1, p2⟩ := q4 _ (Array.getElem?_eq_some_iff.1 f4).1 f6
      exact ⟨t, z, f1, f2, by rw [hu, putT_comm (nd j o' hj hne), f3], by rw [p1]; exact f4, f5, p2⟩
    · obtain ⟨h5, n5⟩ := bit_false h5
      obtain ⟨h6, n6⟩ := bit_false h6
      exact M.inj j k h1 h2 ((insT h3).elim (fun e => absurd e n5) id) ((insT h4).elim (fun e => absurd e n6) id) h5 h6
    · have h1 := M.prt k hk
      have : prot B σ.res k := by
        have : known σ.res k := by unfold known; rw [h1]; exact prot_known hB hk
        exact ⟨rget_lt this, by rw [h1]; exact hk.2⟩
      show rget r k = _
      rw [q5 k this, h1]
    · obtain ⟨_, h2⟩ := insF h2
      rw [hancL x (hf.ta1 i o hi ho hto x h1)] at h2; simp at h2
  · rintro c w' ⟨v, σ', ρ', fps', e, k1, k2, k3, k4⟩
    split at k1
    case h_2 => exact k1.elim
    rename_i r hr
    obtain ⟨fps'', q1, q2, q3, q4, q5⟩ := HRep.unRo M.rep.2.1 hB' k3.2.1 k4 hr
    rw [cleanK_eq, undK_eq] at k1
    refine ⟨.pan v, _, ρ', fps'', ⟨Exit.panic.inj e, ok_mono q3 _ k2⟩, k1, ⟨⟨?_, fun t => ?_⟩, q1, ?_, fun d hd => ⟨okL_mono q3 _ (k3.2.2.2 d hd).1, okL_mono q3 _ (k3.2.2.2 d hd).2⟩⟩, M.good.trans q2⟩
    · rw [M.near.2.1]
      show _ = (undL (ds.take d) (clean σ'.slots)).length
      rw [undL_length]; exact k3.1.clean.1
    · show SlotOK _ _ _ _ (sget (undL (ds.take d) (clean σ'.slots)) t)
      rcases undL_get t (ds.take d) (clean σ'.slots) with h | ⟨h1, h2⟩
      · rw [h]; trivial
      · rw [h1, M.near.2.2 t]
        · exact (SlotOK.plain (clean_plain σ'.slots t) (k3.1.clean.2 t)).env q3 (Env.agree.refl _ _)
        · rintro ⟨i', o', e1, e2, e3, e4⟩
          refine h2 (ancAt ds i') (List.mem_of_getElem? (i := i') ?_)
          rw [List.getElem?_take, if_pos (M.ml i' e3).1, hf.dsat i' o' e1, e2]
    · rw [M.near.1]; exact k3.2.2.1
  · rintro ⟨a', w', v, σ', ρ', fps', e, _⟩
    simp at e
end
end Go.Sx
/- The executor: regions whose order is drawn, with calls that change memory: any order. No condition. -/
set_option linter.unusedVariables false
set_option linter.unusedSimpArgs false
namespace Go.Sx
open Go.RowKit (Below)

theorem idxL_pair : ∀ (l : List Oper) (i : Nat), (idxL i l).Pairwise fun p q => p.1 < q.1
  | [], i => by simp [idxL]
  | o :: l, i => by
    simp only [idxL, List.pairwise_cons]
    exact ⟨fun p hp => by have := (idxL_mem.1 hp).1; omega, idxL_pair l (i + 1)⟩
theorem idxL_take {opsA : Array Oper} {d : Nat} {p : Nat × Oper} : p ∈ idxL 0 (opsA.toList.take d) ↔ p.1 < d ∧ opsA[p.1]? = some p.2 := by
  rw [idxL_mem]
  simp only [Nat.zero_le, Nat.sub_zero, true_and, List.getElem?_take]
  constructor
  · intro h
    split at h
    · rename_i hlt; exact ⟨hlt, by simpa using h⟩
    · simp at h
  · rintro ⟨h1, h2⟩
    rw [if_pos h1]; simpa using h2
theorem take_at {opsA : Array Oper} {d j : Nat} {o : Oper} (h : (opsA.toList.take d)[j]? = some o) : opsA[0 + j]? = some o ∧ 0 + j < d := by
  rw [List.getElem?_take] at h
  split at h
  · rename_i hlt; rw [Nat.zero_add]; exact ⟨by simpa using h, hlt⟩
  · simp at h
theorem to_al {opsA : Array Oper} {ds : List (Option Nat × Nat)} {i : Nat} {o : Oper} (ho : opsA[i]? = some o) (ht : isTo o = true) (h : alA opsA ds i) : False := by
  obtain ⟨o', h1, h2⟩ := h
  rw [ho] at h1
  simp only [Option.some.injEq] at h1
  subst h1
  obtain ⟨_, _, ⟨t, h3⟩, _⟩ := al_kind h2
  exact (to_kind ht).2.1 t h3
theorem to_fl {opsA : Array Oper} {i : Nat} {o : Oper} (ho : opsA[i]? = some o) (ht : isTo o = true) (h : flA opsA i) : False := by
  obtain ⟨o', h1, h2⟩ := h
  rw [ho] at h1
  simp only [Option.some.injEq] at h1
  subst h1
  rw [(to_kind ht).2.2] at h2; simp at h2
theorem Near.eq {N : Nat → Prop} {a b : Act} (h : Near N a b) (hN : ∀ t, ¬ N t) : a = b := by
  obtain ⟨ta, da⟩ := a
  obtain ⟨tb, db⟩ := b
  obtain ⟨h1, h2, h3⟩ := h
  simp only at h1 h2
  subst h1
  congr 1
  refine Array.ext h2 fun i g1 g2 => ?_
  have := h3 i (hN i)
  simpa [Array.getD_eq_getD_getElem?, g1, g2] using this

section
variable {C : Ctx} {opsA : Array Oper} {ds : List (Option Nat × Nat)} {d a1 : Nat} {B : List Nat} {rs0 : List Res} {ρs : Env} {w0 : World} {F0 : Nat → Prop}

theorem mix_any {H : Handler} {Y : YHandler} {K : Out → St → Prop} {ro : Option Nat} (hC : C.Sound) (hH : H.OK C.P) (hY : YOK C.P Y ρs rs0) (hf : Facts opsA ds d a1) (hB : ∀ i, B.contains i = true → ∃ ty c, rget rs0 i = .blk ty c) (hnd : ro ≠ none → ∀ o ∈ opsA.toList, notDefer o)
    (P : Planned C opsA.toList ds [] [] []) (hz : ∀ i o, i < d → opsA[i]? = some o → alZ C o = true) :
    ∀ (fuel : Nat) (listed : Array Bool) (m : Nat) (σ : St) (ρ : Env) (fps : Nat → Nat → Prop) (a b : Act) (w : World) (gb : Nat → Nat) (l : List (Nat × Oper)), listed.size = opsA.size → cnt listed opsA.size ≤ fuel →
      Mix C opsA ds d a1 B rs0 ρs w0 F0 m σ (fun k => listed.getD k false) ρ fps a b w gb →
      (∀ i, i < d → flA opsA i → (∀ k, (ancAt ds i).testBit k = true → m.testBit k = true) → m.testBit i = true) →
      (∀ i k, listed.getD i false = true → (ancAt ds i).testBit k = true → listed.getD k false = true) →
      (∀ p ∈ l, p.1 < d ∧ opsA[p.1]? = some p.2 ∧ isTo p.2 = true ∧ m.testBit p.1 = false) → (∀ i o, i < d → opsA[i]? = some o → isTo o = true → m.testBit i = false → (i, o) ∈ l) → (l.Pairwise fun p q => p.1 < q.1) →
      mixT C H Y opsA.toList ds d a1 B (keepR B 0 rs0) rs0 (idxL 0 (opsA.toList.take d)) K l m σ →
      wpAnyIn (FF C.P ro) 0 C.P .any opsA (Post ρs rs0 w0 F0 K) fuel listed a w := by
  intro fuel
  have hfin : ∀ (fuel : Nat) (listed : Array Bool) (m : Nat) (σ : St) (ρ : Env) (fps : Nat → Nat → Prop) (a b : Act) (w : World) (gb : Nat → Nat) (l : List (Nat × Oper)), listed.size = opsA.size → cnt listed opsA.size ≤ fuel →
      Mix C opsA ds d a1 B rs0 ρs w0 F0 m σ (fun k => listed.getD k false) ρ fps a b w gb → (∀ k, k < d → listed.getD k false = true) →
      (∀ p ∈ l, p.1 < d ∧ opsA[p.1]? = some p.2 ∧ isTo p.2 = true ∧ m.testBit p.1 = false) →
      mixT C H Y opsA.toList ds d a1 B (keepR B 0 rs0) rs0 (idxL 0 (opsA.toList.take d)) K l m σ →
      wpAnyIn (FF C.P ro) 0 C.P .any opsA (Post ρs rs0 w0 F0 K) fuel listed a w := by
    intro fuel listed m σ ρ fps a b w gb l hs hc M hall hl1 h
    cases l with
    | cons p l =>
      exfalso
      obtain ⟨h1, h2, h3, h4⟩ := hl1 p (by simp)
      rcases (M.lm p.1 (hall p.1 h1)).2 with h | h
      · rw [h4] at h; simp at h
      · exact to_al h2 h3 h
    | nil =>
      simp only [mixT] at h
      obtain ⟨m', σ', ρ', fps', M', hk, _, _⟩ := mixAd_spec hC hf hB (fun x hx => hall x (hf.a1d x hx)) (opsA.toList.take d) 0 m σ ρ fps (fun j o hj => take_at hj) (fun j _ => by
        by_cases hj : j < d
        · exact .inl (hall j hj)
        · exact .inr hj) M h
      split at hk
      case isFalse => exact hk.elim
      have hab : a = b := M'.near.eq fun t ⟨i, o, e1, e2, e3, e4⟩ => by
        have e4 : listed.getD i false = false := e4
        rw [hall i (M'.ml i e3).1] at e4; simp at e4
      have hrep := M'.rep
      rw [← hab] at hrep
      refine tail_spec hC hH hY hnd P d (fun i h1 h2 => hf.tail i h1 (by omega)) (opsA.toList.drop d) d listed fuel σ' ρ' fps' a w rfl (Nat.le_refl _) hs hc hall (fun k hk => ?_) hk hrep M'.good
      cases hh : listed.getD k false with
      | false => rfl
      | true => have := (M.lm k hh).1; omega
  induction fuel with
  | zero =>
    intro listed m σ ρ fps a b w gb l hs hc M clo down hl1 hl2 hl3 h
    refine hfin 0 listed m σ ρ fps a b w gb l hs hc M (fun k hk => ?_) hl1 h
    cases h : listed.getD k false with
    | true => rfl
    | false =>
      have := cnt_set (n := opsA.size) hs (by have := hf.dle; omega) h
      omega
  | succ fuel ih =>
    intro listed m σ ρ fps a b w gb l hs hc M clo down hl1 hl2 hl3 h
    by_cases hall : ∀ k, k < d → listed.getD k false = true
    · exact hfin _ listed m σ ρ fps a b w gb l hs hc M hall hl1 h
    have hdle := hf.dle
    have hready : ∀ i ∈ Region.ready .any opsA listed, i < d ∧ listed.getD i false = false ∧ ∀ k, (ancAt ds i).testBit k = true → listed.getD k false = true := by
      intro i hi
      obtain ⟨h1, o, h2, h3⟩ := mem_ready.1 hi
      have hisz : i < opsA.size := (Array.getElem?_eq_some_iff.1 h2).1
      obtain ⟨p2, p3, p4⟩ := hf.at' i o h2
      have hL : ∀ k, (ancAt ds i).testBit k = true → listed.getD k false = true := fun k hk => by
        obtain ⟨e, e1, e2, e3⟩ := (p3 k).1 hk
        have := h3 e e1 e2
        rcases e3 with rfl | e3
        · exact this
        · exact down e.on k this e3
      refine ⟨?_, ?_, hL⟩
      · rcases Nat.lt_or_ge i d with h | h
        · exact h
        · exact absurd (fun k hk => hL k ((hf.tail i hisz h k).2 (by omega))) hall
      · have : i < listed.size := by omega
        simpa [Array.getD_eq_getD_getElem?, this] using h1
    have hnil : Region.ready .any opsA listed ≠ [] := by
      intro hnil
      have hmin : ∀ i, i < d → listed.getD i false = true := by
        intro i
        induction i using Nat.strongRecOn with
        | _ i ihi =>
          intro hi
          cases h : listed.getD i false with
          | true => rfl
          | false =>
            have hio : opsA[i]? = some (opsA[i]'(by omega)) := Array.getElem?_eq_getElem (by omega)
            obtain ⟨p2, p3, p4⟩ := hf.at' i _ hio
            have : i ∈ Region.ready .any opsA listed := by
              rw [mem_ready]
              refine ⟨?_, _, hio, fun e e1 e2 => ?_⟩
              · have : i < listed.size := by omega
                simpa [Array.getD_eq_getD_getElem?, this] using h
              · have := p2 e.on ((p3 e.on).2 ⟨e, e1, e2, .inl rfl⟩)
                exact ihi e.on this (by omega)
            rw [hnil] at this
            simp at this
      exact hall hmin
    refine ⟨fun h => absurd h hnil, fun i hi => ?_⟩
    obtain ⟨hid, hLi, hanc⟩ := hready i hi
    obtain ⟨_, o, ho, _⟩ := mem_ready.1 hi
    have hisz : i < listed.size := by omega
    have hdo : ro ≠ none → notDefer o := fun hr => hnd hr o (by rw [← Array.getElem?_toList] at ho; exact List.mem_of_getElem? ho)
    have hcn := cnt_set (n := opsA.size) hs (by omega) hLi
    have down' : ∀ j k, (listed.setIfInBounds i true).getD j false = true → (ancAt ds j).testBit k = true → (listed.setIfInBounds i true).getD k false = true := fun j k hj hk => by
      have e := L_set (i := i) hisz
      have hj' : ins (fun k => listed.getD k false) i j = true := by rw [← congrFun e j]; exact hj
      have : ins (fun k => listed.getD k false) i k = true := by
        unfold ins at hj' ⊢
        simp only [Bool.or_eq_true, beq_iff_eq] at hj' ⊢
        rcases hj' with rfl | h
        · exact .inr (hanc k hk)
        · exact .inr (down j k h hk)
      rw [← congrFun e k] at this
      exact this
    unfold wpOpIn
    simp only [ho]
    have hng : o.guard = none := by
      rcases hf.kind i o hid ho with ⟨h, _⟩ | ⟨_, h | ⟨h, _⟩⟩
      · exact (fl_kind h).1
      · exact (al_kind h).1
      · exact (to_kind h).1
    rw [if_pos (by simp [Region.wanted, hng])]
    rcases hf.kind i o hid ho with ⟨hfl, hna⟩ | ⟨hnf, hal | ⟨hto, hts⟩⟩
    · have hmi : m.testBit i = true := clo i hid ⟨o, ho, hfl⟩ fun k hk => by
        rcases (M.lm k (hanc k hk)).2 with h | ⟨o', h1, h2⟩
        · exact h
        · rw [hna k o' hk h1] at h2; simp at h2
      refine M.doFl hf ho hid hfl hmi hLi hanc hdo fun a' w' M' => ?_
      exact ih _ m σ ρ fps a' b w' gb l (by simpa using hs) (by omega) (by rw [L_set hisz]; exact M') clo down' hl1 hl2 hl3 h
    · refine M.doAl hC hf ho hid hal hLi (hz i o hid ho) hdo fun a' b' w' gb' M' => ?_
      exact ih _ m σ ρ fps a' b' w' gb' l (by simpa using hs) (by omega) (by rw [L_set hisz]; exact M') clo down' hl1 hl2 hl3 h
    · have hmi : m.testBit i = false := by
        cases hh : m.testBit i with
        | false => rfl
        | true =>
          rcases (M.ml i hh).2 with h' | h'
          · rw [hLi] at h'; simp at h'
          · exact (to_fl ho hto h').elim
      have hmem := hl2 i o hid ho hto hmi
      cases l with
      | nil => simp at hmem
      | cons p l =>
        have hp : p = (i, o) := by
          rcases List.mem_cons.1 hmem with h | h
          · exact h.symm
          · exfalso
            have hlt := (List.pairwise_cons.1 hl3).1 _ h
            obtain ⟨q1, q2, q3, q4⟩ := hl1 p (by simp)
            rcases (M.lm p.1 (hanc p.1 (hts p.1 p.2 hlt q2 q3))).2 with h | h
            · rw [q4] at h; simp at h
            · exact to_al q2 q3 h
        subst hp
        simp only [mixT] at h
        obtain ⟨m', σ', ρ', fps', M', hk, mono, mnew⟩ := mixAd_spec hC hf hB (fun x hx => hanc x (hf.ta1 i o hid ho hto x hx)) (opsA.toList.take d) 0 m σ ρ fps (fun j o hj => take_at hj) (fun j hj => .inl (hanc j hj)) M h
        split at hk
        case isFalse => exact hk.elim
        rename_i hcond
        have hcond : (ancAt ds i ||| m') = m' := by simpa using hcond
        have hmi' : m'.testBit i = false := by
          cases hh : m'.testBit i with
          | false => rfl
          | true =>
            rcases mnew i hh with h | h
            · rw [hmi] at h; simp at h
            · exact (to_al ho hto h).elim
        refine M'.doTo (H := H) (K := K) (xs := idxL 0 (opsA.toList.take d)) (kk := fun m2 σ2 => mixFl C ds a1 (keepR B 0 rs0) rs0 false (idxL 0 (opsA.toList.take d)) m2 σ2.slots fun m sl => mixT C H Y opsA.toList ds d a1 B (keepR B 0 rs0) rs0 (idxL 0 (opsA.toList.take d)) K l m { σ2 with slots := sl })
          hC hH hf hB ho hid hto hmi' hanc hcond hdo (fun j o' hj ho' => idxL_take.2 ⟨hj, ho'⟩) hk fun σ2 ρ2 fps2 a2 b2 w2 hk2 M2 => ?_
        obtain ⟨m3, sl3, b3, M3, hk3, mono3, mnew3, clo3⟩ := mixFl_spec (σ := σ2) hC hf hB (by simp) (opsA.toList.take d) 0 _ σ2.slots b2 (fun j o hj => take_at hj) M2 hk2
        have old3 : ∀ j o', opsA[j]? = some o' → isTo o' = true → m3.testBit j = true → m.testBit j = true ∨ j = i := fun j o' hj ht hm3 => by
          rcases mnew3 j hm3 with h | ⟨_, h⟩
          · rcases bit_or.1 h with h | h
            · rcases mnew j h with h | h
              · exact .inl h
              · exact (to_al hj ht h).elim
            · exact .inr h
          · exact (to_fl hj ht h).elim
        refine ih _ m3 _ ρ2 fps2 a2 b3 w2 gb l (by simpa using hs) (by omega) (by rw [L_set hisz]; exact M3) (fun j hj hflj hx => ?_) down' (fun q hq => ?_) (fun j o' hj ho' ht hm3 => ?_) (List.pairwise_cons.1 hl3).2 hk3
        · obtain ⟨o', h1, h2⟩ := hflj
          have := clo3 j o' (by rw [List.getElem?_take, if_pos hj]; simpa using h1) h2 (by rw [Nat.zero_add]; exact hx)
          rwa [Nat.zero_add] at this
        · obtain ⟨q1, q2, q3, q4⟩ := hl1 q (by simp [hq])
          refine ⟨q1, q2, q3, ?_⟩
          cases hh : m3.testBit q.1 with
          | false => rfl
          | true =>
            exfalso
            rcases old3 q.1 q.2 q2 q3 hh with h | h
            · rw [q4] at h; simp at h
            · have := (List.pairwise_cons.1 hl3).1 q hq
              simp only at this; omega
        · have hmj : m.testBit j = false := by
            cases hh : m.testBit j with
            | false => rfl
            | true => rw [mono3 j (bit_or.2 (.inl (mono j hh)))] at hm3; simp at hm3
          rcases List.mem_cons.1 (hl2 j o' hj ho' ht hmj) with h | h
          · exfalso
            simp only [Prod.mk.injEq] at h
            rw [h.1, mono3 i (bit_or.2 (.inr rfl))] at hm3; simp at hm3
          · exact h

theorem mixS_spec {H : Handler} {Y : YHandler} {σ : St} {K : Out → St → Prop} {ro : Option Nat} {ρ : Env} {fps : Nat → Nat → Prop} {a : Act} {w : World} (hC : C.Sound) (hH : H.OK C.P) (hY : YOK C.P Y ρ σ.res) (hnd : ro ≠ none → ∀ o ∈ opsA.toList, notDefer o) (h : mixS C H Y opsA.toList ds σ K) (hr : Rep ρ fps σ w0 F0 a w) :
    wpAnyIn (FF C.P ro) 0 C.P .any opsA (Post ρ σ.res w0 F0 K) opsA.size (Array.replicate opsA.size false) a { w with drawn := w.drawn + 1 } := by
  unfold mixS at h
  simp only [cleanK_eq, undK_eq, natsK_eq] at h
  generalize hd : tailFrom ds 0 opsA.toList = d at h
  generalize ha1 : a1Of ds (List.filter (fun p => isTo p.2) (idxL 0 (List.take d opsA.toList))) = a1 at h
  split at h
  case isFalse => exact h.elim
  rename_i hc
  simp only [Bool.and_eq_true] at hc
  obtain ⟨⟨⟨h1, h2⟩, h3⟩, h4⟩ := hc
  generalize colB C ds a1 σ.res (idxL 0 (List.take d opsA.toList)) 0 (undL (ds.take d) (clean σ.slots)) = B at h
  split at h
  case isFalse => exact h.elim
  rename_i hBb
  have hB : ∀ i, B.contains i = true → ∃ ty c, rget σ.res i = .blk ty c := fun i hi => by
    rw [List.all_eq_true] at hBb
    have := hBb i (by simpa using hi)
    unfold isBlk at this
    split at this
    · rename_i ty c e; exact ⟨ty, c, e⟩
    · simp at this
  have P : Planned C opsA.toList ds [] [] [] := ⟨h1, h2, fun t => .inr (by cases t <;> rfl), false, [], fun i d hd => by simp at hd, fun s d u hd => by simp at hd⟩
  obtain ⟨j, hdj, hjl, htl⟩ := tailFrom_spec (ds := ds) (l := opsA.toList) (i := 0)
  rw [hd, Nat.zero_add] at hdj
  subst hdj
  rw [Nat.zero_add] at htl
  have hdle : d ≤ opsA.size := by simpa using hjl
  have hM := mixOK_spec h3
  have htk : ∀ {i : Nat} {o : Oper}, i < d → opsA[i]? = some o → (opsA.toList.take d)[i]? = some o := fun hi ho => by rw [List.getElem?_take, if_pos hi]; simpa using ho
  have htk2 : ∀ {i k : Nat} {o : Oper}, k < d → opsA[k]? = some o → (opsA.toList.take d)[k]? = some o := fun hi ho => htk hi ho
  have kind : ∀ i o, i < d → opsA[i]? = some o → (isFl o = true ∧ ∀ k o', (ancAt ds i).testBit k = true → opsA[k]? = some o' → isAl (ancAt ds k) o' = false) ∨
    (isFl o = false ∧ (isAl (ancAt ds i) o = true ∨ isTo o = true ∧ ∀ k o', k < i → opsA[k]? = some o' → isTo o' = true → (ancAt ds i).testBit k = true)) := fun i o hi ho => by
    have := (hM i o (htk hi ho)).1
    rw [Nat.zero_add] at this
    rcases this with ⟨g1, g2⟩ | ⟨g1, g2 | ⟨g2, g3⟩⟩
    · refine .inl ⟨g1, fun k o' hk ho' => ?_⟩
      cases hal : isAl (ancAt ds k) o' with
      | false => rfl
      | true =>
        exfalso
        have hki := (P.at ho).2.1 k hk
        have hb := mskB_bit (p := fun i o => isAl (ancAt ds i) o) (i := 0) (htk (i := k) (by omega) ho') (by simpa using hal)
        rw [Nat.zero_add] at hb
        have := congrArg (fun x => Nat.testBit x k) g2
        simp only [Nat.testBit_and, hk, hb, Nat.zero_testBit] at this
        simp at this
    · exact .inr ⟨g1, .inl g2⟩
    · refine .inr ⟨g1, .inr ⟨g2, fun k o' hk ho' ht => g3 k hk ?_⟩⟩
      have hb := mskB_bit (p := fun _ o => isTo o) (i := 0) (htk (i := k) (by omega) ho') ht
      rwa [Nat.zero_add] at hb
  have hds : ∀ {i : Nat} {o : Oper}, i < d → opsA[i]? = some o → (ds.take d)[i]? = some (o.dst, ancAt ds i) := fun hi ho => by rw [List.getElem?_take, if_pos hi]; exact (P.at ho).1
  have hts : ∀ i o, i < d → opsA[i]? = some o → isTo o = true → (i, o) ∈ List.filter (fun p => isTo p.2) (idxL 0 (List.take d opsA.toList)) := fun i o hi ho ht => List.mem_filter.2 ⟨idxL_take.2 ⟨hi, ho⟩, ht⟩
  have hts' : ∀ p ∈ List.filter (fun p : Nat × Oper => isTo p.2) (idxL 0 (List.take d opsA.toList)), p.1 < d ∧ opsA[p.1]? = some p.2 ∧ isTo p.2 = true := fun p hp => by
    obtain ⟨g1, g2⟩ := List.mem_filter.1 hp
    obtain ⟨g3, g4⟩ := idxL_take.1 g1
    exact ⟨g3, g4, g2⟩
  have htp : (List.filter (fun p : Nat × Oper => isTo p.2) (idxL 0 (List.take d opsA.toList))).Pairwise fun p q => p.1 < q.1 := (idxL_pair _ _).filter _
  generalize List.filter (fun p : Nat × Oper => isTo p.2) (idxL 0 (List.take d opsA.toList)) = ts at *
  have hf : Facts opsA ds d a1 := by
    refine ⟨fun i o ho => (P.at ho).2, fun i o ho => (P.at ho).1, kind, fun i o t hi ho ht k o' hk ho' hdst => ?_, fun i j o o' t hi hj ht ht' => ?_, fun i hi hdi k => ?_, fun i o hi ho ht k hk => ?_, fun k hk => ?_, hdle⟩
    · have := (hM i o (htk hi ho)).2 t ht k (ancAt ds k) (by rw [hds hk ho', hdst])
      rwa [Nat.zero_add] at this
    · have e1 := (P.at hi).1
      have e2 := (P.at hj).1
      rw [ht] at e1
      rw [ht'] at e2
      exact dist_spec h2 e1 e2
    · have := tailOK_spec htl (i - d) (by simp; omega)
      rw [show d + (i - d) = i by omega] at this
      rw [this]; simp [allM', Nat.testBit_two_pow_sub_one]
    · subst ha1
      cases ts with
      | nil => simp [a1Of] at hk
      | cons p l =>
        simp only [a1Of] at hk
        rcases List.mem_cons.1 (hts i o hi ho ht) with h | h
        · rw [← h] at hk; exact hk
        · have hlt := (List.pairwise_cons.1 htp).1 _ h
          obtain ⟨q1, q2, q3⟩ := hts' p (by simp)
          rcases kind i o hi ho with ⟨g, _⟩ | ⟨_, g | ⟨_, g⟩⟩
          · rw [(to_kind ht).2.2] at g; simp at g
          · exact (to_al ho ht ⟨o, ho, g⟩).elim
          · exact (P.at ho).2.2.2 p.1 k (g p.1 p.2 hlt q2 q3) hk
    · subst ha1
      cases ts with
      | nil => simp [a1Of] at hk
      | cons p l =>
        obtain ⟨q1, q2, q3⟩ := hts' p (by simp)
        have := (P.at q2).2.1 k hk
        omega
  have hget : ∀ k, (Array.replicate opsA.size false).getD k false = false := fun k => by
    simp only [Array.getD_eq_getD_getElem?, Array.getElem?_replicate]; split <;> rfl
  obtain ⟨r1, r2, r3, r4⟩ := hr
  have M0 : Mix C opsA ds d a1 B σ.res ρ w0 F0 0 { σ with slots := undL (ds.take d) (clean σ.slots) } (fun k => (Array.replicate opsA.size false).getD k false) ρ fps a a { w with drawn := w.drawn + 1 } (fun _ => 0) := by
    refine ⟨⟨⟨by rw [r1.clean.1]; exact (undL_length _ _).symm, fun t => ?_⟩, ⟨r2.sub, r2.old, r2.os, r2.tape, r2.output, fun i hi => Res.holds_keep _ (r2.holds i hi) fun _ _ => rfl, r2.lt, r2.disj, r2.inF, r2.same⟩, r3, r4⟩, Good.refl _ _, ⟨rfl, rfl, fun _ _ => rfl⟩, fun i hi => ?_, fun i hi => ?_, fun i k hi => ?_, fun i o ho _ hm => ?_, fun i o hi ho hal _ => ⟨fun t ht => ?_, fun hl => ?_⟩, fun i j _ _ hl => ?_, fun _ _ => rfl, fun _ => rfl⟩
    · rcases undL_get t (ds.take d) (clean σ.slots) with h | ⟨h, _⟩
      · show SlotOK _ _ _ _ (sget (undL (ds.take d) (clean σ.slots)) t)
        rw [h]; trivial
      · show SlotOK _ _ _ _ (sget (undL (ds.take d) (clean σ.slots)) t)
        rw [h]
        exact SlotOK.plain (clean_plain σ.slots t) (r1.clean.2 t)
    · simp only [hget] at hi; simp at hi
    · simp at hi
    · simp at hi
    · simp at hm
    · show sget (undL (ds.take d) (clean σ.slots)) t = .und
      rcases undL_get t (ds.take d) (clean σ.slots) with h | ⟨_, h⟩
      · exact h
      · exact absurd (by rw [← ht]; exact List.mem_of_getElem? (hds hi ho)) (h (ancAt ds i))
    · simp only [hget] at hl; simp at hl
    · simp only [hget] at hl; simp at hl
  obtain ⟨m, sl, b, M1, hk, _, mnew, clo⟩ := mixFl_spec hC hf hB (fun _ => rfl) (opsA.toList.take d) 0 0 _ a (fun j o hj => take_at hj) M0 h
  have hcnt : cnt (Array.replicate opsA.size false) opsA.size ≤ opsA.size := by
    have := List.length_filter_le (fun k => !(Array.replicate opsA.size false).getD k false) (List.range opsA.size)
    simpa [cnt] using this
  refine mix_any hC hH hY hf hB hnd P (fun i o hi ho => ?_) opsA.size _ m _ ρ fps a b _ _ ts (by simp) hcnt M1 (fun i hi ⟨o, ho, hfl⟩ hx => ?_) (fun i k hi _ => by simp only [hget] at hi; simp at hi) (fun p hp => ?_) (fun i o hi ho ht _ => hts i o hi ho ht) htp hk
  · rw [List.all_eq_true] at h4
    exact h4 o (List.mem_of_getElem? (htk hi ho))
  · have := clo i o (htk hi ho) hfl (by rw [Nat.zero_add]; exact hx)
    rwa [Nat.zero_add] at this
  · obtain ⟨q1, q2, q3⟩ := hts' p hp
    refine ⟨q1, q2, q3, ?_⟩
    cases hh : m.testBit p.1 with
    | false => rfl
    | true =>
      rcases mnew p.1 hh with h | ⟨_, h⟩
      · simp at h
      · exact (to_fl q2 q3 h).elim

/-- A region whose order is drawn. -/
def drawX (C : Ctx) (H : Handler) (Y : YHandler) (ops : List Oper) (σ : St) (K : Out → St → Prop) : Prop := drawS C H Y ops σ K (mixS C H Y ops (dsGo ops []) σ K)
theorem drawX_spec {H : Handler} {Y : YHandler} {σ : St} {K : Out → St → Prop} {id : Nat} {ro : Option Nat} {ρ : Env} {fps : Nat → Nat → Prop} {a : Act} {w : World} (hC : C.Sound) (hH : H.OK C.P) (hY : YOK C.P Y ρ σ.res) (hnd : ro ≠ none → ∀ o ∈ opsA.toList, notDefer o) (h : drawX C H Y opsA.toList σ K) (hr : Rep ρ fps σ w0 F0 a w) :
    (Code.region id opsA true).wpIn (FF C.P ro) 0 C.P (Post ρ σ.res w0 F0 K) a w :=
  drawS_spec hC hH hY hnd h hr fun h => mixS_spec hC hH hY hnd h hr
end
end Go.Sx
