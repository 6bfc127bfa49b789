/- The executor: a drawn order, step by step. No condition. -/
import Derived.Test.YtjpcaplhblomcaaSx12c
set_option linter.unusedVariables false
set_option linter.unusedSimpArgs false
namespace Go.Sx
open Go.RowKit (Below)

theorem lens_take_le : ∀ (l : List Dr) (i k y : Nat), (∃ d, l[k]? = some d ∧ y < d.new.length) → k < i → lens (l.take k) + y < lens (l.take i)
  | [], i, k, y, h, _ => by obtain ⟨d, h, _⟩ := h; simp at h
  | d :: l, 0, k, y, _, h => by omega
  | d :: l, i + 1, 0, y, h, _ => by
    obtain ⟨d', h1, h2⟩ := h
    simp only [List.getElem?_cons_zero, Option.some.injEq] at h1
    subst h1
    simp only [List.take_zero, lens, List.take_succ_cons]
    omega
  | d :: l, i + 1, k + 1, y, h, hk => by
    have := lens_take_le l i k y (by simpa using h) (by omega)
    simp only [List.take_succ_cons, lens]
    omega

theorem locate_take {l : List Dr} {i x k y : Nat} (h : locate (l.take i) x = some (k, y)) : k < i ∧ locate l x = some (k, y) := by
  rw [locate_spec] at h ⊢
  obtain ⟨⟨d, h1, h2⟩, h3⟩ := h
  rw [List.getElem?_take] at h1
  by_cases hk : k < i
  · rw [if_pos hk] at h1
    rw [List.take_take, Nat.min_eq_left (by omega)] at h3
    exact ⟨hk, ⟨d, h1, h2⟩, h3⟩
  · rw [if_neg hk] at h1; simp at h1

theorem rget_out {l : List Res} {x : Nat} (h : l.length ≤ x) : rget l x = .yet := by
  rw [rget_eq, List.getD_eq_getElem?_getD, List.getElem?_eq_none h]; rfl

theorem rget_view (res : List Res) (drs : List Dr) (p : Nat → Bool) (id : Nat) : rget (res ++ viewR p 0 drs) id = if id < res.length then rget res id else
    match locate drs (id - res.length) with
    | some (k, y) => if p k then (match drs[k]? with | some d => rget d.new y | none => .yet) else .yet
    | none => .yet := by
  rw [rget_append]
  split
  · rfl
  · rw [viewR_get]; simp only [Nat.zero_add]; cases locate drs (id - res.length) <;> rfl

theorem known_view {res : List Res} {drs : List Dr} {p : Nat → Bool} {id : Nat} (h : known (res ++ viewR p 0 drs) id) : KL res drs p id := by
  unfold known at h
  rw [rget_view] at h
  by_cases hlt : id < res.length
  · rw [if_pos hlt] at h; exact .inl h
  · rw [if_neg hlt] at h
    refine .inr ⟨by omega, ?_⟩
    cases hl : locate drs (id - res.length) with
    | none => simp [hl] at h
    | some q =>
      obtain ⟨k, y⟩ := q
      simp only [hl] at h
      by_cases hp : p k = true
      · exact ⟨k, y, rfl, hp⟩
      · rw [if_neg hp] at h; exact absurd rfl h

/-- What an operation sees of the places is so. -/
theorem view_forget {res : List Res} {drs : List Dr} {p L : Nat → Bool} {i : Nat} (hp : ∀ k, p k = true → L k = true) (id : Nat) (h : known (res ++ viewR p 0 (drs.take i)) id) :
    rget (res ++ viewR p 0 (drs.take i)) id = rget (res ++ viewR L 0 drs) id := by
  unfold known at h
  rw [rget_view] at h ⊢
  rw [rget_view]
  by_cases hlt : id < res.length
  · rw [if_pos hlt, if_pos hlt]
  · rw [if_neg hlt] at h ⊢
    rw [if_neg hlt]
    cases hl : locate (drs.take i) (id - res.length) with
    | none => simp [hl] at h
    | some q =>
      obtain ⟨k, y⟩ := q
      obtain ⟨hk, hl'⟩ := locate_take hl
      simp only [hl] at h ⊢
      rw [hl']
      by_cases hpk : p k = true
      · simp only [if_pos hpk, if_pos (hp k hpk), List.getElem?_take, if_pos hk]
      · rw [if_neg hpk] at h; exact absurd rfl h

def ins (L : Nat → Bool) (i : Nat) (k : Nat) : Bool := k == i || L k

/-- One more is done: its places are added. -/
theorem view_adds {res : List Res} {drs : List Dr} {L : Nat → Bool} {i : Nat} {d : Dr} (hd : drs[i]? = some d) (hi : L i = false) (hnew : ∀ k, k < d.new.length → rget d.new k ≠ .yet) :
    Adds (res ++ viewR L 0 drs) (res ++ viewR (ins L i) 0 drs) (res.length + lens (drs.take i)) d.new ∧
    (∀ id, KL res drs L id → ¬ fresh (res.length + lens (drs.take i)) d.new.length id) ∧
    (∀ id, KL res drs L id ∨ fresh (res.length + lens (drs.take i)) d.new.length id → KL res drs (ins L i) id) := by
  have hfr : ∀ id, fresh (res.length + lens (drs.take i)) d.new.length id ↔ res.length ≤ id ∧ ∃ y, locate drs (id - res.length) = some (i, y) := by
    intro id
    constructor
    · rintro ⟨h1, h2⟩
      refine ⟨by omega, id - res.length - lens (drs.take i), ?_⟩
      rw [locate_spec]
      exact ⟨⟨d, hd, by omega⟩, by omega⟩
    · rintro ⟨h1, y, h2⟩
      rw [locate_spec] at h2
      obtain ⟨⟨d', h3, h4⟩, h5⟩ := h2
      rw [hd] at h3
      simp only [Option.some.injEq] at h3
      subst h3
      exact ⟨by omega, by omega⟩
  have hKf : ∀ id, KL res drs L id → ¬ fresh (res.length + lens (drs.take i)) d.new.length id := by
    rintro id (hk | ⟨h1, j, y, h2, h3⟩) hf
    · have := rget_lt hk
      have := ((hfr id).1 hf).1
      omega
    · obtain ⟨_, y', h4⟩ := (hfr id).1 hf
      rw [h4] at h2
      simp only [Option.some.injEq, Prod.mk.injEq] at h2
      rw [← h2.1, hi] at h3
      simp at h3
  refine ⟨⟨fun id hk => ⟨?_, hKf id (known_view hk)⟩, fun id hk => ?_, fun k hk => ?_⟩, hKf, ?_⟩
  · have h0 := known_view hk
    rw [rget_view, rget_view]
    by_cases hlt : id < res.length
    · rw [if_pos hlt, if_pos hlt]
    · rw [if_neg hlt, if_neg hlt]
      rcases h0 with h0 | ⟨h1, j, y, h2, h3⟩
      · exact absurd (rget_lt h0) hlt
      · simp only [h2, ins, h3, Bool.or_true, if_true]
  · rcases known_view hk with h0 | ⟨h1, j, y, h2, h3⟩
    · left
      unfold known
      rw [rget_view, if_pos (rget_lt h0)]
      exact h0
    · by_cases e : j = i
      · subst e
        exact .inr ((hfr id).2 ⟨h1, y, h2⟩)
      · left
        have h3' : L j = true := by simpa [ins, e] using h3
        unfold known at hk ⊢
        rw [rget_view, if_neg (by omega), h2] at hk ⊢
        simp only [h3, h3', if_true] at hk ⊢
        exact hk
  · rw [rget_view, if_neg (by omega)]
    have : locate drs (res.length + lens (drs.take i) + k - res.length) = some (i, k) := by
      rw [locate_spec]
      exact ⟨⟨d, hd, hk⟩, by omega⟩
    rw [this]
    simp only [ins, beq_self_eq_true, Bool.true_or, if_true, hd]
  · rintro id (h | h)
    · rcases h with h | ⟨h1, j, y, h2, h3⟩
      · exact .inl h
      · exact .inr ⟨h1, j, y, h2, by simp [ins, h3]⟩
    · obtain ⟨h1, y, h2⟩ := (hfr id).1 h
      exact .inr ⟨h1, i, y, h2, by simp [ins]⟩

section
variable {C : Ctx} {opsA : Array Oper} {ds : List (Option Nat × Nat)} {sl : List S} {res : List Res} {drs : List Dr} {defs : List (Nat × List V × List V)} {ρ0 ρ : Env} {w0 w : World} {F0 : Nat → Prop} {L : Nat → Bool} {fps : Nat → Nat → Prop} {a : Act}

/-- A slot is written by the one operation that writes it. -/
theorem Inv.put (P : Planned C opsA.toList ds sl res drs) (I : Inv ds sl res drs defs ρ0 w0 F0 L ρ fps a w) {i : Nat} {o : Oper} {d : Dr} (ho : opsA[i]? = some o) (hd : drs[i]? = some d) (hdst : dstIn sl.length o.dst = true)
    {ρ' : Env} {fps' : Nat → Nat → Prop} {w' : World} {x : Value} (hL : ∀ k, (ancAt ds i).testBit k = true → L k = true) (hK : ∀ id, KL res drs L id → KL res drs (ins L i) id) (hag : Env.agree (KL res drs L) ρ ρ')
    (hH : HRep ρ' fps' (res ++ viewR (ins L i) 0 drs) (KL res drs (ins L i)) w0 F0 w') (hx : SlotG ρ' (KL res drs (ins L i)) x d) (hnew : ∀ y, y < d.new.length → rget d.new y ≠ .yet) :
    Inv ds sl res drs defs ρ0 w0 F0 (ins L i) ρ' fps' (a.put o.dst x) w' := by
  have hpi := (P.at ho).1
  have hsz : (a.put o.dst x).tmps.size = a.tmps.size := by cases o.dst <;> simp [Act.put]
  have hold : ∀ t, o.dst ≠ some t → (a.put o.dst x).tmps.getD t undef = a.tmps.getD t undef := by
    intro t ht
    cases hdd : o.dst with
    | none => simp [Act.put]
    | some e =>
      have : e ≠ t := fun h => ht (by rw [hdd, h])
      simp [Act.put, Array.getD_eq_getD_getElem?, Array.getElem?_setIfInBounds_ne this]
  refine ⟨by rw [hsz]; exact I.size, ?_, ?_, hH, ?_, ?_, ?_, ?_⟩
  · intro t j m dj h1 h2 h3
    by_cases e : o.dst = some t
    · rw [e] at hpi
      have := dist_spec P.dst h1 hpi
      subst this
      rw [hd] at h2
      simp only [Option.some.injEq] at h2
      subst h2
      rw [e] at hdst
      have hlt : t < sl.length := by simpa [dstIn] using hdst
      have : (a.put o.dst x).tmps.getD t undef = x := by
        rw [e]
        simp [Act.put, I.size, hlt]
      rw [this]
      exact hx
    · rw [hold t e]
      have hji : j ≠ i := fun hji => by
        subst hji
        rw [h1] at hpi
        simp only [Option.some.injEq, Prod.mk.injEq] at hpi
        exact e hpi.1.symm
      exact (I.done t j m dj h1 h2 (by simpa [ins, hji] using h3)).env hK hag
  · intro t hall
    have e : o.dst ≠ some t := fun e => by
      rw [e] at hpi
      have := hall i _ hpi
      simp [ins] at this
    rw [hold t e]
    exact (I.todo t fun j m hj => by
      have := hall j m hj
      simp only [ins, Bool.or_eq_false_iff] at this
      exact this.2).env hK hag
  · intro j k hj hk
    simp only [ins, Bool.or_eq_true, beq_iff_eq] at hj ⊢
    rcases hj with rfl | hj
    · exact .inr (hL k hk)
    · exact .inr (I.down j k hj hk)
  · have hag' : Env.agree (known res) ρ ρ' := hag.mono fun id h => .inl h
    obtain ⟨e1, e2⟩ := defs_env (ρ' := ρ') (K' := known res) I.defs.2 hag' fun _ h => h
    exact ⟨by rw [show (a.put o.dst x).defers = a.defers from put_defers _ _ _, I.defs.1]; exact e1.symm, e2⟩
  · exact I.agree.trans (hag.mono fun id h => .inl h) fun _ h => h
  · intro j dj h1 h2
    by_cases e : j = i
    · subst e
      rw [hd] at h1
      simp only [Option.some.injEq] at h1
      subst h1
      exact hnew
    · exact I.newk j dj h1 (by simpa [ins, e] using h2)

/-- An operation that is ready is done. -/
theorem Inv.step {ops : Array Oper} {K : Act → World → Prop} {Q : Exit → Act → World → Prop} (hops : ops = opsA) (hC : C.Sound) (P : Planned C opsA.toList ds sl res drs) (hq : ∀ (i : Nat) (d : Dr), drs[i]? = some d → (d.g = true → holdsO d.q))
    (I : Inv ds sl res drs defs ρ0 w0 F0 L ρ fps a w) {i : Nat} {d : Dr} (hd : drs[i]? = some d)
    (hi : L i = false) (hL : ∀ k, (ancAt ds i).testBit k = true → L k = true)
    (hn : ∀ ρ' fps' a' w', Inv ds sl res drs defs ρ0 w0 F0 (ins L i) ρ' fps' a' w' → K a' w') : wpOp C.P ops Q i K a w := by
  subst hops
  obtain ⟨o, ho, hp⟩ := P.plan i d hd
  have ho' : ops[i]? = some o := by simpa using ho
  obtain ⟨p1, p2, p3, p4⟩ := P.at ho'
  have hilt : i < drs.length := (List.getElem?_eq_some_iff.1 hd).1
  have hview : FRep ρ (KL res drs L) (viewS (ancAt ds i) i 0 ds (drS (drs.take i)) sl) a := by
    refine P.view I (by omega) (fun k hk => ⟨hL k hk, p2 k hk⟩) p4 fun k m t h1 h2 h3 => ?_
    rcases h3 with rfl | h3
    · exact hi
    · cases hLk : L k with
      | false => rfl
      | true =>
        have hm : ancAt ds k = m := by simp [ancAt, h1]
        have := I.down k i hLk (by rw [hm]; exact h3)
        rw [hi] at this
        exact absurd this (by simp)
  have hres : HRep ρ fps (addR res (viewR (Nat.testBit (ancAt ds i)) 0 (drs.take i))) (KL res drs L) w0 F0 w := by
    rw [addR_eq]
    exact I.heap.forget fun id hk => view_forget hL id hk
  unfold wpOp
  simp only [ho']
  unfold planOne at hp
  split at hp
  · rename_i hc
    simp only [Bool.and_eq_true] at hc
    unfold planOp at hp
    have hsame : d.new = [] → ∀ x, (∀ ρ', ρ' = ρ → SlotG ρ' (KL res drs (ins L i)) x d) → Inv ds sl res drs defs ρ0 w0 F0 (ins L i) ρ fps (a.put o.dst x) w := by
      intro hnew x hx
      obtain ⟨a1, a2, a3⟩ := view_adds (res := res) hd hi (by rw [hnew]; simp)
      obtain ⟨fps', g1, g2⟩ := I.heap.grow (ρ' := ρ) a1 a2 a3 (by rw [hnew]; exact Grew.refl _ _ _ _ _ _)
      have hH : HRep ρ fps (res ++ viewR (ins L i) 0 drs) (KL res drs (ins L i)) w0 F0 w := by
        refine (I.heap.monoK fun id h => a3 id (.inl h)).forget fun id hk => ?_
        rcases a1.2.1 id hk with h | h
        · exact (a1.1 id h).1
        · unfold fresh at h; rw [hnew] at h; simp at h; omega
      exact I.put P ho' hd hc.2 hL (fun id h => a3 id (.inl h)) (Env.agree.refl _ _) hH (hx ρ rfl) (by rw [hnew]; simp)
    split at hp
    · simp at hp
    · rename_i hch
      simp only [Option.some.injEq] at hp
      rw [chainOf_spec hview hch]
      simp only [does, Bool.false_eq_true, if_false]
      exact hn _ _ _ _ (hsame (by rw [← hp]) undef fun ρ' _ => by subst hp; simp [SlotG])
    · rename_i ch hch
      rw [chainOf_spec hview hch]
      rw [show does (viewS (ancAt ds i) i 0 ds (drS (drs.take i)) sl) (some ch) = gOf (viewS (ancAt ds i) i 0 ds (drS (drs.take i)) sl) ch from rfl]
      split at hp
      · rename_i q x new hop
        cases ch with
        | nil =>
          simp only [Option.some.injEq] at hp
          subst hp
          simp only [gOf, if_true]
          left
          have hq' : holdsO q := hq i _ hd rfl
          have hnK : ∀ k, k < new.length → ¬ KL res drs L (res.length + lens (drs.take i) + k) := fun k hk h => by
            have hfr : fresh (res.length + lens (drs.take i)) new.length (res.length + lens (drs.take i) + k) := ⟨by omega, by omega⟩
            rcases h with h | ⟨h1, j, y, h2, h3⟩
            · have := rget_lt h; omega
            · have h4 : locate drs (res.length + lens (drs.take i) + k - res.length) = some (i, k) := by
                rw [locate_spec]; exact ⟨⟨_, hd, hk⟩, by omega⟩
              rw [h4] at h2
              simp only [Option.some.injEq, Prod.mk.injEq] at h2
              rw [← h2.1, hi] at h3
              simp at h3
          obtain ⟨hy, hnew⟩ := opRO_spec hC hop hview hres rfl hq' hnK
          refine hy.wp fun v w' ⟨ρ', hg, hv, hx⟩ => ?_
          obtain ⟨a1, a2, a3⟩ := view_adds (res := res) hd hi hnew
          obtain ⟨fps', g1, g2⟩ := I.heap.grow a1 a2 a3 hg
          exact hn _ _ _ _ (I.put P ho' hd hc.2 hL (fun id h => a3 id (.inl h)) g2 g1 ⟨hv, ok_mono a3 _ hx⟩ hnew)
        | cons c0 c1 =>
          simp only at hp
          split at hp
          · rename_i hne
            have hne : new = [] := by simpa using hne
            subst hne
            simp only [Option.some.injEq] at hp
            subst hp
            by_cases hg : gOf (viewS (ancAt ds i) i 0 ds (drS (drs.take i)) sl) (c0 :: c1) = true
            · rw [if_pos hg]
              left
              have hq' : holdsO q := hq i _ hd hg
              obtain ⟨hy, _⟩ := opRO_spec hC hop hview hres hg hq' (fun k hk => by simp at hk)
              refine hy.wp fun v w' ⟨ρ', hgr, hv, hx⟩ => ?_
              obtain ⟨a1, a2, a3⟩ := view_adds (res := res) hd hi (by simp)
              obtain ⟨fps', g1, g2⟩ := I.heap.grow a1 a2 a3 hgr
              refine hn _ _ _ _ (I.put P ho' hd hc.2 hL (fun id h => a3 id (.inl h)) g2 g1 ⟨fun _ => ⟨hv, ok_mono a3 _ hx⟩, fun h => ?_⟩ (by simp))
              simp only at h
              rw [hg] at h; simp at h
            · rw [if_neg hg]
              exact hn _ _ _ _ (hsame rfl undef fun ρ' _ => ⟨fun h => absurd h hg, fun _ => rfl⟩)
          · simp at hp
      · simp at hp
  · simp at hp

end
end Go.Sx
