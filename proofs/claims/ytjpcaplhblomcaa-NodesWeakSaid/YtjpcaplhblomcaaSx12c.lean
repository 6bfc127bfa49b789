/- The executor: what a drawn order may do. No condition. -/
import Derived.Test.YtjpcaplhblomcaaSx12b
set_option linter.unusedVariables false
set_option linter.unusedSimpArgs false
namespace Go.Sx
open Go.RowKit (Below)

theorem okGo_spec {ds : List (Option Nat × Nat)} : ∀ {ops : List Oper} {i0 : Nat} {dd : List (Option Nat × Nat)}, okGo ds i0 ops dd = true → ops.length = dd.length ∧ ∀ (i : Nat) (o : Oper), ops[i]? = some o →
    ∃ m, dd[i]? = some (o.dst, m) ∧ maskOf ds o.after.toList = m ∧ m < 2 ^ (i0 + i) ∧ ∀ j, m.testBit j = true → (ancAt ds j ||| m) = m
  | [], i0, [], _ => ⟨rfl, by simp⟩
  | [], _, _ :: _, h => by simp [okGo] at h
  | _ :: _, _, [], h => by simp [okGo] at h
  | o :: l, i0, d :: dd, h => by
    simp only [okGo, Bool.and_eq_true, beq_iff_eq, List.all_eq_true, List.mem_range, Bool.or_eq_true, Bool.not_eq_true', Nat.ble_eq] at h
    obtain ⟨⟨⟨⟨h1, h2⟩, h3⟩, h4⟩, h5⟩ := h
    obtain ⟨i1, i2⟩ := okGo_spec h5
    refine ⟨by simp [i1], fun i p hp => ?_⟩
    cases i with
    | zero =>
      simp only [List.getElem?_cons_zero, Option.some.injEq] at hp
      subst hp
      refine ⟨d.2, ?_, h2, by rw [Nat.add_zero]; exact h3, fun j hj => ?_⟩
      · obtain ⟨d1, d2⟩ := d
        simp only [List.getElem?_cons_zero, Option.some.injEq, Prod.mk.injEq, and_true]
        simp only at h1
        split at h1 <;> simp_all
      · have hlt : j < i0 := by
          rcases Nat.lt_or_ge j i0 with h | h
          · exact h
          · have := Nat.testBit_lt_two_pow (x := d.2) (i := j) (Nat.lt_of_lt_of_le (by omega) (Nat.pow_le_pow_right (by omega) h))
            rw [this] at hj; simp at hj
        rcases h4 j hlt with h | h
        · rw [h] at hj; simp at hj
        · exact h
    | succ i =>
      obtain ⟨m, a, b, c, e⟩ := i2 i p (by simpa using hp)
      exact ⟨m, by simpa using a, b, by rw [show i0 + (i + 1) = i0 + 1 + i by omega]; exact c, e⟩

structure Planned (C : Ctx) (ops : List Oper) (ds : List (Option Nat × Nat)) (sl : List S) (res : List Res) (drs : List Dr) : Prop where
  okk : okGo ds 0 ops ds = true
  dst : dist ds = true
  cl : ∀ t, (∃ x, sget sl t = .v x) ∨ sget sl t = .und
  plan : ∀ i d, drs[i]? = some d → ∃ o, ops[i]? = some o ∧ planOne C ops ds sl res (drs.take i) i o = some d

theorem drS_get : ∀ (l : List Dr) (i : Nat), (drS l)[i]? = (l[i]?).map Dr.s
  | [], i => by simp [drS]
  | d :: l, 0 => by simp [drS]
  | d :: l, i + 1 => by simp [drS, drS_get l i]

theorem drS_length (l : List Dr) : (drS l).length = l.length := by
  induction l with
  | nil => rfl
  | cons d l ih => simp [drS, ih]

theorem gOf_congr {sl sl' : List S} : ∀ {ch : List (Nat × Bool)}, (∀ p ∈ ch, sget sl p.1 = sget sl' p.1) → gOf sl ch = gOf sl' ch
  | [], _ => rfl
  | (s, w) :: c, h => by
    rw [gOf_cons, gOf_cons, h (s, w) (by simp), gOf_congr fun p hp => h p (by simp [hp])]

section
variable {C : Ctx} {opsA : Array Oper} {ds : List (Option Nat × Nat)} {sl : List S} {res : List Res} {drs : List Dr}

theorem Planned.at (P : Planned C opsA.toList ds sl res drs) {i : Nat} {o : Oper} (h : opsA[i]? = some o) :
    ds[i]? = some (o.dst, ancAt ds i) ∧ (∀ k, (ancAt ds i).testBit k = true → k < i) ∧
    (∀ k, (ancAt ds i).testBit k = true ↔ ∃ e ∈ o.after, Region.binds .any e = true ∧ (e.on = k ∨ (ancAt ds e.on).testBit k = true)) ∧
    ∀ k r, (ancAt ds i).testBit k = true → (ancAt ds k).testBit r = true → (ancAt ds i).testBit r = true := by
  obtain ⟨m, h1, h2, h3, h4⟩ := (okGo_spec P.okk).2 i o (by simpa using h)
  have hm : ancAt ds i = m := by simp [ancAt, h1]
  rw [hm]
  refine ⟨h1, fun k hk => ?_, fun k => ?_, fun k r hk hr => ?_⟩
  · rcases Nat.lt_or_ge k i with h | h
    · exact h
    · have := Nat.testBit_lt_two_pow (x := m) (i := k) (Nat.lt_of_lt_of_le h3 (Nat.pow_le_pow_right (by omega) (by omega)))
      rw [this] at hk; simp at hk
  · rw [← h2, testBit_mask]
    simp only [Array.mem_toList_iff]
  · rw [← h4 k hk, Nat.testBit_or, hr]; rfl

theorem Planned.len (P : Planned C opsA.toList ds sl res drs) : ds.length = opsA.size := by
  have := (okGo_spec P.okk).1
  simpa using this.symm

def Dat (ds : List (Option Nat × Nat)) (sl : List S) (drs : List Dr) (i : Nat) : List S := viewS (ancAt ds i) i 0 ds (drS (drs.take i)) sl

def chIn (ds : List (Option Nat × Nat)) (m : Nat) (ch : List (Nat × Bool)) : Prop := ∀ p ∈ ch, ∃ k m', m.testBit k = true ∧ ds[k]? = some (some p.1, m')

theorem Planned.chain (P : Planned C opsA.toList ds sl res drs) : ∀ (i : Nat) (d : Dr), drs[i]? = some d → ∀ ch x, d.s = .gv ch x → d.g = gOf (Dat ds sl drs i) ch ∧ chIn ds (ancAt ds i) ch := by
  intro i
  induction i using Nat.strongRecOn with
  | _ i ih =>
    intro d hd ch x hs
    obtain ⟨o, ho, hp⟩ := P.plan i d hd
    obtain ⟨p1, p2, p3, p4⟩ := P.at (i := i) (o := o) (by simpa using ho)
    unfold planOne at hp
    split at hp
    · rename_i hc
      simp only [Bool.and_eq_true] at hc
      unfold planOp at hp
      split at hp
      · simp at hp
      · simp only [Option.some.injEq] at hp; subst hp; simp at hs
      · rename_i ch' hch
        split at hp
        · rename_i q y new hop
          cases ch' with
          | nil => simp only [Option.some.injEq] at hp; subst hp; simp at hs
          | cons c0 c1 =>
            simp only at hp
            split at hp
            · simp only [Option.some.injEq] at hp
              subst hp
              simp only [S.gv.injEq] at hs
              obtain ⟨rfl, rfl⟩ := hs
              refine ⟨rfl, ?_⟩
              -- the guard
              unfold chainOf at hch
              split at hch
              · simp at hch
              · rename_i j w hg
                split at hch
                · simp at hch
                · rename_i s hsd
                  have hjb : (ancAt ds i).testBit j = true := by have := hc.1; rw [hg] at this; exact this
                  have hj : ∃ m', ds[j]? = some (some s, m') := by
                    cases hoj : opsA.toList[j]? with
                    | none => simp [hoj] at hsd
                    | some oj =>
                      simp only [hoj, Option.bind_some] at hsd
                      have := (P.at (i := j) (o := oj) (by simpa using hoj)).1
                      rw [hsd] at this
                      exact ⟨_, this⟩
                  have hsub : ∀ c y, sget (viewS (ancAt ds i) i 0 ds (drS (drs.take i)) sl) s = .gv c y → chIn ds (ancAt ds i) c := by
                    intro c y hy
                    rcases viewS_cases (ancAt ds i) i s ds 0 (drS (drs.take i)) sl with h | ⟨k, m', s', h1, h2, h3, h4⟩ | ⟨h1, h2⟩
                    · rw [h] at hy; simp at hy
                    · rw [h4] at hy
                      simp only [Nat.zero_add] at h3
                      have hki := p2 k h3
                      rw [drS_get, List.getElem?_take, if_pos hki] at h2
                      cases hdk : drs[k]? with
                      | none => simp [hdk] at h2
                      | some dk =>
                        simp only [hdk, Option.map_some, Option.some.injEq] at h2
                        obtain ⟨_, g2⟩ := ih k hki dk hdk c y (by rw [h2]; exact hy)
                        exact fun p hp => let ⟨r, m'', e1, e2⟩ := g2 p hp; ⟨r, m'', p4 k r h3 e1, e2⟩
                    · rw [h1] at hy
                      rcases P.cl s with ⟨z, hz⟩ | hz <;> rw [hz] at hy <;> simp at hy
                  have hhead : ∃ (k m' : Nat), (ancAt ds i).testBit k = true ∧ ds[k]? = some (some s, m') := let ⟨m', h⟩ := hj; ⟨j, m', hjb, h⟩
                  clear hop
                  split at hch <;> (try split at hch) <;> simp only [Option.some.injEq, reduceCtorEq, List.cons.injEq] at hch
                  · obtain ⟨rfl, rfl⟩ := hch
                    intro p hp
                    simp only [List.mem_singleton] at hp
                    subst hp
                    exact hhead
                  · rename_i c b hv
                    obtain ⟨rfl, rfl⟩ := hch
                    intro p hp
                    rcases List.mem_cons.1 hp with rfl | hp
                    · exact hhead
                    · exact hsub _ _ hv p hp
                  · rename_i c b hv _
                    subst hch
                    exact hsub _ _ hv
            · simp at hp
        · simp at hp
    · simp at hp

/-- Two views agree on the guards of an operation that both see. -/
theorem Planned.guard_eq (P : Planned C opsA.toList ds sl res drs) {k : Nat} {d : Dr} (hd : drs[k]? = some d) {ch : List (Nat × Bool)} {x : V} (hs : d.s = .gv ch x) {anc i : Nat} (hi : k < i)
    (hsub : ∀ r, (ancAt ds k).testBit r = true → anc.testBit r = true) : gOf (viewS anc i 0 ds (drS (drs.take i)) sl) ch = d.g := by
  obtain ⟨h1, h2⟩ := P.chain k d hd ch x hs
  rw [h1]
  obtain ⟨o, ho, _⟩ := P.plan k d hd
  obtain ⟨p1, p2, p3, p4⟩ := P.at (i := k) (o := o) (by simpa using ho)
  have hklt : k < drs.length := (List.getElem?_eq_some_iff.1 hd).1
  refine gOf_congr fun p hp => ?_
  obtain ⟨r, m', e1, e2⟩ := h2 p hp
  have hr := p2 r e1
  by_cases ht : p.1 < sl.length
  · have hdr : drs[r]? = some (drs[r]'(by omega)) := List.getElem?_eq_getElem (by omega)
    rw [viewS_at P.dst (k := r) e2 (s := (drs[r]'(by omega)).s) (by rw [drS_get, List.getElem?_take, if_pos (by omega), hdr]; rfl) (by simpa using hsub r e1) ht]
    unfold Dat
    rw [viewS_at P.dst (k := r) e2 (s := (drs[r]'(by omega)).s) (by rw [drS_get, List.getElem?_take, if_pos hr, hdr]; rfl) (by simpa using e1) ht]
  · rw [viewS_out ht]
    unfold Dat
    rw [viewS_out ht]

def SlotG (ρ : Env) (K : Nat → Prop) (x : Value) (d : Dr) : Prop :=
  match d.s with
  | .und => True
  | .ud => x = undef
  | .v y => x = den ρ y ∧ ok K y
  | .gv _ y => (d.g = true → x = den ρ y ∧ ok K y) ∧ (d.g = false → x = undef)

theorem SlotG.env {ρ ρ' : Env} {K K' : Nat → Prop} {x : Value} {d : Dr} (h : SlotG ρ K x d) (hK : ∀ i, K i → K' i) (ha : Env.agree K ρ ρ') : SlotG ρ' K' x d := by
  unfold SlotG at h ⊢
  split
  · trivial
  · rename_i hs; rw [hs] at h; exact h
  · rename_i y hs; rw [hs] at h; exact ⟨by rw [den_agree ha y h.2]; exact h.1, ok_mono hK y h.2⟩
  · rename_i c y hs; rw [hs] at h; exact ⟨fun hg => ⟨by rw [den_agree ha y (h.1 hg).2]; exact (h.1 hg).1, ok_mono hK y (h.1 hg).2⟩, h.2⟩

/-- The places that are known when some were done. -/
def KL (res : List Res) (drs : List Dr) (L : Nat → Bool) (id : Nat) : Prop := known res id ∨ (res.length ≤ id ∧ ∃ j y, locate drs (id - res.length) = some (j, y) ∧ L j = true)

structure Inv (ds : List (Option Nat × Nat)) (sl : List S) (res : List Res) (drs : List Dr) (defs : List (Nat × List V × List V)) (ρ0 : Env) (w0 : World) (F0 : Nat → Prop) (L : Nat → Bool) (ρ : Env) (fps : Nat → Nat → Prop) (a : Act) (w : World) : Prop where
  size : a.tmps.size = sl.length
  done : ∀ t j m d, ds[j]? = some (some t, m) → drs[j]? = some d → L j = true → SlotG ρ (KL res drs L) (a.tmps.getD t undef) d
  todo : ∀ t, (∀ j m, ds[j]? = some (some t, m) → L j = false) → SlotOK ρ (KL res drs L) [] (a.tmps.getD t undef) (sget sl t)
  heap : HRep ρ fps (res ++ viewR L 0 drs) (KL res drs L) w0 F0 w
  down : ∀ i k, L i = true → (ancAt ds i).testBit k = true → L k = true
  defs : a.defers = defs.map (dDen ρ) ∧ ∀ d ∈ defs, okL (known res) d.2.1 ∧ okL (known res) d.2.2
  agree : Env.agree (known res) ρ0 ρ
  newk : ∀ j d, drs[j]? = some d → L j = true → ∀ y, y < d.new.length → rget d.new y ≠ .yet

theorem SlotOK.plain {ρ : Env} {K : Nat → Prop} {sl sl' : List S} {x : Value} {s : S} (hs : (∃ y, s = .v y) ∨ s = .und) (h : SlotOK ρ K sl x s) : SlotOK ρ K sl' x s := by
  rcases hs with ⟨y, rfl⟩ | rfl
  · exact h
  · trivial

/-- What an operation sees is so. -/
theorem Planned.view {defs : List (Nat × List V × List V)} {ρ0 ρ : Env} {w0 w : World} {F0 : Nat → Prop} {L : Nat → Bool} {fps : Nat → Nat → Prop} {a : Act} (P : Planned C opsA.toList ds sl res drs) (I : Inv ds sl res drs defs ρ0 w0 F0 L ρ fps a w)
    {anc i : Nat} (h0 : i ≤ drs.length) (h1 : ∀ k, anc.testBit k = true → L k = true ∧ k < i) (h2 : ∀ k r, anc.testBit k = true → (ancAt ds k).testBit r = true → anc.testBit r = true)
    (h3 : ∀ k m t, ds[k]? = some (some t, m) → i ≤ k → (k = i ∨ m.testBit i = true) → L k = false) : FRep ρ (KL res drs L) (viewS anc i 0 ds (drS (drs.take i)) sl) a := by
  refine ⟨by rw [viewS_length]; exact I.size, fun t => ?_⟩
  rcases viewS_cases anc i t ds 0 (drS (drs.take i)) sl with h | ⟨k, m', s', e1, e2, e3, e4⟩ | ⟨e1, e2⟩
  · rw [h]; trivial
  · simp only [Nat.zero_add] at e3
    obtain ⟨l1, l2⟩ := h1 k e3
    rw [drS_get, List.getElem?_take, if_pos l2] at e2
    cases hdk : drs[k]? with
    | none => simp [hdk] at e2
    | some dk =>
      simp only [hdk, Option.map_some, Option.some.injEq] at e2
      have hG := I.done t k m' dk e1 hdk l1
      rw [e4, ← e2]
      unfold SlotG at hG
      cases hds : dk.s with
      | und => trivial
      | ud => rw [hds] at hG; exact hG
      | v y => rw [hds] at hG; exact hG
      | gv c y =>
        rw [hds] at hG
        have := P.guard_eq hdk hds (anc := anc) (i := i) l2 (fun r hr => h2 k r e3 hr)
        exact ⟨fun hg => hG.1 (by rw [← this]; exact hg), fun hg => hG.2 (by rw [← this]; exact hg)⟩
  · rw [e1]
    refine SlotOK.plain (P.cl t) (I.todo t fun j m hj => ?_)
    obtain ⟨f1, f2⟩ := e2 j m hj
    rw [drS_length, List.length_take, Nat.min_eq_left h0] at f1
    exact h3 j m t hj f1 (by simpa using f2)
end
end Go.Sx
