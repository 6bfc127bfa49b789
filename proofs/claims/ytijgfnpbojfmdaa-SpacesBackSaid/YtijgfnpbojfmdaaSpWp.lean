/- What layer 11's laws turn, in plain Lean. No condition. -/
import Derived.Test.YtijgfnpbojfmdaaSpW
import Derived.Test.YtijgfnpbojfmdaaKS
set_option linter.unusedVariables false
set_option linter.unusedSimpArgs false
namespace Go.Sx
def q_inN (n : Nat) (g : Int) : Prop := 0 ≤ g ∧ g ≤ (n : Int)
/-- A call over a store that may be none, with something asked also there. -/
def hSr {α : Type} (B : List V → Option α) (R : α → Prop) (Q : List Obj → α → Prop) (F : List Obj → α → V) (M : List Obj → α → List Obj) : HCt := fun args res K =>
  match args with
  | a :: l => match B l with
    | some x => R x ∧ match a with
      | .nl v => match v with
        | .pointer none => K (F [] x) res
        | _ => False
      | .lp k off => if off == 0 then match rget res k with
          | .store t e L => if t == tS && e == eS then Q L x ∧ K (F L x) (rset res k (.store tS eS (M L x))) else False
          | .blk t c => if t == tS && isZ c then K (F [] x) res else False
          | _ => False
        else False
      | _ => False
    | none => False
  | _ => False
theorem hSr_ok {P : Program} {f : Nat} {α : Type} {B : List V → Option α} {m : α → List V} {R : α → Prop} {Q : List Obj → α → Prop} {F : List Obj → α → V} {M : List Obj → α → List Obj} (hB : ∀ l x, B l = some x → SameB l (m x)) (hid : ∀ x, idfL (m x) = true) (hF : ∀ L x, idf (F L x) = true)
    (h0 : ∀ x, R x → CallTo P f (nilp :: m x) [] (isV (F [] x)) (fun _ _ => False)) (hz : ∀ x, R x → CallTo P f (.lp 0 0 :: m x) [.ro (.blk tS zst)] (isV (F [] x)) (fun _ _ => False))
    (h1 : ∀ L x, Q L x → CallTo P f (.lp 0 0 :: m x) [.store tS eS L] (kS2 (F L x) (M L x)) (fun _ _ => False)) : HOK P f (hSr B R Q F M) := by
  intro args res K KP h
  unfold hSr at h
  split at h
  case h_2 => exact h.elim
  split at h
  case h_2 => exact h.elim
  rename_i x hx
  obtain ⟨hR, h⟩ := h
  refine CallTo.args (SameB.keep (hB _ _ hx)) ?_
  split at h
  · split at h
    · exact CallTo.pure (by simp only [idfL, idf, Bool.true_and]; exact hid x) (hF _ _) ((h0 x hR).mono (fun _ _ h => isV_isE h) fun _ _ h => h) h
    · exact h.elim
  · split at h
    · rename_i hoff
      have hoff := beq_iff_eq.1 hoff
      subst hoff
      split at h
      · rename_i hr
        split at h
        · rename_i hc
          simp only [Bool.and_eq_true, beq_iff_eq] at hc
          obtain ⟨rfl, rfl⟩ := hc
          exact CallTo.onStore hr (hid x) (hF _ _) ((h1 _ x h.1).mono (fun v r hv => kS2_out hv |> fun ⟨a, b⟩ => ⟨fun ρ K => a ρ K, b⟩) fun _ _ h => h) h.2
        · exact h.elim
      · rename_i hr
        split at h
        · rename_i hc
          simp only [Bool.and_eq_true, beq_iff_eq] at hc
          obtain ⟨rfl, hz'⟩ := hc
          have := isZ_spec hz'
          subst this
          exact CallTo.read1 (r0 := .blk tS zst) (by unfold rlook; rw [hr]; rfl) (by simp) (fun κ => rfl) (hid x) (hF _ _) ((hz x hR).mono (fun _ _ h => isV_isE h) fun _ _ h => h) h
        · exact h.elim
      · exact h.elim
    · exact h.elim
  · exact h.elim
/-- So many bytes at an address: an error, a fault, its keeper, its address. -/
def q_aE (L : List Obj) (k : Key) (a n : Int) : Int := if q_wE L k a = 0 then (if n < 0 ∨ 64 < n then 4 else 0) else q_wE L k a
def q_aF (L : List Obj) (k : Key) (a n : Int) (w : Bool) : Int := if q_aE L k a n = 0 then (if (q_wR L k a).kd = 0 then (if 64 < (q_wR L k a).adr + n then 5 else if (w && !decide ((q_wR L k a).pos.rights = 0)) = true then 6 else 0) else (q_wR L k a).kd) else 0
def q_aP (L : List Obj) (k : Key) (a n : Int) (w : Bool) : Key := if q_aF L k a n w = 0 then void else (q_wR L k a).kpr
def q_aA (L : List Obj) (k : Key) (a n : Int) (w : Bool) : Int := if q_aF L k a n w = 0 then 0 else a
def q_aC (L : List Obj) (k : Key) (a n : Int) (w : Bool) : Bool := decide (q_aE L k a n = 0) && decide (q_aF L k a n w = 0)
def q_aR (L : List Obj) (k : Key) (a n : Int) (w : Bool) : Wr := if q_aC L k a n w = true then q_wR L k a else wr0
def afV (L : List Obj) (k : Key) (a n : Int) (w : Bool) : V := .ag [.it .i64 (q_aF L k a n w), .key (q_aP L k a n w), .it .i64 (q_aA L k a n w)]
def q_ldS (L : List Obj) (k : Key) (a n : Int) : ByteArray := if q_aC L k a n false = true then q_pread L (q_fP (q_aR L k a n false)) (q_fA (q_aR L k a n false)) n else ⟨#[]⟩
def q_stL (L : List Obj) (k : Key) (a : Int) (s : ByteArray) : List Obj := if q_aC L k a (szI s) true = true then q_pwrL L (q_fP (q_aR L k a (szI s) true)) (q_fA (q_aR L k a (szI s) true)) s else L
def accV (L : List Obj) (k : Key) (a n : Int) (w : Bool) : V := .tp [fndV (q_aR L k a n w), afV L k a n w, .it .i64 (q_aE L k a n)]
def g_acc : Ct := mkR (consA sA (consA kA (consA iA (consA iA (consA bA nilA))))) (fun _ => none) fun x => accV (stL x.1) x.2.1 x.2.2.1 x.2.2.2.1 x.2.2.2.2.1
def g_racc : Ct := mkR (consA liA (consA kA (consA iA (consA iA (consA bA nilA))))) (fun x => some (q_okL x.1)) fun x => accV x.1 x.2.1 x.2.2.1 x.2.2.2.1 x.2.2.2.2.1
def q_pwrC (L : List Obj) (k : Key) (i : Int) (s : ByteArray) : Bool := decide (q_pwrE L k i s = 0)
def h_rwr : HCt := hLx rdKIS (fun L x => q_okL L ∧ q_strOk x.2.2) (fun L x => q_pwrC L x.1 x.2.1 x.2.2) (fun L x => q_pwrL L x.1 x.2.1 x.2.2) fun L x => [.it .i64 (q_pwrE L x.1 x.2.1 x.2.2)]
def q_num (h : Int) : Key := ⟨1, 0, 0, 0, 0, h⟩
def q_fmE (L : List Obj) (k : Key) (h : Int) : Int := if llen L = 0 then 1 else if h < 1 ∨ 8 < h then 2 else q_nputE L k 15 (q_num h)
def q_fmL (L : List Obj) (k : Key) (h : Int) : List Obj := if q_fmE L k h = 0 then q_nputL L k 15 (q_num h) else L
def q_fmC (L : List Obj) (k : Key) (h : Int) : Bool := decide (q_fmE L k h = 0)
def kwB : ArgL (Key × Int × Unit) := consA kA (consA iA nilA)
def g_ld : Ct := mkR (consA sA (consA kA (consA iA (consA iA nilA)))) (fun _ => none) fun x => .tp [.st (q_ldS (stL x.1) x.2.1 x.2.2.1 x.2.2.2.1), afV (stL x.1) x.2.1 x.2.2.1 x.2.2.2.1 false, .it .i64 (q_aE (stL x.1) x.2.1 x.2.2.1 x.2.2.2.1)]
def g_rld : Ct := mkR (consA liA (consA kA (consA iA (consA iA nilA)))) (fun x => some (q_okL x.1)) fun x => .tp [.st (q_ldS x.1 x.2.1 x.2.2.1 x.2.2.2.1), afV x.1 x.2.1 x.2.2.1 x.2.2.2.1 false, .it .i64 (q_aE x.1 x.2.1 x.2.2.1 x.2.2.2.1)]
def h_sst : HCt := hSr rdKIS (fun x => q_strOk x.2.2) (fun L x => q_okL L ∧ q_strOk x.2.2) (fun L x => .tp [afV L x.1 x.2.1 (szI x.2.2) true, .it .i64 (q_aE L x.1 x.2.1 (szI x.2.2))]) fun L x => q_stL L x.1 x.2.1 x.2.2
def h_rst : HCt := hLx rdKIS (fun L x => q_okL L ∧ q_strOk x.2.2) (fun L x => q_aC L x.1 x.2.1 (szI x.2.2) true) (fun L x => q_stL L x.1 x.2.1 x.2.2) fun L x => [afV L x.1 x.2.1 (szI x.2.2) true, .it .i64 (q_aE L x.1 x.2.1 (szI x.2.2))]
def h_sfm : HCt := hSt (rdL kwB) (fun L _ => q_okL L) (fun L x => .it .i64 (q_fmE L x.1 x.2.1)) fun L x => q_fmL L x.1 x.2.1
def h_rfm : HCt := hLx (rdL kwB) (fun L _ => q_okL L) (fun L x => q_fmC L x.1 x.2.1) (fun L x => q_fmL L x.1 x.2.1) fun L x => [.it .i64 (q_fmE L x.1 x.2.1)]
theorem is_only {L : List Obj} {k : Key} {r : Int} (h : q_is L k = true) (h3 : k.kind = 3) : q_is L (q_only r k) = true ∧ (q_only r k).kind = 3 := by
  unfold q_only
  split
  · exact ⟨h, h3⟩
  · refine ⟨?_, h3⟩
    have hk := (is_all h).1
    have hm : q_most k.kind = 1 := by rw [h3]; rfl
    have hk' : q_keyOk (q_rts k 1) = true := by
      have hk1 := hk
      simp only [q_keyOk, Bool.and_eq_true, decide_eq_true_eq] at hk1 ⊢
      obtain ⟨⟨⟨⟨⟨⟨⟨x1, x2⟩, x3⟩, x4⟩, x5⟩, x6⟩, x7⟩, x8⟩ := hk1
      exact ⟨⟨⟨⟨⟨⟨⟨x1, x2⟩, by show (0 : Int) ≤ 1; omega⟩, by show 1 ≤ q_most k.kind; omega⟩, x5⟩, x6⟩, x7⟩, x8⟩
    have hn : q_names (q_rts k 1) = q_names k := by unfold q_names; rw [hk, hk']; rfl
    have hw : q_wants (q_rts k 1) = q_wants k := by unfold q_wants; rw [hn]; rfl
    have hc : ∀ o, q_counts (q_rts k 1) o = q_counts k o := fun o => by unfold q_counts; rw [hn, hw, hk, hk']; rfl
    have hd : q_named (q_rts k 1) = q_named k := by unfold q_named; rw [hk, hk']; rfl
    unfold q_is at h ⊢
    rw [hd, hc]
    exact h
theorem wgo_end {L : List Obj} : ∀ (n : Nat) (w : Wk), 0 ≤ w.adr → (q_wgo L n w).kd = 0 → (q_is L (q_wgo L n w).pos = true ∧ (q_wgo L n w).pos.kind = 3) ∧ 0 ≤ (q_wgo L n w).adr ∧ (q_wgo L n w).adr < 64
  | 0, w, _, h => absurd h (by show ¬ (3 : Int) = 0; omega)
  | n + 1, w, ha, h => by
    unfold q_wgo wgo at h ⊢
    split at h
    · rename_i h3
      split at h
      · rename_i hlt
        rw [if_pos h3, if_pos hlt]
        obtain ⟨pe, pi⟩ := prep_is (.inr h3)
        rw [pe] at h3 ⊢
        exact ⟨is_only pi h3, ha, hlt⟩
      · exact absurd h (by show ¬ (2 : Int) = 0; omega)
    · rename_i h3
      rw [if_neg h3]
      split at h
      · rename_i h2
        rw [if_pos h2]
        split at h
        · rename_i r hr
          unfold q_wnode at hr
          split at hr
          · simp only [Prod.mk.injEq, and_true] at hr; subst hr; exact absurd h (by show ¬ (3 : Int) = 0; omega)
          · split at hr
            · split at hr <;> simp only [Prod.mk.injEq, and_true, reduceCtorEq, and_false] at hr
              subst hr; exact absurd h (by show ¬ (2 : Int) = 0; omega)
            · simp only [Prod.mk.injEq, and_true] at hr; subst hr; exact absurd h (by show ¬ (4 : Int) = 0; omega)
        · rename_i r w' hr
          refine wgo_end n w' ?_ h
          unfold q_wnode at hr
          split at hr
          · simp at hr
          · split at hr
            · rename_i hf
              split at hr <;> simp only [Prod.mk.injEq, Option.some.injEq, reduceCtorEq, and_false] at hr
              obtain ⟨_, rfl⟩ := hr
              have hf' := hOk_iff.1 hf
              have he := each_le (show (q_got L (q_rts (q_prep L w.pos) 0) 15).value ≤ 9 by omega)
              exact (div_facts ha he.1).2.2.1
            · simp at hr
      · exact absurd h (by show ¬ (1 : Int) = 0; omega)
theorem wR_end {L : List Obj} {k : Key} {a : Int} (hE : q_wE L k a = 0) (h : (q_wR L k a).kd = 0) : (q_is L (q_wR L k a).pos = true ∧ (q_wR L k a).pos.kind = 3) ∧ 0 ≤ (q_wR L k a).adr ∧ (q_wR L k a).adr < 64 := by
  have ha : 0 ≤ a := by
    unfold q_wE at hE
    split at hE
    · omega
    · split at hE
      · split at hE <;> omega
      · omega
  unfold q_wR at h ⊢
  rw [if_pos hE] at h ⊢
  exact wgo_end 9 _ ha h
theorem aC_not {L : List Obj} {k : Key} {a n : Int} {w : Bool} : (!decide (q_aE L k a n = 0) || !decide (q_aF L k a n w = 0)) = !q_aC L k a n w := by
  unfold q_aC
  cases decide (q_aE L k a n = 0) <;> cases decide (q_aF L k a n w = 0) <;> rfl
theorem aC_inv {L : List Obj} {k : Key} {a n : Int} {w : Bool} (h : q_aC L k a n w = true) : q_aE L k a n = 0 ∧ q_aF L k a n w = 0 := by
  unfold q_aC at h
  simpa using h
theorem aE_w {L : List Obj} {k : Key} {a n e : Int} (h : q_wE L k a = e) (he : e ≠ 0) : q_aE L k a n = e := by unfold q_aE; rw [h, if_neg he]
theorem aE_r {L : List Obj} {k : Key} {a n : Int} (h : q_wE L k a = 0) (hr : (decide (n < 0) || decide (64 < n)) = true) : q_aE L k a n = 4 := by
  unfold q_aE
  rw [if_pos h, if_pos (by simpa using hr)]
theorem aE_0 {L : List Obj} {k : Key} {a n : Int} (h : q_wE L k a = 0) (hr : (decide (n < 0) || decide (64 < n)) = false) : q_aE L k a n = 0 := by
  unfold q_aE
  rw [if_pos h, if_neg (by simpa using hr)]
theorem aE_inv {L : List Obj} {k : Key} {a n : Int} (h : q_aE L k a n = 0) : q_wE L k a = 0 ∧ 0 ≤ n ∧ n ≤ 64 := by
  unfold q_aE at h
  split at h
  · rename_i hw
    split at h
    · omega
    · exact ⟨hw, by omega, by omega⟩
  · rename_i hw; exact absurd h hw
theorem aF_inv {L : List Obj} {k : Key} {a n : Int} {w : Bool} (h : q_aC L k a n w = true) : q_wE L k a = 0 ∧ (q_wR L k a).kd = 0 ∧ 0 ≤ n ∧ (q_wR L k a).adr + n ≤ 64 ∧ (w = true → (q_wR L k a).pos.rights = 0) := by
  unfold q_aC at h
  rw [Bool.and_eq_true, decide_eq_true_eq, decide_eq_true_eq] at h
  obtain ⟨hE, hF⟩ := h
  obtain ⟨h1, h2, h3⟩ := aE_inv hE
  unfold q_aF at hF
  rw [if_pos hE] at hF
  split at hF
  · rename_i hk
    split at hF
    · omega
    · split at hF
      · omega
      · rename_i h4 h5
        exact ⟨h1, hk, h2, by omega, fun hw => by rw [hw] at h5; simpa using h5⟩
  · rename_i hk; exact absurd hF hk
theorem acc_err {L : List Obj} {k : Key} {a n e : Int} {w : Bool} (h : q_aE L k a n = e) (he : e ≠ 0) : void = q_fP (q_aR L k a n w) ∧ 0 = q_fA (q_aR L k a n w) ∧ void = q_fK (q_aR L k a n w) ∧ 0 = q_fD (q_aR L k a n w) ∧ 0 = q_aF L k a n w ∧ void = q_aP L k a n w ∧ 0 = q_aA L k a n w ∧ e = q_aE L k a n := by
  have hF : q_aF L k a n w = 0 := by unfold q_aF; rw [h, if_neg he]
  have hC : q_aC L k a n w = false := by unfold q_aC; rw [h, decide_eq_false he]; rfl
  unfold q_aR q_aP q_aA
  rw [hC, hF, h]
  exact ⟨rfl, rfl, rfl, rfl, rfl, rfl, rfl, rfl⟩
theorem acc_flt {L : List Obj} {k : Key} {a n d : Int} {w : Bool} (hE : q_aE L k a n = 0) (h : q_aF L k a n w = d) (hd : d ≠ 0) : void = q_fP (q_aR L k a n w) ∧ 0 = q_fA (q_aR L k a n w) ∧ void = q_fK (q_aR L k a n w) ∧ 0 = q_fD (q_aR L k a n w) ∧ d = q_aF L k a n w ∧ (q_wR L k a).kpr = q_aP L k a n w ∧ a = q_aA L k a n w ∧ 0 = q_aE L k a n := by
  have hC : q_aC L k a n w = false := by unfold q_aC; rw [h, decide_eq_false hd, Bool.and_false]
  unfold q_aR q_aP q_aA
  rw [hC, h, hE, if_neg hd, if_neg hd]
  exact ⟨rfl, rfl, rfl, rfl, rfl, rfl, rfl, rfl⟩
theorem acc_fnd {L : List Obj} {k : Key} {a n : Int} {w : Bool} (hE : q_aE L k a n = 0) (h : q_aF L k a n w = 0) : q_fP (q_wR L k a) = q_fP (q_aR L k a n w) ∧ q_fA (q_wR L k a) = q_fA (q_aR L k a n w) ∧ q_fK (q_wR L k a) = q_fK (q_aR L k a n w) ∧ q_fD (q_wR L k a) = q_fD (q_aR L k a n w) ∧ 0 = q_aF L k a n w ∧ void = q_aP L k a n w ∧ 0 = q_aA L k a n w ∧ 0 = q_aE L k a n := by
  have hC : q_aC L k a n w = true := by unfold q_aC; rw [h, hE]; rfl
  unfold q_aR q_aP q_aA
  rw [hC, h, hE]
  exact ⟨rfl, rfl, rfl, rfl, rfl, rfl, rfl, rfl⟩
theorem f_kd0 {r : Wr} (h : r.kd = 0) : q_fP r = r.pos ∧ q_fA r = r.adr ∧ q_fK r = r.kpr := by
  unfold q_fP q_fA q_fK
  rw [if_pos h, if_pos h, if_pos h]
  exact ⟨rfl, rfl, rfl⟩
theorem u_kd {r : Wr} {a : Int} (h : r.kd ≠ 0) : q_uF r = r.kd ∧ q_uK r = r.kpr ∧ q_uA r a = a := by
  unfold q_uK q_uA
  rw [if_neg h, if_neg h]
  exact ⟨rfl, rfl, rfl⟩
theorem aF_w {L : List Obj} {k : Key} {a n : Int} {w : Bool} (hE : q_aE L k a n = 0) (h : (q_wR L k a).kd ≠ 0) : q_aF L k a n w = (q_wR L k a).kd := by unfold q_aF; rw [if_pos hE, if_neg h]
theorem aF_5 {L : List Obj} {k : Key} {a n : Int} {w : Bool} (hE : q_aE L k a n = 0) (h : (q_wR L k a).kd = 0) (h5 : 64 < (q_wR L k a).adr + n) : q_aF L k a n w = 5 := by unfold q_aF; rw [if_pos hE, if_pos h, if_pos h5]
theorem aF_6 {L : List Obj} {k : Key} {a n : Int} {w : Bool} (hE : q_aE L k a n = 0) (h : (q_wR L k a).kd = 0) (h5 : ¬ 64 < (q_wR L k a).adr + n) (h6 : (w && !decide ((q_wR L k a).pos.rights = 0)) = true) : q_aF L k a n w = 6 := by unfold q_aF; rw [if_pos hE, if_pos h, if_neg h5, if_pos h6]
theorem aF_0 {L : List Obj} {k : Key} {a n : Int} {w : Bool} (hE : q_aE L k a n = 0) (h : (q_wR L k a).kd = 0) (h5 : ¬ 64 < (q_wR L k a).adr + n) (h6 : (w && !decide ((q_wR L k a).pos.rights = 0)) = false) : q_aF L k a n w = 0 := by unfold q_aF; rw [if_pos hE, if_pos h, if_neg h5, if_neg (by rw [h6]; simp)]
/-- What was found may be read, written. -/
theorem acc_pg {L : List Obj} {k : Key} {a n : Int} {w : Bool} (h : q_aC L k a n w = true) : (q_is L (q_fP (q_aR L k a n w)) = true ∧ (q_fP (q_aR L k a n w)).kind = 3) ∧ q_page L (q_fP (q_aR L k a n w)) w = 0 ∧ q_inside (q_fA (q_aR L k a n w)) n = true := by
  obtain ⟨h1, h2, h3, h4, h5⟩ := aF_inv h
  obtain ⟨⟨e1, e2⟩, e3, e4⟩ := wR_end h1 h2
  obtain ⟨f1, f2, _⟩ := f_kd0 h2
  unfold q_aR
  rw [if_pos h, f1, f2]
  have hl := is_all e1
  have hA : q_asked L (q_wR L k a).pos 3 false = 0 := by
    unfold q_asked
    rw [if_neg (by have := hl.2.1; have := hl.2.2.1; unfold llen; omega), if_neg (by rw [e1, e2]; simp), if_neg (by simp)]
  refine ⟨⟨e1, e2⟩, ?_, inside_iff.2 ⟨e3, h3, by omega, by omega⟩⟩
  unfold q_page
  rw [if_pos hA, if_neg]
  cases w
  · simp
  · simp [h5 rfl]
theorem pwrL_ok {L : List Obj} {k : Key} {i : Int} {s : ByteArray} (hL : q_okL L) : q_okL (q_pwrL L k i s) := by
  unfold q_pwrL
  split
  · rename_i h
    unfold q_pwrE at h
    split at h
    · rename_i hp
      obtain ⟨a1, a2, _⟩ := page_ok hp
      exact (page_put hL a1 a2).2.2
    · rename_i hp; exact absurd h hp
  · exact hL
theorem stL_ok {L : List Obj} {k : Key} {a : Int} {s : ByteArray} (hL : q_okL L) : q_okL (q_stL L k a s) := by
  unfold q_stL
  split
  · exact pwrL_ok hL
  · exact hL
/-- A call of a statement. -/
structure Acs where
  kind : Int
  num : Int
  root : Key
  adr : Int
  bytes : ByteArray
def acsV (a : Acs) : V := .ag [.it .i64 a.kind, .it .i64 a.num, .key a.root, .it .i64 a.adr, .st a.bytes]
def acs0 : Acs := ⟨0, 0, void, 0, ⟨#[]⟩⟩
def q_at (x : List Acs) (g : Int × List Obj) : Acs := lget x g.1.toNat acs0
def q_acf (l : List Acs) (i : Nat) : V := acsV (lget l i acs0)
def acss (l : List Acs) : TL := .fn (llen l) (q_acf l)
/-- A link of a chain. -/
structure Lnk where
  hgt : Int
  slot : Int
  rts : Int
  kept : Bool
def lnkV (a : Lnk) : V := .ag [.it .i64 a.hgt, .it .i64 a.slot, .it .i64 a.rts, .bo a.kept]
def lnk0 : Lnk := ⟨0, 0, 0, false⟩
def lnks (l : List Lnk) : TL := .fn (llen l) fun i => lnkV (lget l i lnk0)
def q_invSp1 (n : Nat) (g : Int × List Obj) : Prop := 0 ≤ g.1 ∧ g.1 ≤ (n : Int) ∧ q_okL g.2
def q_muSp1 (n : Nat) (g : Int × List Obj) : Nat := n - g.1.toNat
/-- The objects of a chain, its first so many. -/
def q_chO (x : Lnk) (i n : Int) : Obj :=
  ⟨1, 1, 0, if x.kept then (((noSlots.put 15 (q_num x.hgt)).put x.slot.toNat ⟨if i = n - 1 then 3 else 2, i + 1, 1, 0, if i = n - 1 then bitsI .and .i64 x.rts 1 else x.rts, 0⟩).put 14 ⟨6, i, 1, 0, 0, i⟩) else ((noSlots.put 15 (q_num x.hgt)).put x.slot.toNat ⟨if i = n - 1 then 3 else 2, i + 1, 1, 0, if i = n - 1 then bitsI .and .i64 x.rts 1 else x.rts, 0⟩), noBytes⟩
def q_chL (l : List Lnk) (g : Int) : List Obj := (List.range g.toNat).map fun i => q_chO (lget l i lnk0) (i : Int) (llen l : Int)
def q_chA (l : List Lnk) (g : Int) : Int := ((List.range g.toNat).map fun i => (lget l i lnk0).slot * q_each (lget l i lnk0).hgt).sum
def q_chI (l : List Lnk) (g : Int) : Prop := 0 ≤ g ∧ g ≤ (llen l : Int)
def q_lnkOk (x : Lnk) : Prop := 0 ≤ x.hgt ∧ x.hgt ≤ 9 ∧ 0 ≤ x.slot ∧ x.slot ≤ 13 ∧ 0 ≤ x.rts ∧ x.rts ≤ 7
def q_chK (l : List Lnk) (g : Int) : Prop := 0 ≤ g ∧ g ≤ (llen l : Int) ∧ ∀ j, j < g.toNat → q_lnkOk (lget l j lnk0)
theorem oeq_self (o : Obj) : oeq o o = true := by simp [oeq]
theorem stL_no {L : List Obj} {k : Key} {a : Int} {s : ByteArray} (h : q_aC L k a (szI s) true = false) : q_stL L k a s = L := by unfold q_stL; rw [h]; rfl
theorem fmL_no {L : List Obj} {k : Key} {h : Int} (h0 : q_fmC L k h = false) : q_fmL L k h = L := by unfold q_fmL; rw [if_neg (of_decide_eq_false h0)]
theorem fmE_inv {L : List Obj} {k : Key} {h : Int} (h0 : q_fmE L k h = 0) : q_nputE L k 15 (q_num h) = 0 := by
  unfold q_fmE at h0
  split at h0
  · omega
  · split at h0
    · omega
    · exact h0
theorem fmL_ok {L : List Obj} {k : Key} {h : Int} (hL : q_okL L) : q_okL (q_fmL L k h) := by
  unfold q_fmL
  split
  · rename_i h0
    exact (put_facts hL (fmE_inv h0)).1
  · exact hL
theorem kwB_ok : ArgLOK kwB := consA_ok kA_ok (consA_ok iA_ok nilA_ok)
end Go.Sx
