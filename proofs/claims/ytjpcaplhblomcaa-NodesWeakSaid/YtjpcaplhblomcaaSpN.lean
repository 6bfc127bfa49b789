/- Nodes in plain Lean: weak keys, slots that are got, put, cleared, cloned. No condition. -/
import Derived.Test.YtjpcaplhblomcaaSpS
import Derived.Test.YtjpcaplhblomcaaSx19
set_option linter.unusedVariables false
set_option linter.unusedSimpArgs false
namespace Go.Sx
def q_bitOf (r b : Int) : Bool := decide ((r.tdiv b).tmod 2 = 1)
def q_withG (r m g : Int) : Int := (if 2 ≤ g ∧ (q_bitOf r 1 || q_bitOf m 1) = true then 1 else 0) + (if 4 ≤ g ∧ (q_bitOf r 2 || q_bitOf m 2) = true then 2 else 0) + (if 8 ≤ g ∧ (q_bitOf r 4 || q_bitOf m 4) = true then 4 else 0)
/-- Rights with others besides. -/
def q_with (r m : Int) : Int := q_withG r m 8
def q_invB (g : Int) : Prop := g = 1 ∨ g = 2 ∨ g = 4 ∨ g = 8
def q_rts (k : Key) (r : Int) : Key := { k with rights := r }
/-- A key, weak. -/
def q_weak (k : Key) : Key := if k.kind = 2 then q_rts k (q_with k.rights 3) else if k.kind = 3 then q_rts k 1 else if k.kind = 1 ∨ k.kind = 8 then k else void
def q_weaken (k : Key) : Key := if q_keyOk k then q_weak k else void
def g_rwith : Ct := mk2 (rI .i64) (rI .i64) fun r m => .it .i64 (q_with r m)
def g_rweak : Ct := mk1 rK fun k => .key (q_weak k)
def g_weaken : Ct := mk1 rK fun k => .tp [.key (q_weaken k), .it .i64 (q_chk k)]
def q_asked (L : List Obj) (k : Key) (kind : Int) (c : Bool) : Int := if llen L = 0 then 1 else if (!q_is L k || !decide (k.kind = kind)) = true then 190 else if (c && !decide (k.rights.tmod 4 = 0)) = true then 191 else 0
def q_weakBit (k : Key) : Bool := decide ((k.rights.tdiv 2).tmod 2 = 1)
def q_gotO (L : List Obj) (o : Obj) (k : Key) (i : Int) : Key := if q_weakBit k then q_weak (q_prep L (o.slots.at i.toNat)) else q_prep L (o.slots.at i.toNat)
/-- What is got of a slot. -/
def q_got (L : List Obj) (k : Key) (i : Int) : Key := q_gotO L (lget L k.oid.toNat free) k i
def q_gotQ (k : Key) (i : Int) : Prop := 0 ≤ i ∧ i < 16 ∧ q_keyOk k = true
def q_dgotQ (L : List Obj) (k : Key) (i : Int) : Prop := 0 ≤ i ∧ i < 16 ∧ 0 ≤ k.oid ∧ k.oid < (llen L : Int)
def q_nrng (i : Int) : Bool := decide (0 ≤ i) && decide (i < 16)
def q_ngetE (L : List Obj) (k : Key) (i : Int) : Int := if q_asked L k 2 false = 0 then (if q_nrng i then 0 else 4) else q_asked L k 2 false
def q_nget (L : List Obj) (k : Key) (i : Int) : Key := if q_ngetE L k i = 0 then q_got L k i else void
def q_may (L : List Obj) (v : Key) : Bool := q_keyOk v && decide (q_names v < (llen L : Int))
def q_nputE (L : List Obj) (k : Key) (i : Int) (v : Key) : Int := if q_asked L k 2 true = 0 then (if q_nrng i then (if q_may L v then 0 else 2) else 4) else q_asked L k 2 true
def q_nput (L : List Obj) (k : Key) (i : Int) (v : Key) : Key := if q_nputE L k i v = 0 then q_got L k i else void
def q_sls (o : Obj) (s : Slots) : Obj := { o with slots := s }
def q_setO (L : List Obj) (k : Key) (s : Slots) : List Obj := lset L k.oid.toNat (q_sls (lget L k.oid.toNat free) s)
def q_nputL (L : List Obj) (k : Key) (i : Int) (v : Key) : List Obj := if q_nputE L k i v = 0 then q_setO L k ((lget L k.oid.toNat free).slots.put i.toNat (q_prep L v)) else L
def q_nclrL (L : List Obj) (k : Key) : List Obj := if q_asked L k 2 true = 0 then q_setO L k noSlots else L
def q_ncloE (L : List Obj) (t f : Key) : Int := if q_asked L t 2 true = 0 then q_asked L f 2 false else q_asked L t 2 true
def q_cloS (L : List Obj) (t f : Key) (g : Int) : Slots := (List.range g.toNat).foldl (fun s (j : Nat) => s.put j (q_got L f (j : Int))) (lget L t.oid.toNat free).slots
def q_ncloL (L : List Obj) (t f : Key) : List Obj := if q_ncloE L t f = 0 then q_setO L t (q_cloS L t f 16) else L
def q_nallG (L : List Obj) (k : Key) (g : Int) : List Key := (List.range g.toNat).map fun (j : Nat) => q_got L k (j : Int)
def q_nall (L : List Obj) (k : Key) : List Key := q_nallG L k 16
def q_okL (L : List Obj) : Prop := q_right L = true
def q_inv16 (g : Int) : Prop := 0 ≤ g ∧ g ≤ 16
def kA : Arg Key := valA rK V.key
def iA : Arg Int := valA (rI .i64) (V.it .i64)
def bA : Arg Bool := valA toBool V.bo
def oA : Arg Obj := valA rO V.ob
def sA : Arg (Option (List Obj)) := stA tS eS
def stL (o : Option (List Obj)) : List Obj := match o with
  | none => []
  | some L => L
def nB : ArgL (Obj × Option (List Obj) × Key × Unit) := consA oA (consA sA (consA kA nilA))
def g_ngot : Ct := mkR (consA (agA nB) (consA iA nilA)) (fun x => some (q_gotQ x.1.2.2.1 x.2.1)) fun x => .key (q_gotO (stL x.1.2.1) x.1.1 x.1.2.2.1 x.2.1)
def g_asked : Ct := mkR (consA liA (consA kA (consA iA (consA bA nilA)))) (fun _ => none) fun x => .it .i64 (q_asked x.1 x.2.1 x.2.2.1 x.2.2.2.1)
def g_dgot : Ct := mkR (consA liA (consA kA (consA iA nilA))) (fun x => some (q_dgotQ x.1 x.2.1 x.2.2.1)) fun x => .key (q_got x.1 x.2.1 x.2.2.1)
def g_may : Ct := mkR (consA liA (consA kA nilA)) (fun _ => none) fun x => .bo (q_may x.1 x.2.1)
def g_nget : Ct := mkR (consA sA (consA kA (consA iA nilA))) (fun _ => none) fun x => .tp [.key (q_nget (stL x.1) x.2.1 x.2.2.1), .it .i64 (q_ngetE (stL x.1) x.2.1 x.2.2.1)]
def q_rputQ (L : List Obj) (i : Int) : Prop := 0 ≤ i ∧ i < (llen L : Int) ∧ llen L ≤ 1000
def tO : Nat := 46
def g_rput : Ct := mkRN (consA liA (consA iA (consA oA nilA))) (fun x => some (q_rputQ x.1 x.2.1)) (fun _ n => .sa n) fun x _ => [.arr (some tO) 163 (.ob (lset x.1 (i2n x.2.1) x.2.2.1))]
def wkX (nid : Nat) : V := .mp nid
def wkN (nid : Nat) : List Res := [.mp .i64 [2, 3, 1, 8] [.fn 68 [.lp (nid + 1) 0], .fn 68 [.lp (nid + 1 + 1) 0], .fn 66 [], .fn 66 []],
  .blk 24 (.ci .i64 3), .blk 24 (.ci .i64 1)]
theorem tdiv_in {r g : Int} (hr : inR .i64 r) (hg : g = 1 ∨ g = 2 ∨ g = 4 ∨ g = 8) : inR .i64 (r.tdiv g) := by
  simp only [inR] at *
  rcases Int.le_total 0 r with h | h
  · rw [Int.tdiv_eq_ediv_of_nonneg h]
    rcases hg with rfl | rfl | rfl | rfl <;> omega
  · obtain ⟨s, rfl⟩ : ∃ s, r = -s := ⟨-r, by omega⟩
    rw [Int.neg_tdiv, Int.tdiv_eq_ediv_of_nonneg (by omega)]
    rcases hg with rfl | rfl | rfl | rfl <;> omega
theorem tmod2_in (x : Int) : inR .i64 (x.tmod 2) := by
  have h1 := Int.tmod_lt_of_pos x (show (0 : Int) < 2 by omega)
  have h2 := Int.lt_tmod_of_pos x (show (0 : Int) < 2 by omega)
  simp only [inR]
  omega
theorem withG_in {r m g : Int} : 0 ≤ q_withG r m g ∧ q_withG r m g ≤ 7 := by
  unfold q_withG
  repeat' split
  all_goals omega
theorem or_with3 {r : Int} (h0 : 0 ≤ r) (h1 : r ≤ 7) : bitsI .or .i64 r 3 = q_with r 3 := by
  have : r = 0 ∨ r = 1 ∨ r = 2 ∨ r = 3 ∨ r = 4 ∨ r = 5 ∨ r = 6 ∨ r = 7 := by omega
  rcases this with rfl | rfl | rfl | rfl | rfl | rfl | rfl | rfl <;> decide
theorem or_with1 {r : Int} (h0 : 0 ≤ r) (h1 : r ≤ 1) : bitsI .or .i64 r 1 = 1 := by
  have : r = 0 ∨ r = 1 := by omega
  rcases this with rfl | rfl <;> decide
theorem keyOk_rights {k : Key} (h : q_keyOk k = true) : 0 ≤ k.rights ∧ k.rights ≤ q_most k.kind := by
  simp only [q_keyOk, Bool.and_eq_true, decide_eq_true_eq] at h
  omega
theorem keyOk_void : q_keyOk void = true := by decide
theorem keyOk_prep (L : List Obj) (k : Key) : q_keyOk (q_prep L k) = true := by
  unfold q_prep
  split
  · exact keyOk_void
  · rename_i h
    simp only [Bool.or_eq_true, not_or, Bool.not_eq_true, Bool.not_eq_false'] at h
    exact h.1.2
theorem weaken_prep (L : List Obj) (k : Key) : q_weaken (q_prep L k) = q_weak (q_prep L k) := by unfold q_weaken; rw [keyOk_prep, if_pos rfl]
theorem and2 {r : Int} (h0 : 0 ≤ r) (h1 : r ≤ 7) : decide (bitsI .and .i64 r 2 = 0) = !decide ((r.tdiv 2).tmod 2 = 1) := by
  have : r = 0 ∨ r = 1 ∨ r = 2 ∨ r = 3 ∨ r = 4 ∨ r = 5 ∨ r = 6 ∨ r = 7 := by omega
  rcases this with rfl | rfl | rfl | rfl | rfl | rfl | rfl | rfl <;> decide
theorem and3 {r : Int} (h0 : 0 ≤ r) (h1 : r ≤ 7) : decide (bitsI .and .i64 r 3 = 0) = decide (r.tmod 4 = 0) := by
  have : r = 0 ∨ r = 1 ∨ r = 2 ∨ r = 3 ∨ r = 4 ∨ r = 5 ∨ r = 6 ∨ r = 7 := by omega
  rcases this with rfl | rfl | rfl | rfl | rfl | rfl | rfl | rfl <;> decide
theorem most_le (n : Int) : q_most n ≤ 7 := by unfold q_most; split <;> (try split) <;> omega
theorem keyOk_r7 {k : Key} (h : q_keyOk k = true) : 0 ≤ k.rights ∧ k.rights ≤ 7 := by
  have := keyOk_rights h
  have := most_le k.kind
  omega
theorem is_all {L : List Obj} {k : Key} (h : q_is L k = true) : q_keyOk k = true ∧ 0 ≤ k.oid ∧ k.oid < (L.length : Int) ∧ q_nobj L k = lget L k.oid.toNat free ∧ (lget L k.oid.toNat free).kind = q_wants k := by
  have h' := h
  unfold q_is at h
  simp only [Bool.and_eq_true, decide_eq_true_eq] at h
  obtain ⟨⟨h1, h2⟩, h3⟩ := h
  have hb := has_ok.1 h2
  have hn : 0 ≤ q_names k := (is_names h').1
  simp only [q_counts, Bool.and_eq_true, Bool.or_eq_true, decide_eq_true_eq] at h3
  refine ⟨h3.1, hb.1, hb.2, by unfold q_nobj; rw [h', if_pos rfl], ?_⟩
  rcases h3.2 with h | h
  · omega
  · exact h.1.1
theorem is_nil (k : Key) : q_is [] k = false := by
  cases h : q_is [] k with
  | false => rfl
  | true =>
    have := is_all h
    simp only [List.length_nil] at this
    omega
theorem got_law {L : List Obj} {o : Obj} {k : Key} {i : Int} (hq : q_gotQ k i) : (0 ≤ i ∧ i < ↑16) ∧
    ((!decide (bitsI BinOp.and IntKind.i64 k.rights 2 = 0)) = true → q_weaken (q_prep L (o.slots.at i.toNat)) = q_gotO L o k i) ∧
      ((!decide (bitsI BinOp.and IntKind.i64 k.rights 2 = 0)) = false → q_prep L (o.slots.at i.toNat) = q_gotO L o k i) := by
  obtain ⟨h0, h1, h2⟩ := hq
  have hr := keyOk_r7 h2
  rw [and2 hr.1 hr.2, weaken_prep]
  unfold q_gotO q_weakBit
  refine ⟨⟨h0, by omega⟩, fun h => ?_, fun h => ?_⟩
  · rw [if_pos (by simpa using h)]
  · rw [if_neg (by simpa using h)]
theorem asked_ok {L : List Obj} {k : Key} {d : Int} {c : Bool} (h : q_asked L k d c = 0) : q_is L k = true ∧ k.kind = d ∧ (c = true → k.rights.tmod 4 = 0) := by
  unfold q_asked at h
  split at h
  · omega
  · split at h
    · omega
    · rename_i h2
      simp only [Bool.or_eq_true, Bool.not_eq_true', decide_eq_false_iff_not, not_or, Bool.not_eq_false, Decidable.not_not] at h2
      split at h
      · omega
      · rename_i h3
        refine ⟨h2.1, h2.2, fun hc => ?_⟩
        simpa [hc] using h3
theorem kA_ok : ArgOK kA := valA_ok rK_ok (fun _ => rfl) fun v x h => by cases v <;> simp [rK] at h; rfl
theorem oA_ok : ArgOK oA := valA_ok rO_ok (fun _ => rfl) fun v x h => by cases v <;> simp [rO] at h; rfl
theorem bA_ok : ArgOK bA := valA_ok rB_ok (fun _ => rfl) fun v x h => by cases v <;> simp [toBool] at h <;> rfl
theorem iA_ok : ArgOK iA := valA_ok (rI_ok .i64) (fun _ => rfl) fun v x h => by cases v <;> simp [rI, toInt] at h <;> rfl
theorem sA_ok : ArgOK sA := stA_ok _ _
theorem nB_ok : ArgLOK nB := consA_ok oA_ok (consA_ok sA_ok (consA_ok kA_ok nilA_ok))
/-- What a change of a store that stays shut gives. -/
def kS2 (x : V) (M : List Obj) (v : V) (r : List Res) : Prop :=
  match rget r 0 with
  | .store t e L => if t == tS && e == eS then isV x v r ∧ L = M else False
  | _ => False
theorem kS2_out {x : V} {M : List Obj} {v : V} {r : List Res} (h : kS2 x M v r) : isE x v r ∧ rget r 0 = .store tS eS M := by
  unfold kS2 at h
  split at h
  · rename_i hr
    split at h
    · rename_i hc
      simp only [Bool.and_eq_true, beq_iff_eq] at hc
      obtain ⟨rfl, rfl⟩ := hc
      obtain ⟨h1, rfl⟩ := h
      exact ⟨isV_isE h1, hr⟩
    · exact h.elim
  · exact h.elim
/-- A function that changes the store that its first argument points to. -/
def hSt {α : Type} (B : List V → Option α) (Q : List Obj → α → Prop) (F : List Obj → α → V) (M : List Obj → α → List Obj) : HCt := fun args res K =>
  match args with
  | a :: l => match B l with
    | some x => match a with
      | .nl v => match v with
        | .pointer none => K (F [] x) res
        | _ => False
      | .lp k off => if off == 0 then match rget res k with
          | .store t e L => if t == tS && e == eS then Q L x ∧ K (F L x) (rset res k (.store tS eS (M L x))) else False
          | .blk t c => if t == tS && isZ c then K (F [] x) res else False
          | _ => False
        else False
      | _ => False
    | none => False
  | _ => False
def zst : V := .ag [.nl (.slice none 0 0)]
theorem hSt_ok {P : Program} {f : Nat} {α : Type} {B : List V → Option α} {m : α → List V} {Q : List Obj → α → Prop} {F : List Obj → α → V} {M : List Obj → α → List Obj} (hB : ∀ l x, B l = some x → SameB l (m x)) (hid : ∀ x, idfL (m x) = true) (hF : ∀ L x, idf (F L x) = true)
    (h0 : ∀ x, CallTo P f (nilp :: m x) [] (isV (F [] x)) (fun _ _ => False)) (hz : ∀ x, CallTo P f (.lp 0 0 :: m x) [.ro (.blk tS zst)] (isV (F [] x)) (fun _ _ => False))
    (h1 : ∀ L x, Q L x → (∀ o ∈ L, o.wf) → L.length ≤ 9223372036854775807 → CallTo P f (.lp 0 0 :: m x) [.store tS eS L] (kS2 (F L x) (M L x)) (fun _ _ => False)) : HOK P f (hSt B Q F M) := by
  intro args res K KP h
  unfold hSt at h
  split at h
  case h_2 => exact h.elim
  split at h
  case h_2 => exact h.elim
  rename_i x hx
  refine CallTo.args (SameB.keep (hB _ _ hx)) ?_
  split at h
  · split at h
    · exact CallTo.pure (by simp only [idfL, idf, Bool.true_and]; exact hid x) (hF _ _) ((h0 x).mono (fun _ _ h => isV_isE h) fun _ _ h => h) h
    · exact h.elim
  · split at h
    · rename_i hoff
      have hoff := beq_iff_eq.1 hoff
      subst hoff
      split at h
      · rename_i hr
        split at h
        · rename_i hc
          simp only [Bool.and_eq_true, beq_iff_eq] at hc
          obtain ⟨rfl, rfl⟩ := hc
          refine CallTo.onStore hr (hid x) (hF _ _) (CallTo.fact (k := 0) rfl fun w1 w2 => (h1 _ x h.1 w1 w2).mono (fun v r hv => kS2_out hv |> fun ⟨a, b⟩ => ⟨fun ρ K => a ρ K, b⟩) fun _ _ h => h) h.2
        · exact h.elim
      · rename_i hr
        split at h
        · rename_i hc
          simp only [Bool.and_eq_true, beq_iff_eq] at hc
          obtain ⟨rfl, hz'⟩ := hc
          have := isZ_spec hz'
          subst this
          exact CallTo.read1 (r0 := .blk tS zst) (by unfold rlook; rw [hr]; rfl) (by simp) (fun κ => rfl) (hid x) (hF _ _) ((hz x).mono (fun _ _ h => isV_isE h) fun _ _ h => h) h
        · exact h.elim
      · exact h.elim
    · exact h.elim
  · exact h.elim
def rdK (l : List V) : Option Key := match l with
  | [a] => rK a
  | _ => none
def rdKK (l : List V) : Option (Key × Key) := match l with
  | [a, b] => match rK a with
    | some k => match rK b with
      | some k' => some (k, k')
      | none => none
    | none => none
  | _ => none
def rdKIK (l : List V) : Option (Key × Int × Key) := match l with
  | [a, b, c] => match rK a with
    | some k => match rI .i64 b with
      | some i => match rK c with
        | some k' => some (k, i, k')
        | none => none
      | none => none
    | none => none
  | _ => none
theorem rdK_ok : ∀ l x, rdK l = some x → SameB l [.key x] := fun l x h => by
  unfold rdK at h
  split at h
  · exact SameB.rd rK_ok h SameB.nil
  · simp at h
theorem rdKK_ok : ∀ l x, rdKK l = some x → SameB l [.key x.1, .key x.2] := fun l x h => by
  unfold rdKK at h
  split at h
  · split at h
    · rename_i h1
      split at h <;> simp only [Option.some.injEq, reduceCtorEq] at h
      rename_i h2
      subst h
      exact SameB.rd rK_ok h1 (SameB.rd rK_ok h2 SameB.nil)
    · simp at h
  · simp at h
theorem rdKIK_ok : ∀ l x, rdKIK l = some x → SameB l [.key x.1, .it .i64 x.2.1, .key x.2.2] := fun l x h => by
  unfold rdKIK at h
  split at h
  · split at h
    · rename_i h1
      split at h
      · rename_i h2
        split at h <;> simp only [Option.some.injEq, reduceCtorEq] at h
        rename_i h3
        subst h
        exact SameB.rd rK_ok h1 (SameB.rd (rI_ok .i64) h2 (SameB.rd rK_ok h3 SameB.nil))
      · simp at h
    · simp at h
  · simp at h
def tN : Nat := 81
def nlS : V := .nl (.slice none 0 0)
def q_allOk (L : List Obj) (k : Key) : Bool := decide (q_asked L k 2 false = 0)
def tK : Nat := 26
def h_nall : HCt := hMk (consA sA (consA kA nilA)) (fun _ => True) (fun x => q_allOk (stL x.1) x.2.1) (fun x => .tp [nlS, .it .i64 (q_asked (stL x.1) x.2.1 2 false)]) (fun _ n => .tp [.sa n, .ci .i64 0])
  fun x => .arr (some tK) 6 (.key (q_nall (stL x.1) x.2.1))
def q_mu16 (g : Int) : Nat := (16 - g).toNat
def clR (L : List Obj) (t f : Key) (g : Int) : Res := .blk tN (.ag [.ob (q_sls (q_nobj L t) (q_cloS L t f g)), .lp 0 0, .key t])
def h_nput : HCt := hSt rdKIK (fun L _ => q_okL L) (fun L x => .tp [.key (q_nput L x.1 x.2.1 x.2.2), .it .i64 (q_nputE L x.1 x.2.1 x.2.2)]) fun L x => q_nputL L x.1 x.2.1 x.2.2
def h_nclr : HCt := hSt rdK (fun L _ => q_okL L) (fun L x => .it .i64 (q_asked L x 2 true)) fun L x => q_nclrL L x
def h_nclo : HCt := hSt rdKK (fun L _ => q_okL L) (fun L x => .it .i64 (q_ncloE L x.1 x.2)) fun L x => q_ncloL L x.1 x.2
theorem ask1 {L : List Obj} {k : Key} {d : Int} {c : Bool} (h : (!decide (0 < q_size L)) = true) : q_asked L k d c = 1 := by
  unfold q_asked; unfold q_size at h
  rw [if_pos (by simp at h; omega)]
theorem ask2 {L : List Obj} {k : Key} {d : Int} {c : Bool} (h : (!decide (0 < q_size L)) = false) (h2 : (!(q_is L k && decide (k.kind = d))) = true) : q_asked L k d c = 190 := by
  unfold q_asked; unfold q_size at h
  rw [if_neg (by simp at h; omega), if_pos (by simpa using h2)]
theorem ask_is {L : List Obj} {k : Key} {d : Int} (h2 : (!(q_is L k && decide (k.kind = d))) = false) : q_is L k = true ∧ k.kind = d := by simpa using h2
theorem ask3 {L : List Obj} {k : Key} {d : Int} (h : (!decide (0 < q_size L)) = false) (h2 : (!(q_is L k && decide (k.kind = d))) = false) (h3 : (!decide (bitsI BinOp.and IntKind.i64 k.rights 3 = 0)) = true) : q_asked L k d true = 191 := by
  have hr := keyOk_r7 (is_all (ask_is h2).1).1
  rw [and3 hr.1 hr.2] at h3
  unfold q_asked; unfold q_size at h
  rw [if_neg (by simp at h; omega), if_neg (by simpa using h2), if_pos (by simpa using h3)]
theorem ask0 {L : List Obj} {k : Key} {d : Int} (h : (!decide (0 < q_size L)) = false) (h2 : (!(q_is L k && decide (k.kind = d))) = false) (h3 : (!decide (bitsI BinOp.and IntKind.i64 k.rights 3 = 0)) = false) : q_asked L k d true = 0 := by
  have hr := keyOk_r7 (is_all (ask_is h2).1).1
  rw [and3 hr.1 hr.2] at h3
  unfold q_asked; unfold q_size at h
  rw [if_neg (by simp at h; omega), if_neg (by simpa using h2), if_neg (by simpa using h3)]
theorem ask0f {L : List Obj} {k : Key} {d : Int} (h : (!decide (0 < q_size L)) = false) (h2 : (!(q_is L k && decide (k.kind = d))) = false) : q_asked L k d false = 0 := by
  unfold q_asked; unfold q_size at h
  rw [if_neg (by simp at h; omega), if_neg (by simpa using h2), if_neg (by simp)]
def q_slFit (n : Int) (k : Key) : Prop := q_keyOk k = true ∧ q_names k < n
theorem slot1 {n : Int} {k : Key} : q_slotOk 1 n k = true ↔ q_slFit n k := by simp [q_slotOk, q_slFit]
theorem with3_in (r : Int) : 0 ≤ q_with r 3 ∧ q_with r 3 ≤ 7 := withG_in
theorem weak_fit {n : Int} (hn : 0 ≤ n) {k : Key} (h : q_slFit n k) : q_slFit n (q_weak k) := by
  obtain ⟨h1, h2⟩ := h
  have hv : q_slFit n void := ⟨keyOk_void, by have := void_ok.2; omega⟩
  unfold q_weak
  split
  · rename_i e
    have hw := with3_in k.rights
    have h1' : q_keyOk (q_rts k (q_with k.rights 3)) = true := by
      simp only [q_keyOk, q_rts, e, Bool.and_eq_true, decide_eq_true_eq] at h1 ⊢
      have : q_most 2 = 7 := rfl
      grind
    refine ⟨h1', ?_⟩
    unfold q_names at h2 ⊢
    rw [h1'] 
    rw [h1] at h2
    exact h2
  · split
    · rename_i e
      have h1' : q_keyOk (q_rts k 1) = true := by
        simp only [q_keyOk, q_rts, e, Bool.and_eq_true, decide_eq_true_eq] at h1 ⊢
        have : q_most 3 = 1 := rfl
        grind
      refine ⟨h1', ?_⟩
      unfold q_names at h2 ⊢
      rw [h1']
      rw [h1] at h2
      exact h2
    · split
      · exact ⟨h1, h2⟩
      · exact hv
theorem prep_fit {L : List Obj} (hL : 0 < L.length) (k : Key) : q_slFit (L.length : Int) (q_prep L k) := by
  have hv : q_slFit (L.length : Int) void := ⟨keyOk_void, by have := void_ok.2; omega⟩
  unfold q_prep
  split
  · exact hv
  · rename_i h
    simp only [Bool.or_eq_true, not_or, Bool.not_eq_true, Bool.not_eq_false', Bool.and_eq_false_imp] at h
    refine ⟨h.1.2, ?_⟩
    rcases names_named k with ⟨a, b, c⟩ | ⟨a, b⟩
    · rw [b]
      exact (is_all (h.2 a)).2.2.1
    · omega
theorem got_fit {L : List Obj} (hL : 0 < L.length) (k : Key) (i : Int) : q_slFit (L.length : Int) (q_got L k i) := by
  unfold q_got q_gotO
  split
  · exact weak_fit (by omega) (prep_fit hL _)
  · exact prep_fit hL _
theorem sls_ok {o : Obj} {n : Int} {s : Slots} (h : q_objOk o n = true) (hk : o.kind = 1) (hs : ∀ i, i < 16 → q_slFit n (s.at i)) : q_objOk (q_sls o s) n = true := by
  rw [objOk_iff] at h ⊢
  simp only [q_sls]
  obtain ⟨a1, a2, a3, a4, a5, a6, a7, a8, a9, a10, a11⟩ := h
  exact ⟨a1, a2, a3, a4, a5, a6, a7, a8, a9, fun i hi => by rw [hk]; exact slot1.2 (hs i hi), fun i hi => .inl (.inl hk)⟩
theorem node_kind {L : List Obj} {k : Key} (h : q_is L k = true) (h2 : k.kind = 2) : (lget L k.oid.toNat free).kind = 1 := by
  rw [(is_all h).2.2.2.2]
  unfold q_wants
  rw [if_neg (by have := (is_names h).1; omega), if_neg (by omega)]
theorem node_slots {L : List Obj} {k : Key} (hL : q_okL L) (h : q_is L k = true) (h2 : k.kind = 2) : ∀ i, i < 16 → q_slFit (L.length : Int) ((lget L k.oid.toNat free).slots.at i) := fun i hi => by
  obtain ⟨_, b2, b3, _⟩ := is_all h
  have := (right_iff.1 hL).2.2 k.oid.toNat (by omega)
  have := (objOk_iff.1 this).2.2.2.2.2.2.2.2.2.1 i hi
  rw [node_kind h h2] at this
  exact slot1.1 this
theorem node_put {L : List Obj} {k : Key} {s : Slots} (hL : q_okL L) (h : q_is L k = true) (h2 : k.kind = 2) (hs : ∀ i, i < 16 → q_slFit (L.length : Int) (s.at i)) : q_putL L k.oid (q_sls (q_nobj L k) s) = q_setO L k s ∧ q_okL (q_setO L k s) := by
  obtain ⟨b1, b2, b3, b4, _⟩ := is_all h
  have hr := right_iff.1 hL
  have ho := sls_ok (hr.2.2 k.oid.toNat (by omega)) (node_kind h h2) hs
  refine ⟨?_, ?_⟩
  · rw [b4]
    exact (put_yes (has_ok.2 ⟨b2, b3⟩) (ochk_yes ho).symm).2
  · refine right_iff.2 ?_
    unfold q_setO
    have hl : (lset L k.oid.toNat (q_sls (lget L k.oid.toNat free) s)).length = L.length := by simp [lset]
    rw [hl]
    refine ⟨hr.1, hr.2.1, fun i hi => ?_⟩
    by_cases e : i = k.oid.toNat
    · subst e
      rw [show lget (lset L k.oid.toNat (q_sls (lget L k.oid.toNat free) s)) k.oid.toNat free = q_sls (lget L k.oid.toNat free) s by simp [lget, lset, List.getD_eq_getElem?_getD, hi]]
      exact ho
    · rw [show lget (lset L k.oid.toNat (q_sls (lget L k.oid.toNat free) s)) i free = lget L i free by simp [lget, lset, List.getD_eq_getElem?_getD, List.getElem?_set, Ne.symm e]]
      exact hr.2.2 i hi
theorem putS_fit {L : List Obj} {k : Key} {i : Int} {v : Key} (hL : q_okL L) (h : q_is L k = true) (h2 : k.kind = 2) (h0 : 0 ≤ i) (h1 : i < 16) : ∀ j, j < 16 → q_slFit (L.length : Int) (((lget L k.oid.toNat free).slots.put i.toNat (q_prep L v)).at j) := fun j hj => by
  rw [Slots.at_put _ _ _ _ (by omega)]
  split
  · exact prep_fit (right_iff.1 hL).1 v
  · exact node_slots hL h h2 j hj
theorem noS_fit {n : Int} (hn : 0 ≤ n) : ∀ j, j < 16 → q_slFit n (noSlots.at j) := fun j hj => by
  rw [at_void.1 rfl j hj]
  exact ⟨keyOk_void, by have := void_ok.2; omega⟩
theorem may_law (L : List Obj) (v : Key) : (decide (q_chk v = 0) && (!q_named v || decide (q_oid v < q_size L))) = q_may L v := by
  unfold q_may q_chk q_oid q_size
  rcases names_named v with ⟨a, b, c⟩ | ⟨a, b⟩
  · rw [a, b]; cases q_keyOk v <;> simp
  · rw [a, b]
    have : (-1 : Int) < (llen L : Int) := by omega
    cases q_keyOk v <;> simp [this]
theorem cloS_succ {L : List Obj} {t f : Key} {g : Int} (h0 : 0 ≤ g) : q_cloS L t f (g + 1) = (q_cloS L t f g).put g.toNat (q_got L f g) := by
  unfold q_cloS
  rw [show (g + 1).toNat = g.toNat + 1 by omega, List.range_succ, List.foldl_append]
  simp only [List.foldl_cons, List.foldl_nil]
  rw [show ((g.toNat : Nat) : Int) = g by omega]
theorem clo_zero {L : List Obj} {t f : Key} (h : q_nobj L t = lget L t.oid.toNat free) : q_nobj L t = q_sls (q_nobj L t) (q_cloS L t f 0) := by
  unfold q_cloS q_sls
  simp [h]
theorem clo_step {L : List Obj} {t f : Key} {g : Int} (h0 : 0 ≤ g) (h : q_nobj L f = lget L f.oid.toNat free) (o : Obj) (s : Slots) : ({ kind := (q_sls o (q_cloS L t f g)).kind, count := (q_sls o (q_cloS L t f g)).count, calls := (q_sls o (q_cloS L t f g)).calls, slots := (q_sls o (q_cloS L t f g)).slots.put g.toNat (q_gotO L (q_nobj L f) f g), bytes := (q_sls o (q_cloS L t f g)).bytes } : Obj) = q_sls o (q_cloS L t f (g + 1)) := by
  rw [cloS_succ h0]
  unfold q_got
  rw [h]
  rfl
theorem cloS_fit {L : List Obj} {t f : Key} (hL : q_okL L) (h : q_is L t = true) (h2 : t.kind = 2) : ∀ n : Nat, n ≤ 16 → ∀ j, j < 16 → q_slFit (L.length : Int) ((q_cloS L t f n).at j)
  | 0, _, j, hj => by
    unfold q_cloS
    exact node_slots hL h h2 j hj
  | n + 1, hn, j, hj => by
    rw [show ((n + 1 : Nat) : Int) = (n : Int) + 1 by omega, cloS_succ (by omega), Slots.at_put _ _ _ _ (by omega)]
    split
    · exact got_fit (right_iff.1 hL).1 _ _
    · exact cloS_fit hL h h2 n (by omega) j hj
theorem nall_succ {L : List Obj} {k : Key} {g : Int} (h0 : 0 ≤ g) (h : q_nobj L k = lget L k.oid.toNat free) : lapp (q_nallG L k g) (q_gotO L (q_nobj L k) k g) = q_nallG L k (g + 1) := by
  unfold q_nallG lapp q_got
  rw [show (g + 1).toNat = g.toNat + 1 by omega, List.range_succ, List.map_append]
  simp only [List.map_cons, List.map_nil]
  rw [show ((g.toNat : Nat) : Int) = g by omega, h]
theorem nallG_len {L : List Obj} {k : Key} {g : Int} : llen (q_nallG L k g) = g.toNat := by simp [llen, q_nallG]
theorem nall_at {L : List Obj} {k : Key} {j : Nat} (h : j < 16) : lget (q_nall L k) j void = q_got L k j := by
  unfold q_nall q_nallG lget
  have : j < (16 : Int).toNat := by omega
  rw [List.getD_eq_getElem?_getD, List.getElem?_map, List.getElem?_range this]; rfl
theorem nall_len {L : List Obj} {k : Key} : llen (q_nall L k) = 16 := nallG_len
theorem same_end2 {L M : List Obj} {g : Int} (hg : q_invS L M g) (hge : (llen L : Int) ≤ g) : decide (g = n2i (llen M)) = q_same L M := by
  have := same_end hg hge
  have e : q_size L = g := by
    have := hg.2.1
    unfold q_size
    omega
  rw [decide_eq_true e, Bool.and_true] at this
  exact this
structure Acx where
  kind : Int
  slot : Int
  key : Key
  other : Key
def actV (a : Acx) : V := .ag [.it .i64 a.kind, .it .i64 a.slot, .key a.key, .key a.other]
def q_made (l : List Obj) : Bool := decide ((llen l : Int) ≤ 20) && q_right l
def h_made : HCt := hMk (consA liA nilA) (fun _ => True) (fun x => q_made x.1) (fun _ => nilp) (fun _ n => .lp n 0) (fun x => .store tS eS x.1)
/-- Does a call change the store? -/
def q_dchg (L : List Obj) (a : Acx) : Bool :=
  if a.kind = 1 then false else if a.kind = 2 then decide (q_nputE L a.key a.slot a.other = 0) else if a.kind = 3 then decide (q_asked L a.key 2 true = 0) else if a.kind = 4 then decide (q_ncloE L a.key a.other = 0) else false
def q_doesL (L : List Obj) (a : Acx) : List Obj :=
  if a.kind = 1 then L else if a.kind = 2 then q_nputL L a.key a.slot a.other else if a.kind = 3 then q_nclrL L a.key else if a.kind = 4 then q_ncloL L a.key a.other else L
def kDo (c : Bool) (L0 L1 : List Obj) (v : V) (r : List Res) : Prop :=
  match v with
  | .tp l => match l with
    | [a, b] => match a with
      | .sa p => match rget r 0 with
        | .store t e L => if t == tS && e == eS then
            if p == 1 then isV (.bo true) b r ∧ c = false ∧ L = L0
            else if Nat.ble 2 p then match rget r p with
              | .arr o z l => match o with
                | some e' => match l with
                  | .ob M => if e' == tO && z == 163 then isV (.bo true) b r ∧ c = true ∧ L = L1 ∧ M = L1 else False
                  | _ => False
                | none => False
              | _ => False
            else False
          else False
        | _ => False
      | _ => False
    | _ => False
  | _ => False
theorem nget_bad {L : List Obj} {k : Key} {i : Int} (h : q_asked L k 2 false ≠ 0) : q_ngetE L k i = q_asked L k 2 false ∧ q_nget L k i = void := by
  have : q_ngetE L k i = q_asked L k 2 false := by unfold q_ngetE; rw [if_neg h]
  exact ⟨this, by unfold q_nget; rw [this, if_neg h]⟩
theorem nget_rng {L : List Obj} {k : Key} {i : Int} (h : q_asked L k 2 false = 0) (hr : i < 0 ∨ 15 < i) : q_ngetE L k i = 4 ∧ q_nget L k i = void := by
  have : q_ngetE L k i = 4 := by
    unfold q_ngetE q_nrng
    rw [if_pos h, if_neg (by simp; omega)]
  exact ⟨this, by unfold q_nget; rw [this]; rfl⟩
theorem nget_ok {L : List Obj} {k : Key} {i : Int} (h : q_asked L k 2 false = 0) (hr : ¬ (i < 0 ∨ 15 < i)) : q_ngetE L k i = 0 ∧ q_nget L k i = q_got L k i := by
  have : q_ngetE L k i = 0 := by
    unfold q_ngetE q_nrng
    rw [if_pos h, if_pos (by simp; omega)]
  exact ⟨this, by unfold q_nget; rw [this]; rfl⟩
theorem nput_no {L : List Obj} {k : Key} {i : Int} {v : Key} {e : Int} (h : q_nputE L k i v = e) (he : e ≠ 0) : q_nputE L k i v = e ∧ q_nput L k i v = void ∧ q_nputL L k i v = L := ⟨h, by unfold q_nput; rw [h, if_neg he], by unfold q_nputL; rw [h, if_neg he]⟩
theorem nput_bad {L : List Obj} {k : Key} {i : Int} {v : Key} (h : q_asked L k 2 true ≠ 0) : q_nputE L k i v = q_asked L k 2 true ∧ q_nput L k i v = void ∧ q_nputL L k i v = L := nput_no (by unfold q_nputE; rw [if_neg h]) h
theorem nput_rng {L : List Obj} {k : Key} {i : Int} {v : Key} (h : q_asked L k 2 true = 0) (hr : i < 0 ∨ 15 < i) : q_nputE L k i v = 4 ∧ q_nput L k i v = void ∧ q_nputL L k i v = L :=
  nput_no (by unfold q_nputE q_nrng; rw [if_pos h, if_neg (by simp; omega)]) (by omega)
theorem nput_arg {L : List Obj} {k : Key} {i : Int} {v : Key} (h : q_asked L k 2 true = 0) (hr : ¬ (i < 0 ∨ 15 < i)) (hm : q_may L v = false) : q_nputE L k i v = 2 ∧ q_nput L k i v = void ∧ q_nputL L k i v = L :=
  nput_no (by unfold q_nputE q_nrng; rw [if_pos h, if_pos (by simp; omega), hm]; rfl) (by omega)
theorem nput_ok {L : List Obj} {k : Key} {i : Int} {v : Key} (h : q_asked L k 2 true = 0) (hr : ¬ (i < 0 ∨ 15 < i)) (hm : q_may L v = true) :
    q_nputE L k i v = 0 ∧ q_nput L k i v = q_got L k i ∧ q_nputL L k i v = q_setO L k ((lget L k.oid.toNat free).slots.put i.toNat (q_prep L v)) := by
  have : q_nputE L k i v = 0 := by unfold q_nputE q_nrng; rw [if_pos h, if_pos (by simp; omega), hm]; rfl
  exact ⟨this, by unfold q_nput; rw [this]; rfl, by unfold q_nputL; rw [this]; rfl⟩
theorem rput_ok {L : List Obj} {k : Key} (hL : q_okL L) (h : q_is L k = true) : q_rputQ L k.oid ∧ 0 ≤ k.oid ∧ k.oid < (llen L : Int) ∧ k.oid.toNat < llen L := by
  obtain ⟨_, b2, b3, _⟩ := is_all h
  have := (right_iff.1 hL).2.1
  exact ⟨⟨b2, b3, by unfold llen; omega⟩, b2, b3, by unfold llen; omega⟩
theorem keq_self (k : Key) : keq k k = true := by simp [keq]
def Acx.wf (x : Acx) : Prop := inR .i64 x.kind ∧ inR .i64 x.slot ∧ x.key.wf ∧ x.other.wf
def act0 : Acx := ⟨0, 0, void, void⟩
def acts (l : List Acx) : TL := .fn (llen l) fun i => actV (lget l i act0)
def q_invP9 (l : List Acx) (g : Int × List Obj) : Prop := 0 ≤ g.1 ∧ g.1 ≤ (llen l : Int) ∧ q_okL g.2
def q_muP9 (l : List Acx) (g : Int × List Obj) : Nat := llen l - g.1.toNat
def q_invO9 (l : List Acx) (g : Int) : Prop := 0 ≤ g ∧ g ≤ (llen l : Int)
def q_muO9 (l : List Acx) (g : Int) : Nat := llen l - g.toNat
def q_inv8 (g : Int) : Prop := 0 ≤ g ∧ g ≤ 8
def q_mu8 (g : Int) : Nat := (8 - g).toNat
def q_inv25 (g : Int) : Prop := 2 ≤ g ∧ g ≤ 5
def q_mu25 (g : Int) : Nat := (5 - g).toNat
theorem same_self (L : List Obj) : q_same L L = true := by unfold q_same; simp
theorem nputE_zero {L : List Obj} {k : Key} {i : Int} {v : Key} (h : q_nputE L k i v = 0) : q_asked L k 2 true = 0 ∧ 0 ≤ i ∧ i < 16 := by
  unfold q_nputE q_nrng at h
  split at h
  · rename_i h1
    split at h
    · rename_i h2
      simp at h2
      exact ⟨h1, h2.1, h2.2⟩
    · omega
  · rename_i h1; exact absurd h h1
theorem doesL_ok {L : List Obj} {a : Acx} (hL : q_okL L) (h : q_dchg L a = true) : q_okL (q_doesL L a) := by
  unfold q_dchg at h
  unfold q_doesL
  split at h
  · simp at h
  · rename_i h1
    rw [if_neg h1]
    split at h
    · rename_i h2
      rw [if_pos h2]
      have h := of_decide_eq_true h
      obtain ⟨e1, e2, e3⟩ := nputE_zero h
      obtain ⟨a1, a2, _⟩ := asked_ok e1
      unfold q_nputL
      rw [if_pos h]
      exact (node_put hL a1 a2 (putS_fit hL a1 a2 e2 e3)).2
    · rename_i h2
      rw [if_neg h2]
      split at h
      · rename_i h3
        rw [if_pos h3]
        have h := of_decide_eq_true h
        obtain ⟨a1, a2, _⟩ := asked_ok h
        unfold q_nclrL
        rw [if_pos h]
        exact (node_put hL a1 a2 (noS_fit (by omega))).2
      · rename_i h3
        rw [if_neg h3]
        split at h
        · rename_i h4
          rw [if_pos h4]
          have h := of_decide_eq_true h
          have h' := h
          unfold q_ncloE at h'
          split at h'
          · rename_i h5
            obtain ⟨a1, a2, _⟩ := asked_ok h5
            unfold q_ncloL
            rw [if_pos h]
            exact (node_put hL a1 a2 (cloS_fit hL a1 a2 16 (by omega))).2
          · rename_i h5; exact absurd h' h5
        · simp at h
theorem made_ok {l : List Obj} (h : q_made l = true) : q_okL l ∧ l.length ≤ 20 := by
  unfold q_made at h
  simp only [Bool.and_eq_true, decide_eq_true_eq] at h
  unfold llen at h
  exact ⟨h.2, by omega⟩
theorem setO_len {L : List Obj} {k : Key} {s : Slots} : (q_setO L k s).length = L.length := by simp [q_setO, lset]
theorem setO_get {L : List Obj} {k : Key} {s : Slots} (h0 : 0 ≤ k.oid) (h1 : k.oid < (L.length : Int)) (j : Nat) : lget (q_setO L k s) j free = if j = k.oid.toNat then q_sls (lget L j free) s else lget L j free := by
  unfold q_setO
  by_cases e : j = k.oid.toNat
  · subst e
    rw [if_pos rfl]
    have : k.oid.toNat < L.length := by omega
    simp [lget, lset, List.getD_eq_getElem?_getD, this]
  · rw [if_neg e]
    simp [lget, lset, List.getD_eq_getElem?_getD, List.getElem?_set, Ne.symm e]
section
variable {L : List Obj} {k : Key} {s : Slots} (h0 : 0 ≤ k.oid) (h1 : k.oid < (L.length : Int))
include h0 h1
theorem setO_is (x : Key) : q_is (q_setO L k s) x = q_is L x := by
  unfold q_is
  have hh : q_has (q_setO L k s) x.oid = q_has L x.oid := by unfold q_has llen; rw [setO_len]
  have hc : q_counts x (lget (q_setO L k s) x.oid.toNat free) = q_counts x (lget L x.oid.toNat free) := by rw [setO_get h0 h1]; split <;> rfl
  rw [hh, hc]
theorem setO_prep (x : Key) : q_prep (q_setO L k s) x = q_prep L x := by unfold q_prep q_snone llen; rw [setO_len, setO_is h0 h1]
theorem setO_asked (x : Key) (d : Int) (c : Bool) : q_asked (q_setO L k s) x d c = q_asked L x d c := by unfold q_asked llen; rw [setO_len, setO_is h0 h1]
theorem setO_got (j : Int) : q_got (q_setO L k s) k j = if q_weakBit k then q_weak (q_prep L (s.at j.toNat)) else q_prep L (s.at j.toNat) := by
  unfold q_got q_gotO
  rw [setO_get h0 h1, if_pos rfl, setO_prep h0 h1]; rfl
end
theorem setO_may {L : List Obj} {k : Key} {s : Slots} (x : Key) : q_may (q_setO L k s) x = q_may L x := by unfold q_may llen; rw [setO_len]
theorem asked_nweak {L : List Obj} {k : Key} (h : q_asked L k 2 true = 0) : q_weakBit k = false := by
  obtain ⟨a1, a2, a3⟩ := asked_ok h
  have hr := keyOk_r7 (is_all a1).1
  have h4 := a3 rfl
  unfold q_weakBit
  obtain ⟨h0, h7⟩ := hr
  generalize k.rights = r at *
  have : r = 0 ∨ r = 1 ∨ r = 2 ∨ r = 3 ∨ r = 4 ∨ r = 5 ∨ r = 6 ∨ r = 7 := by omega
  rcases this with rfl | rfl | rfl | rfl | rfl | rfl | rfl | rfl <;> first | rfl | exact absurd h4 (by decide)
theorem asked_ff {L : List Obj} {k : Key} (h : q_asked L k 2 true = 0) : q_asked L k 2 false = 0 := by
  unfold q_asked at h ⊢
  split at h
  · omega
  · rename_i h1
    split at h
    · omega
    · rename_i h2
      rw [if_neg h1, if_neg h2, if_neg (by simp)]
theorem weak_void : q_weak void = void := by rfl
theorem with_idem {r : Int} (h0 : 0 ≤ r) (h1 : r ≤ 7) : q_with (q_with r 3) 3 = q_with r 3 := by
  have : r = 0 ∨ r = 1 ∨ r = 2 ∨ r = 3 ∨ r = 4 ∨ r = 5 ∨ r = 6 ∨ r = 7 := by omega
  rcases this with rfl | rfl | rfl | rfl | rfl | rfl | rfl | rfl <;> decide
theorem weak_idem {k : Key} (h : q_keyOk k = true) : q_weak (q_weak k) = q_weak k := by
  have hr := keyOk_r7 h
  have hw := with_idem hr.1 hr.2
  by_cases e2 : k.kind = 2
  · have : q_weak k = q_rts k (q_with k.rights 3) := by unfold q_weak; rw [if_pos e2]
    rw [this]
    have e2' : (q_rts k (q_with k.rights 3)).kind = 2 := e2
    unfold q_weak
    rw [if_pos e2']
    show q_rts (q_rts k _) (q_with (q_with k.rights 3) 3) = _
    rw [hw]; rfl
  · by_cases e3 : k.kind = 3
    · have : q_weak k = q_rts k 1 := by unfold q_weak; rw [if_neg e2, if_pos e3]
      rw [this]
      have e2' : (q_rts k 1).kind ≠ 2 := e2
      have e3' : (q_rts k 1).kind = 3 := e3
      unfold q_weak
      rw [if_neg e2', if_pos e3']; rfl
    · by_cases e1 : k.kind = 1 ∨ k.kind = 8
      · have : q_weak k = k := by unfold q_weak; rw [if_neg e2, if_neg e3, if_pos e1]
        rw [this, this]
      · have : q_weak k = void := by unfold q_weak; rw [if_neg e2, if_neg e3, if_neg e1]
        rw [this]; rfl
def q_wk (w : Key) : Prop := q_keyOk w = true ∧ q_weak w = w
theorem wk_weak {k : Key} (h : q_keyOk k = true) : q_wk (q_weak k) := by
  refine ⟨?_, weak_idem h⟩
  have hb : ∃ n : Int, 0 ≤ n ∧ q_names k < n := by
    rcases names_named k with ⟨_, b, c⟩ | ⟨_, b⟩
    · exact ⟨k.oid + 1, by omega, by omega⟩
    · exact ⟨0, by omega, by omega⟩
  obtain ⟨n, hn, hk⟩ := hb
  exact (weak_fit hn ⟨h, hk⟩).1
theorem wk_bit {w : Key} (h : q_wk w) (h2 : w.kind = 2) : q_weakBit w = true ∧ w.rights.tmod 4 ≠ 0 := by
  obtain ⟨h1, hw⟩ := h
  have hr := keyOk_r7 h1
  have : q_weak w = q_rts w (q_with w.rights 3) := by unfold q_weak; rw [if_pos h2]
  rw [this] at hw
  have hrr : q_with w.rights 3 = w.rights := congrArg Key.rights hw
  unfold q_weakBit
  obtain ⟨h0, h7⟩ := hr
  generalize w.rights = r at *
  have : r = 0 ∨ r = 1 ∨ r = 2 ∨ r = 3 ∨ r = 4 ∨ r = 5 ∨ r = 6 ∨ r = 7 := by omega
  rcases this with rfl | rfl | rfl | rfl | rfl | rfl | rfl | rfl <;> first | exact ⟨by decide, by decide⟩ | exact absurd hrr (by decide)
theorem wk_asked {L : List Obj} {w : Key} (h : q_wk w) (ha : q_asked L w 2 false = 0) : q_asked L w 2 true = 191 := by
  obtain ⟨a1, a2, _⟩ := asked_ok ha
  have hb := (wk_bit h a2).2
  unfold q_asked at ha ⊢
  split at ha
  · omega
  · rename_i h1
    split at ha
    · omega
    · rename_i h2
      rw [if_neg h1, if_neg h2, if_pos (by simpa using hb)]
theorem wk_got {L : List Obj} {w : Key} {i : Int} (h : q_wk w) (ha : q_asked L w 2 false = 0) : q_wk (q_got L w i) := by
  obtain ⟨a1, a2, _⟩ := asked_ok ha
  unfold q_got q_gotO
  rw [(wk_bit h a2).1, if_pos rfl]
  exact wk_weak (keyOk_prep _ _)
theorem ngetE_ok {L : List Obj} {k : Key} {i : Int} (h : q_ngetE L k i = 0) : q_asked L k 2 false = 0 ∧ q_nget L k i = q_got L k i := by
  refine ⟨?_, by unfold q_nget; rw [if_pos h]⟩
  unfold q_ngetE at h
  split at h
  · assumption
  · rename_i h1; exact absurd h h1
def g_cweak : Ct := mk1 rK fun k => .tp [.key (q_weaken k), .bo (q_keyOk k)]
def q_invW9 (s : List Int) (g : Int × Key) : Prop := 0 ≤ g.1 ∧ g.1 ≤ (llen s : Int) ∧ q_wk g.2
def q_muW9 (s : List Int) (g : Int × Key) : Nat := llen s - g.1.toNat
/-- What is known behind a put that was done. -/
theorem put_facts {L : List Obj} {k : Key} {i : Int} {u : Key} (hL : q_okL L) (h : q_nputE L k i u = 0) :
    q_okL (q_nputL L k i u) ∧ (q_nputL L k i u).length = L.length ∧ (∀ x, q_prep (q_nputL L k i u) x = q_prep L x) ∧ (∀ x d c, q_asked (q_nputL L k i u) x d c = q_asked L x d c) ∧ (∀ x, q_may (q_nputL L k i u) x = q_may L x) ∧
    (∀ j : Int, 0 ≤ j → j < 16 → q_got (q_nputL L k i u) k j = if j = i then q_prep L u else q_prep L ((lget L k.oid.toNat free).slots.at j.toNat)) ∧
    (lget (q_nputL L k i u) k.oid.toNat free).slots = (lget L k.oid.toNat free).slots.put i.toNat (q_prep L u) ∧ ∀ j : Nat, j ≠ k.oid.toNat → lget (q_nputL L k i u) j free = lget L j free := by
  obtain ⟨e1, e2, e3⟩ := nputE_zero h
  obtain ⟨a1, a2, _⟩ := asked_ok e1
  obtain ⟨_, b2, b3, _⟩ := is_all a1
  have hs : q_nputL L k i u = q_setO L k ((lget L k.oid.toNat free).slots.put i.toNat (q_prep L u)) := by unfold q_nputL; rw [if_pos h]
  rw [hs]
  refine ⟨(node_put hL a1 a2 (putS_fit hL a1 a2 e2 e3)).2, setO_len, setO_prep b2 b3, setO_asked b2 b3, setO_may, fun j j0 j1 => ?_, ?_, fun j hj => ?_⟩
  · rw [setO_got b2 b3, asked_nweak e1]
    simp only [Bool.false_eq_true, if_false]
    rw [Slots.at_put _ _ _ _ (by omega)]
    by_cases e : j = i
    · subst e; simp; exact prep_idem L u
    · rw [if_neg (by omega), if_neg e]
  · rw [setO_get b2 b3, if_pos rfl]; rfl
  · rw [setO_get b2 b3, if_neg hj]
theorem put_again {L : List Obj} {k : Key} {i : Int} {u v : Key} (hL : q_okL L) (h : q_nputE L k i u = 0) (hv : q_may L v = true) : q_nputE (q_nputL L k i u) k i v = 0 := by
  obtain ⟨_, _, _, p4, p5, _⟩ := put_facts hL h
  obtain ⟨e1, e2, e3⟩ := nputE_zero h
  unfold q_nputE q_nrng
  rw [p4, p5, if_pos e1, if_pos (by simp; omega), if_pos hv]
theorem get_lget {L : List Obj} {j : Int} (h0 : 0 ≤ j) (h1 : j < (L.length : Int)) : q_get L j = lget L j.toNat free := by
  unfold q_get
  rw [if_pos (has_ok.2 ⟨h0, h1⟩)]
def q_askNo (L : List Obj) (k : Key) : Prop := q_asked L k 2 true ≠ 0
def g_nputw : Ct := mkR (consA sA (consA kA (consA iA (consA kA nilA)))) (fun x => some (q_askNo (stL x.1) x.2.1)) fun x => .tp [.key void, .it .i64 (q_asked (stL x.1) x.2.1 2 true)]
end Go.Sx
