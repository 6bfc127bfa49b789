/- Walks through spaces in plain Lean. No condition. -/
import Derived.Test.YtijgfnpbojfmdaaSpP
set_option linter.unusedVariables false
set_option linter.unusedSimpArgs false
namespace Go.Sx
def q_each (h : Int) : Int := 64 * 16 ^ (h - 1).toNat
def q_span (h : Int) : Int := if h = 0 then 64 else if h < 0 ∨ 8 < h then 0 else 14 * q_each h
def q_eachQ (h : Int) : Prop := 0 ≤ h ∧ h ≤ 9
def q_invE (h g : Int) : Prop := 0 ≤ g ∧ (g = 0 ∨ g ≤ h - 1)
def q_invF (h g : Int) : Prop := 1 ≤ g ∧ (g = 1 ∨ g ≤ h)
def g_each : Ct := mkR (consA iA nilA) (fun x => some (q_eachQ x.1)) fun x => .it .i64 (q_each x.1)
def g_span : Ct := mkR (consA iA nilA) (fun _ => none) fun x => .it .i64 (q_span x.1)
/-- Where a walk is. -/
structure Wk where
  pos : Key
  adr : Int
  rts : Int
  kpr : Key
  dep : Int
  hi : Int
/-- How a walk ended: which fault, or none; where. -/
structure Wr where
  kd : Int
  pos : Key
  adr : Int
  kpr : Key
  dep : Int
def wr0 : Wr := ⟨0, void, 0, void, 0⟩
def q_orG (r m g : Int) : Int := r + (if 2 ≤ g ∧ (q_bitOf m 1 && !q_bitOf r 1) = true then 1 else 0) + (if 4 ≤ g ∧ (q_bitOf m 2 && !q_bitOf r 2) = true then 2 else 0) + (if 8 ≤ g ∧ (q_bitOf m 4 && !q_bitOf r 4) = true then 4 else 0)
def q_or (r m : Int) : Int := q_orG r m 8
def q_only (r : Int) (p : Key) : Key := if r.tmod 4 = 0 then p else q_rts p 1
def q_hOk (w : Wk) (h : Key) : Bool := decide (h.kind = 1) && decide (1 ≤ h.value) && decide (h.value ≤ 8) && (decide (w.dep = 0) || decide (h.value < w.hi))
def q_kp (r : Int) (k was : Key) : Key := if k.kind = 6 ∧ r < 4 then k else was
/-- A node on the way: its slots 15, 14 in hand. -/
def q_wnode (L : List Obj) (w : Wk) (p : Key) (h k : Key) : Wr × Option Wk :=
  if 8 ≤ w.dep then (⟨3, void, 0, w.kpr, 0⟩, none)
  else if q_hOk w h then
    (if w.adr.tdiv (q_each h.value) < 14 then (wr0, some ⟨q_got L p (w.adr.tdiv (q_each h.value)), w.adr.tmod (q_each h.value), q_or w.rts p.rights, q_kp (q_or w.rts p.rights) k w.kpr, w.dep + 1, h.value⟩)
     else (⟨2, void, 0, q_kp (q_or w.rts p.rights) k w.kpr, 0⟩, none))
  else (⟨4, void, 0, w.kpr, 0⟩, none)
def wgo (L : List Obj) : Nat → Wk → Wr
  | 0, w => ⟨3, void, 0, w.kpr, 0⟩
  | n + 1, w =>
    if (q_prep L w.pos).kind = 3 then (if w.adr < 64 then ⟨0, q_only w.rts (q_prep L w.pos), w.adr, w.kpr, w.dep⟩ else ⟨2, void, 0, w.kpr, 0⟩)
    else if (q_prep L w.pos).kind = 2 then match q_wnode L w (q_prep L w.pos) (q_got L (q_rts (q_prep L w.pos) 0) 15) (q_got L (q_rts (q_prep L w.pos) 0) 14) with
      | (r, none) => r
      | (_, some w') => wgo L n w'
    else ⟨1, void, 0, w.kpr, 0⟩
def q_wgo (L : List Obj) (n : Nat) (w : Wk) : Wr := wgo L n w
def q_w0 (k : Key) (a hi : Int) : Wk := ⟨k, a, 0, void, 0, hi⟩
def q_wE (L : List Obj) (k : Key) (a : Int) : Int := if llen L = 0 then 1 else if q_may L k then (if a < 0 then 4 else 0) else 2
def q_wR (L : List Obj) (k : Key) (a : Int) : Wr := if q_wE L k a = 0 then q_wgo L 9 (q_w0 k a 0) else wr0
def q_fP (r : Wr) : Key := if r.kd = 0 then r.pos else void
def q_fA (r : Wr) : Int := if r.kd = 0 then r.adr else 0
def q_fK (r : Wr) : Key := if r.kd = 0 then r.kpr else void
def q_fD (r : Wr) : Int := if r.kd = 0 then r.dep else 0
def q_uK (r : Wr) : Key := if r.kd = 0 then void else r.kpr
def q_uA (r : Wr) (a : Int) : Int := if r.kd = 0 then 0 else a
def q_uF (r : Wr) : Int := r.kd
def fndV (r : Wr) : V := .ag [.key (q_fP r), .it .i64 (q_fA r), .key (q_fK r), .it .i64 (q_fD r)]
def fltV (r : Wr) (a : Int) : V := .ag [.it .i64 (q_uF r), .key (q_uK r), .it .i64 (q_uA r a)]
def walkV (L : List Obj) (k : Key) (a : Int) : V := .tp [fndV (q_wR L k a), fltV (q_wR L k a) a, .it .i64 (q_wE L k a)]
abbrev tW : Nat := 91
def wkV (s : V) (g : Wk) : V := .ag [s, .key g.pos, .it .i64 g.adr, .it .i64 g.rts, .key g.kpr, .it .i64 g.dep, .it .i64 g.hi, .cb false]
def q_wI (L : List Obj) (k : Key) (a hi : Int) (g : Wk) : Prop :=
  (0 ≤ g.adr ∧ g.adr ≤ a) ∧ (0 ≤ g.rts ∧ g.rts ≤ 7) ∧ (0 ≤ g.dep ∧ g.dep ≤ 8) ∧ (g.dep = 0 → g.hi = hi) ∧ (g.dep ≠ 0 → g.hi ≤ 8) ∧ q_wgo L (9 - g.dep).toNat g = q_wgo L 9 (q_w0 k a hi)
def q_wM (g : Wk) : Nat := (9 - g.dep).toNat
def lpOr (keep : List Nat) (inv : Int → Prop) (m : Int) : LoopAnn :=
  { γ := Int, head := fun σ g => match sget σ.slots 11 with
      | .v x => match x with
        | .it _ r => match rget σ.res 4 with
          | .blk _ c => match c with
            | .key k => { σ with slots := hdS keep [(11, .it .i64 (q_orG r k.rights g)), (16, .it .i64 g)] 0 σ.slots }
            | _ => σ
          | _ => σ
        | _ => σ
      | _ => σ, inv := inv, μ := fun g => i2n (isub m g) }
def g_walk : Ct := mkR (consA sA (consA kA (consA iA nilA))) (fun _ => none) fun x => walkV (stL x.1) x.2.1 x.2.2.1
def g_rwalk : Ct := mkR (consA liA (consA kA (consA iA nilA))) (fun x => some (q_okL x.1)) fun x => walkV x.1 x.2.1 x.2.2.1
def spX (nid : Nat) : V := .mp nid
def spN (nid : Nat) : List Res := [.mp .i64 [3, 2] [.fn 79 [], .fn 80 []]]
theorem each_succ {g : Int} (h : 1 ≤ g) : q_each g * 16 = q_each (g + 1) := by
  unfold q_each
  have e : (g + 1 - 1).toNat = (g - 1).toNat + 1 := by omega
  rw [e, Int.pow_succ]
  generalize (16 : Int) ^ (g - 1).toNat = x
  omega
theorem each_low {h : Int} (hh : h ≤ 1) : q_each h = 64 := by
  unfold q_each
  have e : (h - 1).toNat = 0 := by omega
  rw [e]; rfl
theorem each_le {h : Int} (hh : h ≤ 9) : 64 ≤ q_each h ∧ q_each h ≤ 274877906944 := by
  by_cases h1 : h ≤ 1
  · rw [each_low h1]; omega
  have : h = 2 ∨ h = 3 ∨ h = 4 ∨ h = 5 ∨ h = 6 ∨ h = 7 ∨ h = 8 ∨ h = 9 := by omega
  rcases this with rfl | rfl | rfl | rfl | rfl | rfl | rfl | rfl <;> decide
theorem or_fin : ∀ r m : Fin 8, bitsI .or .i64 (r.val : Int) (m.val : Int) = q_or (r.val : Int) (m.val : Int) ∧ 0 ≤ q_or (r.val : Int) (m.val : Int) ∧ q_or (r.val : Int) (m.val : Int) ≤ 7 := by decide
theorem i8_fin {r : Int} (h0 : 0 ≤ r) (h1 : r ≤ 7) : ∃ x : Fin 8, (x.val : Int) = r := ⟨⟨r.toNat, by omega⟩, by simp; omega⟩
theorem or_q {r m : Int} (h0 : 0 ≤ r) (h1 : r ≤ 7) (m0 : 0 ≤ m) (m1 : m ≤ 7) : bitsI .or .i64 r m = q_or r m ∧ 0 ≤ q_or r m ∧ q_or r m ≤ 7 := by
  obtain ⟨x, rfl⟩ := i8_fin h0 h1
  obtain ⟨y, rfl⟩ := i8_fin m0 m1
  exact or_fin x y
theorem and4_fin : ∀ r : Fin 8, decide (bitsI .and .i64 (r.val : Int) 4 = 0) = decide ((r.val : Int) < 4) := by decide
theorem and4 {r : Int} (h0 : 0 ≤ r) (h1 : r ≤ 7) : decide (bitsI .and .i64 r 4 = 0) = decide (r < 4) := by
  obtain ⟨x, rfl⟩ := i8_fin h0 h1
  exact and4_fin x
theorem orG_fin : ∀ r m : Fin 8, ∀ g ∈ [(1 : Int), 2, 4], (0 ≤ q_orG (r.val : Int) (m.val : Int) g ∧ q_orG (r.val : Int) (m.val : Int) g ≤ 7) ∧
    ((decide (((m.val : Int).tdiv g).tmod 2 = 1) && decide (((q_orG (r.val : Int) (m.val : Int) g).tdiv g).tmod 2 = 0)) = true → q_orG (r.val : Int) (m.val : Int) g + g = q_orG (r.val : Int) (m.val : Int) (g * 2)) ∧
    ((decide (((m.val : Int).tdiv g).tmod 2 = 1) && decide (((q_orG (r.val : Int) (m.val : Int) g).tdiv g).tmod 2 = 0)) = false → q_orG (r.val : Int) (m.val : Int) g = q_orG (r.val : Int) (m.val : Int) (g * 2)) := by decide
theorem orG_q {r m g : Int} (h0 : 0 ≤ r) (h1 : r ≤ 7) (m0 : 0 ≤ m) (m1 : m ≤ 7) (hg : g = 1 ∨ g = 2 ∨ g = 4) : (0 ≤ q_orG r m g ∧ q_orG r m g ≤ 7) ∧
    ((decide ((m.tdiv g).tmod 2 = 1) && decide (((q_orG r m g).tdiv g).tmod 2 = 0)) = true → q_orG r m g + g = q_orG r m (g * 2)) ∧
    ((decide ((m.tdiv g).tmod 2 = 1) && decide (((q_orG r m g).tdiv g).tmod 2 = 0)) = false → q_orG r m g = q_orG r m (g * 2)) := by
  obtain ⟨x, rfl⟩ := i8_fin h0 h1
  obtain ⟨y, rfl⟩ := i8_fin m0 m1
  exact orG_fin x y g (by rcases hg with rfl | rfl | rfl <;> simp)
theorem orG_1 {r m : Int} : q_orG r m 1 = r := by simp [q_orG]
theorem prep_is {L : List Obj} {k : Key} (h : (q_prep L k).kind = 2 ∨ (q_prep L k).kind = 3) : q_prep L k = k ∧ q_is L k = true := by
  unfold q_prep at h ⊢
  split at h
  · simp [void] at h
  · rename_i hn
    rw [if_neg hn]
    refine ⟨rfl, ?_⟩
    simp only [Bool.or_eq_true, Bool.not_eq_true', Bool.and_eq_true, not_or, Bool.not_eq_true, not_and] at hn
    obtain ⟨⟨h1, h2⟩, h3⟩ := hn
    have hk : q_keyOk k = true := by simpa using h2
    have : q_named k = true := by
      unfold q_named q_isO
      rw [hk]
      rcases h with h | h <;> simp [h]
    have := h3 this
    simpa using this
theorem is_prep {L : List Obj} {k : Key} (h : q_is L k = true) : q_prep L k = k := by
  unfold q_prep
  have h' := is_all h
  rw [if_neg]
  have hl : L ≠ [] := fun e => by have := h'.2.1; have := h'.2.2.1; simp [e] at *; omega
  have hs : q_snone L = false := by
    unfold q_snone
    cases L with
    | nil => exact absurd rfl hl
    | cons x l => simp [llen]
  rw [hs, h'.1, h]
  simp
theorem rts_eq {k : Key} (h : q_keyOk k = true) (h2 : k.kind = 2) : Key.mk 2 k.oid k.count void.call void.rights void.value = q_rts k 0 := by
  obtain ⟨a, b, c, d, e, f⟩ := k
  simp only at h2
  subst h2
  simp [q_keyOk, q_within, q_isO, q_isC, q_isV] at h
  simp [q_rts, void]
  omega
theorem is_rts {L : List Obj} {k : Key} (h : q_is L k = true) (h2 : k.kind = 2) : q_is L (q_rts k 0) = true := by
  have hk := (is_all h).1
  have hk' : q_keyOk (q_rts k 0) = true := by
    have hk1 := hk
    simp only [q_keyOk, Bool.and_eq_true, decide_eq_true_eq] at hk1 ⊢
    obtain ⟨⟨⟨⟨⟨⟨⟨x1, x2⟩, x3⟩, x4⟩, x5⟩, x6⟩, x7⟩, x8⟩ := hk1
    exact ⟨⟨⟨⟨⟨⟨⟨x1, x2⟩, Int.le_refl 0⟩, by show 0 ≤ q_most k.kind; omega⟩, x5⟩, x6⟩, x7⟩, x8⟩
  have hn : q_names (q_rts k 0) = q_names k := by unfold q_names; rw [hk, hk']; rfl
  have hw : q_wants (q_rts k 0) = q_wants k := by unfold q_wants; rw [hn]; rfl
  have hc : ∀ o, q_counts (q_rts k 0) o = q_counts k o := fun o => by unfold q_counts; rw [hn, hw, hk, hk']; rfl
  have hd : q_named (q_rts k 0) = q_named k := by unfold q_named; rw [hk, hk']; rfl
  unfold q_is at h ⊢
  rw [hd, hc]
  exact h
theorem nget_w {L : List Obj} {k : Key} {i : Int} (h : q_is L k = true) (h2 : k.kind = 2) (h0 : 0 ≤ i) (h1 : i < 16) : q_nget L k i = q_got L k i := by
  have hl := is_all h
  have hA : q_asked L k 2 false = 0 := by
    unfold q_asked
    rw [if_neg (by have := hl.2.1; have := hl.2.2.1; unfold llen; omega), if_neg (by rw [h, h2]; simp), if_neg (by simp)]
  unfold q_nget q_ngetE q_nrng
  rw [hA, if_pos rfl, decide_eq_true h0, decide_eq_true h1]
  rfl
theorem nget_h {L : List Obj} {k : Key} {i : Int} (h : q_is L k = true) (h2 : k.kind = 2) (h0 : 0 ≤ i) (h1 : i < 16) : q_nget L (Key.mk 2 k.oid k.count void.call void.rights void.value) i = q_got L (q_rts k 0) i := by
  rw [rts_eq (is_all h).1 h2]
  exact nget_w (is_rts h h2) h2 h0 h1
theorem got_r0 {L : List Obj} {k : Key} {i : Int} : q_got L (q_rts k 0) i = q_prep L ((lget L k.oid.toNat free).slots.at i.toNat) := rfl
theorem go_eq {L : List Obj} {g : Wk} (h0 : 0 ≤ g.dep) (h8 : g.dep ≤ 8) : q_wgo L (9 - g.dep).toNat g =
    if (q_prep L g.pos).kind = 3 then (if g.adr < 64 then ⟨0, q_only g.rts (q_prep L g.pos), g.adr, g.kpr, g.dep⟩ else ⟨2, void, 0, g.kpr, 0⟩)
    else if (q_prep L g.pos).kind = 2 then match q_wnode L g (q_prep L g.pos) (q_got L (q_rts (q_prep L g.pos) 0) 15) (q_got L (q_rts (q_prep L g.pos) 0) 14) with
      | (r, none) => r
      | (_, some w') => q_wgo L (8 - g.dep).toNat w'
    else ⟨1, void, 0, g.kpr, 0⟩ := by
  have e : (9 - g.dep).toNat = (8 - g.dep).toNat + 1 := by omega
  rw [e]
  rfl
theorem go_void {L : List Obj} {g : Wk} (h0 : 0 ≤ g.dep) (h8 : g.dep ≤ 8) (h3 : (q_prep L g.pos).kind ≠ 3) (h2 : (q_prep L g.pos).kind ≠ 2) : q_wgo L (9 - g.dep).toNat g = ⟨1, void, 0, g.kpr, 0⟩ := by
  rw [go_eq h0 h8, if_neg h3, if_neg h2]
theorem go_rng {L : List Obj} {g : Wk} (h0 : 0 ≤ g.dep) (h8 : g.dep ≤ 8) (h3 : (q_prep L g.pos).kind = 3) (h : ¬ g.adr < 64) : q_wgo L (9 - g.dep).toNat g = ⟨2, void, 0, g.kpr, 0⟩ := by
  rw [go_eq h0 h8, if_pos h3, if_neg h]
theorem go_page {L : List Obj} {g : Wk} (h0 : 0 ≤ g.dep) (h8 : g.dep ≤ 8) (h3 : (q_prep L g.pos).kind = 3) (h : g.adr < 64) : q_wgo L (9 - g.dep).toNat g = ⟨0, q_only g.rts (q_prep L g.pos), g.adr, g.kpr, g.dep⟩ := by
  rw [go_eq h0 h8, if_pos h3, if_pos h]
theorem go_dep {L : List Obj} {g : Wk} (h0 : 0 ≤ g.dep) (h8 : g.dep ≤ 8) (h2 : (q_prep L g.pos).kind = 2) (h : ¬ g.dep < 8) : q_wgo L (9 - g.dep).toNat g = ⟨3, void, 0, g.kpr, 0⟩ := by
  rw [go_eq h0 h8, if_neg (by omega), if_pos h2, q_wnode, if_pos (by omega)]
theorem go_form {L : List Obj} {g : Wk} (h0 : 0 ≤ g.dep) (h8 : g.dep ≤ 8) (h2 : (q_prep L g.pos).kind = 2) (h : g.dep < 8) (hf : q_hOk g (q_got L (q_rts (q_prep L g.pos) 0) 15) = false) : q_wgo L (9 - g.dep).toNat g = ⟨4, void, 0, g.kpr, 0⟩ := by
  rw [go_eq h0 h8, if_neg (by omega), if_pos h2, q_wnode, if_neg (by omega), hf]
  rfl
theorem go_slot {L : List Obj} {g : Wk} (h0 : 0 ≤ g.dep) (h8 : g.dep ≤ 8) (h2 : (q_prep L g.pos).kind = 2) (h : g.dep < 8) (hf : q_hOk g (q_got L (q_rts (q_prep L g.pos) 0) 15) = true)
    (hs : ¬ g.adr.tdiv (q_each (q_got L (q_rts (q_prep L g.pos) 0) 15).value) < 14) : q_wgo L (9 - g.dep).toNat g = ⟨2, void, 0, q_kp (q_or g.rts (q_prep L g.pos).rights) (q_got L (q_rts (q_prep L g.pos) 0) 14) g.kpr, 0⟩ := by
  rw [go_eq h0 h8, if_neg (by omega), if_pos h2, q_wnode, if_neg (by omega), hf, if_pos rfl, if_neg hs]
def nxt (L : List Obj) (g : Wk) : Wk := ⟨q_got L (q_prep L g.pos) (g.adr.tdiv (q_each (q_got L (q_rts (q_prep L g.pos) 0) 15).value)), g.adr.tmod (q_each (q_got L (q_rts (q_prep L g.pos) 0) 15).value), q_or g.rts (q_prep L g.pos).rights,
  q_kp (q_or g.rts (q_prep L g.pos).rights) (q_got L (q_rts (q_prep L g.pos) 0) 14) g.kpr, g.dep + 1, (q_got L (q_rts (q_prep L g.pos) 0) 15).value⟩
theorem go_next {L : List Obj} {g : Wk} (h0 : 0 ≤ g.dep) (h8 : g.dep ≤ 8) (h2 : (q_prep L g.pos).kind = 2) (h : g.dep < 8) (hf : q_hOk g (q_got L (q_rts (q_prep L g.pos) 0) 15) = true)
    (hs : g.adr.tdiv (q_each (q_got L (q_rts (q_prep L g.pos) 0) 15).value) < 14) : q_wgo L (9 - g.dep).toNat g = q_wgo L (9 - (g.dep + 1)).toNat (nxt L g) := by
  rw [go_eq h0 h8, if_neg (by omega), if_pos h2, q_wnode, if_neg (by omega), hf, if_pos rfl, if_pos hs]
  have e : (9 - (g.dep + 1)).toNat = (8 - g.dep).toNat := by omega
  rw [e]
  rfl
theorem hOk_iff {g : Wk} {h : Key} : q_hOk g h = true ↔ h.kind = 1 ∧ 1 ≤ h.value ∧ h.value ≤ 8 ∧ (g.dep = 0 ∨ h.value < g.hi) := by
  simp [q_hOk, and_assoc]
theorem div_facts {a e : Int} (h0 : 0 ≤ a) (he : 64 ≤ e) : 0 ≤ a.tdiv e ∧ a.tdiv e ≤ a ∧ 0 ≤ a.tmod e ∧ a.tmod e ≤ a := by
  rw [Int.tdiv_eq_ediv_of_nonneg h0, Int.tmod_eq_emod_of_nonneg h0]
  have h1 := Int.ediv_nonneg h0 (show 0 ≤ e by omega)
  have h2 := Int.ediv_le_self e h0
  have h3 := Int.emod_nonneg a (show e ≠ 0 by omega)
  have h4 := Int.emod_add_mul_ediv a e
  have h5 := Int.mul_nonneg (show 0 ≤ e by omega) h1
  omega
theorem nxt_I {L : List Obj} {k : Key} {a hi : Int} {g : Wk} (hI : q_wI L k a hi g) (h2 : (q_prep L g.pos).kind = 2) (h : g.dep < 8) (hf : q_hOk g (q_got L (q_rts (q_prep L g.pos) 0) 15) = true)
    (hs : g.adr.tdiv (q_each (q_got L (q_rts (q_prep L g.pos) 0) 15).value) < 14) : q_wI L k a hi (nxt L g) ∧ q_wM (nxt L g) < q_wM g := by
  obtain ⟨⟨a1, a2⟩, ⟨r1, r2⟩, ⟨d1, d2⟩, e1, e2, e3⟩ := hI
  have hf' := hOk_iff.1 hf
  have he := each_le (show (q_got L (q_rts (q_prep L g.pos) 0) 15).value ≤ 9 by omega)
  have hd := div_facts a1 he.1
  have hp := keyOk_r7 (keyOk_prep L g.pos)
  have ho := or_q r1 r2 hp.1 hp.2
  refine ⟨⟨⟨hd.2.2.1, by have := hd.2.2.2; simp only [nxt]; omega⟩, ho.2, ⟨by simp only [nxt]; omega, by simp only [nxt]; omega⟩, fun h => ?_, fun _ => hf'.2.2.1, ?_⟩, ?_⟩
  · simp only [nxt] at h; omega
  · rw [← e3, go_next d1 d2 h2 h hf hs]; rfl
  · unfold q_wM; simp only [nxt]; omega
theorem wgo_hi {L : List Obj} {k : Key} {a : Int} (x y : Int) : q_wgo L 9 (q_w0 k a x) = q_wgo L 9 (q_w0 k a y) := by
  show wgo L (8 + 1) _ = wgo L (8 + 1) _
  unfold wgo
  simp only [q_w0, q_wnode, q_hOk]
  rfl
theorem wI_0 {L : List Obj} {k : Key} {a : Int} (h : ¬ a < 0) (hi : Int) : q_wI L k a hi (q_w0 k a hi) :=
  ⟨⟨by simp only [q_w0]; omega, by simp only [q_w0]; omega⟩, by simp [q_w0], by simp [q_w0], fun _ => rfl, fun h => absurd rfl h, rfl⟩
theorem wI_R {L : List Obj} {k : Key} {a hi : Int} {g : Wk} (hI : q_wI L k a hi g) (hE : q_wE L k a = 0) : q_wR L k a = q_wgo L (9 - g.dep).toNat g := by
  unfold q_wR
  rw [if_pos hE, hI.2.2.2.2.2]
  exact wgo_hi _ _
theorem w_bad {L : List Obj} {k : Key} {a e : Int} (h : q_wE L k a = e) (he : e ≠ 0) : void = q_fP (q_wR L k a) ∧ 0 = q_fA (q_wR L k a) ∧ void = q_fK (q_wR L k a) ∧ 0 = q_fD (q_wR L k a) ∧ 0 = q_uF (q_wR L k a) ∧ void = q_uK (q_wR L k a) ∧ 0 = q_uA (q_wR L k a) a ∧ e = q_wE L k a := by
  have : q_wR L k a = wr0 := by unfold q_wR; rw [if_neg (by omega)]
  rw [this, h]
  exact ⟨rfl, rfl, rfl, rfl, rfl, rfl, rfl, rfl⟩
theorem w_flt {L : List Obj} {k : Key} {a hi d : Int} {g : Wk} {p : Key} (hI : q_wI L k a hi g) (hE : q_wE L k a = 0) (h : q_wgo L (9 - g.dep).toNat g = ⟨d, void, 0, p, 0⟩) (hd : d ≠ 0) :
    void = q_fP (q_wR L k a) ∧ 0 = q_fA (q_wR L k a) ∧ void = q_fK (q_wR L k a) ∧ 0 = q_fD (q_wR L k a) ∧ d = q_uF (q_wR L k a) ∧ p = q_uK (q_wR L k a) ∧ a = q_uA (q_wR L k a) a ∧ 0 = q_wE L k a := by
  rw [wI_R hI hE, h, hE]
  simp only [q_fP, q_fA, q_fK, q_fD, q_uF, q_uK, q_uA, if_neg hd]
  simp
theorem w_fnd {L : List Obj} {k : Key} {a hi ad dp : Int} {g : Wk} {q p : Key} (hI : q_wI L k a hi g) (hE : q_wE L k a = 0) (h : q_wgo L (9 - g.dep).toNat g = ⟨0, q, ad, p, dp⟩) :
    q = q_fP (q_wR L k a) ∧ ad = q_fA (q_wR L k a) ∧ p = q_fK (q_wR L k a) ∧ dp = q_fD (q_wR L k a) ∧ 0 = q_uF (q_wR L k a) ∧ void = q_uK (q_wR L k a) ∧ 0 = q_uA (q_wR L k a) a ∧ 0 = q_wE L k a := by
  rw [wI_R hI hE, h, hE]
  exact ⟨rfl, rfl, rfl, rfl, rfl, rfl, rfl, rfl⟩
theorem may_q (L : List Obj) (v : Key) : (!decide (q_chk v = 0) || q_named v && decide (q_size L ≤ q_oid v)) = !q_may L v := by
  rw [← may_law]
  have : decide (q_size L ≤ q_oid v) = !decide (q_oid v < q_size L) := by
    rw [Bool.eq_iff_iff]; simp
  rw [this]
  cases decide (q_chk v = 0) <;> cases q_named v <;> cases decide (q_oid v < q_size L) <;> rfl
theorem wE1 {L : List Obj} {k : Key} {a : Int} (h : decide (q_size L = 0) = true) : q_wE L k a = 1 := by
  have h := of_decide_eq_true h
  unfold q_size at h
  unfold q_wE
  rw [if_pos (by omega)]
theorem wE0 {L : List Obj} {k : Key} {a : Int} (h : decide (q_size L = 0) = false) : q_wE L k a = if q_may L k then (if a < 0 then 4 else 0) else 2 := by
  have h := of_decide_eq_false h
  unfold q_size at h
  unfold q_wE
  rw [if_neg (by omega)]
theorem raw_num {L : List Obj} {k : Key} (hk : q_keyOk k = true) (hL : 0 < L.length) : (k.kind = 1 → q_prep L k = k) ∧ (k.kind ≠ 1 → (q_prep L k).kind ≠ 1) := by
  refine ⟨fun h => ?_, fun h => ?_⟩
  · unfold q_prep
    rw [if_neg]
    have hs : q_snone L = false := by
      unfold q_snone llen
      rw [decide_eq_false]
      omega
    have hn : q_named k = false := by unfold q_named q_isO; rw [h, hk]; rfl
    rw [hs, hk, hn]
    simp
  · unfold q_prep
    split
    · simp [void]
    · exact h
end Go.Sx
