/- Pages in plain Lean: bytes that are read, written, cleared, copied. No condition. -/
import Derived.Test.YtfalhknkaebfoaaKS
set_option linter.unusedVariables false
set_option linter.unusedSimpArgs false
namespace Go.Sx
def q_page (L : List Obj) (k : Key) (c : Bool) : Int := if q_asked L k 3 false = 0 then (if (c && !decide (k.rights = 0)) = true then 191 else 0) else q_asked L k 3 false
def q_inside (i n : Int) : Bool := decide (0 ≤ i) && decide (0 ≤ n) && decide (i ≤ 64) && decide (n ≤ 64 - i)
def q_preadE (L : List Obj) (k : Key) (i n : Int) : Int := if q_page L k false = 0 then (if q_inside i n then 0 else 4) else q_page L k false
def q_pread (L : List Obj) (k : Key) (i n : Int) : ByteArray := if q_preadE L k i n = 0 then bsub (lget L k.oid.toNat free).bytes i.toNat (i + n).toNat else ⟨#[]⟩
def q_bys (o : Obj) (b : Bytes) : Obj := { o with bytes := b }
def q_setB (L : List Obj) (k : Key) (b : Bytes) : List Obj := lset L k.oid.toNat (q_bys (lget L k.oid.toNat free) b)
def q_pwrE (L : List Obj) (k : Key) (i : Int) (s : ByteArray) : Int := if q_page L k true = 0 then (if q_inside i (szI s) then 0 else 4) else q_page L k true
def q_pwrL (L : List Obj) (k : Key) (i : Int) (s : ByteArray) : List Obj := if q_pwrE L k i s = 0 then q_setB L k (bput (lget L k.oid.toNat free).bytes i.toNat s.size s) else L
def q_pclrL (L : List Obj) (k : Key) : List Obj := if q_page L k true = 0 then q_setB L k noBytes else L
def q_pcpE (L : List Obj) (t f : Key) : Int := if q_page L t true = 0 then q_page L f false else q_page L t true
def q_pcpL (L : List Obj) (t f : Key) : List Obj := if q_pcpE L t f = 0 then q_setB L t (lget L f.oid.toNat free).bytes else L
def q_strOk (s : ByteArray) : Prop := (s.size : Int) ≤ 9223372036854775807
def rStr (v : V) : Option ByteArray := match v with
  | .st s => some s
  | _ => none
theorem rStr_ok : RdOK rStr V.st := fun v x h => by
  cases v <;> simp only [rStr, Option.some.injEq, reduceCtorEq] at h
  subst h
  exact ⟨fun _ => rfl, fun _ => id⟩
def zA : Arg ByteArray := valA rStr V.st
theorem zA_ok : ArgOK zA := valA_ok rStr_ok (fun _ => rfl) fun v x h => by cases v <;> simp [rStr] at h; rfl
def rdKIS (l : List V) : Option (Key × Int × ByteArray) := match l with
  | [a, b, c] => match rK a with
    | some k => match rI .i64 b with
      | some i => match rStr c with
        | some s => some (k, i, s)
        | none => none
      | none => none
    | none => none
  | _ => none
theorem rdKIS_ok : ∀ l x, rdKIS l = some x → SameB l [.key x.1, .it .i64 x.2.1, .st x.2.2] := fun l x h => by
  unfold rdKIS at h
  split at h
  · split at h
    · rename_i h1
      split at h
      · rename_i h2
        split at h <;> simp only [Option.some.injEq, reduceCtorEq] at h
        rename_i h3
        subst h
        exact SameB.rd rK_ok h1 (SameB.rd (rI_ok .i64) h2 (SameB.rd rStr_ok h3 SameB.nil))
      · simp at h
    · simp at h
  · simp at h
def g_inside : Ct := mk2 (rI .i64) (rI .i64) fun i n => .bo (q_inside i n)
def g_page : Ct := mkR (consA liA (consA kA (consA bA nilA))) (fun _ => none) fun x => .it .i64 (q_page x.1 x.2.1 x.2.2.1)
def g_pread : Ct := mkR (consA sA (consA kA (consA iA (consA iA nilA)))) (fun _ => none) fun x => .tp [.st (q_pread (stL x.1) x.2.1 x.2.2.1 x.2.2.2.1), .it .i64 (q_preadE (stL x.1) x.2.1 x.2.2.1 x.2.2.2.1)]
def h_pwr : HCt := hSt rdKIS (fun L x => q_okL L ∧ q_strOk x.2.2) (fun L x => .it .i64 (q_pwrE L x.1 x.2.1 x.2.2)) fun L x => q_pwrL L x.1 x.2.1 x.2.2
def h_pclr : HCt := hSt rdK (fun L _ => q_okL L) (fun L x => .it .i64 (q_page L x true)) fun L x => q_pclrL L x
def h_pcp : HCt := hSt rdKK (fun L _ => q_okL L) (fun L x => .it .i64 (q_pcpE L x.1 x.2)) fun L x => q_pcpL L x.1 x.2
theorem bys_ok {o : Obj} {n : Int} {b : Bytes} (h : q_objOk o n = true) (hk : o.kind = 1 ∨ o.kind = 2) : q_objOk (q_bys o b) n = true := by
  rw [objOk_iff] at h ⊢
  simp only [q_bys]
  obtain ⟨a1, a2, a3, a4, a5, a6, a7, a8, a9, a10, a11⟩ := h
  exact ⟨a1, a2, a3, a4, a5, a6, a7, a8, a9, a10, fun i hi => .inl hk⟩
theorem page_kind {L : List Obj} {k : Key} (h : q_is L k = true) (h2 : k.kind = 3) : (lget L k.oid.toNat free).kind = 2 := by
  rw [(is_all h).2.2.2.2]
  unfold q_wants
  rw [if_neg (by have := (is_names h).1; omega), if_pos h2]
theorem page_put {L : List Obj} {k : Key} {b : Bytes} (hL : q_okL L) (h : q_is L k = true) (h2 : k.kind = 3) : q_put L k.oid (q_bys (q_nobj L k) b) = 0 ∧ q_putL L k.oid (q_bys (q_nobj L k) b) = q_setB L k b ∧ q_okL (q_setB L k b) := by
  obtain ⟨b1, b2, b3, b4, _⟩ := is_all h
  have hr := right_iff.1 hL
  have ho := bys_ok (b := b) (hr.2.2 k.oid.toNat (by omega)) (.inr (page_kind h h2))
  obtain ⟨p1, p2⟩ := put_yes (L := L) (o := q_bys (lget L k.oid.toNat free) b) (has_ok.2 ⟨b2, b3⟩) (ochk_yes ho).symm
  rw [b4]
  refine ⟨p1, p2, ?_⟩
  refine right_iff.2 ?_
  unfold q_setB
  have hl : (lset L k.oid.toNat (q_bys (lget L k.oid.toNat free) b)).length = L.length := by simp [lset]
  rw [hl]
  refine ⟨hr.1, hr.2.1, fun i hi => ?_⟩
  by_cases e : i = k.oid.toNat
  · subst e
    rw [show lget (lset L k.oid.toNat (q_bys (lget L k.oid.toNat free) b)) k.oid.toNat free = q_bys (lget L k.oid.toNat free) b by simp [lget, lset, List.getD_eq_getElem?_getD, hi]]
    exact ho
  · rw [show lget (lset L k.oid.toNat (q_bys (lget L k.oid.toNat free) b)) i free = lget L i free by simp [lget, lset, List.getD_eq_getElem?_getD, List.getElem?_set, Ne.symm e]]
    exact hr.2.2 i hi
theorem page_r1 {L : List Obj} {k : Key} (h : q_is L k = true) (h2 : k.kind = 3) : 0 ≤ k.rights ∧ k.rights ≤ 1 := by
  have := keyOk_rights (is_all h).1
  rw [h2] at this
  exact this
theorem and1 {r : Int} (h0 : 0 ≤ r) (h1 : r ≤ 1) : bitsI .and .i64 r 1 = r := by
  have : r = 0 ∨ r = 1 := by omega
  rcases this with rfl | rfl <;> decide
theorem inside_iff {i n : Int} : q_inside i n = true ↔ 0 ≤ i ∧ 0 ≤ n ∧ i ≤ 64 ∧ n ≤ 64 - i := by
  simp only [q_inside, Bool.and_eq_true, decide_eq_true_eq, and_assoc]
theorem bcp_full (b : Bytes) (i : Int) (s : ByteArray) (h : q_inside i (szI s) = true) : bcp b i.toNat 64 s = bput b i.toNat s.size s := by
  unfold bcp cpN
  have hle : s.size ≤ 64 - i.toNat := by
    obtain ⟨h0, h1, h2, h3⟩ := inside_iff.1 h
    have h3 : (s.size : Int) ≤ 64 - i := h3
    omega
  rw [show Nat.min s.size (64 - i.toNat) = s.size from Nat.min_eq_left hle]
theorem bclr_all (b : Bytes) : bclr b 0 64 = noBytes := by
  unfold bclr bput noBytes
  ext i hi
  simp [sat_empty, hi]
theorem bput_zero (b : Bytes) (i : Nat) (s : ByteArray) : bput b i 0 s = b := by
  apply Vector.ext
  intro j hj
  have := bput_at b i 0 s j hj
  rw [if_neg (by omega)] at this
  simpa [Bytes.at, Array.getD_eq_getD_getElem?, hj] using this
theorem by_ext {a b : Bytes} (h : ∀ j, j < 64 → a.at j = b.at j) : a = b := by
  apply Vector.ext
  intro j hj
  have := h j hj
  simpa [Bytes.at, Array.getD_eq_getD_getElem?, hj] using this
theorem bput_succ (b : Bytes) (i g : Nat) (s : ByteArray) (h : i + g < 64) : (bput b i g s).put (i + g) (sat s g) = bput b i (g + 1) s := by
  apply by_ext
  intro j hj
  rw [Bytes.at_put _ _ _ _ h, bput_at _ _ _ _ _ hj, bput_at _ _ _ _ _ hj]
  by_cases e : j = i + g
  · subst e
    rw [if_pos rfl, if_pos (by omega), show i + g - i = g by omega]
  · rw [if_neg e]
    by_cases e2 : i ≤ j ∧ j < i + g
    · rw [if_pos e2, if_pos (by omega)]
    · rw [if_neg e2, if_neg (by omega)]
theorem rputB_ok {L : List Obj} {k : Key} (hL : q_okL L) (h : q_is L k = true) : q_rputQ L k.oid ∧ 0 ≤ k.oid ∧ k.oid < (llen L : Int) ∧ k.oid.toNat < llen L := rput_ok hL h
theorem page_ok {L : List Obj} {k : Key} {c : Bool} (h : q_page L k c = 0) : q_is L k = true ∧ k.kind = 3 ∧ (c = true → k.rights = 0) := by
  unfold q_page at h
  split at h
  · rename_i h1
    obtain ⟨a1, a2, _⟩ := asked_ok h1
    split at h
    · omega
    · rename_i h2
      exact ⟨a1, a2, fun hc => by simpa [hc] using h2⟩
  · rename_i h1; exact absurd h h1
theorem page_f {L : List Obj} {k : Key} : q_page L k false = q_asked L k 3 false := by
  unfold q_page
  split
  · rename_i h; rw [h]; rfl
  · rfl
theorem pg1 {L : List Obj} {k : Key} {c : Bool} (h : decide (q_size L = 0) = true) : q_page L k c = 1 := by
  have : q_asked L k 3 false = 1 := ask1 (by rw [decide_eq_true_eq] at h; simp [h])
  unfold q_page
  rw [this, if_neg (by omega)]
theorem pg2 {L : List Obj} {k : Key} {c : Bool} (h : decide (q_size L = 0) = false) (h2 : (!q_is L k || !decide (k.kind = 3)) = true) : q_page L k c = 190 := by
  have h0 : (!decide (0 < q_size L)) = false := by
    rw [decide_eq_false_iff_not] at h
    unfold q_size at h ⊢
    simp; omega
  have : q_asked L k 3 false = 190 := ask2 h0 (by simpa using h2)
  unfold q_page
  rw [this, if_neg (by omega)]
theorem pg_is {L : List Obj} {k : Key} (h2 : (!q_is L k || !decide (k.kind = 3)) = false) : q_is L k = true ∧ k.kind = 3 := by simpa using h2
theorem pg0 {L : List Obj} {k : Key} (h : decide (q_size L = 0) = false) (h2 : (!q_is L k || !decide (k.kind = 3)) = false) : q_asked L k 3 false = 0 := by
  refine ask0f ?_ (by simpa using h2)
  rw [decide_eq_false_iff_not] at h
  unfold q_size at h ⊢
  simp; omega
theorem pgf {L : List Obj} {k : Key} (h : decide (q_size L = 0) = false) (h2 : (!q_is L k || !decide (k.kind = 3)) = false) : q_page L k false = 0 := by rw [page_f]; exact pg0 h h2
theorem pg3 {L : List Obj} {k : Key} (h : decide (q_size L = 0) = false) (h2 : (!q_is L k || !decide (k.kind = 3)) = false) (h3 : (!decide (bitsI BinOp.and IntKind.i64 k.rights 1 = 0)) = true) : q_page L k true = 191 := by
  obtain ⟨a1, a2⟩ := pg_is h2
  have hr := page_r1 a1 a2
  rw [and1 hr.1 hr.2] at h3
  unfold q_page
  rw [if_pos (pg0 h h2), if_pos (by simpa using h3)]
theorem pgt {L : List Obj} {k : Key} (h : decide (q_size L = 0) = false) (h2 : (!q_is L k || !decide (k.kind = 3)) = false) (h3 : (!decide (bitsI BinOp.and IntKind.i64 k.rights 1 = 0)) = false) : q_page L k true = 0 := by
  obtain ⟨a1, a2⟩ := pg_is h2
  have hr := page_r1 a1 a2
  rw [and1 hr.1 hr.2] at h3
  unfold q_page
  rw [if_pos (pg0 h h2), if_neg (by simpa using h3)]
theorem read_bad {L : List Obj} {k : Key} {i n e : Int} (h : q_page L k false = e) (he : e ≠ 0) : (⟨#[]⟩ : ByteArray) = q_pread L k i n ∧ e = q_preadE L k i n := by
  have : q_preadE L k i n = e := by unfold q_preadE; rw [h, if_neg he]
  unfold q_pread
  rw [this, if_neg he]
  exact ⟨rfl, rfl⟩
theorem read_rng {L : List Obj} {k : Key} {i n : Int} (h : q_page L k false = 0) (hi : (!q_inside i n) = true) : (⟨#[]⟩ : ByteArray) = q_pread L k i n ∧ 4 = q_preadE L k i n := by
  rw [Bool.not_eq_true'] at hi
  have : q_preadE L k i n = 4 := by unfold q_preadE; rw [if_pos h, hi]; rfl
  unfold q_pread
  rw [this]
  exact ⟨rfl, rfl⟩
theorem read_ok {L : List Obj} {k : Key} {i n : Int} (h : q_page L k false = 0) (hi : (!q_inside i n) = false) : inRo IntKind.i64 (i + n) ∧ pSl i (i + n) 64 ∧ bsub (lget L k.oid.toNat free).bytes i.toNat (i + n).toNat = q_pread L k i n ∧ 0 = q_preadE L k i n := by
  rw [Bool.not_eq_false'] at hi
  obtain ⟨a, b, c, d⟩ := inside_iff.1 hi
  have : q_preadE L k i n = 0 := by unfold q_preadE; rw [if_pos h, hi]; rfl
  unfold q_pread
  rw [this]
  exact ⟨by simp only [inRo, inR]; omega, ⟨by omega, by omega, by omega⟩, rfl, rfl⟩
theorem wr_bad {L : List Obj} {k : Key} {i e : Int} {z : ByteArray} (h : q_page L k true = e) (he : e ≠ 0) : e = q_pwrE L k i z ∧ L = q_pwrL L k i z := by
  have : q_pwrE L k i z = e := by unfold q_pwrE; rw [h, if_neg he]
  unfold q_pwrL
  rw [this, if_neg he]
  exact ⟨rfl, rfl⟩
theorem wr_rng {L : List Obj} {k : Key} {i : Int} {z : ByteArray} (h : q_page L k true = 0) (hi : (!q_inside i (szI z)) = true) : 4 = q_pwrE L k i z ∧ L = q_pwrL L k i z := by
  rw [Bool.not_eq_true'] at hi
  have : q_pwrE L k i z = 4 := by unfold q_pwrE; rw [if_pos h, hi]; rfl
  unfold q_pwrL
  rw [this]
  exact ⟨rfl, rfl⟩
theorem wr_ok {L : List Obj} {k : Key} {i : Int} {z : ByteArray} (hL : q_okL L) (h1 : q_is L k = true) (h2 : k.kind = 3) (h : q_page L k true = 0) (hi : (!q_inside i (szI z)) = false) : pSl i 64 64 ∧
    q_put L k.oid (q_bys (q_nobj L k) (bcp (q_nobj L k).bytes i.toNat (Int.toNat 64) z)) = q_pwrE L k i z ∧ q_putL L k.oid (q_bys (q_nobj L k) (bcp (q_nobj L k).bytes i.toNat (Int.toNat 64) z)) = q_pwrL L k i z := by
  rw [Bool.not_eq_false'] at hi
  obtain ⟨a, b, c, d⟩ := inside_iff.1 hi
  have hE : q_pwrE L k i z = 0 := by unfold q_pwrE; rw [if_pos h, hi]; rfl
  have hb := bcp_full (q_nobj L k).bytes i z hi
  obtain ⟨p1, p2, _⟩ := page_put (b := bput (q_nobj L k).bytes i.toNat z.size z) hL h1 h2
  have h64 : Int.toNat 64 = 64 := rfl
  rw [h64, hb, p1, p2, hE]
  refine ⟨⟨by omega, by omega, by omega⟩, rfl, ?_⟩
  unfold q_pwrL
  rw [hE, if_pos rfl, (is_all h1).2.2.2.1]
theorem cl_bad {L : List Obj} {k : Key} {e : Int} (h : q_page L k true = e) (he : e ≠ 0) : e = q_page L k true ∧ L = q_pclrL L k := by
  refine ⟨h.symm, ?_⟩
  unfold q_pclrL
  rw [h, if_neg he]
theorem cl_ok {L : List Obj} {k : Key} (hL : q_okL L) (h1 : q_is L k = true) (h2 : k.kind = 3) (h : q_page L k true = 0) : pSl 0 64 64 ∧
    q_put L k.oid (q_bys (q_nobj L k) (bclr (q_nobj L k).bytes (Int.toNat 0) (Int.toNat 64))) = q_page L k true ∧ q_putL L k.oid (q_bys (q_nobj L k) (bclr (q_nobj L k).bytes (Int.toNat 0) (Int.toNat 64))) = q_pclrL L k := by
  have h64 : Int.toNat 64 = 64 := rfl
  have h0 : Int.toNat 0 = 0 := rfl
  obtain ⟨p1, p2, _⟩ := page_put (b := noBytes) hL h1 h2
  rw [h64, h0, bclr_all, p1, p2, h]
  refine ⟨⟨by omega, by omega, by omega⟩, rfl, ?_⟩
  unfold q_pclrL
  rw [if_pos h]
theorem cp_bad {L : List Obj} {t f : Key} {e : Int} (h : q_page L t true = e) (he : e ≠ 0) : e = q_pcpE L t f ∧ L = q_pcpL L t f := by
  have : q_pcpE L t f = e := by unfold q_pcpE; rw [h, if_neg he]
  unfold q_pcpL
  rw [this, if_neg he]
  exact ⟨rfl, rfl⟩
theorem cp_bad2 {L : List Obj} {t f : Key} {e : Int} (h : q_page L t true = 0) (h2 : q_page L f false = e) (he : e ≠ 0) : e = q_pcpE L t f ∧ L = q_pcpL L t f := by
  have : q_pcpE L t f = e := by unfold q_pcpE; rw [if_pos h, h2]
  unfold q_pcpL
  rw [this, if_neg he]
  exact ⟨rfl, rfl⟩
theorem cp_ok {L : List Obj} {t f : Key} (hL : q_okL L) (h1 : q_is L t = true) (h2 : t.kind = 3) (h : q_page L t true = 0) (g1 : q_is L f = true) (g : q_page L f false = 0) :
    q_put L t.oid (q_bys (q_nobj L t) (q_nobj L f).bytes) = q_pcpE L t f ∧ q_putL L t.oid (q_bys (q_nobj L t) (q_nobj L f).bytes) = q_pcpL L t f := by
  have hE : q_pcpE L t f = 0 := by unfold q_pcpE; rw [if_pos h, g]
  obtain ⟨p1, p2, _⟩ := page_put (b := (q_nobj L f).bytes) hL h1 h2
  rw [p1, p2, hE]
  refine ⟨rfl, ?_⟩
  unfold q_pcpL
  rw [hE, if_pos rfl, (is_all g1).2.2.2.1]
structure Acp where
  kind : Int
  pos : Int
  num : Int
  key : Key
  other : Key
  bytes : ByteArray
def acpV (a : Acp) : V := .ag [.it .i64 a.kind, .it .i64 a.pos, .it .i64 a.num, .key a.key, .key a.other, .st a.bytes]
def Acp.wf (x : Acp) : Prop := inR .i64 x.kind ∧ inR .i64 x.pos ∧ inR .i64 x.num ∧ x.key.wf ∧ x.other.wf ∧ q_strOk x.bytes
def acp0 : Acp := ⟨0, 0, 0, void, void, ⟨#[]⟩⟩
def acps (l : List Acp) : TL := .fn (llen l) fun i => acpV (lget l i acp0)
/-- Does a call change the store? -/
def q_pchg (L : List Obj) (a : Acp) : Bool :=
  if a.kind = 1 then false else if a.kind = 2 then decide (q_pwrE L a.key a.pos a.bytes = 0) else if a.kind = 3 then decide (q_page L a.key true = 0) else decide (q_pcpE L a.key a.other = 0)
def q_pdoL (L : List Obj) (a : Acp) : List Obj :=
  if a.kind = 1 then L else if a.kind = 2 then q_pwrL L a.key a.pos a.bytes else if a.kind = 3 then q_pclrL L a.key else q_pcpL L a.key a.other
def q_wr (L : List Obj) (k : Key) (i : Int) (s : ByteArray) (g : Int) : Obj := q_bys (lget L k.oid.toNat free) (bput (lget L k.oid.toNat free).bytes i.toNat g.toNat s)
def q_invZ (s : ByteArray) (g : Int) : Prop := 0 ≤ g ∧ g ≤ (s.size : Int)
def q_muZ (s : ByteArray) (g : Int) : Nat := s.size - g.toNat
theorem ba_ext {a b : ByteArray} (h : a.size = b.size) (h2 : ∀ i, i < a.size → sat a i = sat b i) : a = b := by
  obtain ⟨x⟩ := a
  obtain ⟨y⟩ := b
  congr 1
  apply Array.ext h
  intro i hi hj
  have := h2 i hi
  simpa [sat, Array.getD_eq_getD_getElem?, hi, hj] using this
theorem put_sub (b : Bytes) (i : Nat) (s : ByteArray) (h : i + s.size ≤ 64) : bsub (bput b i s.size s) i (i + s.size) = s := by
  refine ba_ext (by rw [bsub_size]; omega) fun j hj => ?_
  rw [bsub_size] at hj
  rw [sat_bsub _ _ _ _ (by omega) (by omega), bput_at _ _ _ _ _ (by omega), if_pos (by omega)]
  congr 1; omega
theorem wr_zero {L : List Obj} {k : Key} {i : Int} {s : ByteArray} : lget L k.oid.toNat free = q_wr L k i s 0 := by
  unfold q_wr q_bys
  rw [show (0 : Int).toNat = 0 from rfl, bput_zero]
theorem wr_step {L : List Obj} {k : Key} {i : Int} {s : ByteArray} {g : Int} (h0 : 0 ≤ i) (h1 : 0 ≤ g) (h : i + g < 64) : q_bys (q_wr L k i s g) ((q_wr L k i s g).bytes.put (i + g).toNat (sat s g.toNat)) = q_wr L k i s (g + 1) := by
  unfold q_wr q_bys
  simp only
  rw [show (i + g).toNat = i.toNat + g.toNat by omega, show (g + 1).toNat = g.toNat + 1 by omega, bput_succ _ _ _ _ (by omega)]
theorem steq_self (s : ByteArray) : steq s s = true := by simp [steq]
end Go.Sx
