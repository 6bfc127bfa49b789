/- Calls of layer 13, over a store and a list; what its laws turn. No condition. -/
import Derived.Test.YtfalhknkaebfoaaSpQp
import Derived.Test.YtfalhknkaebfoaaKS
set_option linter.unusedVariables false
set_option linter.unusedSimpArgs false
namespace Go.Sx
structure Pac where
  kind : Int
  oid : Int
  key : Key
  mode : Int
  state : Int
  msg : Msg
def pcaV (a : Pac) : V := .ag [.it .i64 a.kind, .it .i64 a.oid, .key a.key, .it .i64 a.mode, .it .i64 a.state, .ag [.it .i64 a.msg.code, .st a.msg.data, .ag [.key a.msg.k0, .key a.msg.k1, .key a.msg.k2]]]
def pac0 : Pac := ⟨0, 0, void, 0, 0, msg0⟩
def pcas (l : List Pac) : TL := .fn (llen l) fun i => pcaV (lget l i pac0)
def pcF (x : List Pac) : Nat → V := fun i => pcaV (lget x i pac0)
def rPac (v : V) : Option Pac :=
  match v with
  | .ag l => match l with
    | [a, b, c, d, e, f] => match rI .i64 a with
      | some n => match rI .i64 b with
        | some i => match rK c with
          | some k => match rI .i64 d with
            | some m => match rI .i64 e with
              | some s => match rMsg f with
                | some g => some ⟨n, i, k, m, s, g⟩
                | none => none
              | none => none
            | none => none
          | none => none
        | none => none
      | none => none
    | _ => none
  | _ => none
theorem rPac_ok : RdOK rPac pcaV := by
  intro v x h
  unfold rPac at h
  split at h
  case h_2 => simp at h
  split at h
  case h_2 => simp at h
  rename_i a b c d e f
  split at h
  case h_2 => simp at h
  rename_i n hn
  split at h
  case h_2 => simp at h
  rename_i i hi
  split at h
  case h_2 => simp at h
  rename_i k hk
  split at h
  case h_2 => simp at h
  rename_i m hm
  split at h
  case h_2 => simp at h
  rename_i s hs
  split at h <;> simp only [Option.some.injEq, reduceCtorEq] at h
  rename_i g hg
  subst h
  have hg1 : ∀ ρ, den ρ f = den ρ (.ag [.it .i64 g.code, .st g.data, .ag [.key g.k0, .key g.k1, .key g.k2]]) := (rMsg_ok f g hg).1
  have hg2 : ∀ K, ok K f → ok K (.ag [.it .i64 g.code, .st g.data, .ag [.key g.k0, .key g.k1, .key g.k2]]) := (rMsg_ok f g hg).2
  refine ⟨fun ρ => ?_, fun K hK => ?_⟩
  · have hg1 := hg1 ρ
    simp only [den, cellsL] at hg1
    simp only [den, pcaV, cellsL, hg1, (rI_ok .i64 _ _ hn).1 ρ, (rI_ok .i64 _ _ hi).1 ρ, (rK_ok _ _ hk).1 ρ, (rI_ok .i64 _ _ hm).1 ρ, (rI_ok .i64 _ _ hs).1 ρ]
  · obtain ⟨h1, h2⟩ := hK
    exact ⟨⟨(rI_ok .i64 _ _ hn).2 K h1.1, (rI_ok .i64 _ _ hi).2 K h1.2.1, (rK_ok _ _ hk).2 K h1.2.2.1, (rI_ok .i64 _ _ hm).2 K h1.2.2.2.1, (rI_ok .i64 _ _ hs).2 K h1.2.2.2.2.1, hg2 K h1.2.2.2.2.2.1, trivial⟩, by simp [okC]⟩
/-- Does a call change the store? -/
def q_qchg (L : List Obj) (a : Pac) : Bool := if a.kind = 1 then q_ivC L a.oid a.key a.mode a.msg else if a.kind = 2 then q_anC L a.oid a.msg else q_bcC L a.oid a.state
def q_qdoL (L : List Obj) (a : Pac) : List Obj := if a.kind = 1 then q_ivL L a.oid a.key a.mode a.msg else if a.kind = 2 then q_anL L a.oid a.msg else q_bcL L a.oid a.state
theorem ivL_no {L : List Obj} {i : Int} {k : Key} {md : Int} {m : Msg} (h : q_ivC L i k md m = false) : q_ivL L i k md m = L := by
  unfold q_ivC at h; unfold q_ivL; rw [if_neg (of_decide_eq_false h)]
theorem anL_no {L : List Obj} {i : Int} {m : Msg} (h : q_anC L i m = false) : q_anL L i m = L := by
  unfold q_anC at h; unfold q_anL; rw [if_neg (of_decide_eq_false h)]
theorem bcL_no2 {L : List Obj} {i st : Int} (h : q_bcC L i st = false) : q_bcL L i st = L := by
  unfold q_bcC at h; unfold q_bcL; rw [if_neg (of_decide_eq_false h)]
theorem anL_ok {L : List Obj} {i : Int} {m : Msg} (hL : q_okL L) : q_okL (q_anL L i m) := by
  unfold q_anL
  split
  · rename_i hE
    have hm : q_mOk L m = true ∧ q_pst L i = 1 := by
      unfold q_anE at hE
      split at hE
      · omega
      · split at hE
        · omega
        · split at hE
          · omega
          · rename_i h1 h2
            exact ⟨by simpa using h1, by omega⟩
    obtain ⟨a, b, c, d⟩ := psB_in (pst_B.1.1 (by omega : 0 ≤ q_pst L i))
    obtain ⟨f0, f1, f2⟩ := cnt_fit (by have := okL_len hL; omega : 0 < L.length) m
    exact lset_ok hL (hdO_ok (okL_get hL i.toNat (by omega)) d f0 f1 f2 (void_fit (by omega)))
  · exact hL
theorem qdoL_ok {L : List Obj} {a : Pac} (hL : q_okL L) : q_okL (q_qdoL L a) := by
  unfold q_qdoL
  split
  · exact ivL_ok hL
  · split
    · exact anL_ok hL
    · exact bcL_ok hL
theorem okL_short {L : List Obj} (h : q_okL L) : q_shortL L := by have := okL_len h; unfold q_shortL; omega
def h_qdoes : HCt := hDo rPac (fun L x => q_okL L ∧ q_strOk x.msg.data) q_qchg q_qdoL
def g_states : Ct := mkR (consA sA (consA liA nilA)) (fun x => some (x.1 = some x.2.1 ∧ q_shortL x.2.1)) fun _ => .bo true
def q_invSt (L : List Obj) (g : Int) : Prop := -1 ≤ g ∧ g ≤ (llen L : Int) + 1
def q_invSr (L : List Obj) (g : Int) : Prop := 0 ≤ g ∧ g ≤ (llen (q_runG L (n2i (llen L))) : Int)
/-- How long the data of calls are. -/
def pacD (v : V) : Int := match v with
  | .ag l => match l with
    | [_, _, _, _, _, f] => match f with
      | .ag l' => match l' with
        | [_, s, _] => match s with
          | .st b => szI b
          | _ => 0
        | _ => 0
      | _ => 0
    | _ => 0
  | _ => 0
def tlA : Arg TL := laA 30 some id
theorem tlA_ok : ArgOK tlA := laA_ok fun l x h => by simpa using h
def vastN (n : Nat) (F : Nat → V) : Nat → Bool
  | 0 => false
  | j + 1 => vastN n F j || (decide (j < n) && decide (100 < pacD (F j)))
def q_vast (l : TL) : Bool := match l with
  | .fn n F => decide (30 < n2i n) || vastN n F n
  | _ => false
def q_vastQ (l : TL) : Prop := ∃ x : List Pac, l = pcas x ∧ ∀ i, i < llen x → q_strOk (lget x i pac0).msg.data
def g_vast : Ct := mkR (consA tlA nilA) (fun x => some (q_vastQ x.1)) fun x => .bo (q_vast x.1)
def q_invVa (x : List Pac) (g : Int) : Prop := 0 ≤ g ∧ g ≤ (llen x : Int) ∧ vastN (llen x) (fun i => pcaV (lget x i pac0)) g.toNat = false
theorem vast_le {x : List Pac} (h : q_vast (pcas x) = false) : ¬ 30 < n2i (llen x) := by
  unfold q_vast pcas at h
  simp only [Bool.or_eq_false_iff, decide_eq_false_iff_not] at h
  exact h.1
theorem vastN_hit {n : Nat} {F : Nat → V} {j : Nat} (hj : j < n) (h : 100 < pacD (F j)) : ∀ k, j < k → vastN n F k = true
  | 0, hk => by omega
  | k + 1, hk => by
    unfold vastN
    by_cases e : j = k
    · subst e; simp [hj, h]
    · rw [vastN_hit hj h k (by omega)]; rfl
theorem vastN_step {n : Nat} {F : Nat → V} {j : Nat} (h0 : vastN n F j = false) (h : ¬ 100 < pacD (F j)) : vastN n F (j + 1) = false := by
  unfold vastN
  simp [h0, h]
def q_inQ (n : Nat) (g : Int) : Prop := 0 ≤ g ∧ g ≤ (n : Int)
def q_invQ (n : Nat) (g : Int × List Obj) : Prop := 0 ≤ g.1 ∧ g.1 ≤ (n : Int) ∧ q_okL g.2
def q_muQ (n : Nat) (g : Int × List Obj) : Nat := n - g.1.toNat
def q_inv192 (g : Int) : Prop := 0 ≤ g ∧ g ≤ 192
/-- Two processes. -/
def q_psL (a b u v : Int) : List Obj := [⟨1, 1, a, free.slots.put 2 ⟨1, void.oid, void.count, void.call, void.rights, u⟩, free.bytes⟩, ⟨1, 1, b, free.slots.put 2 ⟨1, void.oid, void.count, void.call, void.rights, v⟩, free.bytes⟩]
def q_bk1 (c b : Int) (m : Msg) : List Obj := q_ivL (q_psL c 0 1 0) 0 ⟨6, 1, 1, void.call, void.rights, b⟩ 1 m
def q_bkK (c b : Int) (m : Msg) : Key := (q_get (q_bk1 c b m) 1).slots.at 15
def q_bk2 (c b : Int) (m n : Msg) : List Obj := q_ivL (q_bk1 c b m) 1 (q_bkK c b m) 3 n
end Go.Sx
