/- Layer 12: what its statements say. No condition. -/
import Derived.Test.YtfalhknkaebfoaaSpB
import Derived.Test.YtfalhknkaebfoaaKS
set_option linter.unusedVariables false
set_option linter.unusedSimpArgs false
namespace Go.Sx
/-- Does a call change the store? -/
def q_bchg (L : List Obj) (a : Acb) : Bool := if a.kind = 1 then q_bmkC L a.bank a.obj else if a.kind = 2 then q_bdsC L a.bank a.key else if a.kind = 3 then q_bsC L a.bank a.num else if a.kind = 4 then q_brzC L a.bank else false
def q_bdoL (L : List Obj) (a : Acb) : List Obj := if a.kind = 1 then q_bmkL L a.bank a.obj else if a.kind = 2 then q_bdsL L a.bank a.key else if a.kind = 3 then q_bsL L a.bank a.num else if a.kind = 4 then q_brzL L a.bank else L
def rdAcb (v : V) : Option Acb :=
  match v with
  | .ag l => match l with
    | [a, b, c, d, e] => match rI .i64 a with
      | some x => match rI .i64 b with
        | some y => match rK c with
          | some z => match rK d with
            | some u => match rI .i64 e with
              | some w => some ⟨x, y, z, u, w⟩
              | none => none
            | none => none
          | none => none
        | none => none
      | none => none
    | _ => none
  | _ => none
theorem rdAcb_ok : RdOK rdAcb acbV := by
  intro v x h
  unfold rdAcb at h
  split at h
  case h_2 => simp at h
  split at h
  case h_2 => simp at h
  rename_i a b c d e
  split at h
  case h_2 => simp at h
  rename_i n hn
  split at h
  case h_2 => simp at h
  rename_i i hi
  split at h
  case h_2 => simp at h
  rename_i k hk
  split at h
  case h_2 => simp at h
  rename_i k' hk'
  split at h <;> simp only [Option.some.injEq, reduceCtorEq] at h
  rename_i m hm
  subst h
  refine ⟨fun ρ => ?_, fun K hK => ?_⟩
  · simp only [den, acbV, cellsL, (rI_ok .i64 _ _ hn).1 ρ, (rI_ok .i64 _ _ hi).1 ρ, (rI_ok .i64 _ _ hm).1 ρ, (rK_ok _ _ hk).1 ρ, (rK_ok _ _ hk').1 ρ]
  · obtain ⟨h1, h2⟩ := hK
    exact ⟨⟨(rI_ok .i64 _ _ hn).2 K h1.1, (rI_ok .i64 _ _ hi).2 K h1.2.1, (rK_ok _ _ hk).2 K h1.2.2.1, (rK_ok _ _ hk').2 K h1.2.2.2.1, (rI_ok .i64 _ _ hm).2 K h1.2.2.2.2.1, trivial⟩, by simp [okC]⟩
theorem bmkL_no {L : List Obj} {k : Key} {kind : Int} (h : q_bmkC L k kind = false) : q_bmkL L k kind = L := by
  unfold q_bmkC at h
  unfold q_bmkL
  split
  · rename_i he
    rw [decide_eq_true he, Bool.true_and] at h
    unfold q_mkc at h
    simp only [Bool.or_eq_false_iff, Bool.not_eq_false', decide_eq_true_eq] at h
    unfold q_mkL
    rw [if_pos h.1, mkG_none h.2]
  · rfl
theorem brzL_no {L : List Obj} {k : Key} (h : q_brzC L k = false) : q_brzL L k = L := by
  unfold q_brzC at h
  unfold q_brzL
  split
  · rename_i he
    rw [decide_eq_true he, Bool.true_and] at h
    simp only [Bool.not_eq_false', decide_eq_true_eq] at h
    exact rzG_none h
  · rfl
theorem bsL_no {L : List Obj} {k : Key} {n : Int} (h : q_bsC L k n = false) : q_bsL L k n = L := by
  unfold q_bsC at h
  unfold q_bsL
  rw [if_neg (of_decide_eq_false h)]
theorem bdsL_no {L : List Obj} {k v : Key} (h : q_bdsC L k v = false) : q_bdsL L k v = L := by
  unfold q_bdsC at h
  unfold q_bdsL
  rw [if_neg (of_decide_eq_false h)]
def h_bdoes : HCt := hDo rdAcb (fun L _ => q_okL L) q_bchg q_bdoL
def q_inv17 (g : Int) : Prop := 1 ≤ g ∧ g ≤ 7
def q_inv04 (g : Int) : Prop := 0 ≤ g ∧ g ≤ 4
def q_frO (a b : Key) : Obj := Obj.mk 1 1 free.calls ((free.slots.put 0 a).put 1 b) free.bytes
def frC (x : List Int) (i : Nat) : Obj := if i < x.length then Obj.mk free.kind (lget x i 0) free.calls free.slots free.bytes else free
def q_frm (a b : Key) (x : List Int) : List Obj := [q_frO a b, frC x 1, frC x 2, frC x 3, frC x 4, frC x 5]
/-- A loop that appends to a slice that is written out, in a slot. -/
def lpLS (keep : List Nat) (set : Int → List (Nat × V)) (t e : Nat) (L : Int → List Obj) (inv : Int → Prop) (m : Int) : LoopAnn :=
  { γ := Int, head := fun σ g => match sget σ.slots t with
      | .v x => match x with
        | .sc k _ _ => { σ with slots := hdS keep ((t, .sa σ.res.length) :: set g) 0 σ.slots, res := rset σ.res k .gone ++ [.arr (some e) 163 (.ob (L g))] }
        | _ => σ
      | _ => σ, inv := inv, μ := fun g => i2n (isub m g), pre := [.li t], ext := extS t }
def fuC (x : List Int) (i : Nat) : Int := if i < x.length then lget x i 0 else 0
def fuO (x : List Int) (i : Nat) : Obj := Obj.mk 0 (fuC x i) 0 noSlots noBytes
def q_fuB (n : Int) : Obj := Obj.mk 1 1 free.calls ((free.slots.put 0 (Key.mk 1 void.oid void.count void.call void.rights 1)).put 1 (Key.mk 1 void.oid void.count void.call void.rights n)) free.bytes
def q_fuL (n : Int) (x : List Int) (g : Int) : List Obj := q_fuB n :: (List.range g.toNat).map fun i => fuO x i
def q_fuM (x : List Int) (g : Int) : Int := (((List.range g.toNat).filter fun i => decide (fuC x i < 4294967295)).length : Int)
def q_invFu (n : Int) (x : List Int) (g : Int) : Prop := 0 ≤ g ∧ g ≤ n ∧ ∀ i : Nat, (i : Int) < g → 0 ≤ fuC x i ∧ fuC x i ≤ 4294967295
def q_fuK : Key := ⟨4, 0, 1, 0, 0, 0⟩
def q_fuS (L : List Obj) (p : Int) : List Obj := q_mapO L (fun j o => decide (1 ≤ j) && decide ((j : Int) ≤ p)) fun o => if q_isNew o then q_newO o 2 else q_retO o
def q_invFm (n : Int) (x : List Int) (g : Int × Int) : Prop := 0 ≤ g.2 ∧ g.2 ≤ n ∧ g.1 = q_fuM x g.2
def q_muFm (n : Int) (x : List Int) (g : Int × Int) : Nat := (q_fuM x n - g.1).toNat
def q_fuF (V : List Obj) (g : Int) : Int := (((List.range g.toNat).filter fun j => q_isNew (lget V j free)).length : Int)
def q_invFl (V : List Obj) (g : Int) : Prop := 0 ≤ g ∧ g ≤ (llen V : Int)
def fuT (n : Int) (x : List Int) (p : Int) : List Obj := q_bmkL (q_fuS (q_fuL n x n) p) q_fuK 1
def fuU (n : Int) (x : List Int) (p : Int) : List Obj := q_brzL (fuT n x p) q_fuK
def fuV (n : Int) (x : List Int) (p : Int) : List Obj := q_bmkL (fuU n x p) q_fuK 1
/-- The last one that may be made. -/
def q_fuP (n : Int) (x : List Int) : Int := n
/-- What a call may do to an object. -/
def stpO (o o' : Obj) : Prop := (o'.kind = o.kind ∧ o'.count = o.count ∧ o'.calls = o.calls) ∨ (o.kind = 0 ∧ o'.kind = 3 ∧ o'.count = o.count) ∨ (o.kind = 0 ∧ (o'.kind = 1 ∨ o'.kind = 2) ∧ o'.count = o.count + 1) ∨ ((o.kind = 1 ∨ o.kind = 2) ∧ o'.kind = 0 ∧ o'.count = o.count)
def stpL (L L' : List Obj) : Prop := L'.length = L.length ∧ ∀ j, j < L.length → stpO (lget L j free) (lget L' j free)
/-- A key that never counts again. -/
def deadK (L : List Obj) (k : Key) : Prop := k.count < (lget L k.oid.toNat free).count ∨ (k.count = (lget L k.oid.toNat free).count ∧ ((lget L k.oid.toNat free).kind = 0 ∨ (lget L k.oid.toNat free).kind = 3))
def q_invNv (acts : List Acb) (ks : List Key) (g : Int × List Obj × List Bool) : Prop := 0 ≤ g.1 ∧ g.1 ≤ (llen acts : Int) ∧ q_okL g.2.1 ∧ g.2.2.length = ks.length ∧ ∀ i, i < ks.length → lget g.2.2 i false = true → deadK g.2.1 (lget ks i void)
def q_muNv (acts : List Acb) (g : Int × List Obj × List Bool) : Nat := llen acts - g.1.toNat
def q_invNk (ks : List Key) (g : Int × List Bool × List Obj × List Obj) : Prop := 0 ≤ g.1 ∧ g.1 ≤ (llen ks : Int) ∧ g.2.1.length = ks.length ∧ q_okL g.2.2.1 ∧ q_okL g.2.2.2 ∧ stpL g.2.2.1 g.2.2.2 ∧ ∀ i, i < ks.length → lget g.2.1 i false = true → (if (i : Int) < g.1 then deadK g.2.2.2 (lget ks i void) else deadK g.2.2.1 (lget ks i void))
def q_muNk (ks : List Key) (g : Int × List Bool × List Obj × List Obj) : Nat := llen ks - g.1.toNat
def q_inv64 (g : Int) : Prop := 0 ≤ g ∧ g ≤ 64
end Go.Sx
