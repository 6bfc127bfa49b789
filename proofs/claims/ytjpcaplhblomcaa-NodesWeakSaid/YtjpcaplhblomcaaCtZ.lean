/- One call of layer 9, over a store and a list of the same objects. No condition. -/
import Derived.Test.YtjpcaplhblomcaaCtY
set_option linter.unusedVariables false
set_option linter.unusedSimpArgs false
set_option maxRecDepth 100000
namespace Go.Sx
def rdAct (v : V) : Option Acx :=
  match v with
  | .ag l => match l with
    | [a, b, c, d] => match rI .i64 a with
      | some n => match rI .i64 b with
        | some i => match rK c with
          | some k => match rK d with
            | some k' => some ⟨n, i, k, k'⟩
            | none => none
          | none => none
        | none => none
      | none => none
    | _ => none
  | _ => none
theorem rd_cells {α : Type} {r : V → Option α} {m : α → V} (hr : RdOK r m) {v : V} {x : α} (h : r v = some x) (ρ : Env) : cells ρ v = cells ρ (m x) := by simp only [cells, (hr v x h).1 ρ]
theorem rdAct_ok : RdOK rdAct actV := by
  intro v x h
  unfold rdAct at h
  split at h
  case h_2 => simp at h
  split at h
  case h_2 => simp at h
  rename_i a b c d
  split at h
  case h_2 => simp at h
  rename_i n hn
  split at h
  case h_2 => simp at h
  rename_i i hi
  split at h
  case h_2 => simp at h
  rename_i k hk
  split at h <;> simp only [Option.some.injEq, reduceCtorEq] at h
  rename_i k' hk'
  subst h
  refine ⟨fun ρ => ?_, fun K hK => ?_⟩
  · simp only [den, actV, cellsL, (rI_ok .i64 _ _ hn).1 ρ, (rI_ok .i64 _ _ hi).1 ρ, (rK_ok _ _ hk).1 ρ, (rK_ok _ _ hk').1 ρ]
  · obtain ⟨h1, h2⟩ := hK
    exact ⟨⟨(rI_ok .i64 _ _ hn).2 K h1.1, (rI_ok .i64 _ _ hi).2 K h1.2.1, (rK_ok _ _ hk).2 K h1.2.2.1, (rK_ok _ _ hk').2 K h1.2.2.2.1, trivial⟩, by simp [okC]⟩
def h_does : HCt := fun args res K =>
  match args with
  | [a, b, c] => match rdAct c with
    | some x => match a with
      | .lp k off => if off == 0 then match rget res k with
          | .store t e L => if t == tS && e == eS then match b with
              | .sa j => match rlook res j with
                | .arr _ z l => if z == 163 then match l with
                    | .ob M => M = L ∧ q_okL L ∧ (q_dchg L x = false → K (.tp [.sa j, .bo true]) (rset res k (.store tS eS L))) ∧
                        (q_dchg L x = true → K (.tp [.sa res.length, .bo true]) (rset res k (.store tS eS (q_doesL L x)) ++ [.arr (some tO) 163 (.ob (q_doesL L x))]))
                    | _ => False
                  else False
                | _ => False
              | _ => False
            else False
          | _ => False
        else False
      | _ => False
    | none => False
  | _ => False
theorem renOL_cons {κ : Nat → Option Nat} {x a : V} {l m : List V} (h1 : renO κ x = some a) (h2 : renOL κ l = some m) : renOL κ (x :: l) = some (a :: m) := by
  simp only [renOL]
  rw [h1]
  simp only
  rw [h2]
theorem kDo_out {c : Bool} {L0 L1 : List Obj} {v : V} {r : List Res} (h : kDo c L0 L1 v r) : ∃ b, isV (.bo true) b r ∧ ((v = .tp [.sa 1, b] ∧ c = false ∧ rget r 0 = .store tS eS L0) ∨
    ∃ p, 2 ≤ p ∧ v = .tp [.sa p, b] ∧ c = true ∧ rget r 0 = .store tS eS L1 ∧ rget r p = .arr (some tO) 163 (.ob L1)) := by
  unfold kDo at h
  split at h
  case h_2 => exact h.elim
  split at h
  case h_2 => exact h.elim
  rename_i a b
  split at h
  case h_2 => exact h.elim
  rename_i p
  split at h
  case h_2 => exact h.elim
  rename_i t e L hr
  split at h
  case isFalse => exact h.elim
  rename_i hc
  simp only [Bool.and_eq_true, beq_iff_eq] at hc
  obtain ⟨rfl, rfl⟩ := hc
  split at h
  · rename_i hp
    have hp := beq_iff_eq.1 hp
    subst hp
    obtain ⟨h1, h2, rfl⟩ := h
    exact ⟨b, h1, .inl ⟨rfl, h2, hr⟩⟩
  · split at h
    case isFalse => exact h.elim
    rename_i hp
    have hp : 2 ≤ p := by simpa using hp
    split at h
    case h_2 => exact h.elim
    rename_i o z l hrp
    split at h
    case h_2 => exact h.elim
    rename_i e'
    split at h
    case h_2 => exact h.elim
    rename_i M
    split at h
    case isFalse => exact h.elim
    rename_i hc
    simp only [Bool.and_eq_true, beq_iff_eq] at hc
    obtain ⟨rfl, rfl⟩ := hc
    obtain ⟨h1, h2, rfl, rfl⟩ := h
    exact ⟨b, h1, .inr ⟨p, hp, rfl, h2, hr, hrp⟩⟩
theorem isV_bo {b : V} {c : Bool} {r : List Res} (h : isV (.bo c) b r) : (∀ κ, renO κ b = some b) ∧ ∀ ρ N, Same ρ N b (.bo c) := by
  refine ⟨fun κ => ?_, fun ρ N => isV_isE h ρ N⟩
  unfold isV at h
  cases b <;> first | rfl | (simp [eqP] at h)
theorem CallTo.weak2 {P : Program} {f : Nat} {args : List V} {K KP : V → List Res → Prop} {own : Option Nat} {z t e : Nat} {l : TL} {L : List Obj} (h : CallTo P f args [.store t e L, .ro (.arr none z l)] K KP) : CallTo P f args [.store t e L, .ro (.arr own z l)] K KP := by
  have hk : ∀ i (own : Option Nat), known [.store t e L, .ro (.arr own z l)] i ↔ i < 2 := fun i own => by
    unfold known
    match i with
    | 0 => simp [rget]
    | 1 => simp [rget]
    | i + 2 => simp [rget]
  refine h.good fun ρ fps w0 F0 w hH => ⟨ρ, fps, hH.weaken fun i hi => ⟨(hk i _).2 ((hk i _).1 hi), fun fp hh => ?_⟩, Env.agree.refl _ _, fun i hi => (hk i _).2 ((hk i _).1 hi)⟩
  match i, (hk i _).1 hi with
  | 0, _ => exact hh
  | 1, _ =>
    obtain ⟨fp', g1, g2⟩ := hh
    exact ⟨fp', arr_none g1, g2⟩
end Go.Sx
namespace Go.Proofs.Ytjpcaplhblomcaa
open Go.Sx
theorem hc_does : HOK Try.prog 21 h_does := by
  intro args res K KP h
  unfold h_does at h
  split at h
  case h_2 => exact h.elim
  split at h
  case h_2 => exact h.elim
  rename_i x hx
  refine CallTo.args (SameB.keep (SameB.keep (SameB.rd rdAct_ok hx SameB.nil))) ?_
  split at h
  case h_2 => exact h.elim
  rename_i k off
  split at h
  case isFalse => exact h.elim
  rename_i hoff
  have hoff := beq_iff_eq.1 hoff
  subst hoff
  split at h
  case h_2 => exact h.elim
  rename_i t e L hr
  split at h
  case isFalse => exact h.elim
  rename_i hc
  simp only [Bool.and_eq_true, beq_iff_eq] at hc
  obtain ⟨rfl, rfl⟩ := hc
  split at h
  case h_2 => exact h.elim
  rename_i j
  split at h
  case h_2 => exact h.elim
  rename_i own z l hj
  split at h
  case isFalse => exact h.elim
  rename_i hz
  have hz := beq_iff_eq.1 hz
  subst hz
  split at h
  case h_2 => exact h.elim
  rename_i M
  obtain ⟨rfl, hL, h0, h1⟩ := h
  have hk : known res k := by unfold known; rw [hr]; simp
  have hkj := rlook_known hj (by simp)
  have hkl := rget_lt hk
  have hjl := rget_lt hkj
  have hne : k ≠ j := fun e => by
    subst e
    unfold rlook at hj
    rw [hr] at hj
    simp at hj
  have hres : restr (kap 0 (fsts [(k, true), (j, false)])) res [(k, true), (j, false)] = [.store tS eS M, .ro (.arr own 163 (.ob M))] := by simp [restr, hr, hj, renR]
  refine CallTo.frame (pl := [(k, true), (j, false)]) (args0 := [.lp 0 0, .sa 1, actV x]) (K0 := kDo (q_dchg M x) M (q_doesL M x)) (KP0 := fun _ _ => False) (by simp [knownAll, knownB_iff.2 hk, knownB_iff.2 hkj]) (by simpa [okExt, fsts, inNl] using ⟨⟨hkl, Ne.symm hne⟩, hjl⟩) ?_ ?_ (fun v r hv => ?_) (fun _ _ h => h.elim)
  · exact renOL_cons (by simp [renO, kap, idxOf, fsts]) (renOL_cons (by simp [renO, kap, idxOf, fsts, hne]) (renOL_idf _ rfl))
  · rw [hres]
    exact CallTo.weak2 (cl_does M x hL)
  · obtain ⟨b, hb, hv⟩ := kDo_out hv
    obtain ⟨b1, b2⟩ := isV_bo hb
    rcases hv with ⟨rfl, hc, hr0⟩ | ⟨p, hp, rfl, hc, hr0, hrp⟩
    · have hm : merge [(k, true), (j, false)] [] r res = rset res k (.store tS eS M) := by simp [merge, putBack, hr0, renR, reRes2]
      refine ⟨[], .tp [.sa j, .bo true], rfl, by simp [allOwn, hr0, ownR], rfl, Turns.ren (v2 := .tp [.sa j, b]) (by simp [renO, renOL, back, getP, b1]) (fun ρ N => ?_), by rw [hm]; exact h0 hc⟩
      obtain ⟨s1, s2, _⟩ := b2 ρ N
      exact ⟨by simp only [den, denL, s1], fun hk => ⟨hk.1, s2 hk.2.1, trivial⟩, rfl⟩
    · have hpl : p < r.length := rget_lt (by rw [hrp]; simp)
      have hm : merge [(k, true), (j, false)] [p] r res = rset res k (.store tS eS (q_doesL M x)) ++ [.arr (some tO) 163 (.ob (q_doesL M x))] := by simp [merge, putBack, hr0, hrp, renR, reRes2]
      refine ⟨[p], .tp [.sa res.length, .bo true], by simpa [okExt, inNl] using ⟨hp, hpl⟩, by simp [allOwn, hr0, ownR], by simp [allOwnE, hrp, ownR], Turns.ren (v2 := .tp [.sa res.length, b]) ?_ (fun ρ N => ?_), by rw [hm]; exact h1 hc⟩
      · have : back [(k, true), (j, false)] [p] res.length p = some res.length := by
          unfold back
          rw [getP_none _ _ (by simpa using hp)]
          simp [idxOf]
        simp [renO, renOL, this, b1]
      · obtain ⟨s1, s2, _⟩ := b2 ρ N
        exact ⟨by simp only [den, denL, s1], fun hk => ⟨hk.1, s2 hk.2.1, trivial⟩, rfl⟩
end Go.Proofs.Ytjpcaplhblomcaa
