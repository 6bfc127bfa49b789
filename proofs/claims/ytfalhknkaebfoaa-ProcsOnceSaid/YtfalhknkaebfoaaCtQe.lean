/- Processes: which run. No condition. The statements vc_.. are printed by a program of the claimant's own. -/
import Derived.Test.YtfalhknkaebfoaaCtQd
namespace Go.Proofs.Ytfalhknkaebfoaa
open Go.Sx
set_option maxRecDepth 100000
set_option linter.unusedVariables false
set_option linter.unusedSimpArgs false
theorem vc_rrun (L : List Sx.Obj) (hl : q_shortL L) :
  (∃ g, q_invR1 L g ∧ Value.slice none 0 0 = Value.slice none 0 0 ∧ 0 = g ∧ L = L ∧ [] = q_runG L g) ∧ ∀ (g : Int), q_invR1 L g → (decide (g < n2i (llen L)) = true → (decide (q_pst L g = 1) = true → pFit
    (llen (q_runG L g)) 8 ∧ inRo IntKind.i64 (g + 1) ∧ ∃ g', q_invR1 L g' ∧ (n2i (llen L) - g').toNat < (n2i (llen L) - g).toNat ∧ Value.slice none 0 0 = Value.slice none 0 0 ∧ g + 1 = g' ∧ L = L ∧ lapp
    (q_runG L g) g = q_runG L g') ∧ (decide (q_pst L g = 1) = false → inRo IntKind.i64 (g + 1) ∧ ∃ g', q_invR1 L g' ∧ (n2i (llen L) - g').toNat < (n2i (llen L) - g).toNat ∧ Value.slice none 0 0 =
    Value.slice none 0 0 ∧ g + 1 = g' ∧ L = L ∧ q_runG L g = q_runG L g')) ∧ (decide (g < n2i (llen L)) = false → true = true ∧ ∀ (nid : Nat), some (V.sa nid) = some (V.sa nid) ∧ some [Res.arr (some tI) 1
    (TL.it IntKind.i64 (q_runG L g))] = some [Res.arr (some tI) 1 (TL.it IntKind.i64 (q_runG L (n2i (llen L))))]) := by
  simp only [keq_self, steq_self, oeq_self, same_self, decide_true, Bool.and_true, Bool.not_true, Bool.or_false, Bool.not_false, Bool.false_eq_true, Bool.true_eq_false, false_implies, implies_true, true_implies, true_and, and_true, and_self]
  refine ⟨⟨0, ⟨by omega, by omega⟩, rfl, (runG_zero L).symm⟩, fun g hg => ⟨fun h => ?_, fun h => ?_⟩⟩
  · have h1 : g < (L.length : Int) := of_decide_eq_true h
    obtain ⟨s1, s2, s3⟩ := run_step hl hg h1
    have e := runG_succ L hg.1
    refine ⟨fun h2 => ⟨runG_fit hl h1, s1, g + 1, s2, s3, rfl, ?_⟩, fun h2 => ⟨s1, g + 1, s2, s3, rfl, ?_⟩⟩
    · rw [e, if_pos (of_decide_eq_true h2)]
    · rw [e, if_neg (of_decide_eq_false h2)]
  · have h1 : ¬ g < (L.length : Int) := of_decide_eq_false h
    have : g = n2i (llen L) := by have := hg.2; unfold n2i llen at *; omega
    rw [this]
    exact fun _ => rfl
theorem cl_rrun (L : List Sx.Obj) (hl : q_shortL L) : CallTo Try.prog 91 [.sa 0] [.ro (.arr none 163 (.ob L))] (kMkV true nilp (fun n => .sa n) (.arr (some tI) 1 (.it .i64 (q_runG L (n2i (llen L)))))) (fun _ _ => False) :=
  vch_call (inl := noInl) (ann := (annL [(91, 3, lpS [0, 2] (fun g => [(4, .it .i64 g)]) 3 tI 1 (fun g => .it .i64 (q_runG L g)) (q_invR1 L) (n2i (llen L)))])) (oks_cons ct_rpst oks_nil) hoks_nil (vc_rrun L hl) (by kernel_rfl)
theorem hc_rrun : HOK Try.prog 91 h_rrun :=
  hMk_ok (consA_ok liA_ok nilA_ok) (fun _ => rfl) (fun _ => by simp) fun a hq hok => by
    obtain ⟨L, _⟩ := a
    exact cl_rrun L hq
theorem vc_run0  :
  true = true ∧ true = true ∧ ∀ (r0 : Loop), (∃ g, q_invR1 [] g ∧ q_size [] = q_size [] ∧ 0 = g ∧ Value.pointer none = Value.pointer none ∧ r0 = r0 ∧ [] = q_runG [] g) ∧ ∀ (g : Int), q_invR1 [] g →
    (decide (g < q_size []) = true → False) ∧ (decide (g < q_size []) = false → true = true ∧ ∀ (nid : Nat), some (V.sa nid) = some (V.sa nid) ∧ some [Res.arr (some tI) 1 (TL.it IntKind.i64 (q_runG [] g))]
    = some [Res.arr (some tI) 1 (TL.it IntKind.i64 (q_runG [] (n2i (llen ([] : List Sx.Obj)))))]) := by
  simp only [keq_self, steq_self, oeq_self, same_self, decide_true, Bool.and_true, Bool.not_true, Bool.or_false, Bool.not_false, Bool.false_eq_true, Bool.true_eq_false, false_implies, implies_true, true_implies, true_and, and_true, and_self]
  refine fun _ => ⟨⟨0, ⟨by omega, by unfold llen; simp⟩, rfl, rfl⟩, fun g hg => ⟨fun h => ?_, fun h _ => ?_⟩⟩
  · have h1 : g < q_size [] := of_decide_eq_true h
    have := hg.1
    unfold q_size llen at h1; simp at h1; omega
  · have : g = n2i (llen ([] : List Obj)) := by have := hg.1; have := hg.2; unfold n2i llen at *; simp at *; omega
    rw [this]; rfl
theorem cl_run0   : CallTo Try.prog 41 [nilp] [] (kMkV true nilp (fun n => .sa n) (.arr (some tI) 1 (.it .i64 (q_runG [] (n2i (llen ([] : List Sx.Obj))))))) (fun _ _ => False) :=
  vch_call (inl := (fun f => f == 72 || f == 18)) (ann := (annL [(4000 + 52, 1, lpV [0, 1, 5] (fun g => [(6, .it .i64 g)]) 0 97 tI 1 (fun g => .it .i64 (q_runG [] g)) (q_invR1 []) (n2i (llen ([] : List Sx.Obj))))])) (oks_cons ct_size oks_nil) hoks_nil (vc_run0 ) (by kernel_rfl)
theorem vc_run (L : List Sx.Obj) (hl : q_shortL L) :
  true = true ∧ true = true ∧ ∀ (r0 : Loop), (∃ g, q_invR1 L g ∧ q_size L = q_size L ∧ 0 = g ∧ L = L ∧ r0 = r0 ∧ [] = q_runG L g) ∧ ∀ (g : Int), q_invR1 L g → (decide (g < q_size L) = true → (0 ≤ g ∧ g <
    ↑(llen L)) ∧ g.toNat < llen L ∧ g.toNat < llen L ∧ r0 = r0 ∧ r0 = r0 ∧ true = true ∧ ((!decide ((lget L g.toNat free).kind = 1) || !decide (((lget L g.toNat free).slots.at 2).kind = 1) || decide
    (((lget L g.toNat free).slots.at 2).value < 0) || decide (2 < ((lget L g.toNat free).slots.at 2).value)) = true → r0 = r0 ∧ inRo IntKind.i64 (g + 1) ∧ ∃ g', q_invR1 L g' ∧ (n2i (llen L) - g').toNat <
    (n2i (llen L) - g).toNat ∧ q_size L = q_size L ∧ g + 1 = g' ∧ L = L ∧ r0 = r0 ∧ q_runG L g = q_runG L g') ∧ ((!decide ((lget L g.toNat free).kind = 1) || !decide (((lget L g.toNat free).slots.at
    2).kind = 1) || decide (((lget L g.toNat free).slots.at 2).value < 0) || decide (2 < ((lget L g.toNat free).slots.at 2).value)) = false → (decide (((lget L g.toNat free).slots.at 2).value = 1) = true →
    pFit (llen (q_runG L g)) 8 ∧ r0 = r0 ∧ inRo IntKind.i64 (g + 1) ∧ ∃ g', q_invR1 L g' ∧ (n2i (llen L) - g').toNat < (n2i (llen L) - g).toNat ∧ q_size L = q_size L ∧ g + 1 = g' ∧ L = L ∧ r0 = r0 ∧ lapp
    (q_runG L g) g = q_runG L g') ∧ (decide (((lget L g.toNat free).slots.at 2).value = 1) = false → r0 = r0 ∧ inRo IntKind.i64 (g + 1) ∧ ∃ g', q_invR1 L g' ∧ (n2i (llen L) - g').toNat < (n2i (llen L) -
    g).toNat ∧ q_size L = q_size L ∧ g + 1 = g' ∧ L = L ∧ r0 = r0 ∧ q_runG L g = q_runG L g'))) ∧ (decide (g < q_size L) = false → true = true ∧ ∀ (nid : Nat), some (V.sa nid) = some (V.sa nid) ∧ some
    [Res.arr (some tI) 1 (TL.it IntKind.i64 (q_runG L g))] = some [Res.arr (some tI) 1 (TL.it IntKind.i64 (q_runG L (n2i (llen L))))]) := by
  simp only [ps_cond]
  simp only [keq_self, steq_self, oeq_self, same_self, decide_true, Bool.and_true, Bool.not_true, Bool.or_false, Bool.not_false, Bool.false_eq_true, Bool.true_eq_false, false_implies, implies_true, true_implies, true_and, and_true, and_self]
  refine fun _ => ⟨⟨0, ⟨by omega, by omega⟩, rfl, (runG_zero L).symm⟩, fun g hg => ⟨fun h => ?_, fun h => ?_⟩⟩
  · have h1 : g < (L.length : Int) := of_decide_eq_true h
    obtain ⟨s1, s2, s3⟩ := run_step hl hg h1
    have e := runG_succ L hg.1
    have hlL : llen L = L.length := rfl
    have hg0 := hg.1
    have hget : q_get L g = lget L g.toNat free := get_lget hg.1 h1
    refine ⟨⟨by omega, by omega⟩, by omega, by omega, fun h2 => ⟨s1, g + 1, s2, s3, rfl, ?_⟩, fun h2 => ⟨fun h3 => ⟨runG_fit hl h1, s1, g + 1, s2, s3, rfl, ?_⟩, fun h3 => ⟨s1, g + 1, s2, s3, rfl, ?_⟩⟩⟩
    · have hb : q_psB L g = false := by unfold q_psB; rw [hget]; simpa using h2
      rw [e, if_neg (by rw [(pst_no hb).1]; omega)]
    · have hb : q_psB L g = true := by unfold q_psB; rw [hget]; simpa using h2
      rw [e, if_pos (by rw [(pst_yes hb).1, hget]; exact of_decide_eq_true h3)]
    · have hb : q_psB L g = true := by unfold q_psB; rw [hget]; simpa using h2
      rw [e, if_neg (by rw [(pst_yes hb).1, hget]; exact of_decide_eq_false h3)]
  · have h1 : ¬ g < (L.length : Int) := of_decide_eq_false h
    have : g = n2i (llen L) := by have := hg.2; unfold n2i llen at *; omega
    rw [this]
    exact fun _ => rfl
theorem cl_run (L : List Sx.Obj) (hl : q_shortL L) : CallTo Try.prog 41 [.lp 0 0] [.ro (.store tS eS L)] (kMkV true nilp (fun n => .sa n) (.arr (some tI) 1 (.it .i64 (q_runG L (n2i (llen L)))))) (fun _ _ => False) :=
  vch_call (inl := (fun f => f == 72 || f == 18)) (ann := (annL [(4000 + 52, 1, lpV [0, 1, 5] (fun g => [(6, .it .i64 g)]) 1 97 tI 1 (fun g => .it .i64 (q_runG L g)) (q_invR1 L) (n2i (llen L)))])) (oks_cons ct_size oks_nil) hoks_nil (vc_run L hl) (by kernel_rfl)
theorem hc_run : HOK Try.prog 41 h_run :=
  hMk_ok (consA_ok sA_ok nilA_ok) (fun _ => rfl) (fun _ => by simp) fun a hq hok => by
    obtain ⟨S, _⟩ := a
    cases S with
    | none => exact cl_run0
    | some L => exact cl_run L hq
end Go.Proofs.Ytfalhknkaebfoaa
