/- Processes, plain: states. No condition. -/
import Derived.Test.YtfalhknkaebfoaaKS
set_option linter.unusedVariables false
set_option linter.unusedSimpArgs false
namespace Go.Sx
/-- Is a node a process? -/
def q_psIs (o : Obj) : Bool := decide (o.kind = 1) && decide ((o.slots.at 2).kind = 1) && decide (0 ≤ (o.slots.at 2).value) && decide ((o.slots.at 2).value ≤ 2)
def q_psB (L : List Obj) (i : Int) : Bool := q_psIs (q_get L i)
def q_psV (L : List Obj) (i : Int) : Int := if q_psB L i = true then ((q_get L i).slots.at 2).value else 0
def q_pst (L : List Obj) (i : Int) : Int := if q_psB L i = true then ((q_get L i).slots.at 2).value else -1
def iQ : ArgL (Int × Unit) := consA iA nilA
theorem iQ_ok : ArgLOK iQ := consA_ok iA_ok nilA_ok
def g_rpst : Ct := mkR (consA liA iQ) (fun _ => none) fun x => .it .i64 (q_pst x.1 x.2.1)
def g_pst : Ct := mkR (consA sA iQ) (fun _ => none) fun x => .tp [.it .i64 (q_psV (stL x.1) x.2.1), .bo (q_psB (stL x.1) x.2.1)]
theorem has_no {L : List Obj} {i : Int} (h : i < 0 ∨ (L.length : Int) ≤ i) : q_get L i = free := by
  unfold q_get
  rw [if_neg fun e => by have := has_ok.1 e; omega]
theorem psIs_iff (o : Obj) : q_psIs o = true ↔ o.kind = 1 ∧ (o.slots.at 2).kind = 1 ∧ 0 ≤ (o.slots.at 2).value ∧ (o.slots.at 2).value ≤ 2 := by
  unfold q_psIs
  simp only [Bool.and_eq_true, decide_eq_true_eq, and_assoc]
theorem pst_no {L : List Obj} {i : Int} (h : q_psB L i = false) : q_pst L i = -1 ∧ q_psV L i = 0 := by
  unfold q_pst q_psV; rw [h]; exact ⟨rfl, rfl⟩
theorem pst_yes {L : List Obj} {i : Int} (h : q_psB L i = true) : q_pst L i = ((q_get L i).slots.at 2).value ∧ q_psV L i = ((q_get L i).slots.at 2).value := by
  unfold q_pst q_psV; rw [h]; exact ⟨rfl, rfl⟩
theorem ps_cond (o : Obj) : (!decide (o.kind = 1) || !decide ((o.slots.at 2).kind = 1) || decide ((o.slots.at 2).value < 0) || decide (2 < (o.slots.at 2).value)) = !q_psIs o := by
  have h := psIs_iff o
  cases hp : q_psIs o with
  | true =>
    obtain ⟨a, b, c, d⟩ := h.1 hp
    have c' : ¬ (o.slots.at 2).value < 0 := by omega
    have d' : ¬ 2 < (o.slots.at 2).value := by omega
    simp [a, b, c', d']
  | false =>
    rw [Bool.not_false, Bool.or_eq_true, Bool.or_eq_true, Bool.or_eq_true, Bool.not_eq_true', Bool.not_eq_true', decide_eq_false_iff_not, decide_eq_false_iff_not, decide_eq_true_eq, decide_eq_true_eq]
    rw [hp] at h
    have hn : ¬ (o.kind = 1 ∧ (o.slots.at 2).kind = 1 ∧ 0 ≤ (o.slots.at 2).value ∧ (o.slots.at 2).value ≤ 2) := fun hh => by have := h.2 hh; simp at this
    omega
/-- A node that is given a state. -/
def q_bcE (L : List Obj) (i st : Int) : Int := if llen L = 0 then 1 else if ¬ (q_get L i).kind = 1 then 230 else if st < 0 ∨ 2 < st then 2 else 0
def q_bcO (o : Obj) (st : Int) : Obj := { o with slots := o.slots.put 2 (q_num st) }
def q_bcL (L : List Obj) (i st : Int) : List Obj := if q_bcE L i st = 0 then lset L i.toNat (q_bcO (q_get L i) st) else L
def q_bcC (L : List Obj) (i st : Int) : Bool := decide (q_bcE L i st = 0)
def iiQ : ArgL (Int × Int × Unit) := consA iA (consA iA nilA)
theorem iiQ_ok : ArgLOK iiQ := consA_ok iA_ok (consA_ok iA_ok nilA_ok)
def h_rbec : HCt := hLx (rdL iiQ) (fun L _ => q_okL L) (fun L x => q_bcC L x.1 x.2.1) (fun L x => q_bcL L x.1 x.2.1) fun L x => [.it .i64 (q_bcE L x.1 x.2.1)]
def h_bec : HCt := hSt (rdL iiQ) (fun L _ => q_okL L) (fun L x => .it .i64 (q_bcE L x.1 x.2.1)) fun L x => q_bcL L x.1 x.2.1
end Go.Sx
