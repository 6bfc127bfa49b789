/- Arguments of layer 13. No condition. -/
import Derived.Test.YtfalhknkaebfoaaGlA
import Derived.Test.YtfalhknkaebfoaaSpQl
set_option linter.unusedVariables false
set_option linter.unusedSimpArgs false
set_option maxRecDepth 100000
namespace Go.Proofs.Ytfalhknkaebfoaa
open Go.Sx Go.ChangeShapes Go.WideShapes
def kKs3 : List Kd := kKey ++ (kKey ++ (kKey ++ []))
def kMsg : List Kd := [.i .i64] ++ ([.s] ++ (kKs3 ++ []))
def wfMsg (m : Msg) : Prop := inR .i64 m.code ∧ q_strOk m.data ∧ (m.k0.wf ∧ m.k1.wf ∧ m.k2.wf ∧ True) ∧ True
theorem opnMsg : Opn kMsg wfMsg msgV :=
  opn_map (opn_ag (opnL_cons (opn_i .i64) (opnL_cons opn_s (opnL_cons (opn_ag (opnL_cons opn_key (opnL_cons opn_key (opnL_cons opn_key opnL_nil)))) opnL_nil))))
    (fun x => (⟨x.1, x.2.1, x.2.2.1.1, x.2.2.1.2.1, x.2.2.1.2.2.1⟩ : Msg)) (fun y : Msg => (y.code, y.data, (y.k0, y.k1, y.k2, ()), ())) (fun _ => rfl) (fun _ => rfl)
def kPac : List Kd := [.i .i64] ++ ([.i .i64] ++ (kKey ++ ([.i .i64] ++ ([.i .i64] ++ (kMsg ++ [])))))
def wfPac (x : Pac) : Prop := inR .i64 x.kind ∧ inR .i64 x.oid ∧ x.key.wf ∧ inR .i64 x.mode ∧ inR .i64 x.state ∧ wfMsg x.msg ∧ True
theorem opnPac : Opn kPac wfPac pcaV :=
  opn_map (opn_ag (opnL_cons (opn_i .i64) (opnL_cons (opn_i .i64) (opnL_cons opn_key (opnL_cons (opn_i .i64) (opnL_cons (opn_i .i64) (opnL_cons opnMsg opnL_nil)))))))
    (fun x => (⟨x.1, x.2.1, x.2.2.1, x.2.2.2.1, x.2.2.2.2.1, x.2.2.2.2.2.1⟩ : Pac)) (fun y : Pac => (y.kind, y.oid, y.key, y.mode, y.state, y.msg, ())) (fun _ => rfl) (fun _ => rfl)
def kAhead : List Kd := [.i .i64] ++ ([.i .i64] ++ [])
theorem opnAhead : Opn kAhead (fun x : Int × Int × Unit => inR .i64 x.1 ∧ inR .i64 x.2.1 ∧ True) (fun x => .ag [.it .i64 x.1, .it .i64 x.2.1]) := opn_ag (opnL_cons (opn_i .i64) (opnL_cons (opn_i .i64) opnL_nil))
end Go.Proofs.Ytfalhknkaebfoaa
