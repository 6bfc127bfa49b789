/- Arguments of layer 11. No condition. -/
import Derived.Test.YtijgfnpbojfmdaaGlA
import Derived.Test.YtijgfnpbojfmdaaSpWp
set_option linter.unusedVariables false
set_option linter.unusedSimpArgs false
set_option maxRecDepth 100000
namespace Go.Proofs.Ytijgfnpbojfmdaa
open Go.Sx Go.ChangeShapes Go.WideShapes
def kAcs : List Kd := [.i .i64] ++ ([.i .i64] ++ (kKey ++ ([.i .i64] ++ ([.s] ++ []))))
theorem opnAcs : Opn kAcs (fun x : Acs => inR .i64 x.kind ∧ inR .i64 x.num ∧ x.root.wf ∧ inR .i64 x.adr ∧ q_strOk x.bytes ∧ True) acsV :=
  opn_map (opn_ag (opnL_cons (opn_i .i64) (opnL_cons (opn_i .i64) (opnL_cons opn_key (opnL_cons (opn_i .i64) (opnL_cons opn_s opnL_nil))))))
    (fun x => (⟨x.1, x.2.1, x.2.2.1, x.2.2.2.1, x.2.2.2.2.1⟩ : Acs)) (fun y : Acs => (y.kind, y.num, y.root, y.adr, y.bytes, ())) (fun _ => rfl) (fun _ => rfl)
end Go.Proofs.Ytijgfnpbojfmdaa
