/- Arguments of layer 12. No condition. -/
import Derived.Test.YtfalhknkaebfoaaGlA
import Derived.Test.YtfalhknkaebfoaaCtBe
set_option linter.unusedVariables false
set_option linter.unusedSimpArgs false
set_option maxRecDepth 100000
namespace Go.Proofs.Ytfalhknkaebfoaa
open Go.Sx Go.ChangeShapes Go.WideShapes
def kAcb : List Kd := [.i .i64] ++ ([.i .i64] ++ (kKey ++ (kKey ++ ([.i .i64] ++ []))))
theorem opnAcb : Opn kAcb (fun x : Acb => inR .i64 x.kind ∧ inR .i64 x.num ∧ x.bank.wf ∧ x.key.wf ∧ inR .i64 x.obj ∧ True) acbV :=
  opn_map (opn_ag (opnL_cons (opn_i .i64) (opnL_cons (opn_i .i64) (opnL_cons opn_key (opnL_cons opn_key (opnL_cons (opn_i .i64) opnL_nil))))))
    (fun x => (⟨x.1, x.2.1, x.2.2.1, x.2.2.2.1, x.2.2.2.2.1⟩ : Acb)) (fun y : Acb => (y.kind, y.num, y.bank, y.key, y.obj, ())) (fun _ => rfl) (fun _ => rfl)
end Go.Proofs.Ytfalhknkaebfoaa
