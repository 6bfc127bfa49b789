/- Arguments of layer 10. No condition. -/
import Derived.Test.YtmkkkgimokeoaaaGlA
import Derived.Test.YtmkkkgimokeoaaaKL
set_option linter.unusedVariables false
set_option linter.unusedSimpArgs false
set_option maxRecDepth 100000
namespace Go.Proofs.Ytmkkkgimokeoaaa
open Go.Sx Go.ChangeShapes Go.WideShapes
def kAcp : List Kd := [.i .i64] ++ ([.i .i64] ++ ([.i .i64] ++ (kKey ++ (kKey ++ ([.s] ++ [])))))
theorem opnAcp : Opn kAcp (fun x : Acp => inR .i64 x.kind ∧ inR .i64 x.pos ∧ inR .i64 x.num ∧ x.key.wf ∧ x.other.wf ∧ q_strOk x.bytes ∧ True) acpV :=
  opn_map (opn_ag (opnL_cons (opn_i .i64) (opnL_cons (opn_i .i64) (opnL_cons (opn_i .i64) (opnL_cons opn_key (opnL_cons opn_key (opnL_cons opn_s opnL_nil)))))))
    (fun x => (⟨x.1, x.2.1, x.2.2.1, x.2.2.2.1, x.2.2.2.2.1, x.2.2.2.2.2.1⟩ : Acp)) (fun y : Acp => (y.kind, y.pos, y.num, y.key, y.other, y.bytes, ())) (fun _ => rfl) (fun _ => rfl)
def kBys : List Kd := [.i .i64] ++ ([.s] ++ [])
theorem opnBys : Opn kBys (fun x : Int × ByteArray × Unit => inR .i64 x.1 ∧ q_strOk x.2.1 ∧ True) (fun x => .ag [.it .i64 x.1, .st x.2.1]) := opn_ag (opnL_cons (opn_i .i64) (opnL_cons opn_s opnL_nil))
end Go.Proofs.Ytmkkkgimokeoaaa
