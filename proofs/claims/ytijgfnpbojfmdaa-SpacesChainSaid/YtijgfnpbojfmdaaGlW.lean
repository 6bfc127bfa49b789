/- Arguments of layer 11. No condition. -/
import Derived.Test.YtijgfnpbojfmdaaGlA
import Derived.Test.YtijgfnpbojfmdaaSpWp
set_option linter.unusedVariables false
set_option linter.unusedSimpArgs false
set_option maxRecDepth 100000
namespace Go.Proofs.Ytijgfnpbojfmdaa
open Go.Sx Go.ChangeShapes Go.WideShapes
def kAcs : List Kd := [.i .i64] ++ ([.i .i64] ++ (kKey ++ ([.i .i64] ++ ([.s] ++ []))))
theorem opnAcs : Opn kAcs (fun x : Acs => inR .i64 x.kind ∧ inR .i64 x.num ∧ x.root.wf ∧ inR .i64 x.adr ∧ q_strOk x.bytes ∧ True) acsV :=
  opn_map (opn_ag (opnL_cons (opn_i .i64) (opnL_cons (opn_i .i64) (opnL_cons opn_key (opnL_cons (opn_i .i64) (opnL_cons opn_s opnL_nil))))))
    (fun x => (⟨x.1, x.2.1, x.2.2.1, x.2.2.2.1, x.2.2.2.2.1⟩ : Acs)) (fun y : Acs => (y.kind, y.num, y.root, y.adr, y.bytes, ())) (fun _ => rfl) (fun _ => rfl)
def kTwo : List Kd := kKey ++ (kKey ++ ([.i .i64] ++ ([.i .i64] ++ [])))
theorem opnTwo : Opn kTwo (fun x : Key × Key × Int × Int × Unit => x.1.wf ∧ x.2.1.wf ∧ inR .i64 x.2.2.1 ∧ inR .i64 x.2.2.2.1 ∧ True) (fun x => .ag [.key x.1, .key x.2.1, .it .i64 x.2.2.1, .it .i64 x.2.2.2.1]) := opn_ag (opnL_cons opn_key (opnL_cons opn_key (opnL_cons (opn_i .i64) (opnL_cons (opn_i .i64) opnL_nil))))
def kSpot : List Kd := [.i .i64] ++ ([.i .i64] ++ ([.i .i64] ++ []))
theorem opnSpot : Opn kSpot (fun x : Int × Int × Int × Unit => inR .i64 x.1 ∧ inR .i64 x.2.1 ∧ inR .i64 x.2.2.1 ∧ True) (fun x => .ag [.it .i64 x.1, .it .i64 x.2.1, .it .i64 x.2.2.1]) := opn_ag (opnL_cons (opn_i .i64) (opnL_cons (opn_i .i64) (opnL_cons (opn_i .i64) opnL_nil)))
def kLnk : List Kd := [.i .i64] ++ ([.i .i64] ++ ([.i .i64] ++ ([.b] ++ [])))
theorem opnLnk : Opn kLnk (fun x : Lnk => inR .i64 x.hgt ∧ inR .i64 x.slot ∧ inR .i64 x.rts ∧ True ∧ True) lnkV :=
  opn_map (opn_ag (opnL_cons (opn_i .i64) (opnL_cons (opn_i .i64) (opnL_cons (opn_i .i64) (opnL_cons opn_b opnL_nil)))))
    (fun x => (⟨x.1, x.2.1, x.2.2.1, x.2.2.2.1⟩ : Lnk)) (fun y : Lnk => (y.hgt, y.slot, y.rts, y.kept, ())) (fun _ => rfl) (fun _ => rfl)
end Go.Proofs.Ytijgfnpbojfmdaa
