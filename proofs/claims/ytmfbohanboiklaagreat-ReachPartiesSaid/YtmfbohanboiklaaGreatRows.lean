/-
  No cell of these rows narrows 'for every input' (looked for: loops, veiled, ifaces, maps, wideKeys, modest, calm, conditions, laid).
  DERIVED. THE GIVEN ROWS OF THIS SEAT. 3 by the template 'for every input the law returns true; each argument reads behind the call as it read before'; 0 by the template 'total and deterministic' (their statements: YtmfbohanboiklaaGreatTotals.lean).
  GIVEN WITH THE SEED: the statements are not yours to turn. If you find one false, say at which input.
  Laid BY PROGRAM, IN A SANDBOX (cutbox-rows.mjs): the forced cells as the released guide's own fill.sh prints them over the translation 5a9eda4aa1c85b38… (all of the seat's roots in one cut). By AI agents, Wed Nov 11 2026. No macro, syntax, notation, axiom, sorry.
-/
import Derived.Test.YtmfbohanboiklaaGreatChecked
import GoSem.Claim
import GoSem.ClaimJoined
import GoSem.ClaimMapViews
import Derived.JoinedTies
import Derived.KernelRfl
namespace Go.Proofs.YtmfbohanboiklaaGreat
/- THE CELL 'sum', in the pinned program and in every row, IS THE sha256 OF THE DUMP (.gsa) THAT YtmfbohanboiklaaGreatProg.lean LOADS. Nothing in Lean hashes anything: it is a label: what it is worth is what the hold of that sum in a sandbox is worth. -/
noncomputable def Tryz.pinned : Pinned := { name := "ytmfbohanboiklaagreat", sum := "5a9eda4aa1c85b383925169bad15e33589deb924adde2d85a8830dc04b73a6af", checked := Tryz.checked }
namespace Rows
def none {H : Type} : Left H := { results := [], args := [] }

/-- 'chatelainelaw16.ReachParties': WHATEVER THE INPUT: true; the input reads as it did. -/
def reachPartiesSpec : ChangeSpec := { name := "reachParties", fn := fun _ => fun
  | [d1, d2] => { results := [.lit (.bool true)], args := [d1, d2] }
  | _ => none }
def reachPartiesRow : OpenClaim := { program := "ytmfbohanboiklaagreat", sum := "5a9eda4aa1c85b383925169bad15e33589deb924adde2d85a8830dc04b73a6af", func := "chatelaine/chatelainelaw16.ReachParties", spec := "reachParties", unfollowed := true, recurses := true, plainKeys := false, apart := false }
def ReachPartiesSaid : Prop := reachPartiesRow.holds Tryz.pinned (OpenSpec.ofChange reachPartiesSpec)

/-- ITS FALSE NEIGHBOUR: 'it returns false'. Refute it at one input. -/
def reachPartiesWrong : ChangeSpec := { name := "reachParties", fn := fun _ => fun
  | [d1, d2] => { results := [.lit (.bool false)], args := [d1, d2] }
  | _ => none }
def ReachPartiesWrongFalsely : Prop := reachPartiesRow.holds Tryz.pinned (OpenSpec.ofChange reachPartiesWrong)

/-- 'chatelainelaw16.ReachNil': WHATEVER THE INPUT: true; the input reads as it did. -/
def reachNilSpec : ChangeSpec := { name := "reachNil", fn := fun _ => fun
  | [d1, d2] => { results := [.lit (.bool true)], args := [d1, d2] }
  | _ => none }
def reachNilRow : OpenClaim := { program := "ytmfbohanboiklaagreat", sum := "5a9eda4aa1c85b383925169bad15e33589deb924adde2d85a8830dc04b73a6af", func := "chatelaine/chatelainelaw16.ReachNil", spec := "reachNil", unfollowed := true, recurses := true, plainKeys := false, apart := false }
def ReachNilSaid : Prop := reachNilRow.holds Tryz.pinned (OpenSpec.ofChange reachNilSpec)

/-- ITS FALSE NEIGHBOUR: 'it returns false'. Refute it at one input. -/
def reachNilWrong : ChangeSpec := { name := "reachNil", fn := fun _ => fun
  | [d1, d2] => { results := [.lit (.bool false)], args := [d1, d2] }
  | _ => none }
def ReachNilWrongFalsely : Prop := reachNilRow.holds Tryz.pinned (OpenSpec.ofChange reachNilWrong)

/-- 'chatelainelaw16.ReachStep': WHATEVER THE INPUT: true; the input reads as it did. -/
def reachStepSpec : ChangeSpec := { name := "reachStep", fn := fun _ => fun
  | [d1, d2] => { results := [.lit (.bool true)], args := [d1, d2] }
  | _ => none }
def reachStepRow : OpenClaim := { program := "ytmfbohanboiklaagreat", sum := "5a9eda4aa1c85b383925169bad15e33589deb924adde2d85a8830dc04b73a6af", func := "chatelaine/chatelainelaw16.ReachStep", spec := "reachStep", unfollowed := true, recurses := true, plainKeys := false, apart := false }
def ReachStepSaid : Prop := reachStepRow.holds Tryz.pinned (OpenSpec.ofChange reachStepSpec)

/-- ITS FALSE NEIGHBOUR: 'it returns false'. Refute it at one input. -/
def reachStepWrong : ChangeSpec := { name := "reachStep", fn := fun _ => fun
  | [d1, d2] => { results := [.lit (.bool false)], args := [d1, d2] }
  | _ => none }
def ReachStepWrongFalsely : Prop := reachStepRow.holds Tryz.pinned (OpenSpec.ofChange reachStepWrong)

/- THE SECOND FORM. 'bulk': how many values and letters a reading holds, each counted each time it is reached (what is shared counts as often as it is met; a slice's spare places count too). A statement '..UptoSaid' is the law's where the arguments, and the package variables that the reading takes, are together of bulk at most 1048576: NARROWER than '..Said'. Prove '..Said' where nothing that the law and all that it calls make is longer than what came in: it says more and counts as full. Else prove '..UptoSaid'. A law counts once. -/
mutual
def uptoBulk {H : Type} : DataW H → Nat
  | .lit (.string bytes) => bytes.length + 1
  | .lit _ => 1
  | .nil => 1
  | .ptr d => uptoBulk d + 1
  | .slice elems spare => uptoBulkAll elems + uptoBulkAll spare + 1
  | .agg parts => uptoBulkAll parts + 1
  | .iface _ d => uptoBulk d + 1
  | .map entries => uptoBulkEntries entries + 1
  | .held _ => 1
def uptoBulkAll {H : Type} : List (DataW H) → Nat
  | [] => 0
  | d :: r => uptoBulk d + uptoBulkAll r
def uptoBulkEntries {H : Type} : List (Lit × DataW H) → Nat
  | [] => 0
  | x :: r => uptoBulkEntry x + uptoBulkEntries r
def uptoBulkEntry {H : Type} : Lit × DataW H → Nat
  | (.string bytes, d) => bytes.length + uptoBulk d + 1
  | (_, d) => uptoBulk d + 1
 end
def uptoSmall : (H : Type) → List (DataW H) → Bool := fun _ ds => decide (uptoBulkAll ds ≤ 1048576)
def OpenSpec.upto (s : _root_.Go.ChangeSpec) : _root_.Go.OpenSpec := { _root_.Go.OpenSpec.ofChange s with cond := some uptoSmall }

/-- 'chatelainelaw16.ReachParties', WHERE WHAT IT READS IS OF BULK AT MOST 1048576: true; the input reads as it did. -/
def reachPartiesUptoRow : OpenClaim := { program := "ytmfbohanboiklaagreat", sum := "5a9eda4aa1c85b383925169bad15e33589deb924adde2d85a8830dc04b73a6af", func := "chatelaine/chatelainelaw16.ReachParties", spec := "reachParties", unfollowed := true, recurses := true, plainKeys := false, apart := false, narrowed := true }
def ReachPartiesUptoSaid : Prop := reachPartiesUptoRow.holds Tryz.pinned (OpenSpec.upto reachPartiesSpec)

/-- 'chatelainelaw16.ReachNil', WHERE WHAT IT READS IS OF BULK AT MOST 1048576: true; the input reads as it did. -/
def reachNilUptoRow : OpenClaim := { program := "ytmfbohanboiklaagreat", sum := "5a9eda4aa1c85b383925169bad15e33589deb924adde2d85a8830dc04b73a6af", func := "chatelaine/chatelainelaw16.ReachNil", spec := "reachNil", unfollowed := true, recurses := true, plainKeys := false, apart := false, narrowed := true }
def ReachNilUptoSaid : Prop := reachNilUptoRow.holds Tryz.pinned (OpenSpec.upto reachNilSpec)

/-- 'chatelainelaw16.ReachStep', WHERE WHAT IT READS IS OF BULK AT MOST 1048576: true; the input reads as it did. -/
def reachStepUptoRow : OpenClaim := { program := "ytmfbohanboiklaagreat", sum := "5a9eda4aa1c85b383925169bad15e33589deb924adde2d85a8830dc04b73a6af", func := "chatelaine/chatelainelaw16.ReachStep", spec := "reachStep", unfollowed := true, recurses := true, plainKeys := false, apart := false, narrowed := true }
def ReachStepUptoSaid : Prop := reachStepUptoRow.holds Tryz.pinned (OpenSpec.upto reachStepSpec)

end Rows
end Go.Proofs.YtmfbohanboiklaaGreat
