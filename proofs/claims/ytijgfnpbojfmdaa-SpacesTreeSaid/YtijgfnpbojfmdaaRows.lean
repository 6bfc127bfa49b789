/-
  No cell of these rows narrows 'for every input' (looked for: loops, veiled, ifaces, maps, wideKeys, modest, calm, conditions, laid).
  DERIVED. THE GIVEN ROWS OF THIS SEAT. 7 by the template 'for every input the law returns true; each argument reads behind the call as it read before'; 0 by the template 'total and deterministic' (their statements: YtijgfnpbojfmdaaTotals.lean).
  GIVEN WITH THE SEED: the statements are not yours to turn. If you find one false, say at which input.
  Laid BY PROGRAM, IN A SANDBOX (cutbox-rows.mjs): the forced cells as the released guide's own fill.sh prints them over the translation 2c5f79e47b03dbed… (all of the seat's roots in one cut). By AI agents, Wed Nov 11 2026. No macro, syntax, notation, axiom, sorry.
-/
import Derived.Test.YtijgfnpbojfmdaaChecked
import GoSem.Claim
import GoSem.ClaimJoined
import GoSem.ClaimMapViews
import Derived.JoinedTies
import Derived.KernelRfl
namespace Go.Proofs.Ytijgfnpbojfmdaa
/- THE CELL 'sum', in the pinned program and in every row, IS THE sha256 OF THE DUMP (.gsa) THAT YtijgfnpbojfmdaaProg.lean LOADS. Nothing in Lean hashes anything: it is a label: what it is worth is what the hold of that sum in a sandbox is worth. -/
noncomputable def Try.pinned : Pinned := { name := "ytijgfnpbojfmdaa", sum := "2c5f79e47b03dbed1f8525402d4fc64ee062508ef0d24d43ca12d16e51d7fed0", checked := Try.checked }
namespace Rows
def none {H : Type} : Left H := { results := [], args := [] }

/-- 'chatelainelaw11.SpacesSpan': WHATEVER THE INPUT: true; the input reads as it did. -/
def spacesSpanSpec : ChangeSpec := { name := "spacesSpan", fn := fun _ => fun
  | [d] => { results := [.lit (.bool true)], args := [d] }
  | _ => none }
def spacesSpanRow : OpenClaim := { program := "ytijgfnpbojfmdaa", sum := "2c5f79e47b03dbed1f8525402d4fc64ee062508ef0d24d43ca12d16e51d7fed0", func := "chatelaine/chatelainelaw11.SpacesSpan", spec := "spacesSpan", unfollowed := true, recurses := true, apart := false }
def SpacesSpanSaid : Prop := spacesSpanRow.holds Try.pinned (OpenSpec.ofChange spacesSpanSpec)

/-- ITS FALSE NEIGHBOUR: 'it returns false'. Refute it at one input. -/
def spacesSpanWrong : ChangeSpec := { name := "spacesSpan", fn := fun _ => fun
  | [d] => { results := [.lit (.bool false)], args := [d] }
  | _ => none }
def SpacesSpanWrongFalsely : Prop := spacesSpanRow.holds Try.pinned (OpenSpec.ofChange spacesSpanWrong)

/-- 'chatelainelaw11.SpacesWalk': WHATEVER THE INPUT: true; the input reads as it did. -/
def spacesWalkSpec : ChangeSpec := { name := "spacesWalk", fn := fun _ => fun
  | [d1, d2, d3] => { results := [.lit (.bool true)], args := [d1, d2, d3] }
  | _ => none }
def spacesWalkRow : OpenClaim := { program := "ytijgfnpbojfmdaa", sum := "2c5f79e47b03dbed1f8525402d4fc64ee062508ef0d24d43ca12d16e51d7fed0", func := "chatelaine/chatelainelaw11.SpacesWalk", spec := "spacesWalk", unfollowed := true, recurses := true, apart := false }
def SpacesWalkSaid : Prop := spacesWalkRow.holds Try.pinned (OpenSpec.ofChange spacesWalkSpec)

/-- ITS FALSE NEIGHBOUR: 'it returns false'. Refute it at one input. -/
def spacesWalkWrong : ChangeSpec := { name := "spacesWalk", fn := fun _ => fun
  | [d1, d2, d3] => { results := [.lit (.bool false)], args := [d1, d2, d3] }
  | _ => none }
def SpacesWalkWrongFalsely : Prop := spacesWalkRow.holds Try.pinned (OpenSpec.ofChange spacesWalkWrong)

/-- 'chatelainelaw11.SpacesTree': WHATEVER THE INPUT: true; the input reads as it did. -/
def spacesTreeSpec : ChangeSpec := { name := "spacesTree", fn := fun _ => fun
  | [d1, d2, d3] => { results := [.lit (.bool true)], args := [d1, d2, d3] }
  | _ => none }
def spacesTreeRow : OpenClaim := { program := "ytijgfnpbojfmdaa", sum := "2c5f79e47b03dbed1f8525402d4fc64ee062508ef0d24d43ca12d16e51d7fed0", func := "chatelaine/chatelainelaw11.SpacesTree", spec := "spacesTree", unfollowed := true, recurses := true, apart := false }
def SpacesTreeSaid : Prop := spacesTreeRow.holds Try.pinned (OpenSpec.ofChange spacesTreeSpec)

/-- ITS FALSE NEIGHBOUR: 'it returns false'. Refute it at one input. -/
def spacesTreeWrong : ChangeSpec := { name := "spacesTree", fn := fun _ => fun
  | [d1, d2, d3] => { results := [.lit (.bool false)], args := [d1, d2, d3] }
  | _ => none }
def SpacesTreeWrongFalsely : Prop := spacesTreeRow.holds Try.pinned (OpenSpec.ofChange spacesTreeWrong)

/-- 'chatelainelaw11.SpacesChain': WHATEVER THE INPUT: true; the input reads as it did. -/
def spacesChainSpec : ChangeSpec := { name := "spacesChain", fn := fun _ => fun
  | [d1, d2, d3] => { results := [.lit (.bool true)], args := [d1, d2, d3] }
  | _ => none }
def spacesChainRow : OpenClaim := { program := "ytijgfnpbojfmdaa", sum := "2c5f79e47b03dbed1f8525402d4fc64ee062508ef0d24d43ca12d16e51d7fed0", func := "chatelaine/chatelainelaw11.SpacesChain", spec := "spacesChain", unfollowed := true, recurses := true, apart := false }
def SpacesChainSaid : Prop := spacesChainRow.holds Try.pinned (OpenSpec.ofChange spacesChainSpec)

/-- ITS FALSE NEIGHBOUR: 'it returns false'. Refute it at one input. -/
def spacesChainWrong : ChangeSpec := { name := "spacesChain", fn := fun _ => fun
  | [d1, d2, d3] => { results := [.lit (.bool false)], args := [d1, d2, d3] }
  | _ => none }
def SpacesChainWrongFalsely : Prop := spacesChainRow.holds Try.pinned (OpenSpec.ofChange spacesChainWrong)

/-- 'chatelainelaw11.SpacesBack': WHATEVER THE INPUT: true; the input reads as it did. -/
def spacesBackSpec : ChangeSpec := { name := "spacesBack", fn := fun _ => fun
  | [d1, d2, d3] => { results := [.lit (.bool true)], args := [d1, d2, d3] }
  | _ => none }
def spacesBackRow : OpenClaim := { program := "ytijgfnpbojfmdaa", sum := "2c5f79e47b03dbed1f8525402d4fc64ee062508ef0d24d43ca12d16e51d7fed0", func := "chatelaine/chatelainelaw11.SpacesBack", spec := "spacesBack", unfollowed := true, recurses := true, apart := false }
def SpacesBackSaid : Prop := spacesBackRow.holds Try.pinned (OpenSpec.ofChange spacesBackSpec)

/-- ITS FALSE NEIGHBOUR: 'it returns false'. Refute it at one input. -/
def spacesBackWrong : ChangeSpec := { name := "spacesBack", fn := fun _ => fun
  | [d1, d2, d3] => { results := [.lit (.bool false)], args := [d1, d2, d3] }
  | _ => none }
def SpacesBackWrongFalsely : Prop := spacesBackRow.holds Try.pinned (OpenSpec.ofChange spacesBackWrong)

/-- 'chatelainelaw11.SpacesNil': WHATEVER THE INPUT: true; the input reads as it did. -/
def spacesNilSpec : ChangeSpec := { name := "spacesNil", fn := fun _ => fun
  | [d] => { results := [.lit (.bool true)], args := [d] }
  | _ => none }
def spacesNilRow : OpenClaim := { program := "ytijgfnpbojfmdaa", sum := "2c5f79e47b03dbed1f8525402d4fc64ee062508ef0d24d43ca12d16e51d7fed0", func := "chatelaine/chatelainelaw11.SpacesNil", spec := "spacesNil", unfollowed := true, recurses := true, apart := false }
def SpacesNilSaid : Prop := spacesNilRow.holds Try.pinned (OpenSpec.ofChange spacesNilSpec)

/-- ITS FALSE NEIGHBOUR: 'it returns false'. Refute it at one input. -/
def spacesNilWrong : ChangeSpec := { name := "spacesNil", fn := fun _ => fun
  | [d] => { results := [.lit (.bool false)], args := [d] }
  | _ => none }
def SpacesNilWrongFalsely : Prop := spacesNilRow.holds Try.pinned (OpenSpec.ofChange spacesNilWrong)

/-- 'chatelainelaw11.SpacesPlay': WHATEVER THE INPUT: true; the input reads as it did. -/
def spacesPlaySpec : ChangeSpec := { name := "spacesPlay", fn := fun _ => fun
  | [d1, d2] => { results := [.lit (.bool true)], args := [d1, d2] }
  | _ => none }
def spacesPlayRow : OpenClaim := { program := "ytijgfnpbojfmdaa", sum := "2c5f79e47b03dbed1f8525402d4fc64ee062508ef0d24d43ca12d16e51d7fed0", func := "chatelaine/chatelainelaw11.SpacesPlay", spec := "spacesPlay", unfollowed := true, recurses := true, apart := false }
def SpacesPlaySaid : Prop := spacesPlayRow.holds Try.pinned (OpenSpec.ofChange spacesPlaySpec)

/-- ITS FALSE NEIGHBOUR: 'it returns false'. Refute it at one input. -/
def spacesPlayWrong : ChangeSpec := { name := "spacesPlay", fn := fun _ => fun
  | [d1, d2] => { results := [.lit (.bool false)], args := [d1, d2] }
  | _ => none }
def SpacesPlayWrongFalsely : Prop := spacesPlayRow.holds Try.pinned (OpenSpec.ofChange spacesPlayWrong)

/- THE SECOND FORM. 'bulk': how many values and letters a reading holds, each counted each time it is reached (what is shared counts as often as it is met; a slice's spare places count too). A statement '..UptoSaid' is the law's where the arguments, and the package variables that the reading takes, are together of bulk at most 1048576: NARROWER than '..Said'. Prove '..Said' where nothing that the law and all that it calls make is longer than what came in: it says more and counts as full. Else prove '..UptoSaid'. A law counts once. -/
mutual
def uptoBulk {H : Type} : DataW H → Nat
  | .lit (.string bytes) => bytes.length + 1
  | .lit _ => 1
  | .nil => 1
  | .ptr d => uptoBulk d + 1
  | .slice elems spare => uptoBulkAll elems + uptoBulkAll spare + 1
  | .agg parts => uptoBulkAll parts + 1
  | .iface _ d => uptoBulk d + 1
  | .map entries => uptoBulkEntries entries + 1
  | .held _ => 1
def uptoBulkAll {H : Type} : List (DataW H) → Nat
  | [] => 0
  | d :: r => uptoBulk d + uptoBulkAll r
def uptoBulkEntries {H : Type} : List (Lit × DataW H) → Nat
  | [] => 0
  | x :: r => uptoBulkEntry x + uptoBulkEntries r
def uptoBulkEntry {H : Type} : Lit × DataW H → Nat
  | (.string bytes, d) => bytes.length + uptoBulk d + 1
  | (_, d) => uptoBulk d + 1
 end
def uptoSmall : (H : Type) → List (DataW H) → Bool := fun _ ds => decide (uptoBulkAll ds ≤ 1048576)
def OpenSpec.upto (s : _root_.Go.ChangeSpec) : _root_.Go.OpenSpec := { _root_.Go.OpenSpec.ofChange s with cond := some uptoSmall }

/-- 'chatelainelaw11.SpacesSpan', WHERE WHAT IT READS IS OF BULK AT MOST 1048576: true; the input reads as it did. -/
def spacesSpanUptoRow : OpenClaim := { program := "ytijgfnpbojfmdaa", sum := "2c5f79e47b03dbed1f8525402d4fc64ee062508ef0d24d43ca12d16e51d7fed0", func := "chatelaine/chatelainelaw11.SpacesSpan", spec := "spacesSpan", unfollowed := true, recurses := true, apart := false, narrowed := true }
def SpacesSpanUptoSaid : Prop := spacesSpanUptoRow.holds Try.pinned (OpenSpec.upto spacesSpanSpec)

/-- 'chatelainelaw11.SpacesWalk', WHERE WHAT IT READS IS OF BULK AT MOST 1048576: true; the input reads as it did. -/
def spacesWalkUptoRow : OpenClaim := { program := "ytijgfnpbojfmdaa", sum := "2c5f79e47b03dbed1f8525402d4fc64ee062508ef0d24d43ca12d16e51d7fed0", func := "chatelaine/chatelainelaw11.SpacesWalk", spec := "spacesWalk", unfollowed := true, recurses := true, apart := false, narrowed := true }
def SpacesWalkUptoSaid : Prop := spacesWalkUptoRow.holds Try.pinned (OpenSpec.upto spacesWalkSpec)

/-- 'chatelainelaw11.SpacesTree', WHERE WHAT IT READS IS OF BULK AT MOST 1048576: true; the input reads as it did. -/
def spacesTreeUptoRow : OpenClaim := { program := "ytijgfnpbojfmdaa", sum := "2c5f79e47b03dbed1f8525402d4fc64ee062508ef0d24d43ca12d16e51d7fed0", func := "chatelaine/chatelainelaw11.SpacesTree", spec := "spacesTree", unfollowed := true, recurses := true, apart := false, narrowed := true }
def SpacesTreeUptoSaid : Prop := spacesTreeUptoRow.holds Try.pinned (OpenSpec.upto spacesTreeSpec)

/-- 'chatelainelaw11.SpacesChain', WHERE WHAT IT READS IS OF BULK AT MOST 1048576: true; the input reads as it did. -/
def spacesChainUptoRow : OpenClaim := { program := "ytijgfnpbojfmdaa", sum := "2c5f79e47b03dbed1f8525402d4fc64ee062508ef0d24d43ca12d16e51d7fed0", func := "chatelaine/chatelainelaw11.SpacesChain", spec := "spacesChain", unfollowed := true, recurses := true, apart := false, narrowed := true }
def SpacesChainUptoSaid : Prop := spacesChainUptoRow.holds Try.pinned (OpenSpec.upto spacesChainSpec)

/-- 'chatelainelaw11.SpacesBack', WHERE WHAT IT READS IS OF BULK AT MOST 1048576: true; the input reads as it did. -/
def spacesBackUptoRow : OpenClaim := { program := "ytijgfnpbojfmdaa", sum := "2c5f79e47b03dbed1f8525402d4fc64ee062508ef0d24d43ca12d16e51d7fed0", func := "chatelaine/chatelainelaw11.SpacesBack", spec := "spacesBack", unfollowed := true, recurses := true, apart := false, narrowed := true }
def SpacesBackUptoSaid : Prop := spacesBackUptoRow.holds Try.pinned (OpenSpec.upto spacesBackSpec)

/-- 'chatelainelaw11.SpacesNil', WHERE WHAT IT READS IS OF BULK AT MOST 1048576: true; the input reads as it did. -/
def spacesNilUptoRow : OpenClaim := { program := "ytijgfnpbojfmdaa", sum := "2c5f79e47b03dbed1f8525402d4fc64ee062508ef0d24d43ca12d16e51d7fed0", func := "chatelaine/chatelainelaw11.SpacesNil", spec := "spacesNil", unfollowed := true, recurses := true, apart := false, narrowed := true }
def SpacesNilUptoSaid : Prop := spacesNilUptoRow.holds Try.pinned (OpenSpec.upto spacesNilSpec)

/-- 'chatelainelaw11.SpacesPlay', WHERE WHAT IT READS IS OF BULK AT MOST 1048576: true; the input reads as it did. -/
def spacesPlayUptoRow : OpenClaim := { program := "ytijgfnpbojfmdaa", sum := "2c5f79e47b03dbed1f8525402d4fc64ee062508ef0d24d43ca12d16e51d7fed0", func := "chatelaine/chatelainelaw11.SpacesPlay", spec := "spacesPlay", unfollowed := true, recurses := true, apart := false, narrowed := true }
def SpacesPlayUptoSaid : Prop := spacesPlayUptoRow.holds Try.pinned (OpenSpec.upto spacesPlaySpec)

end Rows
end Go.Proofs.Ytijgfnpbojfmdaa
