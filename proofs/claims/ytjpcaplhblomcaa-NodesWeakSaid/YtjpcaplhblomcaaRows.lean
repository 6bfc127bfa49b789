/-
  No cell of these rows narrows 'for every input' (looked for: loops, veiled, ifaces, maps, wideKeys, modest, calm, conditions, laid).
  DERIVED. THE GIVEN ROWS OF THIS SEAT. 6 by the template 'for every input the law returns true; each argument reads behind the call as it read before'; 0 by the template 'total and deterministic' (their statements: YtjpcaplhblomcaaTotals.lean).
  GIVEN WITH THE SEED: the statements are not yours to turn. If you find one false, say at which input.
  Laid BY PROGRAM, IN A SANDBOX (cutbox-rows.mjs): the forced cells as the released guide's own fill.sh prints them over the translation f6120b10330ee0e8… (all of the seat's roots in one cut). By AI agents, Wed Nov 11 2026. No macro, syntax, notation, axiom, sorry.
-/
import Derived.Test.YtjpcaplhblomcaaChecked
import GoSem.Claim
import GoSem.ClaimJoined
import GoSem.ClaimMapViews
import Derived.JoinedTies
import Derived.KernelRfl
namespace Go.Proofs.Ytjpcaplhblomcaa
/- THE CELL 'sum', in the pinned program and in every row, IS THE sha256 OF THE DUMP (.gsa) THAT YtjpcaplhblomcaaProg.lean LOADS. Nothing in Lean hashes anything: it is a label: what it is worth is what the hold of that sum in a sandbox is worth. -/
noncomputable def Try.pinned : Pinned := { name := "ytjpcaplhblomcaa", sum := "f6120b10330ee0e864aa6426ea0cd73bd8f05e98ad97a71a3e3a80e6861d30d5", checked := Try.checked }
namespace Rows
def none {H : Type} : Left H := { results := [], args := [] }

/-- 'chatelainelaw09.NodesBack': WHATEVER THE INPUT: true; the input reads as it did. -/
def nodesBackSpec : ChangeSpec := { name := "nodesBack", fn := fun _ => fun
  | [d1, d2, d3] => { results := [.lit (.bool true)], args := [d1, d2, d3] }
  | _ => none }
def nodesBackRow : OpenClaim := { program := "ytjpcaplhblomcaa", sum := "f6120b10330ee0e864aa6426ea0cd73bd8f05e98ad97a71a3e3a80e6861d30d5", func := "chatelaine/chatelainelaw09.NodesBack", spec := "nodesBack", unfollowed := true, recurses := true, apart := false }
def NodesBackSaid : Prop := nodesBackRow.holds Try.pinned (OpenSpec.ofChange nodesBackSpec)

/-- ITS FALSE NEIGHBOUR: 'it returns false'. Refute it at one input. -/
def nodesBackWrong : ChangeSpec := { name := "nodesBack", fn := fun _ => fun
  | [d1, d2, d3] => { results := [.lit (.bool false)], args := [d1, d2, d3] }
  | _ => none }
def NodesBackWrongFalsely : Prop := nodesBackRow.holds Try.pinned (OpenSpec.ofChange nodesBackWrong)

/-- 'chatelainelaw09.NodesWeak': WHATEVER THE INPUT: true; the input reads as it did. -/
def nodesWeakSpec : ChangeSpec := { name := "nodesWeak", fn := fun _ => fun
  | [d1, d2, d3] => { results := [.lit (.bool true)], args := [d1, d2, d3] }
  | _ => none }
def nodesWeakRow : OpenClaim := { program := "ytjpcaplhblomcaa", sum := "f6120b10330ee0e864aa6426ea0cd73bd8f05e98ad97a71a3e3a80e6861d30d5", func := "chatelaine/chatelainelaw09.NodesWeak", spec := "nodesWeak", unfollowed := true, recurses := true, apart := false }
def NodesWeakSaid : Prop := nodesWeakRow.holds Try.pinned (OpenSpec.ofChange nodesWeakSpec)

/-- ITS FALSE NEIGHBOUR: 'it returns false'. Refute it at one input. -/
def nodesWeakWrong : ChangeSpec := { name := "nodesWeak", fn := fun _ => fun
  | [d1, d2, d3] => { results := [.lit (.bool false)], args := [d1, d2, d3] }
  | _ => none }
def NodesWeakWrongFalsely : Prop := nodesWeakRow.holds Try.pinned (OpenSpec.ofChange nodesWeakWrong)

/-- 'chatelainelaw09.NodesNil': WHATEVER THE INPUT: true; the input reads as it did. -/
def nodesNilSpec : ChangeSpec := { name := "nodesNil", fn := fun _ => fun
  | [d] => { results := [.lit (.bool true)], args := [d] }
  | _ => none }
def nodesNilRow : OpenClaim := { program := "ytjpcaplhblomcaa", sum := "f6120b10330ee0e864aa6426ea0cd73bd8f05e98ad97a71a3e3a80e6861d30d5", func := "chatelaine/chatelainelaw09.NodesNil", spec := "nodesNil", unfollowed := true, recurses := true, apart := false }
def NodesNilSaid : Prop := nodesNilRow.holds Try.pinned (OpenSpec.ofChange nodesNilSpec)

/-- ITS FALSE NEIGHBOUR: 'it returns false'. Refute it at one input. -/
def nodesNilWrong : ChangeSpec := { name := "nodesNil", fn := fun _ => fun
  | [d] => { results := [.lit (.bool false)], args := [d] }
  | _ => none }
def NodesNilWrongFalsely : Prop := nodesNilRow.holds Try.pinned (OpenSpec.ofChange nodesNilWrong)

/-- 'chatelainelaw09.NodesPlay': WHATEVER THE INPUT: true; the input reads as it did. -/
def nodesPlaySpec : ChangeSpec := { name := "nodesPlay", fn := fun _ => fun
  | [d1, d2] => { results := [.lit (.bool true)], args := [d1, d2] }
  | _ => none }
def nodesPlayRow : OpenClaim := { program := "ytjpcaplhblomcaa", sum := "f6120b10330ee0e864aa6426ea0cd73bd8f05e98ad97a71a3e3a80e6861d30d5", func := "chatelaine/chatelainelaw09.NodesPlay", spec := "nodesPlay", unfollowed := true, recurses := true, apart := false }
def NodesPlaySaid : Prop := nodesPlayRow.holds Try.pinned (OpenSpec.ofChange nodesPlaySpec)

/-- ITS FALSE NEIGHBOUR: 'it returns false'. Refute it at one input. -/
def nodesPlayWrong : ChangeSpec := { name := "nodesPlay", fn := fun _ => fun
  | [d1, d2] => { results := [.lit (.bool false)], args := [d1, d2] }
  | _ => none }
def NodesPlayWrongFalsely : Prop := nodesPlayRow.holds Try.pinned (OpenSpec.ofChange nodesPlayWrong)

/-- 'chatelainelaw09.NodesOne': WHATEVER THE INPUT: true; the input reads as it did. -/
def nodesOneSpec : ChangeSpec := { name := "nodesOne", fn := fun _ => fun
  | [d1, d2] => { results := [.lit (.bool true)], args := [d1, d2] }
  | _ => none }
def nodesOneRow : OpenClaim := { program := "ytjpcaplhblomcaa", sum := "f6120b10330ee0e864aa6426ea0cd73bd8f05e98ad97a71a3e3a80e6861d30d5", func := "chatelaine/chatelainelaw09.NodesOne", spec := "nodesOne", unfollowed := true, recurses := true, apart := false }
def NodesOneSaid : Prop := nodesOneRow.holds Try.pinned (OpenSpec.ofChange nodesOneSpec)

/-- ITS FALSE NEIGHBOUR: 'it returns false'. Refute it at one input. -/
def nodesOneWrong : ChangeSpec := { name := "nodesOne", fn := fun _ => fun
  | [d1, d2] => { results := [.lit (.bool false)], args := [d1, d2] }
  | _ => none }
def NodesOneWrongFalsely : Prop := nodesOneRow.holds Try.pinned (OpenSpec.ofChange nodesOneWrong)

/-- 'chatelainelaw09.NodesRights': WHATEVER THE INPUT: true; the input reads as it did. -/
def nodesRightsSpec : ChangeSpec := { name := "nodesRights", fn := fun _ => fun
  | [d1, d2, d3] => { results := [.lit (.bool true)], args := [d1, d2, d3] }
  | _ => none }
def nodesRightsRow : OpenClaim := { program := "ytjpcaplhblomcaa", sum := "f6120b10330ee0e864aa6426ea0cd73bd8f05e98ad97a71a3e3a80e6861d30d5", func := "chatelaine/chatelainelaw09.NodesRights", spec := "nodesRights", unfollowed := true, recurses := true, apart := false }
def NodesRightsSaid : Prop := nodesRightsRow.holds Try.pinned (OpenSpec.ofChange nodesRightsSpec)

/-- ITS FALSE NEIGHBOUR: 'it returns false'. Refute it at one input. -/
def nodesRightsWrong : ChangeSpec := { name := "nodesRights", fn := fun _ => fun
  | [d1, d2, d3] => { results := [.lit (.bool false)], args := [d1, d2, d3] }
  | _ => none }
def NodesRightsWrongFalsely : Prop := nodesRightsRow.holds Try.pinned (OpenSpec.ofChange nodesRightsWrong)

/- THE SECOND FORM. 'bulk': how many values and letters a reading holds, each counted each time it is reached (what is shared counts as often as it is met; a slice's spare places count too). A statement '..UptoSaid' is the law's where the arguments, and the package variables that the reading takes, are together of bulk at most 1048576: NARROWER than '..Said'. Prove '..Said' where nothing that the law and all that it calls make is longer than what came in: it says more and counts as full. Else prove '..UptoSaid'. A law counts once. -/
mutual
def uptoBulk {H : Type} : DataW H → Nat
  | .lit (.string bytes) => bytes.length + 1
  | .lit _ => 1
  | .nil => 1
  | .ptr d => uptoBulk d + 1
  | .slice elems spare => uptoBulkAll elems + uptoBulkAll spare + 1
  | .agg parts => uptoBulkAll parts + 1
  | .iface _ d => uptoBulk d + 1
  | .map entries => uptoBulkEntries entries + 1
  | .held _ => 1
def uptoBulkAll {H : Type} : List (DataW H) → Nat
  | [] => 0
  | d :: r => uptoBulk d + uptoBulkAll r
def uptoBulkEntries {H : Type} : List (Lit × DataW H) → Nat
  | [] => 0
  | x :: r => uptoBulkEntry x + uptoBulkEntries r
def uptoBulkEntry {H : Type} : Lit × DataW H → Nat
  | (.string bytes, d) => bytes.length + uptoBulk d + 1
  | (_, d) => uptoBulk d + 1
 end
def uptoSmall : (H : Type) → List (DataW H) → Bool := fun _ ds => decide (uptoBulkAll ds ≤ 1048576)
def OpenSpec.upto (s : _root_.Go.ChangeSpec) : _root_.Go.OpenSpec := { _root_.Go.OpenSpec.ofChange s with cond := some uptoSmall }

/-- 'chatelainelaw09.NodesBack', WHERE WHAT IT READS IS OF BULK AT MOST 1048576: true; the input reads as it did. -/
def nodesBackUptoRow : OpenClaim := { program := "ytjpcaplhblomcaa", sum := "f6120b10330ee0e864aa6426ea0cd73bd8f05e98ad97a71a3e3a80e6861d30d5", func := "chatelaine/chatelainelaw09.NodesBack", spec := "nodesBack", unfollowed := true, recurses := true, apart := false, narrowed := true }
def NodesBackUptoSaid : Prop := nodesBackUptoRow.holds Try.pinned (OpenSpec.upto nodesBackSpec)

/-- 'chatelainelaw09.NodesWeak', WHERE WHAT IT READS IS OF BULK AT MOST 1048576: true; the input reads as it did. -/
def nodesWeakUptoRow : OpenClaim := { program := "ytjpcaplhblomcaa", sum := "f6120b10330ee0e864aa6426ea0cd73bd8f05e98ad97a71a3e3a80e6861d30d5", func := "chatelaine/chatelainelaw09.NodesWeak", spec := "nodesWeak", unfollowed := true, recurses := true, apart := false, narrowed := true }
def NodesWeakUptoSaid : Prop := nodesWeakUptoRow.holds Try.pinned (OpenSpec.upto nodesWeakSpec)

/-- 'chatelainelaw09.NodesNil', WHERE WHAT IT READS IS OF BULK AT MOST 1048576: true; the input reads as it did. -/
def nodesNilUptoRow : OpenClaim := { program := "ytjpcaplhblomcaa", sum := "f6120b10330ee0e864aa6426ea0cd73bd8f05e98ad97a71a3e3a80e6861d30d5", func := "chatelaine/chatelainelaw09.NodesNil", spec := "nodesNil", unfollowed := true, recurses := true, apart := false, narrowed := true }
def NodesNilUptoSaid : Prop := nodesNilUptoRow.holds Try.pinned (OpenSpec.upto nodesNilSpec)

/-- 'chatelainelaw09.NodesPlay', WHERE WHAT IT READS IS OF BULK AT MOST 1048576: true; the input reads as it did. -/
def nodesPlayUptoRow : OpenClaim := { program := "ytjpcaplhblomcaa", sum := "f6120b10330ee0e864aa6426ea0cd73bd8f05e98ad97a71a3e3a80e6861d30d5", func := "chatelaine/chatelainelaw09.NodesPlay", spec := "nodesPlay", unfollowed := true, recurses := true, apart := false, narrowed := true }
def NodesPlayUptoSaid : Prop := nodesPlayUptoRow.holds Try.pinned (OpenSpec.upto nodesPlaySpec)

/-- 'chatelainelaw09.NodesOne', WHERE WHAT IT READS IS OF BULK AT MOST 1048576: true; the input reads as it did. -/
def nodesOneUptoRow : OpenClaim := { program := "ytjpcaplhblomcaa", sum := "f6120b10330ee0e864aa6426ea0cd73bd8f05e98ad97a71a3e3a80e6861d30d5", func := "chatelaine/chatelainelaw09.NodesOne", spec := "nodesOne", unfollowed := true, recurses := true, apart := false, narrowed := true }
def NodesOneUptoSaid : Prop := nodesOneUptoRow.holds Try.pinned (OpenSpec.upto nodesOneSpec)

/-- 'chatelainelaw09.NodesRights', WHERE WHAT IT READS IS OF BULK AT MOST 1048576: true; the input reads as it did. -/
def nodesRightsUptoRow : OpenClaim := { program := "ytjpcaplhblomcaa", sum := "f6120b10330ee0e864aa6426ea0cd73bd8f05e98ad97a71a3e3a80e6861d30d5", func := "chatelaine/chatelainelaw09.NodesRights", spec := "nodesRights", unfollowed := true, recurses := true, apart := false, narrowed := true }
def NodesRightsUptoSaid : Prop := nodesRightsUptoRow.holds Try.pinned (OpenSpec.upto nodesRightsSpec)

end Rows
end Go.Proofs.Ytjpcaplhblomcaa
