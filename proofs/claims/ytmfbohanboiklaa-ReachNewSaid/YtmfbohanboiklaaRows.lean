/-
  No cell of these rows narrows 'for every input' (looked for: loops, veiled, ifaces, maps, wideKeys, modest, calm, conditions, laid).
  DERIVED. THE GIVEN ROWS OF THIS SEAT. 5 by the template 'for every input the law returns true; each argument reads behind the call as it read before'; 0 by the template 'total and deterministic' (their statements: YtmfbohanboiklaaTotals.lean).
  GIVEN WITH THE SEED: the statements are not yours to turn. If you find one false, say at which input.
  Laid BY PROGRAM, IN A SANDBOX (cutbox-rows.mjs): the forced cells as the released guide's own fill.sh prints them over the translation c37c4e4116b22ac2… (all of the seat's roots in one cut). By AI agents, Wed Nov 11 2026. No macro, syntax, notation, axiom, sorry.
-/
import Derived.Test.YtmfbohanboiklaaChecked
import GoSem.Claim
import GoSem.ClaimJoined
import GoSem.ClaimMapViews
import Derived.JoinedTies
import Derived.KernelRfl
namespace Go.Proofs.Ytmfbohanboiklaa
/- THE CELL 'sum', in the pinned program and in every row, IS THE sha256 OF THE DUMP (.gsa) THAT YtmfbohanboiklaaProg.lean LOADS. Nothing in Lean hashes anything: it is a label: what it is worth is what the hold of that sum in a sandbox is worth. -/
noncomputable def Try.pinned : Pinned := { name := "ytmfbohanboiklaa", sum := "c37c4e4116b22ac22eec845dd4f8cffd507804c66a507282d72a0db7e782c542", checked := Try.checked }
namespace Rows
def none {H : Type} : Left H := { results := [], args := [] }

/-- 'chatelainelaw16.ReachWeak': WHATEVER THE INPUT: true; the input reads as it did. -/
def reachWeakSpec : ChangeSpec := { name := "reachWeak", fn := fun _ => fun
  | [d1, d2, d3] => { results := [.lit (.bool true)], args := [d1, d2, d3] }
  | _ => none }
def reachWeakRow : OpenClaim := { program := "ytmfbohanboiklaa", sum := "c37c4e4116b22ac22eec845dd4f8cffd507804c66a507282d72a0db7e782c542", func := "chatelaine/chatelainelaw16.ReachWeak", spec := "reachWeak", unfollowed := true, recurses := true, plainKeys := false, apart := false }
def ReachWeakSaid : Prop := reachWeakRow.holds Try.pinned (OpenSpec.ofChange reachWeakSpec)

/-- ITS FALSE NEIGHBOUR: 'it returns false'. Refute it at one input. -/
def reachWeakWrong : ChangeSpec := { name := "reachWeak", fn := fun _ => fun
  | [d1, d2, d3] => { results := [.lit (.bool false)], args := [d1, d2, d3] }
  | _ => none }
def ReachWeakWrongFalsely : Prop := reachWeakRow.holds Try.pinned (OpenSpec.ofChange reachWeakWrong)

/-- 'chatelainelaw16.ReachOf': WHATEVER THE INPUT: true; the input reads as it did. -/
def reachOfSpec : ChangeSpec := { name := "reachOf", fn := fun _ => fun
  | [d] => { results := [.lit (.bool true)], args := [d] }
  | _ => none }
def reachOfRow : OpenClaim := { program := "ytmfbohanboiklaa", sum := "c37c4e4116b22ac22eec845dd4f8cffd507804c66a507282d72a0db7e782c542", func := "chatelaine/chatelainelaw16.ReachOf", spec := "reachOf", unfollowed := true, recurses := true, plainKeys := false, apart := false }
def ReachOfSaid : Prop := reachOfRow.holds Try.pinned (OpenSpec.ofChange reachOfSpec)

/-- ITS FALSE NEIGHBOUR: 'it returns false'. Refute it at one input. -/
def reachOfWrong : ChangeSpec := { name := "reachOf", fn := fun _ => fun
  | [d] => { results := [.lit (.bool false)], args := [d] }
  | _ => none }
def ReachOfWrongFalsely : Prop := reachOfRow.holds Try.pinned (OpenSpec.ofChange reachOfWrong)

/-- 'chatelainelaw16.ReachChain': WHATEVER THE INPUT: true; the input reads as it did. -/
def reachChainSpec : ChangeSpec := { name := "reachChain", fn := fun _ => fun
  | [d1, d2] => { results := [.lit (.bool true)], args := [d1, d2] }
  | _ => none }
def reachChainRow : OpenClaim := { program := "ytmfbohanboiklaa", sum := "c37c4e4116b22ac22eec845dd4f8cffd507804c66a507282d72a0db7e782c542", func := "chatelaine/chatelainelaw16.ReachChain", spec := "reachChain", unfollowed := true, recurses := true, plainKeys := false, apart := false }
def ReachChainSaid : Prop := reachChainRow.holds Try.pinned (OpenSpec.ofChange reachChainSpec)

/-- ITS FALSE NEIGHBOUR: 'it returns false'. Refute it at one input. -/
def reachChainWrong : ChangeSpec := { name := "reachChain", fn := fun _ => fun
  | [d1, d2] => { results := [.lit (.bool false)], args := [d1, d2] }
  | _ => none }
def ReachChainWrongFalsely : Prop := reachChainRow.holds Try.pinned (OpenSpec.ofChange reachChainWrong)

/-- 'chatelainelaw16.ReachMore': WHATEVER THE INPUT: true; the input reads as it did. -/
def reachMoreSpec : ChangeSpec := { name := "reachMore", fn := fun _ => fun
  | [d1, d2, d3] => { results := [.lit (.bool true)], args := [d1, d2, d3] }
  | _ => none }
def reachMoreRow : OpenClaim := { program := "ytmfbohanboiklaa", sum := "c37c4e4116b22ac22eec845dd4f8cffd507804c66a507282d72a0db7e782c542", func := "chatelaine/chatelainelaw16.ReachMore", spec := "reachMore", unfollowed := true, recurses := true, plainKeys := false, apart := false }
def ReachMoreSaid : Prop := reachMoreRow.holds Try.pinned (OpenSpec.ofChange reachMoreSpec)

/-- ITS FALSE NEIGHBOUR: 'it returns false'. Refute it at one input. -/
def reachMoreWrong : ChangeSpec := { name := "reachMore", fn := fun _ => fun
  | [d1, d2, d3] => { results := [.lit (.bool false)], args := [d1, d2, d3] }
  | _ => none }
def ReachMoreWrongFalsely : Prop := reachMoreRow.holds Try.pinned (OpenSpec.ofChange reachMoreWrong)

/-- 'chatelainelaw16.ReachNew': WHATEVER THE INPUT: true; the input reads as it did. -/
def reachNewSpec : ChangeSpec := { name := "reachNew", fn := fun _ => fun
  | [d1, d2, d3] => { results := [.lit (.bool true)], args := [d1, d2, d3] }
  | _ => none }
def reachNewRow : OpenClaim := { program := "ytmfbohanboiklaa", sum := "c37c4e4116b22ac22eec845dd4f8cffd507804c66a507282d72a0db7e782c542", func := "chatelaine/chatelainelaw16.ReachNew", spec := "reachNew", unfollowed := true, recurses := true, plainKeys := false, apart := false }
def ReachNewSaid : Prop := reachNewRow.holds Try.pinned (OpenSpec.ofChange reachNewSpec)

/-- ITS FALSE NEIGHBOUR: 'it returns false'. Refute it at one input. -/
def reachNewWrong : ChangeSpec := { name := "reachNew", fn := fun _ => fun
  | [d1, d2, d3] => { results := [.lit (.bool false)], args := [d1, d2, d3] }
  | _ => none }
def ReachNewWrongFalsely : Prop := reachNewRow.holds Try.pinned (OpenSpec.ofChange reachNewWrong)

/- THE SECOND FORM. 'bulk': how many values and letters a reading holds, each counted each time it is reached (what is shared counts as often as it is met; a slice's spare places count too). A statement '..UptoSaid' is the law's where the arguments, and the package variables that the reading takes, are together of bulk at most 1048576: NARROWER than '..Said'. Prove '..Said' where nothing that the law and all that it calls make is longer than what came in: it says more and counts as full. Else prove '..UptoSaid'. A law counts once. -/
mutual
def uptoBulk {H : Type} : DataW H → Nat
  | .lit (.string bytes) => bytes.length + 1
  | .lit _ => 1
  | .nil => 1
  | .ptr d => uptoBulk d + 1
  | .slice elems spare => uptoBulkAll elems + uptoBulkAll spare + 1
  | .agg parts => uptoBulkAll parts + 1
  | .iface _ d => uptoBulk d + 1
  | .map entries => uptoBulkEntries entries + 1
  | .held _ => 1
def uptoBulkAll {H : Type} : List (DataW H) → Nat
  | [] => 0
  | d :: r => uptoBulk d + uptoBulkAll r
def uptoBulkEntries {H : Type} : List (Lit × DataW H) → Nat
  | [] => 0
  | x :: r => uptoBulkEntry x + uptoBulkEntries r
def uptoBulkEntry {H : Type} : Lit × DataW H → Nat
  | (.string bytes, d) => bytes.length + uptoBulk d + 1
  | (_, d) => uptoBulk d + 1
 end
def uptoSmall : (H : Type) → List (DataW H) → Bool := fun _ ds => decide (uptoBulkAll ds ≤ 1048576)
def OpenSpec.upto (s : _root_.Go.ChangeSpec) : _root_.Go.OpenSpec := { _root_.Go.OpenSpec.ofChange s with cond := some uptoSmall }

/-- 'chatelainelaw16.ReachWeak', WHERE WHAT IT READS IS OF BULK AT MOST 1048576: true; the input reads as it did. -/
def reachWeakUptoRow : OpenClaim := { program := "ytmfbohanboiklaa", sum := "c37c4e4116b22ac22eec845dd4f8cffd507804c66a507282d72a0db7e782c542", func := "chatelaine/chatelainelaw16.ReachWeak", spec := "reachWeak", unfollowed := true, recurses := true, plainKeys := false, apart := false, narrowed := true }
def ReachWeakUptoSaid : Prop := reachWeakUptoRow.holds Try.pinned (OpenSpec.upto reachWeakSpec)

/-- 'chatelainelaw16.ReachOf', WHERE WHAT IT READS IS OF BULK AT MOST 1048576: true; the input reads as it did. -/
def reachOfUptoRow : OpenClaim := { program := "ytmfbohanboiklaa", sum := "c37c4e4116b22ac22eec845dd4f8cffd507804c66a507282d72a0db7e782c542", func := "chatelaine/chatelainelaw16.ReachOf", spec := "reachOf", unfollowed := true, recurses := true, plainKeys := false, apart := false, narrowed := true }
def ReachOfUptoSaid : Prop := reachOfUptoRow.holds Try.pinned (OpenSpec.upto reachOfSpec)

/-- 'chatelainelaw16.ReachChain', WHERE WHAT IT READS IS OF BULK AT MOST 1048576: true; the input reads as it did. -/
def reachChainUptoRow : OpenClaim := { program := "ytmfbohanboiklaa", sum := "c37c4e4116b22ac22eec845dd4f8cffd507804c66a507282d72a0db7e782c542", func := "chatelaine/chatelainelaw16.ReachChain", spec := "reachChain", unfollowed := true, recurses := true, plainKeys := false, apart := false, narrowed := true }
def ReachChainUptoSaid : Prop := reachChainUptoRow.holds Try.pinned (OpenSpec.upto reachChainSpec)

/-- 'chatelainelaw16.ReachMore', WHERE WHAT IT READS IS OF BULK AT MOST 1048576: true; the input reads as it did. -/
def reachMoreUptoRow : OpenClaim := { program := "ytmfbohanboiklaa", sum := "c37c4e4116b22ac22eec845dd4f8cffd507804c66a507282d72a0db7e782c542", func := "chatelaine/chatelainelaw16.ReachMore", spec := "reachMore", unfollowed := true, recurses := true, plainKeys := false, apart := false, narrowed := true }
def ReachMoreUptoSaid : Prop := reachMoreUptoRow.holds Try.pinned (OpenSpec.upto reachMoreSpec)

/-- 'chatelainelaw16.ReachNew', WHERE WHAT IT READS IS OF BULK AT MOST 1048576: true; the input reads as it did. -/
def reachNewUptoRow : OpenClaim := { program := "ytmfbohanboiklaa", sum := "c37c4e4116b22ac22eec845dd4f8cffd507804c66a507282d72a0db7e782c542", func := "chatelaine/chatelainelaw16.ReachNew", spec := "reachNew", unfollowed := true, recurses := true, plainKeys := false, apart := false, narrowed := true }
def ReachNewUptoSaid : Prop := reachNewUptoRow.holds Try.pinned (OpenSpec.upto reachNewSpec)

end Rows
end Go.Proofs.Ytmfbohanboiklaa
