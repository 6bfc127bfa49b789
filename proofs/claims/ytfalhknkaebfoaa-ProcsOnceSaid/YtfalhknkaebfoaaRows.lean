/-
  No cell of these rows narrows 'for every input' (looked for: loops, veiled, ifaces, maps, wideKeys, modest, calm, conditions, laid).
  DERIVED. THE GIVEN ROWS OF THIS SEAT. 11 by the template 'for every input the law returns true; each argument reads behind the call as it read before'; 0 by the template 'total and deterministic' (their statements: YtfalhknkaebfoaaTotals.lean).
  GIVEN WITH THE SEED: the statements are not yours to turn. If you find one false, say at which input.
  Laid BY PROGRAM, IN A SANDBOX (cutbox-rows.mjs): the forced cells as the released guide's own fill.sh prints them over the translation 6df5d39cc221901b… (all of the seat's roots in one cut). By AI agents, Wed Nov 11 2026. No macro, syntax, notation, axiom, sorry.
-/
import Derived.Test.YtfalhknkaebfoaaChecked
import GoSem.Claim
import GoSem.ClaimJoined
import GoSem.ClaimMapViews
import Derived.JoinedTies
import Derived.KernelRfl
namespace Go.Proofs.Ytfalhknkaebfoaa
/- THE CELL 'sum', in the pinned program and in every row, IS THE sha256 OF THE DUMP (.gsa) THAT YtfalhknkaebfoaaProg.lean LOADS. Nothing in Lean hashes anything: it is a label: what it is worth is what the hold of that sum in a sandbox is worth. -/
noncomputable def Try.pinned : Pinned := { name := "ytfalhknkaebfoaa", sum := "6df5d39cc221901b92104cc5f367689b9450a2886f436d0d0b2c14d8a8d1d5a0", checked := Try.checked }
namespace Rows
def none {H : Type} : Left H := { results := [], args := [] }

/-- 'chatelainelaw12.BanksFull': WHATEVER THE INPUT: true; the input reads as it did. -/
def banksFullSpec : ChangeSpec := { name := "banksFull", fn := fun _ => fun
  | [d1, d2] => { results := [.lit (.bool true)], args := [d1, d2] }
  | _ => none }
def banksFullRow : OpenClaim := { program := "ytfalhknkaebfoaa", sum := "6df5d39cc221901b92104cc5f367689b9450a2886f436d0d0b2c14d8a8d1d5a0", func := "chatelaine/chatelainelaw12.BanksFull", spec := "banksFull", unfollowed := true, recurses := true, apart := false }
def BanksFullSaid : Prop := banksFullRow.holds Try.pinned (OpenSpec.ofChange banksFullSpec)

/-- ITS FALSE NEIGHBOUR: 'it returns false'. Refute it at one input. -/
def banksFullWrong : ChangeSpec := { name := "banksFull", fn := fun _ => fun
  | [d1, d2] => { results := [.lit (.bool false)], args := [d1, d2] }
  | _ => none }
def BanksFullWrongFalsely : Prop := banksFullRow.holds Try.pinned (OpenSpec.ofChange banksFullWrong)

/-- 'chatelainelaw12.BanksSplit': WHATEVER THE INPUT: true; the input reads as it did. -/
def banksSplitSpec : ChangeSpec := { name := "banksSplit", fn := fun _ => fun
  | [d1, d2, d3] => { results := [.lit (.bool true)], args := [d1, d2, d3] }
  | _ => none }
def banksSplitRow : OpenClaim := { program := "ytfalhknkaebfoaa", sum := "6df5d39cc221901b92104cc5f367689b9450a2886f436d0d0b2c14d8a8d1d5a0", func := "chatelaine/chatelainelaw12.BanksSplit", spec := "banksSplit", unfollowed := true, recurses := true, apart := false }
def BanksSplitSaid : Prop := banksSplitRow.holds Try.pinned (OpenSpec.ofChange banksSplitSpec)

/-- ITS FALSE NEIGHBOUR: 'it returns false'. Refute it at one input. -/
def banksSplitWrong : ChangeSpec := { name := "banksSplit", fn := fun _ => fun
  | [d1, d2, d3] => { results := [.lit (.bool false)], args := [d1, d2, d3] }
  | _ => none }
def BanksSplitWrongFalsely : Prop := banksSplitRow.holds Try.pinned (OpenSpec.ofChange banksSplitWrong)

/-- 'chatelainelaw13.ProcsBack': WHATEVER THE INPUT: true; the input reads as it did. -/
def procsBackSpec : ChangeSpec := { name := "procsBack", fn := fun _ => fun
  | [d1, d2, d3] => { results := [.lit (.bool true)], args := [d1, d2, d3] }
  | _ => none }
def procsBackRow : OpenClaim := { program := "ytfalhknkaebfoaa", sum := "6df5d39cc221901b92104cc5f367689b9450a2886f436d0d0b2c14d8a8d1d5a0", func := "chatelaine/chatelainelaw13.ProcsBack", spec := "procsBack", unfollowed := true, recurses := true, apart := false }
def ProcsBackSaid : Prop := procsBackRow.holds Try.pinned (OpenSpec.ofChange procsBackSpec)

/-- ITS FALSE NEIGHBOUR: 'it returns false'. Refute it at one input. -/
def procsBackWrong : ChangeSpec := { name := "procsBack", fn := fun _ => fun
  | [d1, d2, d3] => { results := [.lit (.bool false)], args := [d1, d2, d3] }
  | _ => none }
def ProcsBackWrongFalsely : Prop := procsBackRow.holds Try.pinned (OpenSpec.ofChange procsBackWrong)

/-- 'chatelainelaw12.BanksNil': WHATEVER THE INPUT: true; the input reads as it did. -/
def banksNilSpec : ChangeSpec := { name := "banksNil", fn := fun _ => fun
  | [d] => { results := [.lit (.bool true)], args := [d] }
  | _ => none }
def banksNilRow : OpenClaim := { program := "ytfalhknkaebfoaa", sum := "6df5d39cc221901b92104cc5f367689b9450a2886f436d0d0b2c14d8a8d1d5a0", func := "chatelaine/chatelainelaw12.BanksNil", spec := "banksNil", unfollowed := true, recurses := true, apart := false }
def BanksNilSaid : Prop := banksNilRow.holds Try.pinned (OpenSpec.ofChange banksNilSpec)

/-- ITS FALSE NEIGHBOUR: 'it returns false'. Refute it at one input. -/
def banksNilWrong : ChangeSpec := { name := "banksNil", fn := fun _ => fun
  | [d] => { results := [.lit (.bool false)], args := [d] }
  | _ => none }
def BanksNilWrongFalsely : Prop := banksNilRow.holds Try.pinned (OpenSpec.ofChange banksNilWrong)

/-- 'chatelainelaw12.BanksNever': WHATEVER THE INPUT: true; the input reads as it did. -/
def banksNeverSpec : ChangeSpec := { name := "banksNever", fn := fun _ => fun
  | [d1, d2, d3] => { results := [.lit (.bool true)], args := [d1, d2, d3] }
  | _ => none }
def banksNeverRow : OpenClaim := { program := "ytfalhknkaebfoaa", sum := "6df5d39cc221901b92104cc5f367689b9450a2886f436d0d0b2c14d8a8d1d5a0", func := "chatelaine/chatelainelaw12.BanksNever", spec := "banksNever", unfollowed := true, recurses := true, apart := false }
def BanksNeverSaid : Prop := banksNeverRow.holds Try.pinned (OpenSpec.ofChange banksNeverSpec)

/-- ITS FALSE NEIGHBOUR: 'it returns false'. Refute it at one input. -/
def banksNeverWrong : ChangeSpec := { name := "banksNever", fn := fun _ => fun
  | [d1, d2, d3] => { results := [.lit (.bool false)], args := [d1, d2, d3] }
  | _ => none }
def BanksNeverWrongFalsely : Prop := banksNeverRow.holds Try.pinned (OpenSpec.ofChange banksNeverWrong)

/-- 'chatelainelaw12.BanksForm': WHATEVER THE INPUT: true; the input reads as it did. -/
def banksFormSpec : ChangeSpec := { name := "banksForm", fn := fun _ => fun
  | [d1, d2, d3] => { results := [.lit (.bool true)], args := [d1, d2, d3] }
  | _ => none }
def banksFormRow : OpenClaim := { program := "ytfalhknkaebfoaa", sum := "6df5d39cc221901b92104cc5f367689b9450a2886f436d0d0b2c14d8a8d1d5a0", func := "chatelaine/chatelainelaw12.BanksForm", spec := "banksForm", unfollowed := true, recurses := true, apart := false }
def BanksFormSaid : Prop := banksFormRow.holds Try.pinned (OpenSpec.ofChange banksFormSpec)

/-- ITS FALSE NEIGHBOUR: 'it returns false'. Refute it at one input. -/
def banksFormWrong : ChangeSpec := { name := "banksForm", fn := fun _ => fun
  | [d1, d2, d3] => { results := [.lit (.bool false)], args := [d1, d2, d3] }
  | _ => none }
def BanksFormWrongFalsely : Prop := banksFormRow.holds Try.pinned (OpenSpec.ofChange banksFormWrong)

/-- 'chatelainelaw13.ProcsPlay': WHATEVER THE INPUT: true; the input reads as it did. -/
def procsPlaySpec : ChangeSpec := { name := "procsPlay", fn := fun _ => fun
  | [d1, d2] => { results := [.lit (.bool true)], args := [d1, d2] }
  | _ => none }
def procsPlayRow : OpenClaim := { program := "ytfalhknkaebfoaa", sum := "6df5d39cc221901b92104cc5f367689b9450a2886f436d0d0b2c14d8a8d1d5a0", func := "chatelaine/chatelainelaw13.ProcsPlay", spec := "procsPlay", unfollowed := true, recurses := true, apart := false }
def ProcsPlaySaid : Prop := procsPlayRow.holds Try.pinned (OpenSpec.ofChange procsPlaySpec)

/-- ITS FALSE NEIGHBOUR: 'it returns false'. Refute it at one input. -/
def procsPlayWrong : ChangeSpec := { name := "procsPlay", fn := fun _ => fun
  | [d1, d2] => { results := [.lit (.bool false)], args := [d1, d2] }
  | _ => none }
def ProcsPlayWrongFalsely : Prop := procsPlayRow.holds Try.pinned (OpenSpec.ofChange procsPlayWrong)

/-- 'chatelainelaw13.ProcsOne': WHATEVER THE INPUT: true; the input reads as it did. -/
def procsOneSpec : ChangeSpec := { name := "procsOne", fn := fun _ => fun
  | [d1, d2] => { results := [.lit (.bool true)], args := [d1, d2] }
  | _ => none }
def procsOneRow : OpenClaim := { program := "ytfalhknkaebfoaa", sum := "6df5d39cc221901b92104cc5f367689b9450a2886f436d0d0b2c14d8a8d1d5a0", func := "chatelaine/chatelainelaw13.ProcsOne", spec := "procsOne", unfollowed := true, recurses := true, apart := false }
def ProcsOneSaid : Prop := procsOneRow.holds Try.pinned (OpenSpec.ofChange procsOneSpec)

/-- ITS FALSE NEIGHBOUR: 'it returns false'. Refute it at one input. -/
def procsOneWrong : ChangeSpec := { name := "procsOne", fn := fun _ => fun
  | [d1, d2] => { results := [.lit (.bool false)], args := [d1, d2] }
  | _ => none }
def ProcsOneWrongFalsely : Prop := procsOneRow.holds Try.pinned (OpenSpec.ofChange procsOneWrong)

/-- 'chatelainelaw13.ProcsNil': WHATEVER THE INPUT: true; the input reads as it did. -/
def procsNilSpec : ChangeSpec := { name := "procsNil", fn := fun _ => fun
  | [d] => { results := [.lit (.bool true)], args := [d] }
  | _ => none }
def procsNilRow : OpenClaim := { program := "ytfalhknkaebfoaa", sum := "6df5d39cc221901b92104cc5f367689b9450a2886f436d0d0b2c14d8a8d1d5a0", func := "chatelaine/chatelainelaw13.ProcsNil", spec := "procsNil", unfollowed := true, recurses := true, apart := false }
def ProcsNilSaid : Prop := procsNilRow.holds Try.pinned (OpenSpec.ofChange procsNilSpec)

/-- ITS FALSE NEIGHBOUR: 'it returns false'. Refute it at one input. -/
def procsNilWrong : ChangeSpec := { name := "procsNil", fn := fun _ => fun
  | [d] => { results := [.lit (.bool false)], args := [d] }
  | _ => none }
def ProcsNilWrongFalsely : Prop := procsNilRow.holds Try.pinned (OpenSpec.ofChange procsNilWrong)

/-- 'chatelainelaw13.ProcsStates': WHATEVER THE INPUT: true; the input reads as it did. -/
def procsStatesSpec : ChangeSpec := { name := "procsStates", fn := fun _ => fun
  | [d1, d2, d3] => { results := [.lit (.bool true)], args := [d1, d2, d3] }
  | _ => none }
def procsStatesRow : OpenClaim := { program := "ytfalhknkaebfoaa", sum := "6df5d39cc221901b92104cc5f367689b9450a2886f436d0d0b2c14d8a8d1d5a0", func := "chatelaine/chatelainelaw13.ProcsStates", spec := "procsStates", unfollowed := true, recurses := true, apart := false }
def ProcsStatesSaid : Prop := procsStatesRow.holds Try.pinned (OpenSpec.ofChange procsStatesSpec)

/-- ITS FALSE NEIGHBOUR: 'it returns false'. Refute it at one input. -/
def procsStatesWrong : ChangeSpec := { name := "procsStates", fn := fun _ => fun
  | [d1, d2, d3] => { results := [.lit (.bool false)], args := [d1, d2, d3] }
  | _ => none }
def ProcsStatesWrongFalsely : Prop := procsStatesRow.holds Try.pinned (OpenSpec.ofChange procsStatesWrong)

/-- 'chatelainelaw13.ProcsOnce': WHATEVER THE INPUT: true; the input reads as it did. -/
def procsOnceSpec : ChangeSpec := { name := "procsOnce", fn := fun _ => fun
  | [d1, d2, d3] => { results := [.lit (.bool true)], args := [d1, d2, d3] }
  | _ => none }
def procsOnceRow : OpenClaim := { program := "ytfalhknkaebfoaa", sum := "6df5d39cc221901b92104cc5f367689b9450a2886f436d0d0b2c14d8a8d1d5a0", func := "chatelaine/chatelainelaw13.ProcsOnce", spec := "procsOnce", unfollowed := true, recurses := true, apart := false }
def ProcsOnceSaid : Prop := procsOnceRow.holds Try.pinned (OpenSpec.ofChange procsOnceSpec)

/-- ITS FALSE NEIGHBOUR: 'it returns false'. Refute it at one input. -/
def procsOnceWrong : ChangeSpec := { name := "procsOnce", fn := fun _ => fun
  | [d1, d2, d3] => { results := [.lit (.bool false)], args := [d1, d2, d3] }
  | _ => none }
def ProcsOnceWrongFalsely : Prop := procsOnceRow.holds Try.pinned (OpenSpec.ofChange procsOnceWrong)

/- THE SECOND FORM. 'bulk': how many values and letters a reading holds, each counted each time it is reached (what is shared counts as often as it is met; a slice's spare places count too). A statement '..UptoSaid' is the law's where the arguments, and the package variables that the reading takes, are together of bulk at most 1048576: NARROWER than '..Said'. Prove '..Said' where nothing that the law and all that it calls make is longer than what came in: it says more and counts as full. Else prove '..UptoSaid'. A law counts once. -/
mutual
def uptoBulk {H : Type} : DataW H → Nat
  | .lit (.string bytes) => bytes.length + 1
  | .lit _ => 1
  | .nil => 1
  | .ptr d => uptoBulk d + 1
  | .slice elems spare => uptoBulkAll elems + uptoBulkAll spare + 1
  | .agg parts => uptoBulkAll parts + 1
  | .iface _ d => uptoBulk d + 1
  | .map entries => uptoBulkEntries entries + 1
  | .held _ => 1
def uptoBulkAll {H : Type} : List (DataW H) → Nat
  | [] => 0
  | d :: r => uptoBulk d + uptoBulkAll r
def uptoBulkEntries {H : Type} : List (Lit × DataW H) → Nat
  | [] => 0
  | x :: r => uptoBulkEntry x + uptoBulkEntries r
def uptoBulkEntry {H : Type} : Lit × DataW H → Nat
  | (.string bytes, d) => bytes.length + uptoBulk d + 1
  | (_, d) => uptoBulk d + 1
 end
def uptoSmall : (H : Type) → List (DataW H) → Bool := fun _ ds => decide (uptoBulkAll ds ≤ 1048576)
def OpenSpec.upto (s : _root_.Go.ChangeSpec) : _root_.Go.OpenSpec := { _root_.Go.OpenSpec.ofChange s with cond := some uptoSmall }

/-- 'chatelainelaw12.BanksFull', WHERE WHAT IT READS IS OF BULK AT MOST 1048576: true; the input reads as it did. -/
def banksFullUptoRow : OpenClaim := { program := "ytfalhknkaebfoaa", sum := "6df5d39cc221901b92104cc5f367689b9450a2886f436d0d0b2c14d8a8d1d5a0", func := "chatelaine/chatelainelaw12.BanksFull", spec := "banksFull", unfollowed := true, recurses := true, apart := false, narrowed := true }
def BanksFullUptoSaid : Prop := banksFullUptoRow.holds Try.pinned (OpenSpec.upto banksFullSpec)

/-- 'chatelainelaw12.BanksSplit', WHERE WHAT IT READS IS OF BULK AT MOST 1048576: true; the input reads as it did. -/
def banksSplitUptoRow : OpenClaim := { program := "ytfalhknkaebfoaa", sum := "6df5d39cc221901b92104cc5f367689b9450a2886f436d0d0b2c14d8a8d1d5a0", func := "chatelaine/chatelainelaw12.BanksSplit", spec := "banksSplit", unfollowed := true, recurses := true, apart := false, narrowed := true }
def BanksSplitUptoSaid : Prop := banksSplitUptoRow.holds Try.pinned (OpenSpec.upto banksSplitSpec)

/-- 'chatelainelaw13.ProcsBack', WHERE WHAT IT READS IS OF BULK AT MOST 1048576: true; the input reads as it did. -/
def procsBackUptoRow : OpenClaim := { program := "ytfalhknkaebfoaa", sum := "6df5d39cc221901b92104cc5f367689b9450a2886f436d0d0b2c14d8a8d1d5a0", func := "chatelaine/chatelainelaw13.ProcsBack", spec := "procsBack", unfollowed := true, recurses := true, apart := false, narrowed := true }
def ProcsBackUptoSaid : Prop := procsBackUptoRow.holds Try.pinned (OpenSpec.upto procsBackSpec)

/-- 'chatelainelaw12.BanksNil', WHERE WHAT IT READS IS OF BULK AT MOST 1048576: true; the input reads as it did. -/
def banksNilUptoRow : OpenClaim := { program := "ytfalhknkaebfoaa", sum := "6df5d39cc221901b92104cc5f367689b9450a2886f436d0d0b2c14d8a8d1d5a0", func := "chatelaine/chatelainelaw12.BanksNil", spec := "banksNil", unfollowed := true, recurses := true, apart := false, narrowed := true }
def BanksNilUptoSaid : Prop := banksNilUptoRow.holds Try.pinned (OpenSpec.upto banksNilSpec)

/-- 'chatelainelaw12.BanksNever', WHERE WHAT IT READS IS OF BULK AT MOST 1048576: true; the input reads as it did. -/
def banksNeverUptoRow : OpenClaim := { program := "ytfalhknkaebfoaa", sum := "6df5d39cc221901b92104cc5f367689b9450a2886f436d0d0b2c14d8a8d1d5a0", func := "chatelaine/chatelainelaw12.BanksNever", spec := "banksNever", unfollowed := true, recurses := true, apart := false, narrowed := true }
def BanksNeverUptoSaid : Prop := banksNeverUptoRow.holds Try.pinned (OpenSpec.upto banksNeverSpec)

/-- 'chatelainelaw12.BanksForm', WHERE WHAT IT READS IS OF BULK AT MOST 1048576: true; the input reads as it did. -/
def banksFormUptoRow : OpenClaim := { program := "ytfalhknkaebfoaa", sum := "6df5d39cc221901b92104cc5f367689b9450a2886f436d0d0b2c14d8a8d1d5a0", func := "chatelaine/chatelainelaw12.BanksForm", spec := "banksForm", unfollowed := true, recurses := true, apart := false, narrowed := true }
def BanksFormUptoSaid : Prop := banksFormUptoRow.holds Try.pinned (OpenSpec.upto banksFormSpec)

/-- 'chatelainelaw13.ProcsPlay', WHERE WHAT IT READS IS OF BULK AT MOST 1048576: true; the input reads as it did. -/
def procsPlayUptoRow : OpenClaim := { program := "ytfalhknkaebfoaa", sum := "6df5d39cc221901b92104cc5f367689b9450a2886f436d0d0b2c14d8a8d1d5a0", func := "chatelaine/chatelainelaw13.ProcsPlay", spec := "procsPlay", unfollowed := true, recurses := true, apart := false, narrowed := true }
def ProcsPlayUptoSaid : Prop := procsPlayUptoRow.holds Try.pinned (OpenSpec.upto procsPlaySpec)

/-- 'chatelainelaw13.ProcsOne', WHERE WHAT IT READS IS OF BULK AT MOST 1048576: true; the input reads as it did. -/
def procsOneUptoRow : OpenClaim := { program := "ytfalhknkaebfoaa", sum := "6df5d39cc221901b92104cc5f367689b9450a2886f436d0d0b2c14d8a8d1d5a0", func := "chatelaine/chatelainelaw13.ProcsOne", spec := "procsOne", unfollowed := true, recurses := true, apart := false, narrowed := true }
def ProcsOneUptoSaid : Prop := procsOneUptoRow.holds Try.pinned (OpenSpec.upto procsOneSpec)

/-- 'chatelainelaw13.ProcsNil', WHERE WHAT IT READS IS OF BULK AT MOST 1048576: true; the input reads as it did. -/
def procsNilUptoRow : OpenClaim := { program := "ytfalhknkaebfoaa", sum := "6df5d39cc221901b92104cc5f367689b9450a2886f436d0d0b2c14d8a8d1d5a0", func := "chatelaine/chatelainelaw13.ProcsNil", spec := "procsNil", unfollowed := true, recurses := true, apart := false, narrowed := true }
def ProcsNilUptoSaid : Prop := procsNilUptoRow.holds Try.pinned (OpenSpec.upto procsNilSpec)

/-- 'chatelainelaw13.ProcsStates', WHERE WHAT IT READS IS OF BULK AT MOST 1048576: true; the input reads as it did. -/
def procsStatesUptoRow : OpenClaim := { program := "ytfalhknkaebfoaa", sum := "6df5d39cc221901b92104cc5f367689b9450a2886f436d0d0b2c14d8a8d1d5a0", func := "chatelaine/chatelainelaw13.ProcsStates", spec := "procsStates", unfollowed := true, recurses := true, apart := false, narrowed := true }
def ProcsStatesUptoSaid : Prop := procsStatesUptoRow.holds Try.pinned (OpenSpec.upto procsStatesSpec)

/-- 'chatelainelaw13.ProcsOnce', WHERE WHAT IT READS IS OF BULK AT MOST 1048576: true; the input reads as it did. -/
def procsOnceUptoRow : OpenClaim := { program := "ytfalhknkaebfoaa", sum := "6df5d39cc221901b92104cc5f367689b9450a2886f436d0d0b2c14d8a8d1d5a0", func := "chatelaine/chatelainelaw13.ProcsOnce", spec := "procsOnce", unfollowed := true, recurses := true, apart := false, narrowed := true }
def ProcsOnceUptoSaid : Prop := procsOnceUptoRow.holds Try.pinned (OpenSpec.upto procsOnceSpec)

end Rows
end Go.Proofs.Ytfalhknkaebfoaa
