/-
  No cell of these rows narrows 'for every input' (looked for: loops, veiled, ifaces, maps, wideKeys, modest, calm, conditions, laid).
  DERIVED. THE GIVEN ROWS OF THIS SEAT. 7 by the template 'for every input the law returns true; each argument reads behind the call as it read before'; 0 by the template 'total and deterministic' (their statements: YtlblcfaclmpekaaGreatTotals.lean).
  GIVEN WITH THE SEED: the statements are not yours to turn. If you find one false, say at which input.
  Laid BY PROGRAM, IN A SANDBOX (cutbox-rows.mjs): the forced cells as the released guide's own fill.sh prints them over the translation 2a3ea816e3fbef31… (all of the seat's roots in one cut). By AI agents, Wed Nov 11 2026. No macro, syntax, notation, axiom, sorry.
-/
import Derived.Test.YtlblcfaclmpekaaGreatChecked
import GoSem.Claim
import GoSem.ClaimJoined
import GoSem.ClaimMapViews
import Derived.JoinedTies
import Derived.KernelRfl
namespace Go.Proofs.YtlblcfaclmpekaaGreat
/- THE CELL 'sum', in the pinned program and in every row, IS THE sha256 OF THE DUMP (.gsa) THAT YtlblcfaclmpekaaGreatProg.lean LOADS. Nothing in Lean hashes anything: it is a label: what it is worth is what the hold of that sum in a sandbox is worth. -/
noncomputable def Tryz.pinned : Pinned := { name := "ytlblcfaclmpekaagreat", sum := "2a3ea816e3fbef3100823248d3b799e3bf41926e60607c1c052783b411b8a3be", checked := Tryz.checked }
namespace Rows
def none {H : Type} : Left H := { results := [], args := [] }

/-- 'chatelainelaw15.MachinePlay': WHATEVER THE INPUT: true; the input reads as it did. -/
def machinePlaySpec : ChangeSpec := { name := "machinePlay", fn := fun _ => fun
  | [d1, d2] => { results := [.lit (.bool true)], args := [d1, d2] }
  | _ => none }
def machinePlayRow : OpenClaim := { program := "ytlblcfaclmpekaagreat", sum := "2a3ea816e3fbef3100823248d3b799e3bf41926e60607c1c052783b411b8a3be", func := "chatelaine/chatelainelaw15.MachinePlay", spec := "machinePlay", unfollowed := true, recurses := true, plainKeys := false, apart := false }
def MachinePlaySaid : Prop := machinePlayRow.holds Tryz.pinned (OpenSpec.ofChange machinePlaySpec)

/-- ITS FALSE NEIGHBOUR: 'it returns false'. Refute it at one input. -/
def machinePlayWrong : ChangeSpec := { name := "machinePlay", fn := fun _ => fun
  | [d1, d2] => { results := [.lit (.bool false)], args := [d1, d2] }
  | _ => none }
def MachinePlayWrongFalsely : Prop := machinePlayRow.holds Tryz.pinned (OpenSpec.ofChange machinePlayWrong)

/-- 'chatelainelaw15.MachineTicks': WHATEVER THE INPUT: true; the input reads as it did. -/
def machineTicksSpec : ChangeSpec := { name := "machineTicks", fn := fun _ => fun
  | [d1, d2] => { results := [.lit (.bool true)], args := [d1, d2] }
  | _ => none }
def machineTicksRow : OpenClaim := { program := "ytlblcfaclmpekaagreat", sum := "2a3ea816e3fbef3100823248d3b799e3bf41926e60607c1c052783b411b8a3be", func := "chatelaine/chatelainelaw15.MachineTicks", spec := "machineTicks", unfollowed := true, recurses := true, plainKeys := false, apart := false }
def MachineTicksSaid : Prop := machineTicksRow.holds Tryz.pinned (OpenSpec.ofChange machineTicksSpec)

/-- ITS FALSE NEIGHBOUR: 'it returns false'. Refute it at one input. -/
def machineTicksWrong : ChangeSpec := { name := "machineTicks", fn := fun _ => fun
  | [d1, d2] => { results := [.lit (.bool false)], args := [d1, d2] }
  | _ => none }
def MachineTicksWrongFalsely : Prop := machineTicksRow.holds Tryz.pinned (OpenSpec.ofChange machineTicksWrong)

/-- 'chatelainelaw15.MachineRun': WHATEVER THE INPUT: true; the input reads as it did. -/
def machineRunSpec : ChangeSpec := { name := "machineRun", fn := fun _ => fun
  | [d1, d2] => { results := [.lit (.bool true)], args := [d1, d2] }
  | _ => none }
def machineRunRow : OpenClaim := { program := "ytlblcfaclmpekaagreat", sum := "2a3ea816e3fbef3100823248d3b799e3bf41926e60607c1c052783b411b8a3be", func := "chatelaine/chatelainelaw15.MachineRun", spec := "machineRun", unfollowed := true, recurses := true, plainKeys := false, apart := false }
def MachineRunSaid : Prop := machineRunRow.holds Tryz.pinned (OpenSpec.ofChange machineRunSpec)

/-- ITS FALSE NEIGHBOUR: 'it returns false'. Refute it at one input. -/
def machineRunWrong : ChangeSpec := { name := "machineRun", fn := fun _ => fun
  | [d1, d2] => { results := [.lit (.bool false)], args := [d1, d2] }
  | _ => none }
def MachineRunWrongFalsely : Prop := machineRunRow.holds Tryz.pinned (OpenSpec.ofChange machineRunWrong)

/-- 'chatelainelaw15.MachineOf': WHATEVER THE INPUT: true; the input reads as it did. -/
def machineOfSpec : ChangeSpec := { name := "machineOf", fn := fun _ => fun
  | [d1, d2, d3] => { results := [.lit (.bool true)], args := [d1, d2, d3] }
  | _ => none }
def machineOfRow : OpenClaim := { program := "ytlblcfaclmpekaagreat", sum := "2a3ea816e3fbef3100823248d3b799e3bf41926e60607c1c052783b411b8a3be", func := "chatelaine/chatelainelaw15.MachineOf", spec := "machineOf", unfollowed := true, recurses := true, plainKeys := false, apart := false }
def MachineOfSaid : Prop := machineOfRow.holds Tryz.pinned (OpenSpec.ofChange machineOfSpec)

/-- ITS FALSE NEIGHBOUR: 'it returns false'. Refute it at one input. -/
def machineOfWrong : ChangeSpec := { name := "machineOf", fn := fun _ => fun
  | [d1, d2, d3] => { results := [.lit (.bool false)], args := [d1, d2, d3] }
  | _ => none }
def MachineOfWrongFalsely : Prop := machineOfRow.holds Tryz.pinned (OpenSpec.ofChange machineOfWrong)

/-- 'chatelainelaw15.MachineNever': WHATEVER THE INPUT: true; the input reads as it did. -/
def machineNeverSpec : ChangeSpec := { name := "machineNever", fn := fun _ => fun
  | [d1, d2, d3] => { results := [.lit (.bool true)], args := [d1, d2, d3] }
  | _ => none }
def machineNeverRow : OpenClaim := { program := "ytlblcfaclmpekaagreat", sum := "2a3ea816e3fbef3100823248d3b799e3bf41926e60607c1c052783b411b8a3be", func := "chatelaine/chatelainelaw15.MachineNever", spec := "machineNever", unfollowed := true, recurses := true, plainKeys := false, apart := false }
def MachineNeverSaid : Prop := machineNeverRow.holds Tryz.pinned (OpenSpec.ofChange machineNeverSpec)

/-- ITS FALSE NEIGHBOUR: 'it returns false'. Refute it at one input. -/
def machineNeverWrong : ChangeSpec := { name := "machineNever", fn := fun _ => fun
  | [d1, d2, d3] => { results := [.lit (.bool false)], args := [d1, d2, d3] }
  | _ => none }
def MachineNeverWrongFalsely : Prop := machineNeverRow.holds Tryz.pinned (OpenSpec.ofChange machineNeverWrong)

/-- 'chatelainelaw15.MachineCopies': WHATEVER THE INPUT: true; the input reads as it did. -/
def machineCopiesSpec : ChangeSpec := { name := "machineCopies", fn := fun _ => fun
  | [d1, d2, d3] => { results := [.lit (.bool true)], args := [d1, d2, d3] }
  | _ => none }
def machineCopiesRow : OpenClaim := { program := "ytlblcfaclmpekaagreat", sum := "2a3ea816e3fbef3100823248d3b799e3bf41926e60607c1c052783b411b8a3be", func := "chatelaine/chatelainelaw15.MachineCopies", spec := "machineCopies", unfollowed := true, recurses := true, plainKeys := false, apart := false }
def MachineCopiesSaid : Prop := machineCopiesRow.holds Tryz.pinned (OpenSpec.ofChange machineCopiesSpec)

/-- ITS FALSE NEIGHBOUR: 'it returns false'. Refute it at one input. -/
def machineCopiesWrong : ChangeSpec := { name := "machineCopies", fn := fun _ => fun
  | [d1, d2, d3] => { results := [.lit (.bool false)], args := [d1, d2, d3] }
  | _ => none }
def MachineCopiesWrongFalsely : Prop := machineCopiesRow.holds Tryz.pinned (OpenSpec.ofChange machineCopiesWrong)

/-- 'chatelainelaw15.MachineNil': WHATEVER THE INPUT: true; the input reads as it did. -/
def machineNilSpec : ChangeSpec := { name := "machineNil", fn := fun _ => fun
  | [d] => { results := [.lit (.bool true)], args := [d] }
  | _ => none }
def machineNilRow : OpenClaim := { program := "ytlblcfaclmpekaagreat", sum := "2a3ea816e3fbef3100823248d3b799e3bf41926e60607c1c052783b411b8a3be", func := "chatelaine/chatelainelaw15.MachineNil", spec := "machineNil", unfollowed := true, recurses := true, plainKeys := false, apart := false }
def MachineNilSaid : Prop := machineNilRow.holds Tryz.pinned (OpenSpec.ofChange machineNilSpec)

/-- ITS FALSE NEIGHBOUR: 'it returns false'. Refute it at one input. -/
def machineNilWrong : ChangeSpec := { name := "machineNil", fn := fun _ => fun
  | [d] => { results := [.lit (.bool false)], args := [d] }
  | _ => none }
def MachineNilWrongFalsely : Prop := machineNilRow.holds Tryz.pinned (OpenSpec.ofChange machineNilWrong)

/- THE SECOND FORM. 'bulk': how many values and letters a reading holds, each counted each time it is reached (what is shared counts as often as it is met; a slice's spare places count too). A statement '..UptoSaid' is the law's where the arguments, and the package variables that the reading takes, are together of bulk at most 1048576: NARROWER than '..Said'. Prove '..Said' where nothing that the law and all that it calls make is longer than what came in: it says more and counts as full. Else prove '..UptoSaid'. A law counts once. -/
mutual
def uptoBulk {H : Type} : DataW H → Nat
  | .lit (.string bytes) => bytes.length + 1
  | .lit _ => 1
  | .nil => 1
  | .ptr d => uptoBulk d + 1
  | .slice elems spare => uptoBulkAll elems + uptoBulkAll spare + 1
  | .agg parts => uptoBulkAll parts + 1
  | .iface _ d => uptoBulk d + 1
  | .map entries => uptoBulkEntries entries + 1
  | .held _ => 1
def uptoBulkAll {H : Type} : List (DataW H) → Nat
  | [] => 0
  | d :: r => uptoBulk d + uptoBulkAll r
def uptoBulkEntries {H : Type} : List (Lit × DataW H) → Nat
  | [] => 0
  | x :: r => uptoBulkEntry x + uptoBulkEntries r
def uptoBulkEntry {H : Type} : Lit × DataW H → Nat
  | (.string bytes, d) => bytes.length + uptoBulk d + 1
  | (_, d) => uptoBulk d + 1
 end
def uptoSmall : (H : Type) → List (DataW H) → Bool := fun _ ds => decide (uptoBulkAll ds ≤ 1048576)
def OpenSpec.upto (s : _root_.Go.ChangeSpec) : _root_.Go.OpenSpec := { _root_.Go.OpenSpec.ofChange s with cond := some uptoSmall }

/-- 'chatelainelaw15.MachinePlay', WHERE WHAT IT READS IS OF BULK AT MOST 1048576: true; the input reads as it did. -/
def machinePlayUptoRow : OpenClaim := { program := "ytlblcfaclmpekaagreat", sum := "2a3ea816e3fbef3100823248d3b799e3bf41926e60607c1c052783b411b8a3be", func := "chatelaine/chatelainelaw15.MachinePlay", spec := "machinePlay", unfollowed := true, recurses := true, plainKeys := false, apart := false, narrowed := true }
def MachinePlayUptoSaid : Prop := machinePlayUptoRow.holds Tryz.pinned (OpenSpec.upto machinePlaySpec)

/-- 'chatelainelaw15.MachineTicks', WHERE WHAT IT READS IS OF BULK AT MOST 1048576: true; the input reads as it did. -/
def machineTicksUptoRow : OpenClaim := { program := "ytlblcfaclmpekaagreat", sum := "2a3ea816e3fbef3100823248d3b799e3bf41926e60607c1c052783b411b8a3be", func := "chatelaine/chatelainelaw15.MachineTicks", spec := "machineTicks", unfollowed := true, recurses := true, plainKeys := false, apart := false, narrowed := true }
def MachineTicksUptoSaid : Prop := machineTicksUptoRow.holds Tryz.pinned (OpenSpec.upto machineTicksSpec)

/-- 'chatelainelaw15.MachineRun', WHERE WHAT IT READS IS OF BULK AT MOST 1048576: true; the input reads as it did. -/
def machineRunUptoRow : OpenClaim := { program := "ytlblcfaclmpekaagreat", sum := "2a3ea816e3fbef3100823248d3b799e3bf41926e60607c1c052783b411b8a3be", func := "chatelaine/chatelainelaw15.MachineRun", spec := "machineRun", unfollowed := true, recurses := true, plainKeys := false, apart := false, narrowed := true }
def MachineRunUptoSaid : Prop := machineRunUptoRow.holds Tryz.pinned (OpenSpec.upto machineRunSpec)

/-- 'chatelainelaw15.MachineOf', WHERE WHAT IT READS IS OF BULK AT MOST 1048576: true; the input reads as it did. -/
def machineOfUptoRow : OpenClaim := { program := "ytlblcfaclmpekaagreat", sum := "2a3ea816e3fbef3100823248d3b799e3bf41926e60607c1c052783b411b8a3be", func := "chatelaine/chatelainelaw15.MachineOf", spec := "machineOf", unfollowed := true, recurses := true, plainKeys := false, apart := false, narrowed := true }
def MachineOfUptoSaid : Prop := machineOfUptoRow.holds Tryz.pinned (OpenSpec.upto machineOfSpec)

/-- 'chatelainelaw15.MachineNever', WHERE WHAT IT READS IS OF BULK AT MOST 1048576: true; the input reads as it did. -/
def machineNeverUptoRow : OpenClaim := { program := "ytlblcfaclmpekaagreat", sum := "2a3ea816e3fbef3100823248d3b799e3bf41926e60607c1c052783b411b8a3be", func := "chatelaine/chatelainelaw15.MachineNever", spec := "machineNever", unfollowed := true, recurses := true, plainKeys := false, apart := false, narrowed := true }
def MachineNeverUptoSaid : Prop := machineNeverUptoRow.holds Tryz.pinned (OpenSpec.upto machineNeverSpec)

/-- 'chatelainelaw15.MachineCopies', WHERE WHAT IT READS IS OF BULK AT MOST 1048576: true; the input reads as it did. -/
def machineCopiesUptoRow : OpenClaim := { program := "ytlblcfaclmpekaagreat", sum := "2a3ea816e3fbef3100823248d3b799e3bf41926e60607c1c052783b411b8a3be", func := "chatelaine/chatelainelaw15.MachineCopies", spec := "machineCopies", unfollowed := true, recurses := true, plainKeys := false, apart := false, narrowed := true }
def MachineCopiesUptoSaid : Prop := machineCopiesUptoRow.holds Tryz.pinned (OpenSpec.upto machineCopiesSpec)

/-- 'chatelainelaw15.MachineNil', WHERE WHAT IT READS IS OF BULK AT MOST 1048576: true; the input reads as it did. -/
def machineNilUptoRow : OpenClaim := { program := "ytlblcfaclmpekaagreat", sum := "2a3ea816e3fbef3100823248d3b799e3bf41926e60607c1c052783b411b8a3be", func := "chatelaine/chatelainelaw15.MachineNil", spec := "machineNil", unfollowed := true, recurses := true, plainKeys := false, apart := false, narrowed := true }
def MachineNilUptoSaid : Prop := machineNilUptoRow.holds Tryz.pinned (OpenSpec.upto machineNilSpec)

end Rows
end Go.Proofs.YtlblcfaclmpekaaGreat
