/- Nodes in plain Lean: what names functions and types of nodes. No condition. -/
import Derived.Test.YtijgfnpbojfmdaaKS
set_option linter.unusedVariables false
set_option linter.unusedSimpArgs false
namespace Go.Sx
def wkX (nid : Nat) : V := .mp nid
def wkN (nid : Nat) : List Res := [.mp .i64 [2, 3, 1, 8] [.fn 94 [.lp (nid + 1) 0], .fn 94 [.lp (nid + 1 + 1) 0], .fn 92 [], .fn 92 []],
  .blk 32 (.ci .i64 3), .blk 32 (.ci .i64 1)]
def tN : Nat := 146
def clR (L : List Obj) (t f : Key) (g : Int) : Res := .blk tN (.ag [.ob (q_sls (q_nobj L t) (q_cloS L t f g)), .lp 0 0, .key t])
end Go.Sx
