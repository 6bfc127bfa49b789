/- What layer 11's laws turn, in plain Lean. No condition. -/
import Derived.Test.YtijgfnpbojfmdaaSpW
import Derived.Test.YtijgfnpbojfmdaaKS
set_option linter.unusedVariables false
set_option linter.unusedSimpArgs false
namespace Go.Sx
def q_inN (n : Nat) (g : Int) : Prop := 0 ≤ g ∧ g ≤ (n : Int)
/-- So many bytes at an address: an error, a fault, its keeper, its address. -/
def q_aE (L : List Obj) (k : Key) (a n : Int) : Int := if q_wE L k a = 0 then (if n < 0 ∨ 64 < n then 4 else 0) else q_wE L k a
def q_aF (L : List Obj) (k : Key) (a n : Int) (w : Bool) : Int := if q_aE L k a n = 0 then (if (q_wR L k a).kd = 0 then (if 64 < (q_wR L k a).adr + n then 5 else if (w && !decide ((q_wR L k a).pos.rights = 0)) = true then 6 else 0) else (q_wR L k a).kd) else 0
def q_aP (L : List Obj) (k : Key) (a n : Int) (w : Bool) : Key := if q_aF L k a n w = 0 then void else (q_wR L k a).kpr
def q_aA (L : List Obj) (k : Key) (a n : Int) (w : Bool) : Int := if q_aF L k a n w = 0 then 0 else a
def q_aC (L : List Obj) (k : Key) (a n : Int) (w : Bool) : Bool := decide (q_aE L k a n = 0) && decide (q_aF L k a n w = 0)
def q_aR (L : List Obj) (k : Key) (a n : Int) (w : Bool) : Wr := if q_aC L k a n w = true then q_wR L k a else wr0
def afV (L : List Obj) (k : Key) (a n : Int) (w : Bool) : V := .ag [.it .i64 (q_aF L k a n w), .key (q_aP L k a n w), .it .i64 (q_aA L k a n w)]
def q_ldS (L : List Obj) (k : Key) (a n : Int) : ByteArray := if q_aC L k a n false = true then q_pread L (q_fP (q_aR L k a n false)) (q_fA (q_aR L k a n false)) n else ⟨#[]⟩
def q_stL (L : List Obj) (k : Key) (a : Int) (s : ByteArray) : List Obj := if q_aC L k a (szI s) true = true then q_pwrL L (q_fP (q_aR L k a (szI s) true)) (q_fA (q_aR L k a (szI s) true)) s else L
def accV (L : List Obj) (k : Key) (a n : Int) (w : Bool) : V := .tp [fndV (q_aR L k a n w), afV L k a n w, .it .i64 (q_aE L k a n)]
def g_acc : Ct := mkR (consA sA (consA kA (consA iA (consA iA (consA bA nilA))))) (fun _ => none) fun x => accV (stL x.1) x.2.1 x.2.2.1 x.2.2.2.1 x.2.2.2.2.1
def g_racc : Ct := mkR (consA liA (consA kA (consA iA (consA iA (consA bA nilA))))) (fun x => some (q_okL x.1)) fun x => accV x.1 x.2.1 x.2.2.1 x.2.2.2.1 x.2.2.2.2.1
def q_pwrC (L : List Obj) (k : Key) (i : Int) (s : ByteArray) : Bool := decide (q_pwrE L k i s = 0)
def h_rwr : HCt := hLx rdKIS (fun L x => q_okL L ∧ q_strOk x.2.2) (fun L x => q_pwrC L x.1 x.2.1 x.2.2) (fun L x => q_pwrL L x.1 x.2.1 x.2.2) fun L x => [.it .i64 (q_pwrE L x.1 x.2.1 x.2.2)]
def q_num (h : Int) : Key := ⟨1, 0, 0, 0, 0, h⟩
def q_fmE (L : List Obj) (k : Key) (h : Int) : Int := if llen L = 0 then 1 else if h < 1 ∨ 8 < h then 2 else q_nputE L k 15 (q_num h)
def q_fmL (L : List Obj) (k : Key) (h : Int) : List Obj := if q_fmE L k h = 0 then q_nputL L k 15 (q_num h) else L
def q_fmC (L : List Obj) (k : Key) (h : Int) : Bool := decide (q_fmE L k h = 0)
def kwB : ArgL (Key × Int × Unit) := consA kA (consA iA nilA)
def g_ld : Ct := mkR (consA sA (consA kA (consA iA (consA iA nilA)))) (fun _ => none) fun x => .tp [.st (q_ldS (stL x.1) x.2.1 x.2.2.1 x.2.2.2.1), afV (stL x.1) x.2.1 x.2.2.1 x.2.2.2.1 false, .it .i64 (q_aE (stL x.1) x.2.1 x.2.2.1 x.2.2.2.1)]
def g_rld : Ct := mkR (consA liA (consA kA (consA iA (consA iA nilA)))) (fun x => some (q_okL x.1)) fun x => .tp [.st (q_ldS x.1 x.2.1 x.2.2.1 x.2.2.2.1), afV x.1 x.2.1 x.2.2.1 x.2.2.2.1 false, .it .i64 (q_aE x.1 x.2.1 x.2.2.1 x.2.2.2.1)]
def h_sst : HCt := hSt rdKIS (fun L x => q_okL L ∧ q_strOk x.2.2) (fun L x => .tp [afV L x.1 x.2.1 (szI x.2.2) true, .it .i64 (q_aE L x.1 x.2.1 (szI x.2.2))]) fun L x => q_stL L x.1 x.2.1 x.2.2
def h_rst : HCt := hLx rdKIS (fun L x => q_okL L ∧ q_strOk x.2.2) (fun L x => q_aC L x.1 x.2.1 (szI x.2.2) true) (fun L x => q_stL L x.1 x.2.1 x.2.2) fun L x => [afV L x.1 x.2.1 (szI x.2.2) true, .it .i64 (q_aE L x.1 x.2.1 (szI x.2.2))]
def h_sfm : HCt := hSt (rdL kwB) (fun L _ => q_okL L) (fun L x => .it .i64 (q_fmE L x.1 x.2.1)) fun L x => q_fmL L x.1 x.2.1
def h_rfm : HCt := hLx (rdL kwB) (fun L _ => q_okL L) (fun L x => q_fmC L x.1 x.2.1) (fun L x => q_fmL L x.1 x.2.1) fun L x => [.it .i64 (q_fmE L x.1 x.2.1)]
theorem kwB_ok : ArgLOK kwB := consA_ok kA_ok (consA_ok iA_ok nilA_ok)
end Go.Sx
