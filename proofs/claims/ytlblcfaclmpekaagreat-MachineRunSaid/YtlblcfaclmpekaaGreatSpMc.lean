import Derived.Test.YtlblcfaclmpekaaGreatSpMb
import Derived.Test.YtlblcfaclmpekaaGreatSQ
set_option linter.unusedSimpArgs false
set_option linter.unusedVariables false
set_option maxRecDepth 100000
namespace Go.Sx
theorem L5 {L:List Obj} {i:Int} {m:bh} (hL:ar L):ar (j7 L i m):=by
 unfold j7;split
 ·rename_i hE
  have hm:h9 L m=true/\bV L i=1:=by
   unfold iY at hE;split at hE
   ·omega
   ·split at hE
    ·omega
    ·split at hE
     ·omega
     ·rename_i h1 h2;exact⟨by simpa using h1,by omega⟩
  obtain⟨a,b,c,d⟩:=qS (sD.1.1 (by omega:0<=bV L i))
  obtain⟨f0,f1,f2⟩:=Am (by have:=jm hL;omega:0<L.length) m
  exact jj hL (Dp (cH hL i.toNat (by omega)) d f0 f1 f2 (wV (by omega)))
 ·exact hL
theorem Pu {L:List Obj} {n:Int} {p:k7} (hL:ar L):ar (eu L n p):=by
 unfold eu;split
 ·split
  ·exact QG hL
  ·unfold Ei;have h1:ar (gZ L n p):=Hw hL;split
   ·split
    ·exact L5 h1
    ·split
     ·exact Dc h1
     ·exact h1
   ·exact h1
 ·exact hL
theorem Rv {n:Int} {p:k7} (hn:gF n):gF (gA n p):=by
 unfold gA;split
 ·rename_i h;obtain⟨hr,hk⟩:=h;unfold dO at hr;rw[VN hk]at hr;simp only[VG,VH]at hr;unfold gF at hn⊢;omega
 ·exact hn
end Go.Sx
