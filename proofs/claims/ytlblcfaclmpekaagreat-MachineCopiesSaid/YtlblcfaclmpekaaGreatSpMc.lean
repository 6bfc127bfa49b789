import Derived.Test.YtlblcfaclmpekaaGreatSpMb
import Derived.Test.YtlblcfaclmpekaaGreatSQ
set_option linter.unusedSimpArgs false
set_option linter.unusedVariables false
set_option maxRecDepth 100000
namespace Go.Sx
theorem NX {L:List Obj} {i:Int} {m:bk} (hL:aw L):aw (j6 L i m):=by
 unfold j6;split
 ·rename_i hE
  have hm:g8 L m=true/\bW L i=1:=by
   unfold je at hE;split at hE
   ·omega
   ·split at hE
    ·omega
    ·split at hE
     ·omega
     ·rename_i h1 h2;exact⟨by simpa using h1,by omega⟩
  obtain⟨a,b,c,d⟩:=qV (rA.1.1 (by omega:0<=bW L i))
  obtain⟨f0,f1,f2⟩:=zH (by have:=iN hL;omega:0<L.length) m
  exact jk hL (Cz (cG hL i.toNat (by omega)) d f0 f1 f2 (xa (by omega)))
 ·exact hL
theorem QG {L:List Obj} {n:Int} {p:k9} (hL:aw L):aw (fk L n p):=by
 unfold fk;split
 ·split
  ·exact Qv hL
  ·unfold El;have h1:aw (hJ L n p):=Hn hL;split
   ·split
    ·exact NX h1
    ·split
     ·exact Cm h1
     ·exact h1
   ·exact h1
 ·exact hL
theorem P4 {n:Int} {p:k9} (hn:gF n):gF (jv n p):=by
 unfold jv;split
 ·rename_i h;obtain⟨hr,hk⟩:=h;unfold ec at hr;rw[VR hk]at hr;simp only[VK,VL]at hr;unfold gF at hn⊢;omega
 ·exact hn
end Go.Sx
