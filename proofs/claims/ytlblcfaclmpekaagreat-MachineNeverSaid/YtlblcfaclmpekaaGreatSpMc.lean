import Derived.Test.YtlblcfaclmpekaaGreatSpMb
import Derived.Test.YtlblcfaclmpekaaGreatSQ
set_option linter.unusedSimpArgs false
set_option linter.unusedVariables false
set_option maxRecDepth 100000
namespace Go.Sx
theorem Na {L:List Obj} {i:Int} {m:bh} (hL:aq L):aq (jF L i m):=by
 unfold jF;split
 ·rename_i hE
  have hm:ie L m=true/\bV L i=1:=by
   unfold jh at hE;split at hE
   ·omega
   ·split at hE
    ·omega
    ·split at hE
     ·omega
     ·rename_i h1 h2;exact⟨by simpa using h1,by omega⟩
  obtain⟨a,b,c,d⟩:=rF (si.1.1 (by omega:0<=bV L i))
  obtain⟨f0,f1,f2⟩:=Al (by have:=gf hL;omega:0<L.length) m
  exact jS hL (Dw (cm hL i.toNat (by omega)) d f0 f1 f2 (wh (by omega)))
 ·exact hL
theorem Lz {L:List Obj} {n:Int} {p:ke} (hL:aq L):aq (er L n p):=by
 unfold er;split
 ·split
  ·exact Q5 hL
  ·unfold Bc;have h1:aq (gT L n p):=KN hL;split
   ·split
    ·exact Na h1
    ·split
     ·exact DZ h1
     ·exact h1
   ·exact h1
 ·exact hL
theorem SG {n:Int} {p:ke} (hn:gH n):gH (me n p):=by
 unfold me;split
 ·rename_i h;obtain⟨hr,hk⟩:=h;unfold eu at hr;rw[Xv hk]at hr;simp only[Xo,Xp]at hr;unfold gH at hn⊢;omega
 ·exact hn
end Go.Sx
