import Derived.Test.YtlblcfaclmpekaaGreatSpMb
import Derived.Test.YtlblcfaclmpekaaGreatSQ
set_option linter.unusedSimpArgs false
set_option linter.unusedVariables false
set_option maxRecDepth 100000
namespace Go.Sx
theorem Me {L:List Obj} {i:Int} {m:bd} (hL:an L):an (jO L i m):=by
 unfold jO;split
 ·rename_i hE
  have hm:gR L m=true/\bP L i=1:=by
   unfold iN at hE;split at hE
   ·omega
   ·split at hE
    ·omega
    ·split at hE
     ·omega
     ·rename_i h1 h2;exact⟨by simpa using h1,by omega⟩
  obtain⟨a,b,c,d⟩:=qy (rA.1.1 (by omega:0<=bP L i))
  obtain⟨f0,f1,f2⟩:=zt (by have:=jy hL;omega:0<L.length) m
  exact jD hL (C5 (cz hL i.toNat (by omega)) d f0 f1 f2 (wT (by omega)))
 ·exact hL
theorem QN {L:List Obj} {n:Int} {p:kh} (hL:an L):an (eI L n p):=by
 unfold eI;split
 ·split
  ·exact OQ hL
  ·unfold Dx;have h1:an (gQ L n p):=Hl hL;split
   ·split
    ·exact Me h1
    ·split
     ·exact Cj h1
     ·exact h1
   ·exact h1
 ·exact hL
theorem O3 {n:Int} {p:kh} (hn:jf n):jf (fg n p):=by
 unfold fg;split
 ·rename_i h;obtain⟨hr,hk⟩:=h;unfold dU at hr;rw[U0 hk]at hr;simp only[US,UT]at hr;unfold jf at hn⊢;omega
 ·exact hn
theorem C4 (L:List Obj) (n:Int) {p:kh} (hk:p.kind=2):let F:=(decide (0<=p.val)&&decide (p.val<=1099511627776)&&decide (n<=4611686018427387904-p.val));decide (lF n p=0)=F/\(F=true->(aI L n p).out=5/\fg n p=n+p.val)/\(F=false->fg n p=n):=by
 intro F;have hr:dU p n=F:=by unfold dU;rw[U0 hk]
 refine⟨?_,fun h=>⟨?_,?_⟩,fun h=>?_⟩
 ·unfold lF;rw[hr];cases F<;>rfl
 ·unfold aI;rw[U0 (hr.trans h),U0 hk]
 ·unfold fg;rw[U0 ⟨hr.trans h,hk⟩]
 ·unfold fg;rw[UZ (fun hh=>by have:=hr.symm.trans hh.1;rw[h]at this;simp at this)]
theorem OR {n:Int} {p:kh} (hk:¬p.kind=2):fg n p=n:=by unfold fg;rw[UZ (fun h=>hk h.2)]
end Go.Sx
