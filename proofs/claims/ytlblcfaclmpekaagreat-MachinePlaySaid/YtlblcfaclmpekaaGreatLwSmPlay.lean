import Derived.Test.YtlblcfaclmpekaaGreatMa4
import Derived.OpenShut
import Derived.Deep.Slices
import Derived.ChangeArms
import Derived.ChangeSame
import Derived.ChangeBook
import Derived.RowKit
import Derived.ProofKit
import Derived.ChangeMaps5
import Derived.SizedLaws
import Derived.Handed
import Derived.Test.YtlblcfaclmpekaaGreatRows
import Derived.WalkKit
import Derived.JoinedOf
set_option linter.unusedSimpArgs false
set_option linter.unusedVariables false
set_option maxRecDepth 100000
namespace Go.Proofs.YtlblcfaclmpekaaGreat
open Go.Sx
theorem Pb (L:List Sx.Obj) (n:Int) (k:Key) (m:bp) (hL:aq L) (hs:aw m.data):
 true=true/\true=true/\true=true/\true=true/\true=true/\(bp.mk 0 eB void void (Key.mk 1 void.oid void.count void.call void.rights k.value),L)=aP L n (kk 1 k) (mm 1 m):=by
 simp+decide [aP,en,eF,dI,eJ,ey,eo,dC,dv,cX,de,eY,fu,gg,gm,bL,void,cY,eB,aS,dZ,fO,fl,kk,mm,hL,hs];try grind
theorem MS (L:List Sx.Obj) (n:Int) (k:Key) (m:bp) (hL:aq L) (hs:aw m.data):an Tryz.prog 102 [.lp 0 0] [.ro (.blk oP (iU (.ci .i64 1) m n (.ci .i64 1) k)),.store tS eS L] (kO (aP L n ((kk 1 k)) ((mm 1 m)))) (fun _ _=>False):=
 aY (inl:=(fun f=>f==131||f==142||f==152||f==146||f==202||f==185||f==227||f==177||f==148||f==174||f==173||f==132||f==144||f==184||f==188||f==143)) (ann:=aQ) (ae dz ar) aE (eP bZ) (Pb L n k m hL hs) (by kernel_rfl)
theorem LH (L:List Sx.Obj) (n:Int) (k:Key) (m:bp) (hL:aq L) (hs:aw m.data):
 abb (abb (abb (abb (abb (abb (aba (!decide (m.k2.kind=1)) ((bp.mk 240 eB void void void,L)=aP L n (kk 2 k) (mm 1 m)) (aba (decide (m.k2.value<0)||decide (2147483647<m.k2.value)) (abb (abb (abb (aba (!decide (bY L (kk 2 k) (-1)=0)) ((bp.mk (bY L (kk 2 k) (-1)) eB void void void,L)=aP L n (kk 2 k) (mm 1 m)) ((bp.mk 0 eB (aJ L (kk 2 k) (-1)) void void,L)=aP L n (kk 2 k) (mm 1 m)))))) (abb (abb (abb (aba (!decide (bY L (kk 2 k) m.k2.value=0)) ((bp.mk (bY L (kk 2 k) m.k2.value) eB void void void,L)=aP L n (kk 2 k) (mm 1 m)) ((bp.mk 0 eB (aJ L (kk 2 k) m.k2.value) void void,L)=aP L n (kk 2 k) (mm 1 m))))))))))))):=by
 delta aba abb
 simp+decide [aP,en,eF,dI,eJ,ey,eo,dC,dv,cX,de,eY,fu,gg,gm,bL,void,cY,eB,aS,dZ,fO,fl,kk,mm,hL,hs];try grind
theorem Pu (L:List Sx.Obj) (n:Int) (k:Key) (m:bp) (hL:aq L) (hs:aw m.data):an Tryz.prog 102 [.lp 0 0] [.ro (.blk oP (iU (.ci .i64 1) m n (.ci .i64 2) k)),.store tS eS L] (kO (aP L n ((kk 2 k)) ((mm 1 m)))) (fun _ _=>False):=
 aY (inl:=(fun f=>f==131||f==142||f==152||f==146||f==202||f==185||f==227||f==177||f==148||f==174||f==173||f==132||f==144||f==184||f==188||f==145)) (ann:=aQ) (ae sQ (ae dz ar)) aE (eP bZ) (LH L n k m hL hs) (by kernel_rfl)
theorem Pf (L:List Sx.Obj) (n:Int) (k:Key) (m:bp) (hL:aq L) (hs:aw m.data):
 abb (abb (abb (abb (abb (abb (aba (!decide (m.k2.kind=1)) ((bp.mk 240 eB void void void,L)=aP L n (kk 2 k) (mm 2 m)) (aba (decide (m.k2.value<0)||decide (2147483647<m.k2.value)) (abb (aq L/\abb (abb (abb (aba (!decide (bj L (kk 2 k) (-1) m.k0=0)) ((bp.mk (bj L (kk 2 k) (-1) m.k0) eB void void void,cC L (kk 2 k) (-1) m.k0)=aP L n (kk 2 k) (mm 2 m)) ((bp.mk 0 eB (cT L (kk 2 k) (-1) m.k0) void void,cC L (kk 2 k) (-1) m.k0)=aP L n (kk 2 k) (mm 2 m))))))) (abb (aq L/\abb (abb (abb (aba (!decide (bj L (kk 2 k) m.k2.value m.k0=0)) ((bp.mk (bj L (kk 2 k) m.k2.value m.k0) eB void void void,cC L (kk 2 k) m.k2.value m.k0)=aP L n (kk 2 k) (mm 2 m)) ((bp.mk 0 eB (cT L (kk 2 k) m.k2.value m.k0) void void,cC L (kk 2 k) m.k2.value m.k0)=aP L n (kk 2 k) (mm 2 m)))))))))))))):=by
 delta aba abb
 simp+decide [aP,en,eF,dI,eJ,ey,eo,dC,dv,cX,de,eY,fu,gg,gm,bL,void,cY,eB,aS,dZ,fO,fl,kk,mm,hL,hs];try grind
theorem Mi (L:List Sx.Obj) (n:Int) (k:Key) (m:bp) (hL:aq L) (hs:aw m.data):an Tryz.prog 102 [.lp 0 0] [.ro (.blk oP (iU (.ci .i64 2) m n (.ci .i64 2) k)),.store tS eS L] (kO (aP L n ((kk 2 k)) ((mm 2 m)))) (fun _ _=>False):=
 aY (inl:=(fun f=>f==131||f==142||f==152||f==146||f==202||f==185||f==227||f==177||f==148||f==174||f==173||f==132||f==144||f==184||f==188||f==149)) (ann:=aQ) (ae dz ar) (aC Hk aE) (eP bZ) (Pf L n k m hL hs) (by kernel_rfl)
theorem L4 (L:List Sx.Obj) (n:Int) (k:Key) (m:bp) (hL:aq L) (hs:aw m.data):
 abb (abb (abb (abb (aq L/\abb (abb (aba (!decide (aB L (kk 2 k) 2 true=0)) ((bp.mk (aB L (kk 2 k) 2 true) eB void void void,fA L (kk 2 k))=aP L n (kk 2 k) (mm 3 m)) ((bp.mk 0 eB void void void,fA L (kk 2 k))=aP L n (kk 2 k) (mm 3 m)))))))):=by
 delta aba abb
 simp+decide [aP,en,eF,dI,eJ,ey,eo,dC,dv,cX,de,eY,fu,gg,gm,bL,void,cY,eB,aS,dZ,fO,fl,kk,mm,hL,hs];try grind
theorem KX (L:List Sx.Obj) (n:Int) (k:Key) (m:bp) (hL:aq L) (hs:aw m.data):an Tryz.prog 102 [.lp 0 0] [.ro (.blk oP (iU (.ci .i64 3) m n (.ci .i64 2) k)),.store tS eS L] (kO (aP L n ((kk 2 k)) ((mm 3 m)))) (fun _ _=>False):=
 aY (inl:=(fun f=>f==131||f==142||f==152||f==146||f==202||f==185||f==227||f==177||f==148||f==174||f==173||f==132||f==144||f==184||f==188||f==151)) (ann:=aQ) (ae dz ar) (aC RC aE) (eP bZ) (L4 L n k m hL hs) (by kernel_rfl)
theorem MX (L:List Sx.Obj) (n:Int) (k:Key) (m:bp) (hL:aq L) (hs:aw m.data):
 abb (abb (abb (abb (aq L/\abb (abb (aba (!decide (bT L (kk 2 k) m.k0=0)) ((bp.mk (bT L (kk 2 k) m.k0) eB void void void,eT L (kk 2 k) m.k0)=aP L n (kk 2 k) (mm 4 m)) ((bp.mk 0 eB void void void,eT L (kk 2 k) m.k0)=aP L n (kk 2 k) (mm 4 m)))))))):=by
 delta aba abb
 simp+decide [aP,en,eF,dI,eJ,ey,eo,dC,dv,cX,de,eY,fu,gg,gm,bL,void,cY,eB,aS,dZ,fO,fl,kk,mm,hL,hs];try grind
theorem PZ (L:List Sx.Obj) (n:Int) (k:Key) (m:bp) (hL:aq L) (hs:aw m.data):an Tryz.prog 102 [.lp 0 0] [.ro (.blk oP (iU (.ci .i64 4) m n (.ci .i64 2) k)),.store tS eS L] (kO (aP L n ((kk 2 k)) ((mm 4 m)))) (fun _ _=>False):=
 aY (inl:=(fun f=>f==131||f==142||f==152||f==146||f==202||f==185||f==227||f==177||f==148||f==174||f==173||f==132||f==144||f==184||f==188||f==154)) (ann:=aQ) (ae dz ar) (aC Rn aE) (eP bZ) (MX L n k m hL hs) (by kernel_rfl)
theorem Pd (L:List Sx.Obj) (n:Int) (k:Key) (m:bp) (hL:aq L) (hs:aw m.data) (hk:aV (kk 2 k)=true):
 abb (abb (abb (abb (abb (aba (!decide (m.k2.kind=1)) ((bp.mk 240 eB void void void,L)=aP L n (kk 2 k) (mm 5 m)) (abb (aba (!(decide (0<=m.k2.value)&&decide (m.k2.value<=7))) ((bp.mk 2 eB void void void,L)=aP L n (kk 2 k) (mm 5 m)) (iK (kk 2 k) m.k2.value/\abb (abb (abb ((bp.mk 0 eB (jz (kk 2 k) m.k2.value) void void,L)=aP L n (kk 2 k) (mm 5 m)))))))))))):=by
 delta aba abb
 have hX:aP L n (kk 2 k) (mm 5 m)=if m.k2.kind=1 then(if 0<=m.k2.value/\m.k2.value<=7 then(eY (jz (kk 2 k) m.k2.value),L)else(gg 2,L))else(gg 240,L):=by
  by_cases h1:m.k2.kind=1
  ·by_cases h2:0<=m.k2.value/\m.k2.value<=7
   ·simp+decide [aP,en,eF,dI,eJ,ey,eo,dC,dv,cX,de,eY,fu,gg,gm,bL,void,cY,eB,aS,dZ,fO,fl,kk,mm,h1,h2]
   ·simp+decide [aP,en,eF,dI,eJ,ey,eo,dC,dv,cX,de,eY,fu,gg,gm,bL,void,cY,eB,aS,dZ,fO,fl,kk,mm,h1,h2]
  ·simp+decide [aP,en,eF,dI,eJ,ey,eo,dC,dv,cX,de,eY,fu,gg,gm,bL,void,cY,eB,aS,dZ,fO,fl,kk,mm,h1]
 rw[hX];refine⟨rfl,rfl,rfl,rfl,rfl,fun h=>?_,fun h=>⟨rfl,fun h'=>?_,fun h'=>⟨⟨hk,?_⟩,rfl,rfl,rfl,?_⟩⟩⟩
 ·have h:¬m.k2.kind=1:=by simpa using h
  rw[aa1 h];rfl
 ·have h:m.k2.kind=1:=by simpa using h
  have h':¬(0<=m.k2.value/\m.k2.value<=7):=fun hh=>by simp[hh.1,hh.2]at h'
  rw[aa2 h,aa1 h'];rfl
 ·simpa using h'
 ·have h:m.k2.kind=1:=by simpa using h
  have h':0<=m.k2.value/\m.k2.value<=7:=by simpa using h'
  rw[aa2 h,aa2 h'];rfl
theorem QH (L:List Sx.Obj) (n:Int) (k:Key) (m:bp) (hL:aq L) (hs:aw m.data) (hk:aV (kk 2 k)=true):an Tryz.prog 102 [.lp 0 0] [.ro (.blk oP (iU (.ci .i64 5) m n (.ci .i64 2) k)),.store tS eS L] (kO (aP L n ((kk 2 k)) ((mm 5 m)))) (fun _ _=>False):=
 aY (inl:=(fun f=>f==131||f==142||f==152||f==146||f==202||f==185||f==227||f==177||f==148||f==174||f==173||f==132||f==144||f==184||f==188||f==156)) (ann:=aQ) (ae FE (ae dz ar)) aE (eP bZ) (Pd L n k m hL hs hk) (by kernel_rfl)
theorem Qm (L:List Sx.Obj) (n:Int) (k:Key) (m:bp) (hL:aq L) (hs:aw m.data):
 abb (abb (abb (abb (aba (!decide (k.rights=0)) ((bp.mk 191 eB void void void,L)=aP L n (kk 2 k) (mm 6 m)) (abb (abb (abb ((bp.mk 0 eB (abE 5 k void.value) void void,L)=aP L n (kk 2 k) (mm 6 m))))))))):=by
 delta aba abE abb
 simp+decide [aP,en,eF,dI,eJ,ey,eo,dC,dv,cX,de,eY,fu,gg,gm,bL,void,cY,eB,aS,dZ,fO,fl,kk,mm,hL,hs];try grind
theorem Ql (L:List Sx.Obj) (n:Int) (k:Key) (m:bp) (hL:aq L) (hs:aw m.data):an Tryz.prog 102 [.lp 0 0] [.ro (.blk oP (iU (.ci .i64 6) m n (.ci .i64 2) k)),.store tS eS L] (kO (aP L n ((kk 2 k)) ((mm 6 m)))) (fun _ _=>False):=
 aY (inl:=(fun f=>f==131||f==142||f==152||f==146||f==202||f==185||f==227||f==177||f==148||f==174||f==173||f==132||f==144||f==184||f==188||f==157)) (ann:=aQ) (ae dz ar) aE (eP bZ) (Qm L n k m hL hs) (by kernel_rfl)
abbrev abF:=imax 0 (lT 32 (Int.ofNat (64+Nat.succ 0)))
theorem Nm (L:List Sx.Obj) (n:Int) (k:Key) (m:bp) (hL:aq L) (hs:aw m.data):
 abb (abb (abb (abb (abb (abb (aba (!decide (m.k2.kind=1)) ((bp.mk 240 eB void void void,L)=aP L n (kk 3 k) (mm 1 m)) (aba (decide (m.k2.value<0)||decide (2147483647<m.k2.value)) (abb (abb (abb (aba (!decide (cD L (kk 3 k) (-1) abF=0)) ((bp.mk (cD L (kk 3 k) (-1) abF) eB void void void,L)=aP L n (kk 3 k) (mm 1 m)) ((bp.mk 0 (ec L (kk 3 k) (-1) abF) void void void,L)=aP L n (kk 3 k) (mm 1 m)))))) (aF IntKind.i64 (64-m.k2.value)/\abb (abb (abb (aba (!decide (cD L (kk 3 k) m.k2.value (imax 0 (lT 32 (64-m.k2.value)))=0)) ((bp.mk (cD L (kk 3 k) m.k2.value (imax 0 (lT 32 (64-m.k2.value)))) eB void void void,L)=aP L n (kk 3 k) (mm 1 m)) ((bp.mk 0 (ec L (kk 3 k) m.k2.value (imax 0 (lT 32 (64-m.k2.value)))) void void void,L)=aP L n (kk 3 k) (mm 1 m))))))))))))):=by
 delta aba abF abb
 have hX:aP L n (kk 3 k) (mm 1 m)=if m.k2.kind=1 then(if cD L (kk 3 k) (aS m) (qJ (aS m))=0 then(gm (ec L (kk 3 k) (aS m) (qJ (aS m))),L)else(gg (cD L (kk 3 k) (aS m) (qJ (aS m))),L))else(gg 240,L):=by
  by_cases h1:m.k2.kind=1
  ·by_cases h2:cD L (kk 3 k) (aS m) (qJ (aS m))=0
   ·simp+decide [aP,en,eF,dI,eJ,eo,de,show(kk 3 k).kind=3 from rfl,show(mm 1 m).code=1 from rfl,show(mm 1 m).k2=m.k2 from rfl,show aS (mm 1 m)=aS m from rfl,h1,h2]
   ·simp+decide [aP,en,eF,dI,eJ,eo,de,show(kk 3 k).kind=3 from rfl,show(mm 1 m).code=1 from rfl,show(mm 1 m).k2=m.k2 from rfl,show aS (mm 1 m)=aS m from rfl,h1,h2]
  ·simp+decide [aP,en,eF,dI,de,cX,show(kk 3 k).kind=3 from rfl,show(mm 1 m).code=1 from rfl,show(mm 1 m).k2=m.k2 from rfl,h1,cY,gg]
 rw[hX];have e1:∀s,bp.mk 0 s void void void=gm s:=fun _=>rfl
 have e2:∀c,bp.mk c eB void void void=gg c:=fun _=>rfl
 simp only[e1,e2];by_cases h1:m.k2.kind=1
 ·by_cases h2:0<=m.k2.value/\m.k2.value<=2147483647
  ·have hN:aS m=m.k2.value:=by unfold aS;rw[aa2 h2]
   have hR:qJ m.k2.value=imax 0 (lT 32 (64-m.k2.value)):=rfl;have hr:aF .i64 (64-m.k2.value):=by simp only[aF,cc];omega
   rw[hN,hR];simp[h1,h2,hr];grind
  ·have hN:aS m= -1:=by unfold aS;rw[aa1 h2]
   have hR:qJ (-1)=imax 0 (lT 32 65):=rfl;rw[hN,hR];simp[h1];grind
 ·simp[h1]
theorem Nl (L:List Sx.Obj) (n:Int) (k:Key) (m:bp) (hL:aq L) (hs:aw m.data):an Tryz.prog 102 [.lp 0 0] [.ro (.blk oP (iU (.ci .i64 1) m n (.ci .i64 3) k)),.store tS eS L] (kO (aP L n ((kk 3 k)) ((mm 1 m)))) (fun _ _=>False):=
 aY (inl:=(fun f=>f==131||f==142||f==152||f==146||f==202||f==185||f==227||f==177||f==148||f==174||f==173||f==132||f==144||f==184||f==188||f==158)) (ann:=aQ) (ae ph (ae dz ar)) aE (eP bZ) (Nm L n k m hL hs) (by kernel_rfl)
theorem OH (L:List Sx.Obj) (n:Int) (k:Key) (m:bp) (hL:aq L) (hs:aw m.data):
 abb (abb (abb (abb (abb (abb (aba (!decide (m.k2.kind=1)) ((bp.mk 240 eB void void void,L)=aP L n (kk 3 k) (mm 2 m)) (aba (decide (m.k2.value<0)||decide (2147483647<m.k2.value)) (abb ((aq L/\aw m.data)/\abb (abb (aba (!decide (cL L (kk 3 k) (-1) m.data=0)) ((bp.mk (cL L (kk 3 k) (-1) m.data) eB void void void,eZ L (kk 3 k) (-1) m.data)=aP L n (kk 3 k) (mm 2 m)) ((bp.mk 0 eB void void void,eZ L (kk 3 k) (-1) m.data)=aP L n (kk 3 k) (mm 2 m)))))) (abb ((aq L/\aw m.data)/\abb (abb (aba (!decide (cL L (kk 3 k) m.k2.value m.data=0)) ((bp.mk (cL L (kk 3 k) m.k2.value m.data) eB void void void,eZ L (kk 3 k) m.k2.value m.data)=aP L n (kk 3 k) (mm 2 m)) ((bp.mk 0 eB void void void,eZ L (kk 3 k) m.k2.value m.data)=aP L n (kk 3 k) (mm 2 m))))))))))))):=by
 delta aba abb
 simp+decide [aP,en,eF,dI,eJ,ey,eo,dC,dv,cX,de,eY,fu,gg,gm,bL,void,cY,eB,aS,dZ,fO,fl,kk,mm,hL,hs];try grind
theorem QA (L:List Sx.Obj) (n:Int) (k:Key) (m:bp) (hL:aq L) (hs:aw m.data):an Tryz.prog 102 [.lp 0 0] [.ro (.blk oP (iU (.ci .i64 2) m n (.ci .i64 3) k)),.store tS eS L] (kO (aP L n ((kk 3 k)) ((mm 2 m)))) (fun _ _=>False):=
 aY (inl:=(fun f=>f==131||f==142||f==152||f==146||f==202||f==185||f==227||f==177||f==148||f==174||f==173||f==132||f==144||f==184||f==188||f==159)) (ann:=aQ) (ae dz ar) (aC Ds aE) (eP bZ) (OH L n k m hL hs) (by kernel_rfl)
theorem LV (L:List Sx.Obj) (n:Int) (k:Key) (m:bp) (hL:aq L) (hs:aw m.data):
 abb (abb (abb (abb (aq L/\abb (abb (aba (!decide (aW L (kk 3 k) true=0)) ((bp.mk (aW L (kk 3 k) true) eB void void void,fq L (kk 3 k))=aP L n (kk 3 k) (mm 3 m)) ((bp.mk 0 eB void void void,fq L (kk 3 k))=aP L n (kk 3 k) (mm 3 m)))))))):=by
 delta aba abb
 simp+decide [aP,en,eF,dI,eJ,ey,eo,dC,dv,cX,de,eY,fu,gg,gm,bL,void,cY,eB,aS,dZ,fO,fl,kk,mm,hL,hs];try grind
theorem KQ (L:List Sx.Obj) (n:Int) (k:Key) (m:bp) (hL:aq L) (hs:aw m.data):an Tryz.prog 102 [.lp 0 0] [.ro (.blk oP (iU (.ci .i64 3) m n (.ci .i64 3) k)),.store tS eS L] (kO (aP L n ((kk 3 k)) ((mm 3 m)))) (fun _ _=>False):=
 aY (inl:=(fun f=>f==131||f==142||f==152||f==146||f==202||f==185||f==227||f==177||f==148||f==174||f==173||f==132||f==144||f==184||f==188||f==161)) (ann:=aQ) (ae dz ar) (aC Ra aE) (eP bZ) (LV L n k m hL hs) (by kernel_rfl)
theorem LY (L:List Sx.Obj) (n:Int) (k:Key) (m:bp) (hL:aq L) (hs:aw m.data):
 abb (abb (abb (abb (aq L/\abb (abb (aba (!decide (cU L (kk 3 k) m.k0=0)) ((bp.mk (cU L (kk 3 k) m.k0) eB void void void,fM L (kk 3 k) m.k0)=aP L n (kk 3 k) (mm 4 m)) ((bp.mk 0 eB void void void,fM L (kk 3 k) m.k0)=aP L n (kk 3 k) (mm 4 m)))))))):=by
 delta aba abb
 simp+decide [aP,en,eF,dI,eJ,ey,eo,dC,dv,cX,de,eY,fu,gg,gm,bL,void,cY,eB,aS,dZ,fO,fl,kk,mm,hL,hs];try grind
theorem QJ (L:List Sx.Obj) (n:Int) (k:Key) (m:bp) (hL:aq L) (hs:aw m.data):an Tryz.prog 102 [.lp 0 0] [.ro (.blk oP (iU (.ci .i64 4) m n (.ci .i64 3) k)),.store tS eS L] (kO (aP L n ((kk 3 k)) ((mm 4 m)))) (fun _ _=>False):=
 aY (inl:=(fun f=>f==131||f==142||f==152||f==146||f==202||f==185||f==227||f==177||f==148||f==174||f==173||f==132||f==144||f==184||f==188||f==163)) (ann:=aQ) (ae dz ar) (aC VO aE) (eP bZ) (LY L n k m hL hs) (by kernel_rfl)
theorem O3 (L:List Sx.Obj) (n:Int) (k:Key) (m:bp) (hL:aq L) (hs:aw m.data) (hk:aV (kk 3 k)=true):
 abb (abb (abb (abb (abb (aba (!decide (m.k2.kind=1)) ((bp.mk 240 eB void void void,L)=aP L n (kk 3 k) (mm 5 m)) (abb (aba (!(decide (0<=m.k2.value)&&decide (m.k2.value<=7))) ((bp.mk 2 eB void void void,L)=aP L n (kk 3 k) (mm 5 m)) (iK (kk 3 k) m.k2.value/\abb (abb (abb ((bp.mk 0 eB (jz (kk 3 k) m.k2.value) void void,L)=aP L n (kk 3 k) (mm 5 m)))))))))))):=by
 delta aba abb
 have hX:aP L n (kk 3 k) (mm 5 m)=if m.k2.kind=1 then(if 0<=m.k2.value/\m.k2.value<=7 then(eY (jz (kk 3 k) m.k2.value),L)else(gg 2,L))else(gg 240,L):=by
  by_cases h1:m.k2.kind=1
  ·by_cases h2:0<=m.k2.value/\m.k2.value<=7
   ·simp+decide [aP,en,eF,dI,eJ,ey,eo,dC,dv,cX,de,eY,fu,gg,gm,bL,void,cY,eB,aS,dZ,fO,fl,kk,mm,h1,h2]
   ·simp+decide [aP,en,eF,dI,eJ,ey,eo,dC,dv,cX,de,eY,fu,gg,gm,bL,void,cY,eB,aS,dZ,fO,fl,kk,mm,h1,h2]
  ·simp+decide [aP,en,eF,dI,eJ,ey,eo,dC,dv,cX,de,eY,fu,gg,gm,bL,void,cY,eB,aS,dZ,fO,fl,kk,mm,h1]
 rw[hX];refine⟨rfl,rfl,rfl,rfl,rfl,fun h=>?_,fun h=>⟨rfl,fun h'=>?_,fun h'=>⟨⟨hk,?_⟩,rfl,rfl,rfl,?_⟩⟩⟩
 ·have h:¬m.k2.kind=1:=by simpa using h
  rw[aa1 h];rfl
 ·have h:m.k2.kind=1:=by simpa using h
  have h':¬(0<=m.k2.value/\m.k2.value<=7):=fun hh=>by simp[hh.1,hh.2]at h'
  rw[aa2 h,aa1 h'];rfl
 ·simpa using h'
 ·have h:m.k2.kind=1:=by simpa using h
  have h':0<=m.k2.value/\m.k2.value<=7:=by simpa using h'
  rw[aa2 h,aa2 h'];rfl
theorem NV (L:List Sx.Obj) (n:Int) (k:Key) (m:bp) (hL:aq L) (hs:aw m.data) (hk:aV (kk 3 k)=true):an Tryz.prog 102 [.lp 0 0] [.ro (.blk oP (iU (.ci .i64 5) m n (.ci .i64 3) k)),.store tS eS L] (kO (aP L n ((kk 3 k)) ((mm 5 m)))) (fun _ _=>False):=
 aY (inl:=(fun f=>f==131||f==142||f==152||f==146||f==202||f==185||f==227||f==177||f==148||f==174||f==173||f==132||f==144||f==184||f==188||f==156)) (ann:=aQ) (ae FE (ae dz ar)) aE (eP bZ) (O3 L n k m hL hs hk) (by kernel_rfl)
theorem Lt (L:List Sx.Obj) (n:Int) (k:Key) (m:bp) (hL:aq L) (hs:aw m.data):
 abb (abb (abb (abb (aq L/\abb (abb (abb (aba (!decide (cA L (kk 4 k) 1=0)) ((bp.mk (cA L (kk 4 k) 1) eB void void void,fx L (kk 4 k) 1)=aP L n (kk 4 k) (mm 1 m)) ((bp.mk 0 eB (dh L (kk 4 k) 1) void void,fx L (kk 4 k) 1)=aP L n (kk 4 k) (mm 1 m))))))))):=by
 delta aba abb
 simp+decide [aP,en,eF,dI,eJ,ey,eo,dC,dv,cX,de,eY,fu,gg,gm,bL,void,cY,eB,aS,dZ,fO,fl,kk,mm,hL,hs];try grind
theorem NT (L:List Sx.Obj) (n:Int) (k:Key) (m:bp) (hL:aq L) (hs:aw m.data):an Tryz.prog 102 [.lp 0 0] [.ro (.blk oP (iU (.ci .i64 1) m n (.ci .i64 4) k)),.store tS eS L] (kO (aP L n ((kk 4 k)) ((mm 1 m)))) (fun _ _=>False):=
 aY (inl:=(fun f=>f==131||f==142||f==152||f==146||f==202||f==185||f==227||f==177||f==148||f==174||f==173||f==132||f==144||f==184||f==188||f==210)) (ann:=aQ) (ae dz ar) (aC FH aE) (eP bZ) (Lt L n k m hL hs) (by kernel_rfl)
theorem Qv (L:List Sx.Obj) (n:Int) (k:Key) (m:bp) (hL:aq L) (hs:aw m.data):
 abb (abb (abb (abb (aq L/\abb (abb (abb (aba (!decide (cA L (kk 4 k) 2=0)) ((bp.mk (cA L (kk 4 k) 2) eB void void void,fx L (kk 4 k) 2)=aP L n (kk 4 k) (mm 2 m)) ((bp.mk 0 eB (dh L (kk 4 k) 2) void void,fx L (kk 4 k) 2)=aP L n (kk 4 k) (mm 2 m))))))))):=by
 delta aba abb
 simp+decide [aP,en,eF,dI,eJ,ey,eo,dC,dv,cX,de,eY,fu,gg,gm,bL,void,cY,eB,aS,dZ,fO,fl,kk,mm,hL,hs];try grind
theorem QF (L:List Sx.Obj) (n:Int) (k:Key) (m:bp) (hL:aq L) (hs:aw m.data):an Tryz.prog 102 [.lp 0 0] [.ro (.blk oP (iU (.ci .i64 2) m n (.ci .i64 4) k)),.store tS eS L] (kO (aP L n ((kk 4 k)) ((mm 2 m)))) (fun _ _=>False):=
 aY (inl:=(fun f=>f==131||f==142||f==152||f==146||f==202||f==185||f==227||f==177||f==148||f==174||f==173||f==132||f==144||f==184||f==188||f==210)) (ann:=aQ) (ae dz ar) (aC FH aE) (eP bZ) (Qv L n k m hL hs) (by kernel_rfl)
theorem N2 (L:List Sx.Obj) (n:Int) (k:Key) (m:bp) (hL:aq L) (hs:aw m.data):
 abb (abb (abb (abb (aq L/\abb (abb (aba (!decide (cE L (kk 4 k) m.k0=0)) ((bp.mk (cE L (kk 4 k) m.k0) eB void void void,gA L (kk 4 k) m.k0)=aP L n (kk 4 k) (mm 3 m)) ((bp.mk 0 eB void void void,gA L (kk 4 k) m.k0)=aP L n (kk 4 k) (mm 3 m)))))))):=by
 delta aba abb
 simp+decide [aP,en,eF,dI,eJ,ey,eo,dC,dv,cX,de,eY,fu,gg,gm,bL,void,cY,eB,aS,dZ,fO,fl,kk,mm,hL,hs];try grind
theorem Oj (L:List Sx.Obj) (n:Int) (k:Key) (m:bp) (hL:aq L) (hs:aw m.data):an Tryz.prog 102 [.lp 0 0] [.ro (.blk oP (iU (.ci .i64 3) m n (.ci .i64 4) k)),.store tS eS L] (kO (aP L n ((kk 4 k)) ((mm 3 m)))) (fun _ _=>False):=
 aY (inl:=(fun f=>f==131||f==142||f==152||f==146||f==202||f==185||f==227||f==177||f==148||f==174||f==173||f==132||f==144||f==184||f==188||f==166)) (ann:=aQ) (ae dz ar) (aC S9 aE) (eP bZ) (N2 L n k m hL hs) (by kernel_rfl)
theorem Qq (L:List Sx.Obj) (n:Int) (k:Key) (m:bp) (hL:aq L) (hs:aw m.data):
 abb (abb (abb (abb (abb (abb (aba (!decide (m.k2.kind=1)) ((bp.mk 240 eB void void void,L)=aP L n (kk 4 k) (mm 4 m)) (aba (decide (m.k2.value<0)||decide (2147483647<m.k2.value)) (abb (aq L/\abb (abb (abb (aba (!decide (b8 L (kk 4 k) (-1)=0)) ((bp.mk (b8 L (kk 4 k) (-1)) eB void void void,bE L (kk 4 k) (-1))=aP L n (kk 4 k) (mm 4 m)) ((bp.mk 0 eB (ck L (kk 4 k) (-1)) void void,bE L (kk 4 k) (-1))=aP L n (kk 4 k) (mm 4 m))))))) (abb (aq L/\abb (abb (abb (aba (!decide (b8 L (kk 4 k) m.k2.value=0)) ((bp.mk (b8 L (kk 4 k) m.k2.value) eB void void void,bE L (kk 4 k) m.k2.value)=aP L n (kk 4 k) (mm 4 m)) ((bp.mk 0 eB (ck L (kk 4 k) m.k2.value) void void,bE L (kk 4 k) m.k2.value)=aP L n (kk 4 k) (mm 4 m)))))))))))))):=by
 delta aba abb
 simp+decide [aP,en,eF,dI,eJ,ey,eo,dC,dv,cX,de,eY,fu,gg,gm,bL,void,cY,eB,aS,dZ,fO,fl,kk,mm,hL,hs];try grind
theorem P3 (L:List Sx.Obj) (n:Int) (k:Key) (m:bp) (hL:aq L) (hs:aw m.data):an Tryz.prog 102 [.lp 0 0] [.ro (.blk oP (iU (.ci .i64 4) m n (.ci .i64 4) k)),.store tS eS L] (kO (aP L n ((kk 4 k)) ((mm 4 m)))) (fun _ _=>False):=
 aY (inl:=(fun f=>f==131||f==142||f==152||f==146||f==202||f==185||f==227||f==177||f==148||f==174||f==173||f==132||f==144||f==184||f==188||f==168)) (ann:=aQ) (ae dz ar) (aC J7 aE) (eP bZ) (Qq L n k m hL hs) (by kernel_rfl)
theorem PW (L:List Sx.Obj) (n:Int) (k:Key) (m:bp) (hL:aq L) (hs:aw m.data):
 abb (abb (abb (abb (aba (!decide (aN L (kk 4 k)=0)) ((bp.mk (aN L (kk 4 k)) eB void void void,L)=aP L n (kk 4 k) (mm 5 m)) (abb (aba (jF L (kk 4 k) m.k0) (abb (abb ((bp.mk 0 eB void void (abg 1),L)=aP L n (kk 4 k) (mm 5 m)))) (abb (abb ((bp.mk 0 eB void void (abg 0),L)=aP L n (kk 4 k) (mm 5 m)))))))))):=by
 delta aba abg abb
 simp+decide [aP,en,eF,dI,eJ,ey,eo,dC,dv,cX,de,eY,fu,gg,gm,bL,void,cY,eB,aS,dZ,fO,fl,kk,mm,hL,hs];try grind
theorem K5 (L:List Sx.Obj) (n:Int) (k:Key) (m:bp) (hL:aq L) (hs:aw m.data):an Tryz.prog 102 [.lp 0 0] [.ro (.blk oP (iU (.ci .i64 5) m n (.ci .i64 4) k)),.store tS eS L] (kO (aP L n ((kk 4 k)) ((mm 5 m)))) (fun _ _=>False):=
 aY (inl:=(fun f=>f==131||f==142||f==152||f==146||f==202||f==185||f==227||f==177||f==148||f==174||f==173||f==132||f==144||f==184||f==188||f==170)) (ann:=aQ) (ae QG (ae dz ar)) aE (eP bZ) (PW L n k m hL hs) (by kernel_rfl)
theorem NQ (L:List Sx.Obj) (n:Int) (k:Key) (m:bp) (hL:aq L) (hs:aw m.data):
 abb (abb (abb (abb (aq L/\abb (aba (!decide (aN L (kk 4 k)=0)) ((bp.mk (aN L (kk 4 k)) eB void void void,ib L (kk 4 k))=aP L n (kk 4 k) (mm 6 m)) (abb (abb ((bp.mk 0 eB void void (abg (fN L (kk 4 k))),ib L (kk 4 k))=aP L n (kk 4 k) (mm 6 m))))))))):=by
 delta aba abg abb
 simp+decide [aP,en,eF,dI,eJ,ey,eo,dC,dv,cX,de,eY,fu,gg,gm,bL,void,cY,eB,aS,dZ,fO,fl,kk,mm,hL,hs];try grind
theorem Nt (L:List Sx.Obj) (n:Int) (k:Key) (m:bp) (hL:aq L) (hs:aw m.data):an Tryz.prog 102 [.lp 0 0] [.ro (.blk oP (iU (.ci .i64 6) m n (.ci .i64 4) k)),.store tS eS L] (kO (aP L n ((kk 4 k)) ((mm 6 m)))) (fun _ _=>False):=
 aY (inl:=(fun f=>f==131||f==142||f==152||f==146||f==202||f==185||f==227||f==177||f==148||f==174||f==173||f==132||f==144||f==184||f==188||f==171)) (ann:=aQ) (ae dz ar) (aC KT aE) (eP bZ) (NQ L n k m hL hs) (by kernel_rfl)
theorem O2 (L:List Sx.Obj) (n:Int) (k:Key) (m:bp) (hL:aq L) (hs:aw m.data):
 abb (abb (abb (abb (abb (abb (abb (abb (aba (!decide (m.k2.kind=1)) ((bp.mk 240 eB void void void,L)=aP L n (kk 5 k) (mm 1 m)) (aba (decide (m.k2.value<0)||decide (2147483647<m.k2.value)) (abb ((bp.mk 4 eB void void void,L)=aP L n (kk 5 k) (mm 1 m))) (abb (aba (!(decide (0<=m.k2.value)&&decide (m.k2.value<12))) ((bp.mk 4 eB void void void,L)=aP L n (kk 5 k) (mm 1 m)) (aF IntKind.i64 (m.k2.value+4)/\abb (abb (abb (aba (!decide (bY L (abE 2 k void.value) (m.k2.value+4)=0)) ((bp.mk (bY L (abE 2 k void.value) (m.k2.value+4)) eB void void void,L)=aP L n (kk 5 k) (mm 1 m)) ((bp.mk 0 eB (aJ L (abE 2 k void.value) (m.k2.value+4)) void void,L)=aP L n (kk 5 k) (mm 1 m))))))))))))))))):=by
 delta aba abE abb
 have hw:Key.mk 2 k.oid k.count void.call void.rights void.value=fl k:=rfl;have e2:∀c,bp.mk c eB void void void=gg c:=fun _=>rfl
 simp only[hw,e2];have hX:=Im (L:=L) (n:=n) (k:=k) (m:=m) (c:=1) (by omega)
 rw[hX];clear hX;by_cases h1:m.k2.kind=1
 case neg=>simp[h1,show cX 5 1=true by decide,hL,hs]
 have hf:¬(cX 5 1=true/\m.k2.kind≠1):=fun h=>h.2 h1
 rw[aa1 hf];have hC:dv L (kk 5 k) (mm 1 m)=(if aS m<0\/11<aS m then 4 else bY L (fl k) (aS m+4),eY (aJ L (fl k) (aS m+4)),L):=rfl
 rw[hC];clear hC;have e3:∀a,bp.mk 0 eB a void void=eY a:=fun _=>rfl
 simp only[e3];by_cases h2:0<=m.k2.value/\m.k2.value<=2147483647
 ·have hN:aS m=m.k2.value:=by unfold aS;rw[aa2 h2]
  have hr:aF .i64 (m.k2.value+4):=by simp only[aF,cc];omega
  rw[hN];by_cases h3:11<m.k2.value
  ·have h4:¬m.k2.value<12:=by omega
   simp[h1,h2,h3,h4,uD,hr]<;>omega
  ·have h4:m.k2.value<12:=by omega
   have h5:¬(m.k2.value<0\/11<m.k2.value):=by omega
   simp[h1,h2,h4,h5,uD,hr,hL];grind
 ·have hN:aS m= -1:=by unfold aS;rw[aa1 h2]
  rw[hN];simp[h1,uD]<;>omega
theorem PS (L:List Sx.Obj) (n:Int) (k:Key) (m:bp) (hL:aq L) (hs:aw m.data):an Tryz.prog 102 [.lp 0 0] [.ro (.blk oP (iU (.ci .i64 1) m n (.ci .i64 5) k)),.store tS eS L] (kO (aP L n ((kk 5 k)) ((mm 1 m)))) (fun _ _=>False):=
 aY (inl:=(fun f=>f==131||f==142||f==152||f==146||f==202||f==185||f==227||f==177||f==148||f==174||f==173||f==132||f==144||f==184||f==188||f==172)) (ann:=aQ) (ae sQ (ae dz ar)) aE (eP bZ) (O2 L n k m hL hs) (by kernel_rfl)
theorem PR (L:List Sx.Obj) (n:Int) (k:Key) (m:bp) (hL:aq L) (hs:aw m.data):
 abb (abb (abb (abb (abb (abb (abb (abb (aba (!decide (m.k2.kind=1)) ((bp.mk 240 eB void void void,L)=aP L n (kk 5 k) (mm 2 m)) (aba (decide (m.k2.value<0)||decide (2147483647<m.k2.value)) (abb ((bp.mk 4 eB void void void,L)=aP L n (kk 5 k) (mm 2 m))) (abb (aba (!(decide (0<=m.k2.value)&&decide (m.k2.value<12))) ((bp.mk 4 eB void void void,L)=aP L n (kk 5 k) (mm 2 m)) (aF IntKind.i64 (m.k2.value+4)/\abb (aq L/\abb (abb (abb (aba (!decide (bj L (abE 2 k void.value) (m.k2.value+4) m.k0=0)) ((bp.mk (bj L (abE 2 k void.value) (m.k2.value+4) m.k0) eB void void void,cC L (abE 2 k void.value) (m.k2.value+4) m.k0)=aP L n (kk 5 k) (mm 2 m)) ((bp.mk 0 eB (cT L (abE 2 k void.value) (m.k2.value+4) m.k0) void void,cC L (abE 2 k void.value) (m.k2.value+4) m.k0)=aP L n (kk 5 k) (mm 2 m)))))))))))))))))):=by
 delta aba abE abb
 have hw:Key.mk 2 k.oid k.count void.call void.rights void.value=fl k:=rfl;have e2:∀c,bp.mk c eB void void void=gg c:=fun _=>rfl
 simp only[hw,e2];have hX:=Im (L:=L) (n:=n) (k:=k) (m:=m) (c:=2) (by omega)
 rw[hX];clear hX;by_cases h1:m.k2.kind=1
 case neg=>simp[h1,show cX 5 2=true by decide,hL,hs]
 have hf:¬(cX 5 2=true/\m.k2.kind≠1):=fun h=>h.2 h1
 rw[aa1 hf];have hC:dv L (kk 5 k) (mm 2 m)=(if aS m<0\/11<aS m then 4 else bj L (fl k) (aS m+4) m.k0,eY (cT L (fl k) (aS m+4) m.k0),if aS m<0\/11<aS m then L else cC L (fl k) (aS m+4) m.k0):=rfl
 rw[hC];clear hC;have e3:∀a,bp.mk 0 eB a void void=eY a:=fun _=>rfl
 simp only[e3];by_cases h2:0<=m.k2.value/\m.k2.value<=2147483647
 ·have hN:aS m=m.k2.value:=by unfold aS;rw[aa2 h2]
  have hr:aF .i64 (m.k2.value+4):=by simp only[aF,cc];omega
  rw[hN];by_cases h3:11<m.k2.value
  ·have h4:¬m.k2.value<12:=by omega
   simp[h1,h2,h3,h4,uD,hr]<;>omega
  ·have h4:m.k2.value<12:=by omega
   have h5:¬(m.k2.value<0\/11<m.k2.value):=by omega
   simp[h1,h2,h4,h5,uD,hr,hL];grind
 ·have hN:aS m= -1:=by unfold aS;rw[aa1 h2]
  rw[hN];simp[h1,uD]<;>omega
theorem OL (L:List Sx.Obj) (n:Int) (k:Key) (m:bp) (hL:aq L) (hs:aw m.data):an Tryz.prog 102 [.lp 0 0] [.ro (.blk oP (iU (.ci .i64 2) m n (.ci .i64 5) k)),.store tS eS L] (kO (aP L n ((kk 5 k)) ((mm 2 m)))) (fun _ _=>False):=
 aY (inl:=(fun f=>f==131||f==142||f==152||f==146||f==202||f==185||f==227||f==177||f==148||f==174||f==173||f==132||f==144||f==184||f==188||f==175)) (ann:=aQ) (ae dz ar) (aC Hk aE) (eP bZ) (PR L n k m hL hs) (by kernel_rfl)
theorem K6 (L:List Sx.Obj) (n:Int) (k:Key) (m:bp) (hL:aq L) (hs:aw m.data):
 abb (abb (abb (abb (abb (aba (!decide (m.k2.kind=1)) ((bp.mk 240 eB void void void,L)=aP L n (kk 5 k) (mm 3 m)) (abb (abb (abb ((bp.mk 0 eB (abE 6 k m.k2.value) void void,L)=aP L n (kk 5 k) (mm 3 m)))))))))):=by
 delta aba abE abb
 simp+decide [aP,en,eF,dI,eJ,ey,eo,dC,dv,cX,de,eY,fu,gg,gm,bL,void,cY,eB,aS,dZ,fO,fl,kk,mm,hL,hs];try grind
theorem Lw (L:List Sx.Obj) (n:Int) (k:Key) (m:bp) (hL:aq L) (hs:aw m.data):an Tryz.prog 102 [.lp 0 0] [.ro (.blk oP (iU (.ci .i64 3) m n (.ci .i64 5) k)),.store tS eS L] (kO (aP L n ((kk 5 k)) ((mm 3 m)))) (fun _ _=>False):=
 aY (inl:=(fun f=>f==131||f==142||f==152||f==146||f==202||f==185||f==227||f==177||f==148||f==174||f==173||f==132||f==144||f==184||f==188||f==176)) (ann:=aQ) (ae dz ar) aE (eP bZ) (K6 L n k m hL hs) (by kernel_rfl)
theorem PM (L:List Sx.Obj) (n:Int) (k:Key) (m:bp) (hL:aq L) (hs:aw m.data):
 abb (abb (abb (aba (!dS L k.oid) (abb (abb ((bp.mk 0 eB void void (abg (-1)),L)=aP L n (kk 5 k) (mm 4 m)))) (abb (abb ((bp.mk 0 eB void void (abg (iG L k.oid)),L)=aP L n (kk 5 k) (mm 4 m))))))):=by
 delta aba abg abb
 simp+decide [aP,en,eF,dI,eJ,ey,eo,dC,dv,cX,de,eY,fu,gg,gm,bL,void,cY,eB,aS,dZ,fO,fl,kk,mm,hL,hs];unfold iG bw;grind
theorem LG (L:List Sx.Obj) (n:Int) (k:Key) (m:bp) (hL:aq L) (hs:aw m.data):an Tryz.prog 102 [.lp 0 0] [.ro (.blk oP (iU (.ci .i64 4) m n (.ci .i64 5) k)),.store tS eS L] (kO (aP L n ((kk 5 k)) ((mm 4 m)))) (fun _ _=>False):=
 aY (inl:=(fun f=>f==131||f==142||f==152||f==146||f==202||f==185||f==227||f==177||f==148||f==174||f==173||f==132||f==144||f==184||f==188||f==178)) (ann:=aQ) (ae rR (ae dz ar)) aE (eP bZ) (PM L n k m hL hs) (by kernel_rfl)
theorem PJ (L:List Sx.Obj) (n:Int) (k:Key) (m:bp) (hL:aq L) (hs:aw m.data):
 abb (abb (abb (abb (abb (abb (aba (!decide (m.k2.kind=1)) ((bp.mk 240 eB void void void,L)=aP L n (kk 5 k) (mm 5 m)) (aba (decide (m.k2.value<0)||decide (2147483647<m.k2.value)) (abb (aq L/\abb (abb (aba (!decide (er L k.oid (-1)=0)) ((bp.mk (er L k.oid (-1)) eB void void void,dg L k.oid (-1))=aP L n (kk 5 k) (mm 5 m)) ((bp.mk 0 eB void void void,dg L k.oid (-1))=aP L n (kk 5 k) (mm 5 m)))))) (abb (aq L/\abb (abb (aba (!decide (er L k.oid m.k2.value=0)) ((bp.mk (er L k.oid m.k2.value) eB void void void,dg L k.oid m.k2.value)=aP L n (kk 5 k) (mm 5 m)) ((bp.mk 0 eB void void void,dg L k.oid m.k2.value)=aP L n (kk 5 k) (mm 5 m))))))))))))):=by
 delta aba abb
 simp+decide [aP,en,eF,dI,eJ,ey,eo,dC,dv,cX,de,eY,fu,gg,gm,bL,void,cY,eB,aS,dZ,fO,fl,kk,mm,hL,hs];try grind
theorem Qk (L:List Sx.Obj) (n:Int) (k:Key) (m:bp) (hL:aq L) (hs:aw m.data):an Tryz.prog 102 [.lp 0 0] [.ro (.blk oP (iU (.ci .i64 5) m n (.ci .i64 5) k)),.store tS eS L] (kO (aP L n ((kk 5 k)) ((mm 5 m)))) (fun _ _=>False):=
 aY (inl:=(fun f=>f==131||f==142||f==152||f==146||f==202||f==185||f==227||f==177||f==148||f==174||f==173||f==132||f==144||f==184||f==188||f==179)) (ann:=aQ) (ae dz ar) (aC MO aE) (eP bZ) (PJ L n k m hL hs) (by kernel_rfl)
abbrev abG(L:List Sx.Obj)(k:Key):=aJ L (abE 2 k void.value) 0
theorem N6 (L:List Sx.Obj) (n:Int) (k:Key) (m:bp) (hL:aq L) (hs:aw m.data):
 abb (abb (abb (abb (abb (abb (aba (!decide (m.k2.kind=1)) ((bp.mk 240 eB void void void,L)=aP L n (kk 5 k) (mm 6 m)) (abb (abb (aba (!decide (cm L (abG L k) m.k2.value 32=0)) ((bp.mk (cm L (abG L k) m.k2.value 32) eB void void void,L)=aP L n (kk 5 k) (mm 6 m)) (aba (!decide (bW L (abG L k) m.k2.value 32 false=0)) (aF IntKind.i64 (1000+bW L (abG L k) m.k2.value 32 false)/\(bp.mk (1000+bW L (abG L k) m.k2.value 32 false) eB void void void,L)=aP L n (kk 5 k) (mm 6 m)) (abb (abb (abb ((bp.mk 0 (jW L (abG L k) m.k2.value 32) void void void,L)=aP L n (kk 5 k) (mm 6 m))))))))))))))):=by
 delta aba abE abG abb
 have hw:Key.mk 2 k.oid k.count void.call void.rights void.value=fl k:=rfl;have e2:∀c,bp.mk c eB void void void=gg c:=fun _=>rfl
 simp only[hw,e2];have hX:=Im (L:=L) (n:=n) (k:=k) (m:=m) (c:=6) (by omega)
 rw[hX];clear hX;by_cases h1:m.k2.kind=1
 case neg=>simp[h1,show cX 5 6=true by decide,hL,hs]
 have hf:¬(cX 5 6=true/\m.k2.kind≠1):=fun h=>h.2 h1
 rw[aa1 hf];have hC:dv L (kk 5 k) (mm 6 m)=(if cm L (fO L k) m.k2.value 32=0 then(if bW L (fO L k) m.k2.value 32 false=0 then 0 else 1000+bW L (fO L k) m.k2.value 32 false)else cm L (fO L k) m.k2.value 32,gm (jW L (fO L k) m.k2.value 32),L):=rfl
 rw[hC];clear hC;have e3:∀s,bp.mk 0 s void void void=gm s:=fun _=>rfl
 have e4:gg 0=cY:=rfl;have hi:=Iu (L:=L) (k:=aJ L (fl k) 0) (a:=m.k2.value) (n:=32) (w:=false);have hr:aF .i64 (1000+bW L (aJ L (fl k) 0) m.k2.value (32) false):=by simp only[aF,cc];omega
 simp only[e3,fO];simp[h1,hr,uD,hL,hs];grind
theorem LC (L:List Sx.Obj) (n:Int) (k:Key) (m:bp) (hL:aq L) (hs:aw m.data):an Tryz.prog 102 [.lp 0 0] [.ro (.blk oP (iU (.ci .i64 6) m n (.ci .i64 5) k)),.store tS eS L] (kO (aP L n ((kk 5 k)) ((mm 6 m)))) (fun _ _=>False):=
 aY (inl:=(fun f=>f==131||f==142||f==152||f==146||f==202||f==185||f==227||f==177||f==148||f==174||f==173||f==132||f==144||f==184||f==188||f==180)) (ann:=aQ) (ae sQ (ae Zj (ae dz ar))) aE (eP bZ) (N6 L n k m hL hs) (by kernel_rfl)
abbrev abH(L:List Sx.Obj)(k:Key):=aJ L (abE 2 k void.value) 0
theorem LW (L:List Sx.Obj) (n:Int) (k:Key) (m:bp) (hL:aq L) (hs:aw m.data):
 abb (abb (abb (abb (abb (abb (aba (!decide (m.k2.kind=1)) ((bp.mk 240 eB void void void,L)=aP L n (kk 5 k) (mm 7 m)) (abb (aw m.data/\(aq L/\aw m.data)/\abb (abb (aba (!decide (cm L (abH L k) m.k2.value (bO m.data)=0)) ((bp.mk (cm L (abH L k) m.k2.value (bO m.data)) eB void void void,kx L (abH L k) m.k2.value m.data)=aP L n (kk 5 k) (mm 7 m)) (aba (!decide (bW L (abH L k) m.k2.value (bO m.data) true=0)) (aF IntKind.i64 (1000+bW L (abH L k) m.k2.value (bO m.data) true)/\(bp.mk (1000+bW L (abH L k) m.k2.value (bO m.data) true) eB void void void,kx L (abH L k) m.k2.value m.data)=aP L n (kk 5 k) (mm 7 m)) (abb (abb ((bp.mk 0 eB void void void,kx L (abH L k) m.k2.value m.data)=aP L n (kk 5 k) (mm 7 m))))))))))))))):=by
 delta aba abE abH abb
 have hw:Key.mk 2 k.oid k.count void.call void.rights void.value=fl k:=rfl;have e2:∀c,bp.mk c eB void void void=gg c:=fun _=>rfl
 simp only[hw,e2];have hX:=Im (L:=L) (n:=n) (k:=k) (m:=m) (c:=7) (by omega)
 rw[hX];clear hX;by_cases h1:m.k2.kind=1
 case neg=>simp[h1,show cX 5 7=true by decide,hL,hs]
 have hf:¬(cX 5 7=true/\m.k2.kind≠1):=fun h=>h.2 h1
 rw[aa1 hf];have hC:dv L (kk 5 k) (mm 7 m)=(if cm L (fO L k) m.k2.value (bO m.data)=0 then(if bW L (fO L k) m.k2.value (bO m.data) true=0 then 0 else 1000+bW L (fO L k) m.k2.value (bO m.data) true)else cm L (fO L k) m.k2.value (bO m.data),cY,kx L (fO L k) m.k2.value m.data):=rfl
 rw[hC];clear hC;have e3:∀s,bp.mk 0 s void void void=gm s:=fun _=>rfl
 have e4:gg 0=cY:=rfl;have hi:=Iu (L:=L) (k:=aJ L (fl k) 0) (a:=m.k2.value) (n:=bO m.data) (w:=true);have hr:aF .i64 (1000+bW L (aJ L (fl k) 0) m.k2.value (bO m.data) true):=by simp only[aF,cc];omega
 simp only[e3,fO];simp[h1,hr,uD,hL,hs];grind
theorem MA (L:List Sx.Obj) (n:Int) (k:Key) (m:bp) (hL:aq L) (hs:aw m.data):an Tryz.prog 102 [.lp 0 0] [.ro (.blk oP (iU (.ci .i64 7) m n (.ci .i64 5) k)),.store tS eS L] (kO (aP L n ((kk 5 k)) ((mm 7 m)))) (fun _ _=>False):=
 aY (inl:=(fun f=>f==131||f==142||f==152||f==146||f==202||f==185||f==227||f==177||f==148||f==174||f==173||f==132||f==144||f==184||f==188||f==181)) (ann:=aQ) (ae sQ (ae dz ar)) (aC WG aE) (eP bZ) (LW L n k m hL hs) (by kernel_rfl)
theorem Nv (L:List Sx.Obj) (n:Int) (k:Key) (m:bp) (hL:aq L) (hs:aw m.data):
 true=true/\true=true/\true=true/\true=true/\true=true/\(bp.mk 0 eB void void (Key.mk 1 void.oid void.count void.call void.rights m.k0.kind),L)=aP L n (kk 8 k) (mm 1 m):=by
 simp+decide [aP,en,eF,dI,eJ,ey,eo,dC,dv,cX,de,eY,fu,gg,gm,bL,void,cY,eB,aS,dZ,fO,fl,kk,mm,hL,hs];try grind
theorem MQ (L:List Sx.Obj) (n:Int) (k:Key) (m:bp) (hL:aq L) (hs:aw m.data):an Tryz.prog 102 [.lp 0 0] [.ro (.blk oP (iU (.ci .i64 1) m n (.ci .i64 8) k)),.store tS eS L] (kO (aP L n ((kk 8 k)) ((mm 1 m)))) (fun _ _=>False):=
 aY (inl:=(fun f=>f==131||f==142||f==152||f==146||f==202||f==185||f==227||f==177||f==148||f==174||f==173||f==132||f==144||f==184||f==188||f==182)) (ann:=aQ) (ae dz ar) aE (eP bZ) (Nv L n k m hL hs) (by kernel_rfl)
theorem O4 (L:List Sx.Obj) (n:Int) (k:Key) (m:bp) (hL:aq L) (hs:aw m.data):
 abb (abb (abb (abb (aba (k7 m.k0 m.k1) (abb (abb ((bp.mk 0 eB void void (abg 1),L)=aP L n (kk 8 k) (mm 2 m)))) (abb (abb ((bp.mk 0 eB void void (abg 0),L)=aP L n (kk 8 k) (mm 2 m)))))))):=by
 delta aba abg abb
 simp+decide [aP,en,eF,dI,eJ,ey,eo,dC,dv,cX,de,eY,fu,gg,gm,bL,void,cY,eB,aS,dZ,fO,fl,kk,mm,hL,hs];try grind
theorem KI (L:List Sx.Obj) (n:Int) (k:Key) (m:bp) (hL:aq L) (hs:aw m.data):an Tryz.prog 102 [.lp 0 0] [.ro (.blk oP (iU (.ci .i64 2) m n (.ci .i64 8) k)),.store tS eS L] (kO (aP L n ((kk 8 k)) ((mm 2 m)))) (fun _ _=>False):=
 aY (inl:=(fun f=>f==131||f==142||f==152||f==146||f==202||f==185||f==227||f==177||f==148||f==174||f==173||f==132||f==144||f==184||f==188||f==183)) (ann:=aQ) (ae S7 (ae dz ar)) aE (eP bZ) (O4 L n k m hL hs) (by kernel_rfl)
theorem Oo (L:List Sx.Obj) (n:Int) (k:Key) (m:bp) (hL:aq L) (hs:aw m.data):
 true=true/\true=true/\true=true/\true=true/\true=true/\(bp.mk 0 eB void void (Key.mk 1 void.oid void.count void.call void.rights m.k0.rights),L)=aP L n (kk 8 k) (mm 3 m):=by
 simp+decide [aP,en,eF,dI,eJ,ey,eo,dC,dv,cX,de,eY,fu,gg,gm,bL,void,cY,eB,aS,dZ,fO,fl,kk,mm,hL,hs];try grind
theorem Om (L:List Sx.Obj) (n:Int) (k:Key) (m:bp) (hL:aq L) (hs:aw m.data):an Tryz.prog 102 [.lp 0 0] [.ro (.blk oP (iU (.ci .i64 3) m n (.ci .i64 8) k)),.store tS eS L] (kO (aP L n ((kk 8 k)) ((mm 3 m)))) (fun _ _=>False):=
 aY (inl:=(fun f=>f==131||f==142||f==152||f==146||f==202||f==185||f==227||f==177||f==148||f==174||f==173||f==132||f==144||f==184||f==188||f==187)) (ann:=aQ) (ae dz ar) aE (eP bZ) (Oo L n k m hL hs) (by kernel_rfl)
theorem KU (L:List Sx.Obj) (n:Int) (k:Key) (m:bp) (hL:aq L) (hs:aw m.data):
 true=true/\true=true/\true=true/\true=true/\true=true/\(bp.mk 0 eB void void (Key.mk 1 void.oid void.count void.call void.rights n),L)=aP L n (kk 9 k) (mm 1 m):=by
 simp+decide [aP,en,eF,dI,eJ,ey,eo,dC,dv,cX,de,eY,fu,gg,gm,bL,void,cY,eB,aS,dZ,fO,fl,kk,mm,hL,hs];try grind
theorem M4 (L:List Sx.Obj) (n:Int) (k:Key) (m:bp) (hL:aq L) (hs:aw m.data):an Tryz.prog 102 [.lp 0 0] [.ro (.blk oP (iU (.ci .i64 1) m n (.ci .i64 9) k)),.store tS eS L] (kO (aP L n ((kk 9 k)) ((mm 1 m)))) (fun _ _=>False):=
 aY (inl:=(fun f=>f==131||f==142||f==152||f==146||f==202||f==185||f==227||f==177||f==148||f==174||f==173||f==132||f==144||f==184||f==188||f==189)) (ann:=aQ) (ae dz ar) aE (eP bZ) (KU L n k m hL hs) (by kernel_rfl)
theorem Kx (L:List Sx.Obj) (n:Int) (k:Key) (m:bp) (hL:aq L) (hs:aw m.data):
 true=true/\true=true/\true=true/\(bp.mk 0 eB void void void,L)=aP L n (kk 10 k) (mm 1 m):=by
 simp+decide [aP,en,eF,dI,eJ,ey,eo,dC,dv,cX,de,eY,fu,gg,gm,bL,void,cY,eB,aS,dZ,fO,fl,kk,mm,hL,hs];try grind
theorem Kk (L:List Sx.Obj) (n:Int) (k:Key) (m:bp) (hL:aq L) (hs:aw m.data):an Tryz.prog 102 [.lp 0 0] [.ro (.blk oP (iU (.ci .i64 1) m n (.ci .i64 10) k)),.store tS eS L] (kO (aP L n ((kk 10 k)) ((mm 1 m)))) (fun _ _=>False):=
 aY (inl:=(fun f=>f==131||f==142||f==152||f==146||f==202||f==185||f==227||f==177||f==148||f==174||f==173||f==132||f==144||f==184||f==188||f==190)) (ann:=aQ) (ae dz ar) aE (eP bZ) (Kx L n k m hL hs) (by kernel_rfl)
theorem XD (L:List Sx.Obj) (n:Int) (k:Key) (m:bp) (hL:aq L) (hs:aw m.data):
 true=true/\(bp.mk 190 eB void void void,L)=aP L n (kk 0 k) m:=by
 simp+decide [aP,en,eF,dI,eJ,ey,eo,dC,dv,cX,de,eY,fu,gg,gm,bL,void,cY,eB,aS,dZ,fO,fl,kk,mm,hL,hs];try grind
theorem W4 (L:List Sx.Obj) (n:Int) (k:Key) (m:bp) (hL:aq L) (hs:aw m.data):an Tryz.prog 102 [.lp 0 0] [.ro (.blk oP (iU (.it .i64 m.code) m n (.ci .i64 0) k)),.store tS eS L] (kO (aP L n ((kk 0 k)) (m))) (fun _ _=>False):=
 aY (inl:=(fun f=>f==131||f==142||f==152||f==146||f==202||f==185||f==227||f==177||f==148||f==174||f==173||f==132||f==144||f==184||f==188)) (ann:=aQ) (ae dz ar) aE (eP bZ) (XD L n k m hL hs) (by kernel_rfl)
theorem V0 (L:List Sx.Obj) (n:Int) (k:Key) (m:bp) (hL:aq L) (hs:aw m.data) (hz:¬k.kind=0):
 abb (aba (!!decide (k.kind=0)) ((bp.mk 190 eB void void void,L)=aP L n k (mm 0 m)) (abb (abb ((bp.mk 0 eB void void (abg k.kind),L)=aP L n k (mm 0 m))))):=by
 delta aba abg abb
 have hX:aP L n k (mm 0 m)=(fu k.kind,L):=by
  have hr:dI L n k (mm 0 m)=(0,fu k.kind,L):=by
   unfold dI;rw[aa1 hz,aa2 (show(mm 0 m).code=0 from rfl)]
  simp[aP,en,eF,hr]
 rw[hX];simp[hz];rfl
theorem Wa (L:List Sx.Obj) (n:Int) (k:Key) (m:bp) (hL:aq L) (hs:aw m.data) (hz:¬k.kind=0):an Tryz.prog 102 [.lp 0 0] [.ro (.blk oP (iU (.ci .i64 0) m n (.it .i64 k.kind) k)),.store tS eS L] (kO (aP L n (k) ((mm 0 m)))) (fun _ _=>False):=
 aY (inl:=(fun f=>f==131||f==142||f==152||f==146||f==202||f==185||f==227||f==177||f==148||f==174||f==173||f==132||f==144||f==184||f==188)) (ann:=aQ) (ae dz ar) aE (eP bZ) (V0 L n k m hL hs hz) (by kernel_rfl)
abbrev abI:=true=true/\False
theorem Wm (L:List Sx.Obj) (n:Int) (k:Key) (m:bp) (hL:aq L) (hs:aw m.data) (hz:¬k.kind=0) (hc:¬m.code=0) (hn:m.code<1\/de k.kind<m.code):
 abb (aba (!!decide (k.kind=0)) ((bp.mk 190 eB void void void,L)=aP L n k m) (aba (decide (m.code=0)) (abb (abb ((bp.mk 0 eB void void (abg k.kind),L)=aP L n k m))) (abb (aba (!(oc 1 1 k m||(oc 2 1 k m||(oc 2 2 k m||(oc 2 3 k m||(oc 2 4 k m||(oc 2 5 k m||(oc 2 6 k m||(oc 3 1 k m||(oc 3 2 k m||(oc 3 3 k m||(oc 3 4 k m||(oc 3 5 k m||(oc 4 1 k m||(oc 4 2 k m||(oc 4 3 k m||(oc 4 4 k m||(oc 4 5 k m||(oc 4 6 k m||(oc 5 1 k m||(oc 5 2 k m||(oc 5 3 k m||(oc 5 4 k m||(oc 5 5 k m||(oc 5 6 k m||(oc 5 7 k m||(oc 8 1 k m||(oc 8 2 k m||(oc 8 3 k m||(oc 9 1 k m||oc 10 1 k m)))))))))))))))))))))))))))))) ((bp.mk 240 eB void void void,L)=aP L n k m) (aba (oc 1 1 k m) abI (aba (oc 2 1 k m) abI (aba (oc 2 2 k m) abI (aba (oc 2 3 k m) abI (aba (oc 2 4 k m) abI (aba (oc 2 5 k m) abI (aba (oc 2 6 k m) abI (aba (oc 3 1 k m) abI (aba (oc 3 2 k m) abI (aba (oc 3 3 k m) abI (aba (oc 3 4 k m) abI (aba (oc 3 5 k m) abI (aba (oc 4 1 k m) abI (aba (oc 4 2 k m) abI (aba (oc 4 3 k m) abI (aba (oc 4 4 k m) abI (aba (oc 4 5 k m) abI (aba (oc 4 6 k m) abI (aba (oc 5 1 k m) abI (aba (oc 5 2 k m) abI (aba (oc 5 3 k m) abI (aba (oc 5 4 k m) abI (aba (oc 5 5 k m) abI (aba (oc 5 6 k m) abI (aba (oc 5 7 k m) abI (aba (oc 8 1 k m) abI (aba (oc 8 2 k m) abI (aba (oc 8 3 k m) abI (aba (oc 9 1 k m) abI (aba (oc 10 1 k m) abI False)))))))))))))))))))))))))))))))))):=by
 delta aba abg abI abb
 have hX:aP L n k m=(gg 240,L):=by
  have hr:dI L n k m=(240,cY,L):=by
   unfold dI;rw[aa1 hz,aa1 hc,aa2 (by rcases hn with h|h;exact .inl h;exact .inr (.inl h))]
  simp[aP,en,eF,hr]
 rw[hX]
 have hq:∀a b:Int,1<=b->b<=de a->oc a b k m=false:=fun a b h1 h2=>by
  cases h:oc a b k m with
  |false=>rfl
  |true=>
   unfold oc at h;simp only[aaV,aaW]at h;obtain⟨rfl,rfl⟩:=h;omega
 have f1_1:oc 1 1 k m=false:=hq 1 1 (by omega) (by decide)
 have f2_1:oc 2 1 k m=false:=hq 2 1 (by omega) (by decide)
 have f2_2:oc 2 2 k m=false:=hq 2 2 (by omega) (by decide)
 have f2_3:oc 2 3 k m=false:=hq 2 3 (by omega) (by decide)
 have f2_4:oc 2 4 k m=false:=hq 2 4 (by omega) (by decide)
 have f2_5:oc 2 5 k m=false:=hq 2 5 (by omega) (by decide)
 have f2_6:oc 2 6 k m=false:=hq 2 6 (by omega) (by decide)
 have f3_1:oc 3 1 k m=false:=hq 3 1 (by omega) (by decide)
 have f3_2:oc 3 2 k m=false:=hq 3 2 (by omega) (by decide)
 have f3_3:oc 3 3 k m=false:=hq 3 3 (by omega) (by decide)
 have f3_4:oc 3 4 k m=false:=hq 3 4 (by omega) (by decide)
 have f3_5:oc 3 5 k m=false:=hq 3 5 (by omega) (by decide)
 have f4_1:oc 4 1 k m=false:=hq 4 1 (by omega) (by decide)
 have f4_2:oc 4 2 k m=false:=hq 4 2 (by omega) (by decide)
 have f4_3:oc 4 3 k m=false:=hq 4 3 (by omega) (by decide)
 have f4_4:oc 4 4 k m=false:=hq 4 4 (by omega) (by decide)
 have f4_5:oc 4 5 k m=false:=hq 4 5 (by omega) (by decide)
 have f4_6:oc 4 6 k m=false:=hq 4 6 (by omega) (by decide)
 have f5_1:oc 5 1 k m=false:=hq 5 1 (by omega) (by decide)
 have f5_2:oc 5 2 k m=false:=hq 5 2 (by omega) (by decide)
 have f5_3:oc 5 3 k m=false:=hq 5 3 (by omega) (by decide)
 have f5_4:oc 5 4 k m=false:=hq 5 4 (by omega) (by decide)
 have f5_5:oc 5 5 k m=false:=hq 5 5 (by omega) (by decide)
 have f5_6:oc 5 6 k m=false:=hq 5 6 (by omega) (by decide)
 have f5_7:oc 5 7 k m=false:=hq 5 7 (by omega) (by decide)
 have f8_1:oc 8 1 k m=false:=hq 8 1 (by omega) (by decide)
 have f8_2:oc 8 2 k m=false:=hq 8 2 (by omega) (by decide)
 have f8_3:oc 8 3 k m=false:=hq 8 3 (by omega) (by decide)
 have f9_1:oc 9 1 k m=false:=hq 9 1 (by omega) (by decide)
 have f10_1:oc 10 1 k m=false:=hq 10 1 (by omega) (by decide)
 simp only[f1_1,f2_1,f2_2,f2_3,f2_4,f2_5,f2_6,f3_1,f3_2,f3_3,f3_4,f3_5,f4_1,f4_2,f4_3,f4_4,f4_5,f4_6,f5_1,f5_2,f5_3,f5_4,f5_5,f5_6,f5_7,f8_1,f8_2,f8_3,f9_1,f10_1];simp[hz,hc];rfl
theorem X3 (L:List Sx.Obj) (n:Int) (k:Key) (m:bp) (hL:aq L) (hs:aw m.data) (hz:¬k.kind=0) (hc:¬m.code=0) (hn:m.code<1\/de k.kind<m.code):an Tryz.prog 102 [.lp 0 0] [.ro (.blk oP (iU (.it .i64 m.code) m n (.it .i64 k.kind) k)),.store tS eS L] (kO (aP L n (k) (m))) (fun _ _=>False):=
 aY (inl:=(fun f=>f==131||f==142||f==152||f==146||f==202||f==185||f==227||f==177||f==148||f==174||f==173||f==132||f==144||f==184||f==188)) (ann:=aQ) (ae dz ar) aE (eP bZ) (Wm L n k m hL hs hz hc hn) (by kernel_rfl)
theorem uv {L:List Sx.Obj} {n:Int} {k:Key} {m:bp} {kd cd:Int} (hk:k.kind=kd) (hc:m.code=cd) (h:an Tryz.prog 102 [.lp 0 0] [.ro (.blk oP (iU (.ci .i64 cd) m n (.ci .i64 kd) k)),.store tS eS L] (kO (aP L n (kk kd k) (mm cd m))) (fun _ _=>False)):
  an Tryz.prog 102 [.lp 0 0] [.ro (.blk oP (iU (.it .i64 m.code) m n (.it .i64 k.kind) k)),.store tS eS L] (kO (aP L n k m)) (fun _ _=>False):=by
 rw[yv hk,It hc]at h;subst hk;subst hc;exact zd (c':= .ci .i64 m.code) (d':= .ci .i64 k.kind) (by simp) (fun _=>rfl) (fun _ h=>h) rfl (fun _=>rfl) (fun _ h=>h) rfl h
theorem Un (L:List Sx.Obj) (n:Int) (k:Key) (m:bp) (hL:aq L) (hs:aw m.data) (hk:aV k=true):an Tryz.prog 102 [.lp 0 0] [.ro (.blk oP (iU (.it .i64 m.code) m n (.it .i64 k.kind) k)),.store tS eS L] (kO (aP L n k m)) (fun _ _=>False):=by
 by_cases h0:k.kind=0
 ·have:=W4 L n k m hL hs;rw[yv h0]at this;exact zd (by simp) (fun _=>rfl) (fun _ h=>h) rfl (fun _=>by rw[h0];rfl) (fun _ h=>by rw[h0]at h;exact h) rfl this
 by_cases hc:m.code=0
 ·have:=Wa L n k m hL hs h0;rw[It hc]at this;exact zd (by simp) (fun _=>by rw[hc];rfl) (fun _ h=>by rw[hc]at h;exact h) rfl (fun _=>rfl) (fun _ h=>h) rfl this
 by_cases hn:m.code<1\/de k.kind<m.code
 ·exact X3 L n k m hL hs h0 hc hn
 have hkd:k.kind=1\/k.kind=2\/k.kind=3\/k.kind=4\/k.kind=5\/k.kind=8\/k.kind=9\/k.kind=10:=by
  unfold de at hn;grind
 rcases hkd with e|e|e|e|e|e|e|e
 ·have hq:de k.kind=1:=by rw[e];decide
  have hcd:m.code=1:=by omega
  have f:=hcd
  ·exact uv e f (MS L n k m hL hs)
 ·have hq:de k.kind=6:=by rw[e];decide
  have hcd:m.code=1\/m.code=2\/m.code=3\/m.code=4\/m.code=5\/m.code=6:=by omega
  rcases hcd with f|f|f|f|f|f
  ·exact uv e f (Pu L n k m hL hs)
  ·exact uv e f (Mi L n k m hL hs)
  ·exact uv e f (KX L n k m hL hs)
  ·exact uv e f (PZ L n k m hL hs)
  ·exact uv e f (QH L n k m hL hs (by rw[yv e];exact hk))
  ·exact uv e f (Ql L n k m hL hs)
 ·have hq:de k.kind=5:=by rw[e];decide
  have hcd:m.code=1\/m.code=2\/m.code=3\/m.code=4\/m.code=5:=by omega
  rcases hcd with f|f|f|f|f
  ·exact uv e f (Nl L n k m hL hs)
  ·exact uv e f (QA L n k m hL hs)
  ·exact uv e f (KQ L n k m hL hs)
  ·exact uv e f (QJ L n k m hL hs)
  ·exact uv e f (NV L n k m hL hs (by rw[yv e];exact hk))
 ·have hq:de k.kind=6:=by rw[e];decide
  have hcd:m.code=1\/m.code=2\/m.code=3\/m.code=4\/m.code=5\/m.code=6:=by omega
  rcases hcd with f|f|f|f|f|f
  ·exact uv e f (NT L n k m hL hs)
  ·exact uv e f (QF L n k m hL hs)
  ·exact uv e f (Oj L n k m hL hs)
  ·exact uv e f (P3 L n k m hL hs)
  ·exact uv e f (K5 L n k m hL hs)
  ·exact uv e f (Nt L n k m hL hs)
 ·have hq:de k.kind=7:=by rw[e];decide
  have hcd:m.code=1\/m.code=2\/m.code=3\/m.code=4\/m.code=5\/m.code=6\/m.code=7:=by omega
  rcases hcd with f|f|f|f|f|f|f
  ·exact uv e f (PS L n k m hL hs)
  ·exact uv e f (OL L n k m hL hs)
  ·exact uv e f (Lw L n k m hL hs)
  ·exact uv e f (LG L n k m hL hs)
  ·exact uv e f (Qk L n k m hL hs)
  ·exact uv e f (LC L n k m hL hs)
  ·exact uv e f (MA L n k m hL hs)
 ·have hq:de k.kind=3:=by rw[e];decide
  have hcd:m.code=1\/m.code=2\/m.code=3:=by omega
  rcases hcd with f|f|f
  ·exact uv e f (MQ L n k m hL hs)
  ·exact uv e f (KI L n k m hL hs)
  ·exact uv e f (Om L n k m hL hs)
 ·have hq:de k.kind=1:=by rw[e];decide
  have hcd:m.code=1:=by omega
  have f:=hcd
  ·exact uv e f (M4 L n k m hL hs)
 ·have hq:de k.kind=1:=by rw[e];decide
  have hcd:m.code=1:=by omega
  have f:=hcd
  ·exact uv e f (Kk L n k m hL hs)
theorem GO:lh Tryz.prog 102 Vc:=by
 intro args res K KP h;unfold Vc at h;split at h
 case h_2=>exact h.elim
 split at h
 case h_2=>exact h.elim
 rename_i j off;split at h
 case isFalse=>exact h.elim
 rename_i hoff;have hoff:=aaX.1 hoff;subst hoff;split at h
 case h_2=>exact h.elim
 rename_i t c hj;split at h
 case isFalse=>exact h.elim
 rename_i ht;have ht:=aaX.1 ht;subst ht;split at h
 case h_2=>exact h.elim
 split at h
 case h_2=>exact h.elim
 rename_i mv sv nv kv;split at h
 case h_2=>exact h.elim
 rename_i m hm;split at h
 case h_2=>exact h.elim
 rename_i i o2;split at h
 case isFalse=>exact h.elim
 rename_i hij;simp only[aaV,aaX,Bool.not_eq_true',beq_eq_false_iff_ne,ne_eq]at hij;obtain⟨rfl,hij⟩:=hij;split at h
 case h_2=>exact h.elim
 rename_i n hn;split at h
 case h_2=>exact h.elim
 rename_i k hk;split at h
 case h_2=>exact h.elim
 rename_i t2 e L hi;split at h
 case isFalse=>exact h.elim
 rename_i hc;simp only[aaV,aaX]at hc;obtain⟨rfl,rfl⟩:=hc;obtain⟨⟨hL,hs,hok⟩,h⟩:=h;have hkj:known res j:=by unfold known;rw[hj];simp
 have hki:known res i:=by unfold known;rw[hi];simp
 have hlj:=aO hkj;have hli:=aO hki;have hlj':cP res j= .blk oP (.ag [mv,.lp i 0,nv,kv]):=by unfold cP;rw[hj]
 have im:=vz (κ:=lS 0 (dV [(j,false),(i,true)])) mv (P7 hm);have inn:=vz (κ:=lS 0 (dV [(j,false),(i,true)])) nv (qV hn);have ik:=vz (κ:=lS 0 (dV [(j,false),(i,true)])) kv (C9 hk);have il:ga (lS 0 (dV [(j,false),(i,true)])) (.lp i 0)=some (.lp 1 0):=by simp[ga,lS,idxOf,dV,Ne.symm hij]
 have hb:ga (lS 0 (dV [(j,false),(i,true)])) (.ag [mv,.lp i 0,nv,kv])=some (.ag [mv,.lp 1 0,nv,kv]):=by unfold ga;rw[mg im (mg il (mg inn (mg ik rfl)))]
 have hres:fD (lS 0 (dV [(j,false),(i,true)])) res [(j,false),(i,true)]= [.ro (.blk oP (.ag [mv,.lp 1 0,nv,kv])),.store tS eS L]:=by simp only[fD,hlj',hi,gL,hb];rfl
 refine an.frame (pl:= [(j,false),(i,true)]) (args0:= [.lp 0 0]) (K0:=kO (aP L n k m)) (KP0:=fun _ _=>False) (by simp[fm,cQ.2 hkj,cQ.2 hki]) (by simpa[ju,dV,pF]using⟨⟨hlj,hij⟩,hli⟩) (by simp[eX,ga,lS,idxOf,dV]) ?_ (fun v r hv=>?_) (fun _ _ h=>h.elim)
 ·rw[hres];exact Nk (by simp) hm hn hk (Un L n k m hL hs hok)
 ·obtain⟨h1,h2⟩:=VQ hv;have hm':merge [(j,false),(i,true)] [] r res=bP res i (.store tS eS (eF L n k m)):=by simp[merge,fC,h2,gL,gG,aP]
  exact⟨[],jJ (en L n k m),rfl,by simp[kV,h2,jT],rfl,lu.kE h1 rfl,by rw[hm'];exact h⟩
theorem FR (k:Key):
 (decide (bB k=0)&&(!aZ k||decide (cy k<0)))=bJ [] k:=by
 unfold bJ bB cy aZ bf;simp only[ai,List.length_nil];grind
theorem J8 (L:List Sx.Obj) (k:Key):
 (decide (bB k=0)&&(!aZ k||decide (cy k<ak L)))=bJ L k:=by
 unfold bJ bB cy aZ bf ak;grind
theorem wQ:cz Tryz.prog 101 PG:=
 eQ (aA tk (aA iI bV)) (fun _=>rfl) fun a hq hok=>by
  obtain⟨S,k,_⟩:=a;cases S with
  |none=>exact bm (inl:=bx) (ann:=aQ) (ae bC (ae gy (ae dJ ar))) aE (FR k) (by kernel_rfl)
  |some L=>exact bm (inl:=bx) (ann:=aQ) (ae bC (ae gy (ae dJ ar))) aE (J8 L k) (by kernel_rfl)
theorem VU (n:Int) (k:Key) (m:bp) (hs:aw m.data):
 (decide (0<=n)=true->aF IntKind.i64 (bO m.data))/\0=(aG [] n k m).code/\ByteArray.mk (Array.mk [])=(aG [] n k m).data/\void=(aG [] n k m).k0/\void=(aG [] n k m).k1/\void
  =(aG [] n k m).k2/\false=cW [] n k m/\1=cJ [] n k m:=by
 have hin:aF .i64 (bO m.data):=by have:=hs;unfold aw at this;unfold aF cc bO;omega
 have e:cJ [] n k m=1:=by unfold cJ;rw[aa2 (show ai ([]:List Sx.Obj)=0 from rfl)]
 have e1:aG [] n k m=cY:=by unfold aG;rw[e];rfl
 have e2:cW [] n k m=false:=by unfold cW;rw[e];rfl
 rw[e1,e2,e];exact⟨fun _=>hin,rfl,rfl,rfl,rfl,rfl,rfl,rfl⟩
theorem Wg (n:Int) (k:Key) (m:bp) (hs:aw m.data):
 (decide (0<=n)=true->aF IntKind.i64 (bO m.data))/\0=(aG [] n k m).code/\ByteArray.mk (Array.mk [])=(aG [] n k m).data/\void=(aG [] n k m).k0/\void=(aG [] n k m).k1/\void
  =(aG [] n k m).k2/\false=cW [] n k m/\1=cJ [] n k m:=by
 have hin:aF .i64 (bO m.data):=by have:=hs;unfold aw at this;unfold aF cc bO;omega
 have e:cJ [] n k m=1:=by unfold cJ;rw[aa2 (show ai ([]:List Sx.Obj)=0 from rfl)]
 have e1:aG [] n k m=cY:=by unfold aG;rw[e];rfl
 have e2:cW [] n k m=false:=by unfold cW;rw[e];rfl
 rw[e1,e2,e];exact⟨fun _=>hin,rfl,rfl,rfl,rfl,rfl,rfl,rfl⟩
abbrev abK(m:bp)(L:List Sx.Obj):=bp.mk m.code m.data (ah L m.k0) (ah L m.k1) (ah L m.k2)
theorem aal (L:List Sx.Obj) (n:Int) (k:Key) (m:bp) (hL:aq L) (hs:aw m.data):
 (decide (0<=n)=true->aF IntKind.i64 (bO m.data))/\aba (decide (ak L=0)) ((0=(aG L n k m).code/\abJ=(aG L n k m).data/\void=(aG L n k m).k0/\void=(aG L n k m).k1/\void=(aG L n k m).k2/\false=cW L n k m/\1=cJ L n k m)/\L=ia L n k m) (aba (!(decide (0<=n)&&decide (bO m.data<=32)&&bJ L k&&bJ L m.k0&&bJ L m.k1&&bJ L m.k2)) ((0=(aG L n k m).code/\abJ=(aG L n k m).data/\void=(aG L n k m).k0/\void=(aG L n k m).k1/\void=(aG L n k m).k2/\false=cW L n k m/\2=cJ L n k m)/\L=ia L n k m) (aba (decide ((ah L k).kind=6)||decide ((ah L k).kind=7)) ((0=(aG L n k m).code/\abJ=(aG L n k m).data/\void=(aG L n k m).k0/\void=(aG L n k m).k1/\void=(aG L n k m).k2/\false=cW L n k m/\241=cJ L n k m)/\L=ia L n k m) (true=true/\Vn L (ah L k) (abK m L)/\((en L n (ah L k) (abK m L)).code=(aG L n k m).code/\(en L n (ah L k) (abK m L)).data=(aG L n k m).data/\(en L n (ah L k) (abK m L)).k0=(aG L n k m).k0/\(en L n (ah L k) (abK m L)).k1=(aG L n k m).k1/\(en L n (ah L k) (abK m L)).k2=(aG L n k m).k2/\(decide ((ah L k).kind=10)&&decide (m.code=1))=cW L n k m/\0=cJ L n k m)/\eF L n (ah L k) (abK m L)=ia L n k m))):=by
 delta aba abJ abK
 have hcn:bp.mk m.code m.data (ah L m.k0) (ah L m.k1) (ah L m.k2)=aH L m:=rfl;simp only[hcn];have hin:aF .i64 (bO m.data):=by have:=hs;unfold aw at this;unfold aF cc bO;omega
 have hf:(decide (0<=n)&&decide (bO m.data<=32)&&bJ L k&&bJ L m.k0&&bJ L m.k1&&bJ L m.k2)=qL L n k m:=by
  unfold qL fk;cases decide (0<=n)<;>cases decide (bO m.data<=32)<;>cases bJ L k<;>cases bJ L m.k0<;>cases bJ L m.k1<;>cases bJ L m.k2<;>rfl
 rw[hf];have hsz:ak L=0↔ai L=0:=by unfold ak;simp[bQ]
 have no:∀e:Int,cJ L n k m=e->e≠0->(0=(aG L n k m).code/\ByteArray.mk (Array.mk [])=(aG L n k m).data/\void=(aG L n k m).k0/\void=(aG L n k m).k1/\void=(aG L n k m).k2/\false=cW L n k m/\e=cJ L n k m)/\L=ia L n k m:=fun e he h0=>by
  have e1:aG L n k m=cY:=by unfold aG;rw[he,aa1 h0]
  have e2:cW L n k m=false:=by unfold cW;rw[he];simp[h0]
  have e3:ia L n k m=L:=by unfold ia;rw[he,aa1 h0]
  rw[e1,e2,e3,he];exact⟨⟨rfl,rfl,rfl,rfl,rfl,rfl,rfl⟩,rfl⟩
 refine⟨fun _=>hin,fun h=>?_,fun h=>⟨fun h2=>?_,fun h2=>⟨fun h3=>?_,fun h3=>?_⟩⟩⟩
 ·have h:=hsz.1 (by simpa using h)
  exact no 1 (by unfold cJ;rw[aa2 h]) (by omega)
 ·have h:¬ai L=0:=fun e=>by simp[hsz.2 e]at h
  have h2:qL L n k m=false:=by simpa using h2
  exact no 2 (by unfold cJ;rw[aa1 h,aa2 h2]) (by omega)
 ·have h:¬ai L=0:=fun e=>by simp[hsz.2 e]at h
  have h2:qL L n k m=true:=by simpa using h2
  have h3:(ah L k).kind=6\/(ah L k).kind=7:=by simpa using h3
  exact no 241 (by unfold cJ;rw[aa1 h,aa1 (by simp[h2]),aa2 h3]) (by omega)
 ·have h:¬ai L=0:=fun e=>by simp[hsz.2 e]at h
  have h2:qL L n k m=true:=by simpa using h2
  have h3:¬((ah L k).kind=6\/(ah L k).kind=7):=by simpa using h3
  have he:cJ L n k m=0:=by unfold cJ;rw[aa1 h,aa1 (by simp[h2]),aa1 h3]
  have e1:aG L n k m=en L n (ah L k) (aH L m):=by unfold aG;rw[aa2 he]
  have e2:cW L n k m=(decide ((ah L k).kind=10)&&decide (m.code=1)):=by unfold cW;rw[he];rfl
  have e3:ia L n k m=eF L n (ah L k) (aH L m):=by unfold ia;rw[aa2 he]
  rw[e1,e2,e3,he];exact⟨trivial,⟨hL,hs,tH⟩,⟨rfl,rfl,rfl,rfl,rfl,rfl,rfl⟩,rfl⟩
theorem YX (L:List Sx.Obj) (n:Int) (k:Key) (m:bp) (hL:aq L) (hs:aw m.data):an Tryz.prog 61 [.lp 0 0,.it .i64 n,.key k,jJ m] [.store tS eS L] (CA (.tp [jJ (aG L n k m),.bo (cW L n k m),.it .i64 (cJ L n k m)]) (ia L n k m)) (fun _ _=>False):=
 bm (inl:=bx) (ann:=(iJ [(61,3,Ml 4)])) (ae bC (ae iv (ae wQ ar))) (aC GO aE) (aal L n k m hL hs) (by kernel_rfl)
theorem YV:lh Tryz.prog 61 aaR:=
 C6 (m:=fun x=>MG.cn x 0) (fP IP (fun _=>rfl)) (fun _=>rfl) (fun _ _=>rfl) (fun x hs=>bm (inl:=bx) (ann:=(iJ [(61,3,Ml 4)])) (ae sE (ae iv (ae wQ ar))) (aC GO aE) (VU x.1 x.2.1 x.2.2.1 hs) (by kernel_rfl)) (fun x hs=>bm (inl:=bx) (ann:=(iJ [(61,3,Ml 4)])) (ae sE (ae iv (ae wQ ar))) (aC GO aE) (Wg x.1 x.2.1 x.2.2.1 hs) (by kernel_rfl)) fun L x hq=>YX L x.1 x.2.1 x.2.2.1 hq.1 hq.2
end Go.Proofs.YtlblcfaclmpekaaGreat
namespace Go.Sx
structure jb where
 kind:Int
 proc:Int
 reg:Int
 mode:Int
 code:Int
 data:ByteArray
 s0:Int
 s1:Int
 s2:Int
 num:Bool
 val:Int
def Ky (o:jb):V:= .ag [.it .i64 o.kind,.it .i64 o.proc,.it .i64 o.reg,.it .i64 o.mode,.it .i64 o.code,.st o.data,.ag [.it .i64 o.s0,.it .i64 o.s1,.it .i64 o.s2],.bo o.num,.it .i64 o.val]
structure Dn where
 out:Int
 proc:Int
 err:Int
 ans:bp
 wants:Bool
def YQ (d:Dn):V:= .ag [.it .i64 d.out,.it .i64 d.proc,.it .i64 d.err,jJ d.ans,.bo d.wants]
def dn0:Dn:=⟨0,0,0,cY,false⟩
def tL (n:Int):Bool:=decide (0<=n)&&decide (n<12)
def gU (n:Int):Bool:=decide (n= -1)||tL n
def eu (o:jb) (now:Int):Bool:=
 if o.kind=2 then decide (0<=o.val)&&decide (o.val<=1099511627776)&&decide (now<=4611686018427387904-o.val)
 else decide (o.kind=1)&&decide (1<=o.mode)&&decide (o.mode<=3)&&decide (bO o.data<=32)&&tL o.reg&&gU o.s0&&gU o.s1&&gU o.s2
def oD (o:Obj) (n:Int):Key:=if n<0 then void else o.slots.at (4+n).toNat
def bS (o:Obj) (p:jb):bp:=⟨p.code,p.data,oD o p.s0,oD o p.s1,if p.num=true then bL p.val else oD o p.s2⟩
def b7 (L:List Obj):List Int:=dL L (bQ (ai L))
def aX (L:List Obj) (p:jb):Int:=aj (b7 L) ((p.proc.tmod (ai (b7 L):Int)+(ai (b7 L):Int)).tmod (ai (b7 L):Int)).toNat 0
def cR (L:List Obj) (p:jb):Key:=ah L ((aL L (aX L p)).slots.at (4+p.reg).toNat)
def bK (L:List Obj) (p:jb):bp:=bS (aL L (aX L p)) p
def rr (L:List Obj) (p:jb):Bool:=decide ((cR L p).kind=6)||decide ((cR L p).kind=7)
def iH (L:List Obj) (n:Int) (p:jb):List Obj:=ia L n (cR L p) (bK L p)
def w8 (L:List Obj) (n:Int) (p:jb):List Obj:=
 if dS (iH L n p) (aX L p)=true/\iG (iH L n p) (aX L p)=1 then
  if p.mode=1 then gx (iH L n p) (aX L p) (aG L n (cR L p) (bK L p))else if p.mode=3 then dg (iH L n p) (aX L p) 0 else iH L n p
 else iH L n p
def dP (L:List Obj) (n:Int) (p:jb):List Obj:=
 if eu p n=true/\¬p.kind=2/\¬ai (b7 L)=0 then
  if rr L p=true then fe L (aX L p) (cR L p) p.mode (bK L p)else w8 L n p
 else L
def jn (n:Int) (p:jb):Int:=if eu p n=true/\p.kind=2 then n+p.val else n
def oJ (n:Int) (p:jb):Int:=if eu p n=true then 0 else 2
def aT (L:List Obj) (n:Int) (p:jb):Dn:=
 if eu p n=true then
  if p.kind=2 then⟨5,0,0,cY,false⟩
  else if ai (b7 L)=0 then⟨1,0,0,cY,false⟩
  else if rr L p=true then
   if b9 L (aX L p) (cR L p) p.mode (bK L p)=0 then⟨2,aX L p,0,cY,false⟩else⟨3,aX L p,b9 L (aX L p) (cR L p) p.mode (bK L p),cY,false⟩
  else⟨4,aX L p,0,aG L n (cR L p) (bK L p),cW L n (cR L p) (bK L p)⟩
 else dn0
def gN (n:Int):Prop:=0<=n/\n<=4611686018427387904
abbrev sR:Nat:=85
def om (s:Nat) (n:Int):V:= .ag [.lp s 0,.it .i64 n]
def M6 (c:V):Option (Nat×Int):=
 match c with
 | .ag m=>match m with
   | [p,y]=>match p with
     | .lp s off=>match rI .i64 y with
       |some n=>if off==0 then some (s,n)else none
       |none=>none
     |_=>none
   |_=>none
 |_=>none
def sdA:Arg (Int×Int×Int×Unit):=YF (ba iA (ba iA (ba iA gJ)))
theorem XL:m8 sdA:=Gf (aA dE (aA dE (aA dE bV)))
abbrev OpT:Type:=Int×Int×Int×Int×Int×ByteArray×(Int×Int×Int×Unit)×Bool×Int×Unit
def opA:Arg OpT:=YF (ba iA (ba iA (ba iA (ba iA (ba iA (ba zA (ba sdA (ba bA (ba iA gJ)))))))))
theorem Ga:m8 opA:=Gf (aA dE (aA dE (aA dE (aA dE (aA dE (aA Z6 (aA XL (aA Fa (aA dE bV)))))))))
def wy (x:OpT):jb:=⟨x.1,x.2.1,x.2.2.1,x.2.2.2.1,x.2.2.2.2.1,x.2.2.2.2.2.1,x.2.2.2.2.2.2.1.1,x.2.2.2.2.2.2.1.2.1,x.2.2.2.2.2.2.1.2.2.1,x.2.2.2.2.2.2.2.1,x.2.2.2.2.2.2.2.2.1⟩
def JM:ly (OpT×Unit):=ba opA gJ
theorem F5:gR JM:=aA Ga bV
theorem wo {c:V} {s:Nat} {n:Int} (h:M6 c=some (s,n)):∃y,c= .ag [.lp s 0,y]/\rI .i64 y=some n:=by
 unfold M6 at h;repeat' (first| (split at h<;>try(simp at h;done))|skip)
 rename_i y n' hn ho;simp only[aaT,aaU]at h;obtain⟨rfl,rfl⟩:=h;have:=aaX.1 ho;subst this;exact⟨_,rfl,hn⟩
theorem an.WU {P:Program} {f:Nat} {rest:List V} {res:List aK} {K KP:V->List aK->Prop} {b s tm t e:Nat} {L M:List Obj} {n n':Int} {x:V}
  (hb:az res b= .blk tm (om s n)) (hs:az res s= .store t e L) (hid:lW rest=true) (hx:kE x=true)
  (h:an P f (.lp 0 0::rest) [.blk tm (om 1 n),.store t e L] (fun v r=>ya x v r/\az r 0= .blk tm (om 1 n')/\az r 1= .store t e M) (fun _ _=>False))
  (hK:K x (bP (bP res b (.blk tm (om s n'))) s (.store t e M))):an P f (.lp b 0::rest) res K KP:=by
 have hkb:known res b:=by unfold known;rw[hb];simp
 have hks:known res s:=by unfold known;rw[hs];simp
 have hlb:=aO hkb;have hls:=aO hks;have hne:b≠s:=fun e=>by rw[e,hs]at hb;simp at hb
 refine an.frame (pl:= [(b,true),(s,true)]) (args0:= .lp 0 0::rest) (K0:=fun v r=>ya x v r/\az r 0= .blk tm (om 1 n')/\az r 1= .store t e M) (KP0:=fun _ _=>False)
  (by simp[fm,cQ.2 hkb,cQ.2 hks]) (by simp[ju,dV,pF,hlb,hls,hne,Ne.symm hne]) ?_ ?_ (fun v r hv=>?_) (fun _ _ h=>h.elim)
 ·simp only[eX,ga,lS,idxOf,dV];rw[lf rest hid];simp
 ·have:fD (lS 0 (dV [(b,true),(s,true)])) res [(b,true),(s,true)]= [.blk tm (om 1 n),.store t e L]:=by simp[fD,hb,hs,gL,om,ga,eX,lS,idxOf,dV,hne,Ne.symm hne]
  rw[this];exact h
 ·obtain⟨h1,h2,h3⟩:=hv;have hm:merge [(b,true),(s,true)] [] r res=bP (bP res b (.blk tm (om s n'))) s (.store t e M):=by simp[merge,fC,h2,h3,gL,gG,om,ga,eX,back,v7]
  exact⟨[],x,rfl,by simp[kV,h2,h3,jT],rfl,lu.kE h1 hx,by rw[hm];exact hK⟩
theorem an.mcN {P:Program} {f:Nat} {args:List V} {res:List aK} {K KP:V->List aK->Prop} {b s tm:Nat} {y:V} {n:Int} (hb:az res b= .blk tm (.ag [.lp s 0,y])) (hy:rI .i64 y=some n)
  (h:an P f args (bP res b (.blk tm (om s n))) K KP):an P f args res K KP:=by
 have hkb:known res b:=by unfold known;rw[hb];simp
 have hlb:=aO hkb
 have hkn:∀i,known (bP res b (.blk tm (om s n))) i↔known res i:=fun i=>by
  unfold known;rw[bI _ _ _ _ hlb];by_cases e:i=b
  ·subst e;rw[aa2 rfl,hb];simp
  ·rw[aa1 e]
 have hK:known (bP res b (.blk tm (om s n)))=known res:=by funext i;exact propext (hkn i)
 obtain⟨r1,r2⟩:=gq .i64 y n hy;refine h.uU fun J fps w0 F0 w hH=>⟨J,fps,hH.weaken (fun i hi=>⟨(hkn i).1 hi,fun fp hh=>?_⟩),Env.bD.refl _ _,fun i hi=>(hkn i).2 hi⟩
 rw[hK,bI _ _ _ _ hlb];by_cases e:i=b
 ·subst e;rw[aa2 rfl];rw[hb]at hh;obtain⟨h1,h2,h3,h4⟩:=hh;have hd:=r1 J;refine⟨?_,rfl,h3,?_⟩
  ·exact⟨⟨h1.1.1,fT (r2 _ h1.1.2.1),trivial⟩,trivial,trivial,trivial⟩
  ·rw[h4];simp only[cells,om,den,bn,Value.cells,hd]
 ·rw[aa1 e];exact hh
def Fj:Ct:=s7 (ba opA (ba iA gJ)) (fun x=>some (aw x.1.2.2.2.2.2.1/\gN x.2.1)) fun x=> .bo (eu (wy x.1) x.2.1)
def Xk:Ct:=s7 (ba oA JM) (fun x=>some (gU (wy x.2.1).s0=true/\gU (wy x.2.1).s1=true/\gU (wy x.2.1).s2=true)) fun x=>jJ (bS x.1 (wy x.2.1))
def hMc (Q:List Obj->Int->jb->Prop) (F:List Obj->Int->jb->V) (N:Int->jb->Int) (M:List Obj->Int->jb->List Obj):kq:=fun args res K=>
 match args with
 |a::l=>match uw JM l with
  |some x=>match a with
   | .lp b off=>if off==0 then match az res b with
     | .blk t c=>match M6 c with
       |some (s,n)=>match az res s with
        | .store ts e L=>if t==sR&&ts==tS&&e==eS then Q L n (wy x.1)/\K (F L n (wy x.1)) (bP (bP res b (.blk sR (om s (N n (wy x.1))))) s (.store tS eS (M L n (wy x.1))))else False
        |_=>False
       |none=>False
     |_=>False
     else False
   |_=>False
  |none=>False
 |_=>False
def Xy (L:List Obj) (n:Int) (p:jb):Prop:=aq L/\aw p.data/\gN n
def VX:kq:=hMc Xy (fun L n p=> .tp [YQ (aT L n p),.it .i64 (oJ n p)]) jn dP
def Wy:kq:=hMc (fun L n p=>Xy L n p/\eu p n=true/\p.kind=1) (fun L n p=>YQ (aT L n p)) (fun n _=>n) dP
def mcX (c:V):Option Int:=
 match c with
 | .ag q=>match q with
   | [p,y]=>match p with
     | .lp s off=>match y with
       | .it k n=>match k with
         | .i64=>if s==1&&off==0 then some n else none
         |_=>none
       |_=>none
     |_=>none
   |_=>none
 |_=>none
theorem EO {c:V} {n:Int} (h:mcX c=some n):c=om 1 n:=by
 unfold mcX at h;split at h
 case h_2=>simp at h
 split at h
 case h_2=>simp at h
 split at h
 case h_2=>simp at h
 split at h
 case h_2=>simp at h
 split at h
 case h_2=>simp at h
 split at h
 case isFalse=>simp at h
 rename_i hc;simp only[aaV,aaX]at hc;obtain⟨rfl,rfl⟩:=hc;simp only[aaT]at h;subst h;rfl
def mcS (r:aK) (m:Int):Prop:=
 match r with
 | .blk t c=>match mcX c with
   |some n=>if t==sR then n=m else False
   |none=>False
 |_=>False
theorem UC {r:aK} {m:Int} (h:mcS r m):r= .blk sR (om 1 m):=by
 unfold mcS at h;split at h
 case h_2=>exact h.elim
 split at h
 case h_2=>exact h.elim
 rename_i n hn;split at h
 case isFalse=>exact h.elim
 rename_i ht;have ht:=aaX.1 ht;subst ht;subst h;rw[EO hn]
def kMc (x:V) (n:Int) (M:List Obj) (v:V) (r:List aK):Prop:=
 match az r 1 with
 | .store t e L=>if t==tS&&e==eS then mcS (az r 0) n/\oW x v r/\L=M else False
 |_=>False
theorem RH {x:V} {n:Int} {M:List Obj} {v:V} {r:List aK} (h:kMc x n M v r):ya x v r/\az r 0= .blk sR (om 1 n)/\az r 1= .store tS eS M:=by
 unfold kMc at h;split at h
 ·rename_i hr;split at h
  ·rename_i hc;simp only[aaV,aaX]at hc;obtain⟨rfl,rfl⟩:=hc;obtain⟨h1,h2,rfl⟩:=h;exact⟨dK h2,UC h1,hr⟩
  ·exact h.elim
 ·exact h.elim
theorem Qt {P:Program} {f:Nat} {Q:List Obj->Int->jb->Prop} {F:List Obj->Int->jb->V} {N:Int->jb->Int} {M:List Obj->Int->jb->List Obj} (hF:∀L n p,kE (F L n p)=true)
  (h:∀L n p,Q L n p->an P f [.lp 0 0,Ky p] [.blk sR (om 1 n),.store tS eS L] (kMc (F L n p) (N n p) (M L n p)) (fun _ _=>False)):lh P f (hMc Q F N M):=by
 intro args res K KP hh;unfold hMc at hh;split at hh
 case h_2=>exact hh.elim
 split at hh
 case h_2=>exact hh.elim
 rename_i x hx;split at hh
 case h_2=>exact hh.elim
 rename_i b off;split at hh
 case isFalse=>exact hh.elim
 rename_i ho;have ho:=aaX.1 ho;subst ho;split at hh
 case h_2=>exact hh.elim
 rename_i t c hb;split at hh
 case h_2=>exact hh.elim
 rename_i s n hc;split at hh
 case h_2=>exact hh.elim
 rename_i ts e L hs;split at hh
 case isFalse=>exact hh.elim
 rename_i ht;simp only[aaV,aaX]at ht;obtain⟨⟨rfl,rfl⟩,rfl⟩:=ht;obtain⟨hq,hK⟩:=hh;obtain⟨y,rfl,hy⟩:=wo hc;have hkb:known res b:=by unfold known;rw[hb];simp
 have hlb:=aO hkb;refine an.args (ff.j4 (fP F5 (fun _=>rfl) _ _ hx)) ?_
 refine an.mcN hb hy ?_;have hne:b≠s:=fun e=>by rw[e,hs]at hb;simp at hb
 refine an.WU (rest:=JM.cn x 0) (by rw[bI _ _ _ _ hlb,aa2 rfl]) (by rw[bI _ _ _ _ hlb,aa1 (Ne.symm hne)];exact hs) rfl (hF _ _ _) ((h L n (wy x.1) hq).mono (fun _ _ hv=>RH hv) fun _ _ h=>h) ?_
 have:∀(l:List aK) (i:Nat) (a b:aK),bP (bP l i a) i b=bP l i b:=fun l i a b=>by rw[kP,kP,kP,List.set_set]
 rw[this];exact hK
structure Pac where
 kind:Int
 oid:Int
 key:Key
 mode:Int
 state:Int
 msg:bp
theorem MY {L:List Obj} {i:Int} {k:Key} {md:Int} {m:bp} (h:lR L i k md m=false):fe L i k md m=L:=by
 unfold lR at h;unfold fe;rw[aa1 (aaY h)]
theorem Ya {L:List Obj} {i:Int} {m:bp} (h:pM L i m=false):gx L i m=L:=by
 unfold pM at h;unfold gx;rw[aa1 (aaY h)]
theorem Bc {L:List Obj} (h:aq L):iu L:=by have:=gY h;unfold iu;omega
def VV:ly (Key×Int×Key×Unit):=ba kA (ba iA (ba kA gJ))
theorem Ti:gR VV:=aA iI (aA dE (aA iI bV))
def C3:ly (Key×bp×Int×Unit):=ba kA (ba mA (ba iA gJ))
theorem yB:gR C3:=aA iI (aA zY (aA dE bV))
def iL (L:List Obj) (k:Key) (i:Int) (v:Key):Bool:=decide (bj L k i v=0)
def mH (L:List Obj) (k:Key):Bool:=decide (aB L k 2 true=0)
def kN (L:List Obj) (t f:Key):Bool:=decide (bT L t f=0)
def mD (L:List Obj) (k:Key):Bool:=decide (aW L k true=0)
def mU (L:List Obj) (t f:Key):Bool:=decide (cU L t f=0)
def Us:Ct:=s7 (ba AE (ba kA (ba iA gJ))) (fun _=>none) fun x=> .tp [.key (aJ x.1 x.2.1 x.2.2.1),.it .i64 (bY x.1 x.2.1 x.2.2.1)]
def UJ:kq:=Az (uw VV) (fun L _=>aq L) (fun L x=>iL L x.1 x.2.1 x.2.2.1) (fun L x=>cC L x.1 x.2.1 x.2.2.1) fun L x=> [.key (cT L x.1 x.2.1 x.2.2.1),.it .i64 (bj L x.1 x.2.1 x.2.2.1)]
def RX:kq:=Az (uw kB) (fun L _=>aq L) (fun L x=>mH L x.1) (fun L x=>fA L x.1) fun L x=> [.it .i64 (aB L x.1 2 true)]
def UP:kq:=Az (uw NY) (fun L _=>aq L) (fun L x=>kN L x.1 x.2.1) (fun L x=>eT L x.1 x.2.1) fun L x=> [.it .i64 (bT L x.1 x.2.1)]
def Qe:Ct:=s7 (ba AE (ba kA (ba iA (ba iA gJ)))) (fun x=>some (aq x.1)) fun x=> .tp [.st (ec x.1 x.2.1 x.2.2.1 x.2.2.2.1),.it .i64 (cD x.1 x.2.1 x.2.2.1 x.2.2.2.1)]
def Rp:kq:=Az (uw kB) (fun L _=>aq L) (fun L x=>mD L x.1) (fun L x=>fq L x.1) fun L x=> [.it .i64 (aW L x.1 true)]
def VB:kq:=Az (uw NY) (fun L _=>aq L) (fun L x=>mU L x.1 x.2.1) (fun L x=>fM L x.1 x.2.1) fun L x=> [.it .i64 (cU L x.1 x.2.1)]
def kg (L:List Obj) (k:Key) (m:bp):Bool:=
 if m.code=1 then false else if m.code=2 then iL L k (aS m) m.k0 else if m.code=3 then mH L k else if m.code=4 then kN L k m.k0 else false
def ld (L:List Obj) (k:Key) (m:bp):Bool:=
 if m.code=1 then false else if m.code=2 then ki L k (aS m) m.data else if m.code=3 then mD L k else if m.code=4 then mU L k m.k0 else false
def gQ (L:List Obj) (k:Key) (m:bp):Bool:=
 if m.code=1 then gE L k 1 else if m.code=2 then gE L k 2 else if m.code=3 then jU L k m.k0 else if m.code=4 then k9 L k (aS m)else if m.code=5 then false else kX L k
def iw (L:List Obj) (k:Key) (m:bp):Bool:=
 if m.code=1 then false else if m.code=2 then(if aS m<0\/11<aS m then false else iL L (fl k) (aS m+4) m.k0)else if m.code=3 then false else if m.code=4 then false
 else if m.code=5 then ku L k.oid (aS m)else if m.code=6 then false else ma L (fO L k) m.k2.value (bO m.data) true
def tP (L:List Obj) (k:Key) (m:bp):Bool:=
 if k.kind=1 then false else if k.kind=2 then kg L k m else if k.kind=3 then ld L k m else if k.kind=4 then gQ L k m else if k.kind=5 then iw L k m else false
def vK (L:List Obj) (k:Key) (m:bp):Bool:=
 if k.kind=0 then false else if m.code=0 then false else if m.code<1\/de k.kind<m.code\/(cX k.kind m.code=true/\m.k2.kind≠1)then false else tP L k m
def fz (L:List Obj) (n:Int) (k:Key) (m:bp):Bool:=decide (cJ L n k m=0)&&vK L (ah L k) (aH L m)
def mI (L:List Obj) (k:Key) (m:bp) (i:Int):Prop:=aq L/\aw m.data/\aV k=true/\i=aS m
def xT (d:Int):Prop:=0<=d/\d<=10
def Tl:Ct:=s7 (ba iA gJ) (fun x=>some (xT x.1)) fun x=> .it .i64 (de x.1)
def TY:Ct:=Se (rI .i64) (rI .i64) fun a b=> .bo (cX a b)
def cq (L:List Obj) (k:Key) (m:bp):bp:=if(m.code=1\/m.code=2\/m.code=3\/m.code=4)\/(ey L k m).1=0 then(ey L k m).2.1 else cY
def cV (L:List Obj) (k:Key) (m:bp):bp:=if(m.code=1\/m.code=2\/m.code=3\/m.code=4)\/(eo L k m).1=0 then(eo L k m).2.1 else cY
def bh (L:List Obj) (k:Key) (m:bp):bp:=(dC L k m).2.1
def bG (L:List Obj) (k:Key) (m:bp):bp:=if(m.code=1\/m.code=2)/\(aS m<0\/11<aS m)then cY else(dv L k m).2.1
theorem Py {L:List Obj} {k:Key} {m:bp} (h:(ey L k m).1=0):cq L k m=(ey L k m).2.1:=by unfold cq;rw[aa2 (.inr h)]
theorem PU {L:List Obj} {k:Key} {m:bp} (h:(eo L k m).1=0):cV L k m=(eo L k m).2.1:=by unfold cV;rw[aa2 (.inr h)]
theorem MK {L:List Obj} {k:Key} {m:bp} (h:(dv L k m).1=0):bG L k m=(dv L k m).2.1:=by
 unfold bG;split
 ·rename_i hh;unfold dv at h;obtain⟨h1|h1,h2⟩:=hh
  ·rw[aa2 h1,aa2 h2]at h;simp at h
  ·rw[aa1 (by omega),aa2 h1,aa2 h2]at h;simp at h
 ·rfl
theorem Dy {m:bp}: -1<=aS m/\aS m<=2147483647:=by unfold aS;split<;>omega
theorem N4 {m:bp}:(0<=aS m/\aS m<=7/\aS m=m.k2.value/\0<=m.k2.value/\m.k2.value<=7)\/((aS m<0\/7<aS m)/\¬(0<=m.k2.value/\m.k2.value<=7)):=by unfold aS;split<;>omega
def SK:kq:=Az (uw C3) (fun L x=>mI L x.1 x.2.1 x.2.2.1) (fun L x=>kg L x.1 x.2.1) (fun L x=>(ey L x.1 x.2.1).2.2) fun L x=> [jJ (cq L x.1 x.2.1),.it .i64 (ey L x.1 x.2.1).1]
def UX:kq:=Az (uw C3) (fun L x=>mI L x.1 x.2.1 x.2.2.1) (fun L x=>ld L x.1 x.2.1) (fun L x=>(eo L x.1 x.2.1).2.2) fun L x=> [jJ (cV L x.1 x.2.1),.it .i64 (eo L x.1 x.2.1).1]
def MC:kq:=Az (uw C3) (fun L x=>mI L x.1 x.2.1 x.2.2.1) (fun L x=>gQ L x.1 x.2.1) (fun L x=>(dC L x.1 x.2.1).2.2) fun L x=> [jJ (bh L x.1 x.2.1),.it .i64 (dC L x.1 x.2.1).1]
def Q4:kq:=Az (uw C3) (fun L x=>mI L x.1 x.2.1 x.2.2.1) (fun L x=>iw L x.1 x.2.1) (fun L x=>(dv L x.1 x.2.1).2.2) fun L x=> [jJ (bG L x.1 x.2.1),.it .i64 (dv L x.1 x.2.1).1]
def Z2:kq:=Az (uw MG) (fun L x=>aq L/\aw x.2.2.1.data) (fun L x=>fz L x.1 x.2.1 x.2.2.1) (fun L x=>ia L x.1 x.2.1 x.2.2.1) fun L x=> [jJ (aG L x.1 x.2.1 x.2.2.1),.bo (cW L x.1 x.2.1 x.2.2.1),.it .i64 (cJ L x.1 x.2.1 x.2.2.1)]
def xu (L:List Obj) (n:Int) (k:Key) (m:bp):Prop:=
 (aq L/\aw m.data)/\cJ L n k m=0/\¬(ah L k).kind=0/\¬m.code=0/\¬(m.code<1\/de (ah L k).kind<m.code\/(cX (ah L k).kind m.code=true/\(aH L m).k2.kind≠1))
theorem Lu {L:List Obj} {n:Int} {k:Key} {m:bp} {e:Int} (h:cJ L n k m=e) (h0:e≠0):fz L n k m=false/\aG L n k m=cY/\cW L n k m=false/\e=cJ L n k m:=by
 refine⟨?_,?_,?_,h.symm⟩
 ·unfold fz;rw[h];simp[h0]
 ·unfold aG;rw[h,aa1 h0]
 ·unfold cW;rw[h];simp[h0]
theorem CV {L:List Obj} {n:Int} {k:Key} {m:bp} {c:Bool} {r:P6} (h:cJ L n k m=0) (hr:dI L n (ah L k) (aH L m)=r) (hc:vK L (ah L k) (aH L m)=c):
  fz L n k m=c/\aG L n k m=(if r.1=0 then r.2.1 else gg r.1)/\ia L n k m=r.2.2/\cW L n k m=(decide ((ah L k).kind=10)&&decide (m.code=1))/\0=cJ L n k m:=by
 refine⟨?_,?_,?_,?_,h.symm⟩
 ·unfold fz;rw[h,hc];rfl
 ·unfold aG en;rw[aa2 h,hr]
 ·unfold ia eF;rw[aa2 h,hr]
 ·unfold cW;rw[h];rfl
theorem RU {L:List Obj} {n:Int} {k:Key} {m:bp} (h:xu L n k m):dI L n (ah L k) (aH L m)=eJ L n (ah L k) (aH L m)/\vK L (ah L k) (aH L m)=tP L (ah L k) (aH L m):=by
 obtain⟨_,h0,h1,h2,h3⟩:=h;have h2':¬(aH L m).code=0:=h2;have h3':¬((aH L m).code<1\/de (ah L k).kind<(aH L m).code\/(cX (ah L k).kind (aH L m).code=true/\(aH L m).k2.kind≠1)):=h3;unfold dI vK;rw[aa1 h1,aa1 h2',aa1 h3',aa1 h1,aa1 h2',aa1 h3'];exact⟨rfl,rfl⟩
theorem Zn {L:List Obj} {n:Int} {k:Key} {m:bp} (h:xu L n k m):(decide ((ah L k).kind=10)&&decide (m.code=1))=decide ((ah L k).kind=10):=by
 obtain⟨_,h0,h1,h2,h3⟩:=h;by_cases hk:(ah L k).kind=10
 ·have:de (ah L k).kind=1:=by rw[hk];rfl
  have:m.code=1:=by omega
  simp[this]
 ·simp[hk]
theorem UH {L:List Obj} {n:Int} {k:Key} {m:bp} {c:Bool} {r:P6} (h:xu L n k m) (hr:eJ L n (ah L k) (aH L m)=r) (hc:tP L (ah L k) (aH L m)=c):
  fz L n k m=c/\aG L n k m=(if r.1=0 then r.2.1 else gg r.1)/\ia L n k m=r.2.2/\cW L n k m=decide ((ah L k).kind=10)/\0=cJ L n k m:=by
 obtain⟨e1,e2⟩:=RU h;obtain⟨a1,a2,a3,a4,a5⟩:=CV h.2.1 (e1.trans hr) (e2.trans hc);exact⟨a1,a2,a3,a4.trans (Zn h),a5⟩
theorem Sk {L:List Obj} {n:Int} {k:Key} {m:bp} (h:(decide (n<0)|| !bJ L k|| !fk L m)=true):qL L n k m=false:=by
 unfold qL;cases hm:bJ L k<;>cases hm2:fk L m<;>simp_all<;>omega
theorem L0 {L:List Obj} {n:Int} {k:Key} {m:bp} (h:(decide (n<0)|| !bJ L k|| !fk L m)=false):¬qL L n k m=false:=by
 unfold qL;cases hm:bJ L k<;>cases hm2:fk L m<;>simp_all<;>omega
theorem HI {L:List Obj} {k:Key} {kind:Int} (h:gE L k kind=false):fx L k kind=L:=by
 unfold gE at h;unfold fx;split
 ·rename_i he;rw[decide_eq_true he,Bool.true_and]at h;unfold lH at h;simp only[Bool.or_eq_false_iff,Bool.not_eq_false',aaW]at h;unfold cH;rw[aa2 h.1,zI h.2]
 ·rfl
theorem RJ {L:List Obj} {k:Key} (h:kX L k=false):ib L k=L:=by
 unfold kX at h;unfold ib;split
 ·rename_i he;rw[decide_eq_true he,Bool.true_and]at h;simp only[Bool.not_eq_false',aaW]at h;exact yH h
 ·rfl
theorem Yb {L:List Obj} {k:Key} {n:Int} (h:k9 L k n=false):bE L k n=L:=by
 unfold k9 at h;unfold bE;rw[aa1 (aaY h)]
theorem TN {L:List Obj} {k v:Key} (h:jU L k v=false):gA L k v=L:=by
 unfold jU at h;unfold gA;rw[aa1 (aaY h)]
theorem XA {L:List Obj} {k:Key} {n:Int} (h:b8 L k n=0):aN L k=0/\0<=gu L k:=by
 have he:aN L k=0:=Decidable.byContradiction fun he=>by
  rw[zb he]at h;exact he h
 refine⟨he,?_⟩;unfold b8 at h;split at h
 ·split at h
  ·omega
  ·rename_i h';omega
 ·rename_i h';exact absurd h h'
theorem L7 {L:List Obj} {k:Key} (hL:aq L):aq (ib L k):=by
 unfold ib;split
 ·exact IE hL fun o ho=>xW ho
 ·exact hL
theorem RN {L:List Obj} {k v:Key} (hL:aq L):aq (gA L k v):=by
 unfold gA;split
 ·by_cases h:v.oid.toNat<L.length
  ·exact kS hL (xW (dt hL _ h))
  ·have:b6 L v.oid.toNat (zq (aj L v.oid.toNat free))=L:=by unfold b6;exact List.set_eq_of_length_le (by omega)
   rw[this];exact hL
 ·exact hL
theorem WM {L:List Obj} {k:Key} {n:Int} (hL:aq L):aq (bE L k n):=by
 by_cases h:b8 L k n=0
 ·exact(QM hL (XA h).1 h).1
 ·unfold bE;rw[aa1 h];exact hL
theorem Dt {L:List Obj} {k:Key} {b:Bytes} (hL:aq L) (h:aU L k=true) (h2:k.kind=3):aq (ue L k b):=(qX hL h h2).2.2
theorem IM {L:List Obj} {a:Acp} (hL:aq L) (h:De L a=true):aq (Ox L a):=by
 unfold De at h;unfold Ox;split at h
 ·simp at h
 ·rename_i h1;rw[aa1 h1];split at h
  ·rename_i h2;rw[aa2 h2];have h:=aaZ h
   have hp:aW L a.key true=0:=by
    unfold cL at h;split at h
    ·assumption
    ·rename_i h3;exact absurd h h3
   obtain⟨a1,a2,_⟩:=nj hp;unfold eZ;rw[aa2 h];exact Dt hL a1 a2
  ·rename_i h2;rw[aa1 h2];split at h
   ·rename_i h3;rw[aa2 h3];have h:=aaZ h;obtain⟨a1,a2,_⟩:=nj h;unfold fq;rw[aa2 h];exact Dt hL a1 a2
   ·rename_i h3;rw[aa1 h3];have h:=aaZ h
    have hp:aW L a.key true=0:=by
     unfold cU at h;split at h
     ·assumption
     ·rename_i h3;exact absurd h h3
    obtain⟨a1,a2,_⟩:=nj hp;unfold fM;rw[aa2 h];exact Dt hL a1 a2
theorem E9 {L:List Obj} {k v:Key} {i:Int} (hL:aq L):aq (cC L k i v):=by
 by_cases h:bj L k i v=0
 ·exact zP (a:=⟨2,i,k,v⟩) hL (by simp[z7,h])
 ·unfold cC;rw[aa1 h];exact hL
theorem Lp {L:List Obj} {k:Key} (hL:aq L):aq (fA L k):=by
 by_cases h:aB L k 2 true=0
 ·exact zP (a:=⟨3,0,k,k⟩) hL (by simp[z7,h])
 ·unfold fA;rw[aa1 h];exact hL
theorem M8 {L:List Obj} {t f:Key} (hL:aq L):aq (eT L t f):=by
 by_cases h:bT L t f=0
 ·exact zP (a:=⟨4,0,t,f⟩) hL (by simp[z7,h])
 ·unfold eT;rw[aa1 h];exact hL
theorem Ot {L:List Obj} {k:Key} (hL:aq L):aq (fq L k):=by
 by_cases h:aW L k true=0
 ·exact IM (a:=⟨3,0,0,k,k,⟨#[]⟩⟩) hL (by simp[De,h])
 ·unfold fq;rw[aa1 h];exact hL
theorem S1 {L:List Obj} {t f:Key} (hL:aq L):aq (fM L t f):=by
 by_cases h:cU L t f=0
 ·exact IM (a:=⟨4,0,0,t,f,⟨#[]⟩⟩) hL (by simp[De,h])
 ·unfold fM;rw[aa1 h];exact hL
theorem fw {c:Prop} [Decidable c] {a b:P6} (ha:aq a.2.2) (hb:aq b.2.2):aq (if c then a else b).2.2:=by split<;>assumption
theorem ZJ {L:List Obj} {k:Key} {m:bp} (hL:aq L):aq (ey L k m).2.2:=by
 unfold ey;exact fw hL (fw (E9 hL) (fw (Lp hL) (fw (M8 hL) (fw hL hL))))
theorem ZF {L:List Obj} {k:Key} {m:bp} (hL:aq L):aq (eo L k m).2.2:=by
 unfold eo;exact fw hL (fw (Ii hL) (fw (Ot hL) (fw (S1 hL) hL)))
theorem ZD {L:List Obj} {k:Key} {m:bp} (hL:aq L):aq (dC L k m).2.2:=by
 unfold dC;exact fw (HS hL) (fw (HS hL) (fw (RN hL) (fw (WM hL) (fw hL (L7 hL)))))
theorem Zx {L:List Obj} {k:Key} {m:bp} (hL:aq L):aq (dv L k m).2.2:=by
 have hC:aq (if aS m<0\/11<aS m then L else cC L (fl k) (aS m+4) m.k0):=by
  split
  ·exact hL
  ·exact E9 hL
 unfold dv;exact fw hL (fw hC (fw hL (fw hL (fw (G6 hL) (fw hL (WD hL))))))
theorem X4 {L:List Obj} {n:Int} {k:Key} {m:bp} (hL:aq L):aq (eJ L n k m).2.2:=by
 unfold eJ;exact fw hL (fw (ZJ hL) (fw (ZF hL) (fw (ZD hL) (fw (Zx hL) (fw hL (fw hL hL))))))
theorem Ed {L:List Obj} {k v:Key} {i:Int} (h:iL L k i v=false):cC L k i v=L:=by unfold iL at h;unfold cC;rw[aa1 (aaY h)]
theorem OO {L:List Obj} {k:Key} (h:mH L k=false):fA L k=L:=by unfold mH at h;unfold fA;rw[aa1 (aaY h)]
theorem N5 {L:List Obj} {t f:Key} (h:kN L t f=false):eT L t f=L:=by unfold kN at h;unfold eT;rw[aa1 (aaY h)]
theorem Ri {L:List Obj} {k:Key} {i:Int} {s:ByteArray} (h:ki L k i s=false):eZ L k i s=L:=by unfold ki at h;unfold eZ;rw[aa1 (aaY h)]
theorem OP {L:List Obj} {k:Key} (h:mD L k=false):fq L k=L:=by unfold mD at h;unfold fq;rw[aa1 (aaY h)]
theorem SC {L:List Obj} {t f:Key} (h:mU L t f=false):fM L t f=L:=by unfold mU at h;unfold fM;rw[aa1 (aaY h)]
theorem H9 {L:List Obj} {i st:Int} (h:ku L i st=false):dg L i st=L:=by unfold ku at h;unfold dg;rw[aa1 (aaY h)]
theorem fU {c:Prop} [Decidable c] {a b:P6} {x y:Bool} {L:List Obj} (ha:x=false->a.2.2=L) (hb:y=false->b.2.2=L) (h:(if c then x else y)=false):(if c then a else b).2.2=L:=by
 by_cases hc:c
 ·rw[aa2 hc]at h⊢;exact ha h
 ·rw[aa1 hc]at h⊢;exact hb h
theorem aai {L:List Obj} {k:Key} {m:bp}:kg L k m=false->(ey L k m).2.2=L:=by
 unfold kg ey;exact fU (fun _=>rfl) (fU Ed (fU OO (fU N5 (fun _=>by split<;>rfl))))
theorem Zp {L:List Obj} {k:Key} {m:bp}:ld L k m=false->(eo L k m).2.2=L:=by
 unfold ld eo;exact fU (fun _=>rfl) (fU Ri (fU OP (fU SC (fun _=>rfl))))
theorem Z4 {L:List Obj} {k:Key} {m:bp}:gQ L k m=false->(dC L k m).2.2=L:=by
 unfold gQ dC;exact fU HI (fU HI (fU TN (fU Yb (fU (fun _=>rfl) RJ))))
theorem aah {L:List Obj} {k:Key} {m:bp}:iw L k m=false->(dv L k m).2.2=L:=by
 unfold iw dv;refine fU (fun _=>rfl) (fU (fun h=>?_) (fU (fun _=>rfl) (fU (fun _=>rfl) (fU H9 (fU (fun _=>rfl) Wo)))))
 show(if aS m<0\/11<aS m then L else cC L (fl k) (aS m+4) m.k0)=L
 by_cases hc:aS m<0\/11<aS m
 ·rw[aa2 hc]
 ·rw[aa1 hc]at h⊢;exact Ed h
theorem Yl {L:List Obj} {n:Int} {k:Key} {m:bp}:tP L k m=false->(eJ L n k m).2.2=L:=by
 unfold tP eJ
 exact fU (fun _=>rfl) (fU aai (fU Zp (fU Z4 (fU aah (fun _=>by repeat' split
                                                                all_goals rfl)))))
theorem Wp {L:List Obj} {n:Int} {k:Key} {m:bp} (hL:aq L):aq (eF L n k m):=by
 unfold eF dI;exact fw hL (fw hL (fw hL (X4 hL)))
theorem Gu {L:List Obj} {n:Int} {k:Key} {m:bp} (hL:aq L):aq (ia L n k m):=by
 unfold ia;split
 ·exact Wp hL
 ·exact hL
theorem WN {L:List Obj} {n:Int} {k:Key} {m:bp} (h:fz L n k m=false):ia L n k m=L:=by
 unfold fz at h;unfold ia;by_cases he:cJ L n k m=0
 ·rw[he]at h;rw[aa2 he];have h:vK L (ah L k) (aH L m)=false:=by simpa using h
  unfold vK at h;unfold eF dI;exact fU (fun _=>rfl) (fU (fun _=>rfl) (fU (fun _=>rfl) Yl)) h
 ·rw[aa1 he]
structure Aok where
 key:Key
 msg:bp
 now:Int
section
variable {L:List Obj} {n:Int} {k:Key} {m:bp} {p:jb}
theorem SE (b:Bytes) (lo hi:Nat):(xN b lo hi).size<=64:=by rw[JQ];omega
theorem Fb {i x:Int}:(ec L k i x).size<=64:=by
 unfold ec;split
 ·exact SE _ _ _
 ·exact Nat.zero_le _
theorem WW {i x:Int}:(jW L k i x).size<=64:=by
 unfold jW;split
 ·exact Fb
 ·exact Nat.zero_le _
theorem RP:(ey L k m).2.1.data.size<=64:=by unfold ey;(repeat' split)<;>exact Nat.zero_le _
theorem Tx:(eo L k m).2.1.data.size<=64:=by unfold eo;(repeat' split)<;>first|exact Fb|exact Nat.zero_le _
theorem Ua:(dC L k m).2.1.data.size<=64:=by unfold dC;(repeat' split)<;>exact Nat.zero_le _
theorem Sm:(dv L k m).2.1.data.size<=64:=by
 unfold dv;by_cases h1:m.code=1
 ·rw[aa2 h1];exact Nat.zero_le _
 rw[aa1 h1];by_cases h2:m.code=2
 ·rw[aa2 h2];exact Nat.zero_le _
 rw[aa1 h2];by_cases h3:m.code=3
 ·rw[aa2 h3];exact Nat.zero_le _
 rw[aa1 h3];by_cases h4:m.code=4
 ·rw[aa2 h4];exact Nat.zero_le _
 rw[aa1 h4];by_cases h5:m.code=5
 ·rw[aa2 h5];exact Nat.zero_le _
 rw[aa1 h5];by_cases h6:m.code=6
 ·rw[aa2 h6];exact WW
 rw[aa1 h6];exact Nat.zero_le _
theorem V3:(aG L n k m).data.size<=64:=by
 have hB:∀k m,(eJ L n k m).2.1.data.size<=64:=fun k m=>by
  unfold eJ;split
  ·exact Nat.zero_le _
  split
  ·exact RP
  split
  ·exact Tx
  split
  ·exact Ua
  split
  ·exact Sm
  split
  ·show(if m.code=1 then fu m.k0.kind else if m.code=2 then fu (dZ (k7 m.k0 m.k1))else fu m.k0.rights).data.size<=64
   split
   ·exact Nat.zero_le _
   ·split<;>exact Nat.zero_le _
  ·split<;>exact Nat.zero_le _
 have hR:∀k m,(dI L n k m).2.1.data.size<=64:=fun k m=>by
  unfold dI;split
  ·exact Nat.zero_le _
  split
  ·exact Nat.zero_le _
  split
  ·exact Nat.zero_le _
  ·exact hB k m
 unfold aG;split
 ·unfold en;split
  ·exact hR _ _
  ·exact Nat.zero_le _
 ·exact Nat.zero_le _
theorem CZ:aw (aG L n k m).data:=by have:=V3 (L:=L) (n:=n) (k:=k) (m:=m);unfold aw;omega
theorem we (hL:aq L) (h0:¬ai (b7 L)=0):let N:Int:=(ai (b7 L):Int);N<=64/\N≠0/\(-64<=p.proc.tmod N/\p.proc.tmod N<=64)/\(0<=(p.proc.tmod N+N).tmod N/\(p.proc.tmod N+N).tmod N<N):=by
 intro N
 have h1:ai (b7 L)<=L.length:=by
  have:=EB L (bQ (ai L));have e:(bQ (ai L)).toNat=L.length:=by unfold bQ ai;omega
  rw[e]at this;exact this
 have h2:=gY hL;have hN:0<N:=by show(0:Int)<(ai (b7 L):Int);omega
 have hN2:N<=64:=by show(ai (b7 L):Int)<=64;omega
 have a1:=Int.tmod_lt_of_pos p.proc hN;have a2:=Int.lt_tmod_of_pos p.proc hN;refine⟨hN2,by omega,⟨by omega,by omega⟩,Int.tmod_nonneg _ (by omega),Int.tmod_lt_of_pos _ hN⟩
theorem Bd (h:eu p n=true) (hk:p.kind=1):(1<=p.mode/\p.mode<=3)/\(0<=p.reg/\p.reg<12)/\(gU p.s0=true/\gU p.s1=true/\gU p.s2=true):=by
 unfold eu at h;rw[aa1 (by omega)]at h
 simp only[aaV,aaW]at h;obtain⟨⟨⟨⟨⟨⟨⟨a,b⟩,c⟩,d⟩,e⟩,f⟩,g⟩,h⟩:=h;unfold tL at e;simp only[aaV,aaW]at e;exact⟨⟨b,c⟩,e,f,g,h⟩
end
def jk:jb:=⟨0,0,0,0,0,⟨#[]⟩,0,0,0,false,0⟩
def lX (x:List jb):TL:= .fn (ai x) fun i=>Ky (aj x i jk)
def xF (x:List jb):Nat->V:=fun i=>Ky (aj x i jk)
def opD (v:V):Int:=match v with
 | .ag l=>match l with
   | [_,_,_,_,_,s,_,_,_]=>match s with
     | .st b=>bO b
     |_=>0
   |_=>0
 |_=>0
def opL:Arg TL:=laA 11 some id
theorem Wn:m8 opL:=Wl fun l x h=>by simpa using h
def Er (n:Nat) (F:Nat->V):Nat->Bool
 |0=>false
 |j+1=>Er n F j||(decide (j<n)&&decide (100<opD (F j)))
def sd (l:TL):Bool:=match l with
 | .fn n F=>decide (40<bQ n)||Er n F n
 |_=>false
def wE (x:List jb):Prop:=∀i,i<ai x->aw (aj x i jk).data
def Ll (l:TL):Prop:=∃x:List jb,l=lX x/\wE x
def Zm:Ct:=s7 (ba opL gJ) (fun x=>some (Ll x.1)) fun x=> .bo (sd x.1)
def xP (x:List jb) (g:Int):Prop:=0<=g/\g<=(ai x:Int)/\Er (ai x) (fun i=>Ky (aj x i jk)) g.toNat=false
theorem X5 {x:List jb} (h:sd (lX x)=false):¬40<bQ (ai x):=by
 unfold sd lX at h;simp only[Bool.or_eq_false_iff,decide_eq_false_iff_not]at h;exact h.1
theorem Ec {n:Nat} {F:Nat->V} {j:Nat} (hj:j<n) (h:100<opD (F j)):∀k,j<k->Er n F k=true
 |0,hk=>by omega
 |k+1,hk=>by
  unfold Er;by_cases e:j=k
  ·subst e;simp[hj,h]
  ·rw[Ec hj h k (by omega)];rfl
theorem JF {n:Nat} {F:Nat->V} {j:Nat} (h0:Er n F j=false) (h:¬100<opD (F j)):Er n F (j+1)=false:=by
 unfold Er;simp[h0,h]
def xj:Obj:=Obj.mk 1 1 free.calls ((((((free.slots.put 2 (Key.mk 1 void.oid void.count void.call void.rights 1)).put 4 (Key.mk 4 1 1 void.call void.rights void.value)).put 5 (Key.mk 8 void.oid void.count void.call void.rights void.value)).put 6 (Key.mk 9 void.oid void.count void.call void.rights void.value)).put 7 (Key.mk 10 void.oid void.count void.call void.rights void.value)).put 8 (Key.mk 5 0 1 void.call void.rights void.value)) free.bytes
def Lb (x:Int):Obj:=Obj.mk 1 1 free.calls ((free.slots.put 0 (Key.mk 1 void.oid void.count void.call void.rights 2)).put 1 (Key.mk 1 void.oid void.count void.call void.rights x)) free.bytes
def dc (n:Int):List Obj:=cK (cK (kh n) 0 xj) 1 (Lb (n-1))
end Go.Sx
namespace Go.Proofs.YtlblcfaclmpekaaGreat
open Go.Sx
abbrev abZ(p:jb)(n:Int):=aba (!decide (p.s2= -1)) (true=true/\aba (!(decide (0<=p.s2)&&decide (p.s2<12))) (false=eu p n) (true=eu p n)) (true=eu p n)
abbrev aca(p:jb)(n:Int):=aba (!decide (p.s1= -1)) (true=true/\aba (!(decide (0<=p.s1)&&decide (p.s1<12))) (false=eu p n) (abZ p n)) (abZ p n)
theorem Kh (p:jb) (n:Int) (hs:aw p.data) (hn:gN n):
 aba (decide (p.kind=2)) (((decide (0<=p.val)&&decide (p.val<=1099511627776))=true->abd (4611686018427387904-p.val))/\(decide (0<=p.val)&&decide (p.val<=1099511627776)&&decide (n<=4611686018427387904-p.val))=eu p n) (((!(!decide (p.kind=1)||decide (p.mode<1)||decide (3<p.mode)))=true->abd (bO p.data))/\aba (!decide (p.kind=1)||decide (p.mode<1)||decide (3<p.mode)||decide (32<bO p.data)) (false=eu p n) (true=true/\aba (!(decide (0<=p.reg)&&decide (p.reg<12))) (false=eu p n) (aba (!decide (p.s0= -1)) (true=true/\aba (!(decide (0<=p.s0)&&decide (p.s0<12))) (false=eu p n) (aca p n)) (aca p n)))):=by
 delta aba aca abZ abd
 have hz:(bQ (ai ([]:List Int)))=0:=rfl;have h1:aF IntKind.i64 (bO p.data):=by unfold aw at hs;simp only[aF,cc,bO];omega
 have c0:gU p.s0=(decide (p.s0= -1)||(decide (0<=p.s0)&&decide (p.s0<12))):=rfl
 have c1:gU p.s1=(decide (p.s1= -1)||(decide (0<=p.s1)&&decide (p.s1<12))):=rfl
 have c2:gU p.s2=(decide (p.s2= -1)||(decide (0<=p.s2)&&decide (p.s2<12))):=rfl
 unfold eu;refine⟨fun hk=>⟨fun hv=>?_,?_⟩,fun hk=>⟨fun _=>h1,fun hb=>?_,fun hb=>⟨rfl,fun hr=>?_,fun hr=>?_⟩⟩⟩
 ·simp only[aaV,aaW]at hv;simp only[aF,cc];omega
 ·rw[aa2 (aaZ hk)]
 all_goals rw[aa1 (aaY hk),c0,c1,c2]
 ·simp only[Bool.or_eq_true,Bool.not_eq_true',aaW,decide_eq_false_iff_not]at hb;symm
  simp only[Bool.and_eq_false_iff,decide_eq_false_iff_not];omega
 all_goals
  simp only[Bool.or_eq_false_iff,Bool.not_eq_false',aaW,decide_eq_false_iff_not]at hb;obtain⟨⟨⟨b1,b2⟩,b3⟩,b4⟩:=hb;have e1:decide (p.kind=1)=true:=decide_eq_true b1;have e2:decide (1<=p.mode)=true:=decide_eq_true (by omega)
  have e3:decide (p.mode<=3)=true:=decide_eq_true (by omega)
  have e4:decide (bO p.data<=32)=true:=decide_eq_true (by omega)
  have cr:tL p.reg=(decide (0<=p.reg)&&decide (p.reg<12)):=rfl;rw[e1,e2,e3,e4,cr];generalize (decide (0<=p.reg)&&decide (p.reg<12))=r at *
  generalize (decide (0<=p.s0)&&decide (p.s0<12))=a0 at *
  generalize (decide (0<=p.s1)&&decide (p.s1<12))=a1 at *
  generalize (decide (0<=p.s2)&&decide (p.s2<12))=a2 at *
  generalize decide (p.s0= -1)=d0 at *
  generalize decide (p.s1= -1)=d1 at *
  generalize decide (p.s2= -1)=d2 at *
  clear c0 c1 c2 cr;revert hr
  cases r<;>cases a0<;>cases a1<;>cases a2<;>cases d0<;>cases d1<;>cases d2<;>simp
theorem IY:cz Tryz.prog 37 Fj:=
 eQ (aA Ga (aA dE bV)) (fun _=>rfl) fun a hq hok=>by
  obtain⟨x,n,_⟩:=a;exact bc (inl:=(fun f=>f==56)) (ann:=(iJ [(37,6,Ml 4)])) ar (Kh (wy x) n hq.1 hq.2) (by kernel_rfl)
abbrev acb(p:jb)(o:Sx.Obj):=p.code=(bS o p).code/\p.data=(bS o p).data/\o.slots.at (4+p.s0).toNat=(bS o p).k0/\o.slots.at (4+p.s1).toNat=(bS o p).k1/\abg p.val=(bS o p).k2
abbrev acd(p:jb)(o:Sx.Obj):=p.code=(bS o p).code/\p.data=(bS o p).data/\void=(bS o p).k0/\o.slots.at (4+p.s1).toNat=(bS o p).k1/\abg p.val=(bS o p).k2
abbrev ace(p:jb)(o:Sx.Obj):=p.code=(bS o p).code/\p.data=(bS o p).data/\o.slots.at (4+p.s0).toNat=(bS o p).k0/\void=(bS o p).k1/\abg p.val=(bS o p).k2
abbrev acf(p:jb)(o:Sx.Obj):=p.code=(bS o p).code/\p.data=(bS o p).data/\void=(bS o p).k0/\void=(bS o p).k1/\abg p.val=(bS o p).k2
theorem TR (o:Sx.Obj) (p:jb) (h0:gU p.s0=true) (h1:gU p.s1=true) (h2:gU p.s2=true):
 abb (aba (decide (p.s0<0)) (abb (aba (decide (p.s1<0)) (abb (aba (decide (p.s2<0)) (aba p.num (acf p o) (p.code=(bS o p).code/\p.data=(bS o p).data/\void=(bS o p).k0/\void=(bS o p).k1/\void=(bS o p).k2)) (abd (4+p.s2)/\(0<=4+p.s2/\4+p.s2< ↑16)/\aba p.num (acf p o) (p.code=(bS o p).code/\p.data=(bS o p).data/\void=(bS o p).k0/\void=(bS o p).k1/\o.slots.at (4+p.s2).toNat=(bS o p).k2)))) (abd (4+p.s1)/\(0<=4+p.s1/\4+p.s1< ↑16)/\abb (aba (decide (p.s2<0)) (aba p.num (acd p o) (p.code=(bS o p).code/\p.data=(bS o p).data/\void=(bS o p).k0/\o.slots.at (4+p.s1).toNat=(bS o p).k1/\void=(bS o p).k2)) (abd (4+p.s2)/\(0<=4+p.s2/\4+p.s2< ↑16)/\aba p.num (acd p o) (p.code=(bS o p).code/\p.data=(bS o p).data/\void=(bS o p).k0/\o.slots.at (4+p.s1).toNat=(bS o p).k1/\o.slots.at (4+p.s2).toNat=(bS o p).k2)))))) (abd (4+p.s0)/\(0<=4+p.s0/\4+p.s0< ↑16)/\abb (aba (decide (p.s1<0)) (abb (aba (decide (p.s2<0)) (aba p.num (ace p o) (p.code=(bS o p).code/\p.data=(bS o p).data/\o.slots.at (4+p.s0).toNat=(bS o p).k0/\void=(bS o p).k1/\void=(bS o p).k2)) (abd (4+p.s2)/\(0<=4+p.s2/\4+p.s2< ↑16)/\aba p.num (ace p o) (p.code=(bS o p).code/\p.data=(bS o p).data/\o.slots.at (4+p.s0).toNat=(bS o p).k0/\void=(bS o p).k1/\o.slots.at (4+p.s2).toNat=(bS o p).k2)))) (abd (4+p.s1)/\(0<=4+p.s1/\4+p.s1< ↑16)/\abb (aba (decide (p.s2<0)) (aba p.num (acb p o) (p.code=(bS o p).code/\p.data=(bS o p).data/\o.slots.at (4+p.s0).toNat=(bS o p).k0/\o.slots.at (4+p.s1).toNat=(bS o p).k1/\void=(bS o p).k2)) (abd (4+p.s2)/\(0<=4+p.s2/\4+p.s2< ↑16)/\aba p.num (acb p o) (p.code=(bS o p).code/\p.data=(bS o p).data/\o.slots.at (4+p.s0).toNat=(bS o p).k0/\o.slots.at (4+p.s1).toNat=(bS o p).k1/\o.slots.at (4+p.s2).toNat=(bS o p).k2))))))):=by
 delta aba abg acf ace acd acb abd abb
 have key:∀s,gU s=true->s<0\/(¬s<0/\aF IntKind.i64 (4+s)/\(0<=4+s/\4+s<16)):=fun s hs=>by
  unfold gU tL at hs;simp only[Bool.or_eq_true,aaV,aaW]at hs;simp only[aF,cc];omega
 have hq:bL p.val=Key.mk 1 void.oid void.count void.call void.rights p.val:=rfl;unfold bS oD;rw[hq]
 rcases key p.s0 h0 with a0|⟨a0,f0,g0,i0⟩<;>rcases key p.s1 h1 with a1|⟨a1,f1,g1,i1⟩<;>rcases key p.s2 h2 with a2|⟨a2,f2,g2,i2⟩<;>cases hn:p.num<;>simp only[*,decide_true,decide_false,if_true,if_false,true_and,and_true,and_self,Bool.false_eq_true,Bool.true_eq_false,false_implies,true_implies,implies_true,reduceCtorEq]<;>(repeat' apply And.intro)<;>omega
theorem Sd:cz Tryz.prog 59 Xk:=
 eQ (aA NG F5) (fun _=>rfl) fun a hq hok=>by
  obtain⟨o,x,_⟩:=a;exact bc (inl:=(fun f=>f==89)) (ann:=(iJ [(59,4,Ml 4)])) ar (TR o (wy x) hq.1 hq.2.1 hq.2.2) (by kernel_rfl)
abbrev acg(L:List Sx.Obj)(n:Int)(p:jb):=4=(aT L n p).out/\aX L p=(aT L n p).proc/\0=(aT L n p).err/\(aG L n (cR L p) (bK L p)).code=(aT L n p).ans.code/\(aG L n (cR L p) (bK L p)).data=(aT L n p).ans.data/\(aG L n (cR L p) (bK L p)).k0=(aT L n p).ans.k0/\(aG L n (cR L p) (bK L p)).k1=(aT L n p).ans.k1/\(aG L n (cR L p) (bK L p)).k2=(aT L n p).ans.k2/\cW L n (cR L p) (bK L p)=(aT L n p).wants
abbrev ach(p:jb)(L:List Sx.Obj):=p.proc.tmod (bQ (ai (b7 L)))+bQ (ai (b7 L))
theorem R1 (L:List Sx.Obj) (n:Int) (p:jb) (hq:Xy L n p/\eu p n=true/\p.kind=1):
 abb (iu L/\(true=false->False)/\(true=true->aba (decide (bQ (ai (b7 L))=0)) (n=n/\(1=(aT L n p).out/\0=(aT L n p).proc/\0=(aT L n p).err/\0=(aT L n p).ans.code/\abJ=(aT L n p).ans.data/\void=(aT L n p).ans.k0/\void=(aT L n p).ans.k1/\void=(aT L n p).ans.k2/\false=(aT L n p).wants)/\L=dP L n p) ((nX (bQ (ai (b7 L)))/\abd (p.proc.tmod (bQ (ai (b7 L)))))/\abd (ach p L)/\(nX (bQ (ai (b7 L)))/\abd ((ach p L).tmod (bQ (ai (b7 L)))))/\(0<=(ach p L).tmod (bQ (ai (b7 L)))/\(ach p L).tmod (bQ (ai (b7 L)))< ↑(ai (b7 L)))/\((ach p L).tmod (bQ (ai (b7 L)))).toNat<ai (b7 L)/\abd (4+p.reg)/\(0<=4+p.reg/\4+p.reg< ↑16)/\(gU p.s0=true/\gU p.s1=true/\gU p.s2=true)/\aba (decide ((cR L p).kind=6)||decide ((cR L p).kind=7)) (abb (aw (bK L p).data/\(aq L/\aw (bK L p).data)/\aba (!decide (b9 L (aX L p) (cR L p) p.mode (bK L p)=0)) (n=n/\(3=(aT L n p).out/\aX L p=(aT L n p).proc/\b9 L (aX L p) (cR L p) p.mode (bK L p)=(aT L n p).err/\0=(aT L n p).ans.code/\abJ=(aT L n p).ans.data/\void=(aT L n p).ans.k0/\void=(aT L n p).ans.k1/\void=(aT L n p).ans.k2/\false=(aT L n p).wants)/\fe L (aX L p) (cR L p) p.mode (bK L p)=dP L n p) (n=n/\(2=(aT L n p).out/\aX L p=(aT L n p).proc/\0=(aT L n p).err/\0=(aT L n p).ans.code/\abJ=(aT L n p).ans.data/\void=(aT L n p).ans.k0/\void=(aT L n p).ans.k1/\void=(aT L n p).ans.k2/\false=(aT L n p).wants)/\fe L (aX L p) (cR L p) p.mode (bK L p)=dP L n p))) (abb (aw (bK L p).data/\(aq L/\aw (bK L p).data)/\aba (dS (iH L n p) (aX L p)&&decide (iG (iH L n p) (aX L p)=1)) (aba (decide (p.mode=1)) (abb (aw (aG L n (cR L p) (bK L p)).data/\(aq (iH L n p)/\aw (aG L n (cR L p) (bK L p)).data)/\n=n/\(acg L n p)/\gx (iH L n p) (aX L p) (aG L n (cR L p) (bK L p))=dP L n p)) (aba (decide (p.mode=3)) (abb (aq (iH L n p)/\n=n/\(acg L n p)/\dg (iH L n p) (aX L p) 0=dP L n p)) (n=n/\(acg L n p)/\iH L n p=dP L n p))) (n=n/\(acg L n p)/\iH L n p=dP L n p)))))):=by
 delta aba abJ ach acg abd abb
 obtain⟨⟨hL,hs,hn⟩,hr,hk⟩:=hq;obtain⟨hm,⟨r0,r1⟩,hsd⟩:=Bd hr hk;have nk2:¬p.kind=2:=by omega
 have hnn:bQ (ai (b7 L))=(ai (b7 L):Int):=rfl;refine⟨rfl,Bc hL,fun h=>by simp at h,fun _=>⟨fun h=>?_,fun h=>?_⟩⟩
 ·have h0:ai (b7 L)=0:=by have:=aaZ h;rw[hnn]at this;omega
  have e1:aT L n p=⟨1,0,0,cY,false⟩:=by unfold aT;rw[aa2 hr,aa1 nk2,aa2 h0]
  have e2:dP L n p=L:=by unfold dP;rw[aa1 (fun h=>h.2.2 h0)]
  rw[e1,e2];exact⟨rfl,(by(repeat' apply And.intro)<;>rfl),rfl⟩
 have h0:¬ai (b7 L)=0:=by have:=aaY h;rw[hnn]at this;omega
 obtain⟨f1,f2,f3,f4⟩:=we (p:=p) hL h0
 have eD:aT L n p=if rr L p=true then(if b9 L (aX L p) (cR L p) p.mode (bK L p)=0 then⟨2,aX L p,0,cY,false⟩else⟨3,aX L p,b9 L (aX L p) (cR L p) p.mode (bK L p),cY,false⟩)
   else⟨4,aX L p,0,aG L n (cR L p) (bK L p),cW L n (cR L p) (bK L p)⟩:=by unfold aT;rw[aa2 hr,aa1 nk2,aa1 h0]
 have eL:dP L n p=if rr L p=true then fe L (aX L p) (cR L p) p.mode (bK L p)else w8 L n p:=by unfold dP;rw[aa2 ⟨hr,nk2,h0⟩]
 have h1:aq (iH L n p):=Gu hL;rw[hnn];refine⟨⟨f2,by simp only[aF,cc];omega⟩,by simp only[aF,cc];omega,⟨f2,by simp only[aF,cc];omega⟩,f4,by omega,by simp only[aF,cc];omega,⟨by omega,by omega⟩,hsd,fun hc=>?_,fun hc=>?_⟩
 ·have hC:rr L p=true:=hc;rw[eD,eL,aa2 hC,aa2 hC];refine⟨rfl,hs,⟨hL,hs⟩,fun he=>?_,fun he=>?_⟩
  ·have he:¬b9 L (aX L p) (cR L p) p.mode (bK L p)=0:=by simpa using he
   rw[aa1 he];exact⟨rfl,(by(repeat' apply And.intro)<;>rfl),rfl⟩
  ·have he:b9 L (aX L p) (cR L p) p.mode (bK L p)=0:=by simpa using he
   rw[aa2 he];exact⟨rfl,(by(repeat' apply And.intro)<;>rfl),rfl⟩
 ·have hC:¬rr L p=true:=by
   have:rr L p=false:=hc;rw[this];simp
  rw[eD,eL,aa1 hC,aa1 hC]
  have e2:w8 L n p=if dS (iH L n p) (aX L p)=true/\iG (iH L n p) (aX L p)=1 then
    if p.mode=1 then gx (iH L n p) (aX L p) (aG L n (cR L p) (bK L p))else if p.mode=3 then dg (iH L n p) (aX L p) 0 else iH L n p
   else iH L n p:=rfl
  refine⟨rfl,hs,⟨hL,hs⟩,fun hb=>⟨fun h1'=>?_,fun h1'=>⟨fun h3=>?_,fun h3=>?_⟩⟩,fun hb=>?_⟩
  all_goals simp only[aaV,Bool.and_eq_false_iff,aaW,decide_eq_false_iff_not]at hb
  ·rw[e2,aa2 hb,aa2 (aaZ h1')];exact⟨rfl,CZ,⟨h1,CZ⟩,rfl,(by(repeat' apply And.intro)<;>rfl),rfl⟩
  ·rw[e2,aa2 hb,aa1 (aaY h1'),aa2 (aaZ h3)];exact⟨rfl,h1,rfl,(by(repeat' apply And.intro)<;>rfl),rfl⟩
  ·rw[e2,aa2 hb,aa1 (aaY h1'),aa1 (aaY h3)];exact⟨rfl,(by(repeat' apply And.intro)<;>rfl),rfl⟩
  ·rw[e2,aa1 (fun h=>by rcases hb with hb|hb;rw[h.1]at hb;simp at hb;exact hb h.2)]
   exact⟨rfl,(by(repeat' apply And.intro)<;>rfl),rfl⟩
theorem UO:lh Tryz.prog 38 Wy:=Qt (fun _ _ _=>rfl) fun L n p hq=>bm (inl:=bx) (ann:=aQ) (ae Sd (ae fY (ae iv (ae rR ar)))) (aC VP (aC Xx (aC YV (aC WR (aC MO aE))))) (R1 L n p hq) (by kernel_rfl)
abbrev aci(L:List Sx.Obj)(p:jb)(n:Int):=true=true/\((aq L/\aw p.data/\gN n)/\eu p n=true/\p.kind=1)/\n=jn n p/\((aT L n p).out=(aT L n p).out/\(aT L n p).proc=(aT L n p).proc/\(aT L n p).err=(aT L n p).err/\(aT L n p).ans.code=(aT L n p).ans.code/\(aT L n p).ans.data=(aT L n p).ans.data/\(aT L n p).ans.k0=(aT L n p).ans.k0/\(aT L n p).ans.k1=(aT L n p).ans.k1/\(aT L n p).ans.k2=(aT L n p).ans.k2/\(aT L n p).wants=(aT L n p).wants/\0=oJ n p)/\dP L n p=dP L n p
abbrev acj(n:Int)(p:jb)(L:List Sx.Obj):=true=true/\aF IntKind.i64 (n+p.val)/\n+p.val=jn n p/\(5=(aT L n p).out/\0=(aT L n p).proc/\0=(aT L n p).err/\0=(aT L n p).ans.code/\abJ=(aT L n p).ans.data/\void=(aT L n p).ans.k0/\void=(aT L n p).ans.k1/\void=(aT L n p).ans.k2/\false=(aT L n p).wants/\0=oJ n p)/\L=dP L n p
theorem Ro (L:List Sx.Obj) (n:Int) (p:jb) (hq:Xy L n p):
 true=true/\(aw p.data/\gN n)/\aba (!eu p n) (n=jn n p/\(0=(aT L n p).out/\0=(aT L n p).proc/\0=(aT L n p).err/\0=(aT L n p).ans.code/\abJ=(aT L n p).ans.data/\void=(aT L n p).ans.k0/\void=(aT L n p).ans.k1/\void=(aT L n p).ans.k2/\false=(aT L n p).wants/\2=oJ n p)/\L=dP L n p) ((aba (decide (p.kind=1)) (aci L p n) (aba (decide (p.kind=2)) (acj n p L) False))/\aba (decide (p.kind=2)) (acj n p L) (aba (decide (p.kind=1)) (aci L p n) False)):=by
 delta aba abJ acj aci
 obtain⟨hL,hs,hn⟩:=hq
 have ht:eu p n=true->p.kind=2->aF IntKind.i64 (n+p.val):=fun hr hk=>by
  unfold eu at hr;rw[aa2 hk]at hr;simp only[aaV,aaW]at hr;unfold gN at hn;simp only[aF,cc];omega
 refine⟨rfl,⟨hs,hn⟩,fun hr=>?_,fun hr=>?_⟩
 ·have hr:eu p n=false:=by simpa using hr
  have e1:jn n p=n:=by unfold jn;rw[aa1 (by simp[hr])]
  have e2:aT L n p=dn0:=by unfold aT;rw[aa1 (by simp[hr])]
  have e3:oJ n p=2:=by unfold oJ;rw[aa1 (by simp[hr])]
  have e4:dP L n p=L:=by unfold dP;rw[aa1 (by simp[hr])]
  rw[e1,e2,e3,e4];(repeat' apply And.intro)<;>rfl
 have hr:eu p n=true:=by simpa using hr
 have e3:oJ n p=0:=by unfold oJ;rw[aa2 hr]
 have one:∀h1:p.kind=1,jn n p=n:=fun h1=>by unfold jn;rw[aa1 (by omega)]
 have two:∀h2:p.kind=2,jn n p=n+p.val/\aT L n p=⟨5,0,0,cY,false⟩/\dP L n p=L:=fun h2=>by
  refine⟨?_,?_,?_⟩
  ·unfold jn;rw[aa2 ⟨hr,h2⟩]
  ·unfold aT;rw[aa2 hr,aa2 h2]
  ·unfold dP;rw[aa1 (fun h=>h.2.1 h2)]
 have bad:¬p.kind=1->¬p.kind=2->False:=fun h1 h2=>by
  unfold eu at hr;rw[aa1 h2]at hr;simp[h1]at hr
 refine⟨⟨fun h1=>?_,fun h1=>⟨fun h2=>?_,fun h2=>?_⟩⟩,⟨fun h2=>?_,fun h2=>⟨fun h1=>?_,fun h1=>?_⟩⟩⟩
 ·have h1:=aaZ h1;refine⟨rfl,⟨⟨hL,hs,hn⟩,hr,h1⟩,(one h1).symm,?_,rfl⟩;(repeat' apply And.intro)<;>first|rfl|exact e3.symm
 ·have h2:=aaZ h2;obtain⟨a,b,c⟩:=two h2;rw[a,b,c,e3];exact⟨rfl,ht hr h2,rfl,(by(repeat' apply And.intro)<;>rfl),rfl⟩
 ·exact(bad (aaY h1) (aaY h2)).elim
 ·have h2:=aaZ h2;obtain⟨a,b,c⟩:=two h2;rw[a,b,c,e3];exact⟨rfl,ht hr h2,rfl,(by(repeat' apply And.intro)<;>rfl),rfl⟩
 ·have h1:=aaZ h1;refine⟨rfl,⟨⟨hL,hs,hn⟩,hr,h1⟩,(one h1).symm,?_,rfl⟩;(repeat' apply And.intro)<;>first|rfl|exact e3.symm
 ·exact(bad (aaY h1) (aaY h2)).elim
theorem IV:lh Tryz.prog 19 VX:=Qt (fun _ _ _=>rfl) fun L n p hq=>bm (inl:=(fun f=>f==32||f==39)) (ann:=aQ) (ae IY ar) (aC UO aE) (Ro L n p hq) (by kernel_rfl)
abbrev ack:=jb.mk 1 0 0 1 1 abJ (-1) (-1) (-1) false 0
theorem K4:
 abb (abb ((gZ 6=false->abb False)/\(gZ 6=true->abb (abb (abb (abb (abb (abb ((aq (dc 6)/\aw abJ/\gN 0)/\(decide (oJ 0 ack=0)&&decide ((aT (dc 6) 0 ack).out=4)&&Bw (aT (dc 6) 0 ack).ans.k0 (Key.mk 2 2 1 void.call void.rights void.value))=true))))))))):=by
 delta abJ ack abb
 have st:aw (ByteArray.mk (Array.mk [])):=by unfold aw;decide
 have h1:aq (dc 6):=by unfold aq;kernel_rfl
 refine⟨rfl,rfl,fun h=>absurd h (by decide),fun _=>⟨rfl,rfl,rfl,rfl,rfl,rfl,⟨h1,st,by unfold gN;omega⟩,?_⟩⟩
 kernel_rfl
theorem KS:cz Tryz.prog 11 Uh:=VJ rfl (bm (inl:=(fun f=>f==12||f==29)) (ann:=aQ) ar (aC Mh (aC dB (aC IV aE))) K4 (by kernel_rfl))
theorem Wj (x:List jb) (hx:wE x):
 aba (decide (40<bQ (ai x))) (true=sd (lX x)) ((∃g,xP x g/\0=g/\ai x=ai x/\xF x=xF x)/\∀(g:Int),xP x g->aba (decide (g<bQ (ai x))) ((0<=g/\g< ↑(ai x))/\g.toNat<ai x/\abd (bO (aj x g.toNat jk).data)/\aba (decide (100<bO (aj x g.toNat jk).data)) (true=sd (lX x)) (abd (g+1)/\∃g',xP x g'/\(bQ (ai x)-g').toNat<(bQ (ai x)-g).toNat/\g+1=g'/\ai x=ai x/\xF x=xF x)) (false=sd (lX x))):=by
 delta aba abd
 refine⟨fun h=>?_,fun h=>⟨⟨0,⟨by omega,by omega,rfl⟩,rfl,rfl,rfl⟩,fun g hg=>⟨fun hlt=>?_,fun hge=>?_⟩⟩⟩
 ·unfold sd lX;simp only;rw[h];rfl
 ·obtain⟨g0,g1,g2⟩:=hg;have hlt:g<(ai x:Int):=aaZ hlt;have hs:=hx g.toNat (by omega)
  have h40:¬40<(ai x:Int):=aaY h;have e:opD (Ky (aj x g.toNat jk))=bO (aj x g.toNat jk).data:=rfl;refine⟨⟨g0,hlt⟩,by omega,by unfold aw at hs;simp only[aF,cc,bO];omega,fun h1=>?_,fun h1=>⟨by simp only[aF,cc];omega,g+1,⟨by omega,by omega,?_⟩,by unfold bQ;omega,rfl,rfl,rfl⟩⟩
  ·have h1:=aaZ h1;unfold sd lX;simp only;rw[Ec (F:=fun i=>Ky (aj x i jk)) (j:=g.toNat) (by omega) (by rw[e];exact h1) (ai x) (by omega),Bool.or_true]
  ·have h1:=aaY h1;rw[show(g+1).toNat=g.toNat+1 by omega]
   exact JF g2 (by rw[e];exact h1)
 ·obtain⟨g0,g1,g2⟩:=hg;have hge:¬g<(ai x:Int):=aaY hge;rw[show g.toNat=ai x by omega]at g2
  unfold sd lX;simp only;rw[h,g2];rfl
theorem Yc:cz Tryz.prog 10 Zm:=
 eQ (aA Wn bV) (fun _=>rfl) fun a hq hok=>by
  obtain⟨_,_⟩:=a;obtain⟨x,rfl,hx⟩:=hq;exact bc (inl:=bx) (ann:=(iJ [(10,4,Ws [0] (fun g=> [(3,.it .i64 g)]) (xP x) (bQ (ai x)))])) ar (Wj x hx) (by kernel_rfl)
theorem On (L:List Sx.Obj) (k:Key) (i:Int):
 aba (decide (aB L k 2 false=0)&&(decide (i<0)||decide (15<i))) (void=aJ L k i/\4=bY L k i) (aba (!decide (aB L k 2 false=0)) (void=aJ L k i/\aB L k 2 false=bY L k i) (oL L k i/\di L k i=aJ L k i/\0=bY L k i)):=by
 delta aba
 refine⟨fun h=>?_,fun h=>⟨fun h'=>?_,fun h'=>?_⟩⟩
 ·simp only[aaV,Bool.or_eq_true,aaW]at h;obtain⟨e1,e2⟩:=NK h.1 h.2;rw[e1,e2];exact⟨rfl,rfl⟩
 ·have h':aB L k 2 false≠0:=by simpa using h'
  obtain⟨e1,e2⟩:=Nj (i:=i) h';rw[e1,e2];exact⟨rfl,rfl⟩
 ·have h':aB L k 2 false=0:=by simpa using h'
  have hr:¬(i<0\/15<i):=by rw[h']at h;simpa using h
  obtain⟨_,b2,b3,_⟩:=ei (gw h').1;obtain⟨e1,e2⟩:=RS h' hr;rw[e1,e2];exact⟨⟨by omega,by omega,b2,b3⟩,rfl,rfl⟩
theorem ED:cz Tryz.prog 108 Us:=
 eQ (aA jC (aA iI (aA dE bV))) (fun _=>rfl) fun a hq hok=>by
  obtain⟨L,k,i,_⟩:=a;exact bc (inl:=bx) (ann:=aQ) (ae pK (ae x9 ar)) (On L k i) (by kernel_rfl)
theorem Mn (L:List Sx.Obj) (k:Key) (i:Int) (v:Key) (hL:aq L):
 aba (decide (aB L k 2 true=0)&&(decide (i<0)||decide (15<i))) (iL L k i v=false/\void=cT L k i v/\4=bj L k i v) (aba (decide (aB L k 2 true=0)&& !bJ L v) (iL L k i v=false/\void=cT L k i v/\2=bj L k i v) (aba (!decide (aB L k 2 true=0)) (iL L k i v=false/\void=cT L k i v/\aB L k 2 true=bj L k i v) (oL L k i/\(0<=k.oid/\k.oid< ↑(ai L))/\k.oid.toNat<ai L/\(0<=i/\i< ↑16)/\dO L k.oid/\iL L k i v=true/\(di L k i=cT L k i v/\0=bj L k i v)/\b6 L k.oid.toNat (Obj.mk (aj L k.oid.toNat free).kind (aj L k.oid.toNat free).count (aj L k.oid.toNat free).calls ((aj L k.oid.toNat free).slots.put i.toNat (ah L v)) (aj L k.oid.toNat free).bytes)=cC L k i v))):=by
 delta aba
 unfold iL;refine⟨fun h=>?_,fun h=>⟨fun h'=>?_,fun h'=>⟨fun h''=>?_,fun h''=>?_⟩⟩⟩
 ·simp only[aaV,Bool.or_eq_true,aaW]at h;obtain⟨e1,e2,e3⟩:=QD (v:=v) h.1 h.2;rw[e1,e2];exact⟨rfl,rfl,rfl⟩
 ·simp only[aaV,Bool.not_eq_true',aaW]at h';have hr:¬(i<0\/15<i):=by rw[h'.1]at h;simpa using h
  obtain⟨e1,e2,e3⟩:=M9 h'.1 hr h'.2;rw[e1,e2];exact⟨rfl,rfl,rfl⟩
 ·have h'':aB L k 2 true≠0:=by simpa using h''
  obtain⟨e1,e2,e3⟩:=Nu (i:=i) (v:=v) h'';rw[e1,e2];exact⟨by simpa using h'',rfl,rfl⟩
 ·have h'':aB L k 2 true=0:=by simpa using h''
  have hr:¬(i<0\/15<i):=by rw[h'']at h;simpa using h
  have hm:bJ L v=true:=by rw[h'']at h';simpa using h'
  obtain⟨e1,e2,e3⟩:=Ur h'' hr hm;obtain⟨r1,r2,r3,r4⟩:=vl hL (gw h'').1;rw[e1,e2,e3];exact⟨⟨by omega,by omega,r2,r3⟩,⟨r2,r3⟩,r4,⟨by omega,by omega⟩,r1,rfl,⟨rfl,rfl⟩,rfl⟩
theorem K3 (L:List Sx.Obj) (k:Key) (i:Int) (v:Key) (hL:aq L):an Tryz.prog 110 [.sa 0,.key k,.it .i64 i,.key v] [.ro (.arr none 163 (.ob L))] (yA (iL L k i v) (cC L k i v) [.key (cT L k i v),.it .i64 (bj L k i v)]) (fun _ _=>False):=
 bm (inl:=bx) (ann:=aQ) (ae pK (ae x9 (ae yV (ae pL (ae jG ar))))) aE (Mn L k i v hL) (by kernel_rfl)
theorem Eu:lh Tryz.prog 110 UJ:=
 iP (m:=fun x=>VV.cn x 0) (fP Ti (fun _=>rfl)) (fun _=>rfl) (fun _ _=>rfl) fun L x hq=>K3 L x.1 x.2.1 x.2.2.1 hq
theorem Ov (L:List Sx.Obj) (k:Key) (hL:aq L):
 aba (!decide (aB L k 2 true=0)) (mH L k=false/\aB L k 2 true=aB L k 2 true) ((0<=k.oid/\k.oid< ↑(ai L))/\k.oid.toNat<ai L/\dO L k.oid/\mH L k=true/\0=aB L k 2 true/\b6 L k.oid.toNat (Obj.mk (aj L k.oid.toNat free).kind (aj L k.oid.toNat free).count (aj L k.oid.toNat free).calls g9 (aj L k.oid.toNat free).bytes)=fA L k):=by
 delta aba
 unfold mH;refine⟨fun h=>?_,fun h=>?_⟩
 ·have h:aB L k 2 true≠0:=by simpa using h
  exact⟨by simpa using h,rfl⟩
 ·have h:aB L k 2 true=0:=by simpa using h
  obtain⟨r1,r2,r3,r4⟩:=vl hL (gw h).1;exact⟨⟨r2,r3⟩,r4,r1,by simpa using h,h.symm,by unfold fA;rw[aa2 h];rfl⟩
theorem PA (L:List Sx.Obj) (k:Key) (hL:aq L):an Tryz.prog 111 [.sa 0,.key k] [.ro (.arr none 163 (.ob L))] (yA (mH L k) (fA L k) [.it .i64 (aB L k 2 true)]) (fun _ _=>False):=
 bm (inl:=bx) (ann:=aQ) (ae pK (ae jG ar)) aE (Ov L k hL) (by kernel_rfl)
theorem Mk:lh Tryz.prog 111 RX:=
 iP (m:=fun x=>kB.cn x 0) (fP D1 (fun _=>rfl)) (fun _=>rfl) (fun _ _=>rfl) fun L x hq=>PA L x.1 hq
abbrev abL(L:List Sx.Obj)(t:Key)(f:Key)(g:Int):=ew (aj L t.oid.toNat free) (dH L t f g)
theorem LZ (L:List Sx.Obj) (t f:Key) (hL:aq L):
 aba (decide (aB L t 2 true=0)) (aba (!decide (aB L f 2 false=0)) (kN L t f=false/\aB L f 2 false=bT L t f) ((0<=t.oid/\t.oid< ↑(ai L))/\t.oid.toNat<ai L/\(∃g,lD g/\t=t/\f=f/\Value.slice none 0 0=Value.slice none 0 0/\aB L f 2 false=aB L f 2 false/\0=g/\L=L/\t=t/\f=f/\aj L t.oid.toNat free=ew (aj L t.oid.toNat free) (dH L t f g))/\∀(g:Int),lD g->aba (decide (g<16)) (oL L f g/\(0<=g/\g< ↑16)/\abd (g+1)/\∃ g',lD g'/\oU g'<oU g/\t=t/\f=f/\Value.slice none 0 0=Value.slice none 0 0/\aB L f 2 false=aB L f 2 false/\g+1=g'/\L=L/\t=t/\f=f/\Obj.mk (abL L t f g).kind (abL L t f g).count (abL L t f g).calls ((abL L t f g).slots.put g.toNat (di L f g)) (abL L t f g).bytes=ew (aj L t.oid.toNat free) (dH L t f g')) (dO L t.oid/\kN L t f=true/\0=bT L t f/\b6 L t.oid.toNat (abL L t f g)=eT L t f))) (aba (!decide (aB L t 2 true=0)) (kN L t f=false/\aB L t 2 true=bT L t f) ((0<=t.oid/\t.oid< ↑(ai L))/\t.oid.toNat<ai L/\(∃g,lD g/\t=t/\f=f/\Value.slice none 0 0=Value.slice none 0 0/\aB L t 2 true=aB L t 2 true/\0=g/\L=L/\t=t/\f=f/\aj L t.oid.toNat free=ew (aj L t.oid.toNat free) (dH L t f g))/\∀(g:Int),lD g->aba (decide (g<16)) (oL L f g/\(0<=g/\g< ↑16)/\abd (g+1)/\∃g',lD g'/\oU g'<oU g/\t=t/\f=f/\Value.slice none 0 0=Value.slice none 0 0/\aB L t 2 true=aB L t 2 true/\g+1=g'/\L=L/\t=t/\f=f/\Obj.mk (abL L t f g).kind (abL L t f g).count (abL L t f g).calls ((abL L t f g).slots.put g.toNat (di L f g)) (abL L t f g).bytes=ew (aj L t.oid.toNat free) (dH L t f g')) (dO L t.oid/\kN L t f=true/\0=bT L t f/\b6 L t.oid.toNat (abL L t f g)=eT L t f))):=by
 delta aba abL abd
 unfold kN;have no:∀e,bT L t f=e->e≠0->decide (bT L t f=0)=false/\e=bT L t f:=fun e h h0=>⟨by rw[h];simpa using h0,h.symm⟩
 refine⟨fun h=>⟨fun h'=>?_,fun h'=>?_⟩,fun h=>⟨fun h'=>?_,fun h'=>?_⟩⟩
 ·have h:=aaZ h;have h':aB L f 2 false≠0:=by simpa using h'
  exact no _ (by unfold bT;rw[aa2 h]) h'
 ·have h:=aaZ h;have h':aB L f 2 false=0:=by simpa using h'
  have hE:bT L t f=0:=by unfold bT;rw[aa2 h];exact h'
  obtain⟨r1,r2,r3,r4⟩:=vl hL (gw h).1;obtain⟨_,s2,s3,_⟩:=vl hL (gw h').1;have hk:=(ei (gw h).1).2.2.2.1;have ho:=(ei (gw h').1).2.2.2.1;refine⟨⟨r2,r3⟩,r4,⟨0,⟨by omega,by omega⟩,?_⟩,fun g hg=>⟨fun hlt=>?_,fun hge=>?_⟩⟩
  ·have hz:=DU (f:=f) hk;rw[hk]at hz;repeat' apply And.intro
   all_goals first|rfl|exact hz
  ·obtain⟨g0,g1⟩:=hg;have hlt:=aaZ hlt;have hs:=DR (t:=t) g0 ho (aj L t.oid.toNat free) g9;rw[ho]at hs;refine⟨⟨g0,by omega,s2,s3⟩,⟨g0,by omega⟩,by simp only[aF,cc];omega,g+1,⟨by omega,by omega⟩,by unfold oU;omega,?_⟩
   repeat' apply And.intro
   all_goals first|rfl|exact hs
  ·obtain⟨g0,g1⟩:=hg;have hge:=aaY hge;have:g=16:=by omega
   subst this;exact⟨r1,by simpa using hE,hE.symm,by unfold eT;rw[hE,aa2 rfl];rfl⟩
 ·have h:=aaY h;exact no _ (by unfold bT;rw[aa1 h]) h
 ·rw[h]at h';simp at h'
theorem Nc (L:List Sx.Obj) (t f:Key) (hL:aq L):an Tryz.prog 112 [.sa 0,.key t,.key f] [.ro (.arr none 163 (.ob L))] (yA (kN L t f) (eT L t f) [.it .i64 (bT L t f)]) (fun _ _=>False):=
 bm (inl:=bx) (ann:=(iJ [(112,8,YN [0,1,2,3,4,5,6,7,8,9] (fun g=> [(10,.it .i64 g)]) 9 (fun g=> .blk tO (.ob (ew (aj L (qf t.oid) free) (dH L t f g)))) lD oU)])) (ae pK (ae x9 (ae jG ar))) aE (LZ L t f hL) (by kernel_rfl)
theorem Nw:lh Tryz.prog 112 UP:=
 iP (m:=fun x=>NY.cn x 0) (fP wj (fun _=>rfl)) (fun _=>rfl) (fun _ _=>rfl) fun L x hq=>Nc L x.1 x.2.1 hq
theorem Jg (L:List Sx.Obj) (k:Key) (i n:Int) (hL:aq L):
 aba (decide (aW L k false=0)&& !cB i n) (abJ=ec L k i n/\4=cD L k i n) (aba (!decide (aW L k false=0)) (abJ=ec L k i n/\aW L k false=cD L k i n) ((0<=k.oid/\k.oid< ↑(ai L))/\aF IntKind.i64 (i+n)/\CU i (i+n) 64/\k.oid.toNat<ai L/\xN (aj L k.oid.toNat free).bytes i.toNat (i+n).toNat=ec L k i n/\0=cD L k i n)):=by
 delta aba abJ
 refine⟨fun h=>?_,fun h=>⟨fun h'=>?_,fun h'=>?_⟩⟩
 ·rw[aaV,aaW]at h;obtain⟨e1,e2⟩:=yS h.1 h.2;rw[<-e1,<-e2];exact⟨rfl,rfl⟩
 ·have h':aW L k false≠0:=by simpa using h'
  obtain⟨e1,e2⟩:=rF (i:=i) (n:=n) rfl h';rw[<-e1,<-e2];exact⟨rfl,rfl⟩
 ·have h':aW L k false=0:=by simpa using h'
  have hi:(!cB i n)=false:=by rw[h']at h;simpa using h
  obtain⟨r1,r2,r3,r4⟩:=pD hL (nj h').1;obtain⟨e1,e2,e3,e4⟩:=xS h' hi;exact⟨⟨r2,r3⟩,e1,e2,r4,e3,e4⟩
theorem JT:cz Tryz.prog 114 Qe:=
 eQ (aA jC (aA iI (aA dE (aA dE bV)))) (fun _=>rfl) fun a hq hok=>by
  obtain⟨L,k,i,n,_⟩:=a;exact bc (inl:=bx) (ann:=aQ) (ae vp (ae ug ar)) (Jg L k i n hq) (by kernel_rfl)
theorem LO (L:List Sx.Obj) (k:Key) (hL:aq L):
 aba (!decide (aW L k true=0)) (mD L k=false/\aW L k true=aW L k true) ((0<=k.oid/\k.oid< ↑(ai L))/\k.oid.toNat<ai L/\dO L k.oid/\mD L k=true/\0=aW L k true/\b6 L k.oid.toNat (Obj.mk (aj L k.oid.toNat free).kind (aj L k.oid.toNat free).count (aj L k.oid.toNat free).calls (aj L k.oid.toNat free).slots e9)=fq L k):=by
 delta aba
 unfold mD;refine⟨fun h=>?_,fun h=>?_⟩
 ·have h:aW L k true≠0:=by simpa using h
  exact⟨by simpa using h,rfl⟩
 ·have h:aW L k true=0:=by simpa using h
  obtain⟨r1,r2,r3,r4⟩:=pD hL (nj h).1;exact⟨⟨r2,r3⟩,r4,r1,by simpa using h,h.symm,by unfold fq;rw[aa2 h];rfl⟩
theorem NA (L:List Sx.Obj) (k:Key) (hL:aq L):an Tryz.prog 116 [.sa 0,.key k] [.ro (.arr none 163 (.ob L))] (yA (mD L k) (fq L k) [.it .i64 (aW L k true)]) (fun _ _=>False):=
 bm (inl:=bx) (ann:=aQ) (ae vp (ae jG ar)) aE (LO L k hL) (by kernel_rfl)
theorem NF:lh Tryz.prog 116 Rp:=
 iP (m:=fun x=>kB.cn x 0) (fP D1 (fun _=>rfl)) (fun _=>rfl) (fun _ _=>rfl) fun L x hq=>NA L x.1 hq
abbrev abM(t:Key)(L:List Sx.Obj)(f:Key):=(0<=t.oid/\t.oid< ↑(ai L))/\t.oid.toNat<ai L/\(0<=f.oid/\f.oid< ↑(ai L))/\f.oid.toNat<ai L/\dO L t.oid/\mU L t f=true/\0=cU L t f/\b6 L t.oid.toNat (Obj.mk (aj L t.oid.toNat free).kind (aj L t.oid.toNat free).count (aj L t.oid.toNat free).calls (aj L t.oid.toNat free).slots (aj L f.oid.toNat free).bytes)=fM L t f
theorem RQ (L:List Sx.Obj) (t f:Key) (hL:aq L):
 aba (decide (aW L t true=0)) (aba (!decide (aW L f false=0)) (mU L t f=false/\aW L f false=cU L t f) (abM t L f)) (aba (!decide (aW L t true=0)) (mU L t f=false/\aW L t true=cU L t f) (abM t L f)):=by
 delta aba abM
 unfold mU;refine⟨fun h=>⟨fun h'=>?_,fun h'=>?_⟩,fun h=>⟨fun h'=>?_,fun h'=>?_⟩⟩
 ·have h:=aaZ h;have h':aW L f false≠0:=by simpa using h'
  obtain⟨e1,e2⟩:=HG h rfl h';rw[<-e1];exact⟨by simpa using h',rfl⟩
 ·have h:=aaZ h;have h':aW L f false=0:=by simpa using h'
  have hE:cU L t f=0:=by unfold cU;rw[aa2 h];exact h'
  obtain⟨r1,r2,r3,r4⟩:=pD hL (nj h).1;obtain⟨_,s2,s3,s4⟩:=pD hL (nj h').1;exact⟨⟨r2,r3⟩,r4,⟨s2,s3⟩,s4,r1,by simpa using hE,hE.symm,by unfold fM;rw[hE,aa2 rfl];rfl⟩
 ·have h:=aaY h;obtain⟨e1,e2⟩:=wW (f:=f) rfl h;rw[<-e1];exact⟨by simpa using h,rfl⟩
 ·rw[h]at h';simp at h'
theorem Ta (L:List Sx.Obj) (t f:Key) (hL:aq L):an Tryz.prog 117 [.sa 0,.key t,.key f] [.ro (.arr none 163 (.ob L))] (yA (mU L t f) (fM L t f) [.it .i64 (cU L t f)]) (fun _ _=>False):=
 bm (inl:=bx) (ann:=aQ) (ae vp (ae jG ar)) aE (RQ L t f hL) (by kernel_rfl)
theorem TM:lh Tryz.prog 117 VB:=
 iP (m:=fun x=>NY.cn x 0) (fP wj (fun _=>rfl)) (fun _=>rfl) (fun _ _=>rfl) fun L x hq=>Ta L x.1 x.2.1 hq
theorem MP (d:Int) (hq:xT d):
 (0<=d/\d< ↑11)/\aj [0,1,6,5,6,7,0,0,3,1,1] d.toNat 0=de d:=by
 obtain⟨h0,h1⟩:=hq;refine⟨⟨h0,by omega⟩,?_⟩
 have:d=0\/d=1\/d=2\/d=3\/d=4\/d=5\/d=6\/d=7\/d=8\/d=9\/d=10:=by omega
 rcases this with rfl|rfl|rfl|rfl|rfl|rfl|rfl|rfl|rfl|rfl|rfl<;>rfl
theorem Mb:cz Tryz.prog 80 Tl:=
 eQ (aA dE bV) (fun _=>rfl) fun a hq hok=>by
  obtain⟨d,_⟩:=a;exact bc (inl:=bx) (ann:=aQ) ar (MP d hq) (by kernel_rfl)
abbrev abN(a:Int)(b:Int):=aba (decide (a=4)) (decide (b=4)=cX a b) (aba (decide (a=5)) ((decide (1<=b)&&decide (b<=3)||decide (5<=b)&&decide (b<=7))=cX a b) (false=cX a b))
theorem Qs (a b:Int):
 aba (decide (a=2)) (aba (decide (a=2)) ((decide (b=1)||decide (b=2)||decide (b=5))=cX a b) (abN a b)) (aba (decide (a=3)) ((decide (b=1)||decide (b=2)||decide (b=5))=cX a b) (abN a b)):=by
 delta aba abN
 unfold cX;grind
theorem PC:cz Tryz.prog 81 TY:=
 pf (gq .i64) (gq .i64) (fun _ _=>rfl) fun a b ha hb=>bc (inl:=bx) (ann:=aQ) ar (Qs a b) (by kernel_rfl)
theorem Ny (L:List Sx.Obj) (k:Key) (m:bp) (i:Int) (hq:mI L k m i):
 aba (decide (m.code=1)) (abb (kg L k m=false/\0=(cq L k m).code/\abJ=(cq L k m).data/\aJ L k i=(cq L k m).k0/\void=(cq L k m).k1/\void=(cq L k m).k2/\bY L k i=(ey L k m).fst)) (aba (decide (m.code=2)) (abb (aq L/\(iL L k i m.k0=false->abb (kg L k m=false/\0=(cq L k m).code/\abJ=(cq L k m).data/\cT L k i m.k0=(cq L k m).k0/\void=(cq L k m).k1/\void=(cq L k m).k2/\bj L k i m.k0=(ey L k m).fst))/\(iL L k i m.k0=true->abb (kg L k m=true/\(0=(cq L k m).code/\abJ=(cq L k m).data/\cT L k i m.k0=(cq L k m).k0/\void=(cq L k m).k1/\void=(cq L k m).k2/\bj L k i m.k0=(ey L k m).fst)/\cC L k i m.k0=(ey L k m).snd.snd)))) (aba (decide (m.code=3)) (abb (aq L/\(mH L k=false->kg L k m=false/\0=(cq L k m).code/\abJ=(cq L k m).data/\void=(cq L k m).k0/\void=(cq L k m).k1/\void=(cq L k m).k2/\aB L k 2 true=(ey L k m).fst)/\(mH L k=true->kg L k m=true/\(0=(cq L k m).code/\abJ=(cq L k m).data/\void=(cq L k m).k0/\void=(cq L k m).k1/\void=(cq L k m).k2/\aB L k 2 true=(ey L k m).fst)/\fA L k=(ey L k m).snd.snd))) (aba (decide (m.code=4)) (abb (aq L/\(kN L k m.k0=false->kg L k m=false/\0=(cq L k m).code/\abJ=(cq L k m).data/\void=(cq L k m).k0/\void=(cq L k m).k1/\void=(cq L k m).k2/\bT L k m.k0=(ey L k m).fst)/\(kN L k m.k0=true->kg L k m=true/\(0=(cq L k m).code/\abJ=(cq L k m).data/\void=(cq L k m).k0/\void=(cq L k m).k1/\void=(cq L k m).k2/\bT L k m.k0=(ey L k m).fst)/\eT L k m.k0=(ey L k m).snd.snd))) (aba (decide (m.code=5)) (aba (decide (i<0)||decide (7<i)) (kg L k m=false/\0=(cq L k m).code/\abJ=(cq L k m).data/\void=(cq L k m).k0/\void=(cq L k m).k1/\void=(cq L k m).k2/\2=(ey L k m).fst) (iK k i/\abb (kg L k m=false/\0=(cq L k m).code/\abJ=(cq L k m).data/\jz k i=(cq L k m).k0/\void=(cq L k m).k1/\void=(cq L k m).k2/\0=(ey L k m).fst))) (aba (!decide (k.rights=0)) (kg L k m=false/\0=(cq L k m).code/\abJ=(cq L k m).data/\void=(cq L k m).k0/\void=(cq L k m).k1/\void=(cq L k m).k2/\191=(ey L k m).fst) (abb (kg L k m=false/\0=(cq L k m).code/\abJ=(cq L k m).data/\abE 5 k void.value=(cq L k m).k0/\void=(cq L k m).k1/\void=(cq L k m).k2/\0=(ey L k m).fst))))))):=by
 delta aba abJ abE abb
 obtain⟨hL,hs,hk,rfl⟩:=hq;have hlq:iK k (aS m)↔(0<=aS m/\aS m<=7):=by unfold iK;simp[hk]
 have h8:=N4 (m:=m);have hin:=Dy (m:=m);have hr:aF IntKind.i64 (64-aS m):=by unfold aF cc;omega
 have hr4:aF IntKind.i64 (aS m+4):=by unfold aF cc;omega
 repeat' (first|with_reducible assumption|with_reducible rfl|with_reducible apply And.intro|with_reducible intro _)
 all_goals(first| (simp_all[kg,cq,ey,eY,fu,gm,dZ,bL,cY,void];done)| (simp_all[kg,cq,ey,eY,fu,gm,dZ,bL,cY,void];omega)| (by_cases hz:0<=m.k2.value/\m.k2.value<=7<;>first| (simp_all[kg,cq,ey,eY,fu,gm,dZ,bL,cY,void];done)| (simp_all[kg,cq,ey,eY,fu,gm,dZ,bL,cY,void];omega)))
theorem MI (L:List Sx.Obj) (k:Key) (m:bp) (i:Int) (hq:mI L k m i):an Tryz.prog 82 [.sa 0,.key k,jJ m,.it .i64 i] [.ro (.arr none 163 (.ob L))] (yA (kg L k m) ((ey L k m).2.2) [jJ (cq L k m),.it .i64 (ey L k m).1]) (fun _ _=>False):=
 bm (inl:=(fun f=>f==109||f==79||f==86||f==31)) (ann:=aQ) (ae ED (ae Fl ar)) (aC Eu (aC Mk (aC Nw aE))) (Ny L k m i hq) (by kernel_rfl)
theorem K9:lh Tryz.prog 82 SK:=
 iP (m:=fun x=>C3.cn x 0) (fP yB (fun _=>rfl)) (fun _=>rfl) (fun _ _=>rfl) fun L x hq=>MI L x.1 x.2.1 x.2.2.1 hq
theorem N9 (L:List Sx.Obj) (k:Key) (m:bp) (i:Int) (hq:mI L k m i):
 aba (decide (m.code=1)) (aF IntKind.i64 (64-i)/\aq L/\ld L k m=false/\0=(cV L k m).code/\ec L k i (imax 0 (lT 32 (64-i)))=(cV L k m).data/\void=(cV L k m).k0/\void=(cV L k m).k1/\void=(cV L k m).k2/\cD L k i (imax 0 (lT 32 (64-i)))=(eo L k m).fst) (aba (decide (m.code=2)) (abb ((aq L/\aw m.data)/\(ki L k i m.data=false->ld L k m=false/\0=(cV L k m).code/\abJ=(cV L k m).data/\void=(cV L k m).k0/\void=(cV L k m).k1/\void=(cV L k m).k2/\cL L k i m.data=(eo L k m).fst)/\(ki L k i m.data=true->ld L k m=true/\(0=(cV L k m).code/\abJ=(cV L k m).data/\void=(cV L k m).k0/\void=(cV L k m).k1/\void=(cV L k m).k2/\cL L k i m.data=(eo L k m).fst)/\eZ L k i m.data=(eo L k m).snd.snd))) (aba (decide (m.code=3)) (abb (aq L/\(mD L k=false->ld L k m=false/\0=(cV L k m).code/\abJ=(cV L k m).data/\void=(cV L k m).k0/\void=(cV L k m).k1/\void=(cV L k m).k2/\aW L k true=(eo L k m).fst)/\(mD L k=true->ld L k m=true/\(0=(cV L k m).code/\abJ=(cV L k m).data/\void=(cV L k m).k0/\void=(cV L k m).k1/\void=(cV L k m).k2/\aW L k true=(eo L k m).fst)/\fq L k=(eo L k m).snd.snd))) (aba (decide (m.code=4)) (abb (aq L/\(mU L k m.k0=false->ld L k m=false/\0=(cV L k m).code/\abJ=(cV L k m).data/\void=(cV L k m).k0/\void=(cV L k m).k1/\void=(cV L k m).k2/\cU L k m.k0=(eo L k m).fst)/\(mU L k m.k0=true->ld L k m=true/\(0=(cV L k m).code/\abJ=(cV L k m).data/\void=(cV L k m).k0/\void=(cV L k m).k1/\void=(cV L k m).k2/\cU L k m.k0=(eo L k m).fst)/\fM L k m.k0=(eo L k m).snd.snd))) (aba (decide (i<0)||decide (7<i)) (ld L k m=false/\0=(cV L k m).code/\abJ=(cV L k m).data/\void=(cV L k m).k0/\void=(cV L k m).k1/\void=(cV L k m).k2/\2=(eo L k m).fst) (iK k i/\abb (ld L k m=false/\0=(cV L k m).code/\abJ=(cV L k m).data/\jz k i=(cV L k m).k0/\void=(cV L k m).k1/\void=(cV L k m).k2/\0=(eo L k m).fst)))))):=by
 delta aba abJ abb
 obtain⟨hL,hs,hk,rfl⟩:=hq;have hlq:iK k (aS m)↔(0<=aS m/\aS m<=7):=by unfold iK;simp[hk]
 have h8:=N4 (m:=m);have hin:=Dy (m:=m);have hr:aF IntKind.i64 (64-aS m):=by unfold aF cc;omega
 have hr4:aF IntKind.i64 (aS m+4):=by unfold aF cc;omega
 repeat' (first|with_reducible assumption|with_reducible rfl|with_reducible apply And.intro|with_reducible intro _)
 all_goals(first| (simp_all[ld,cV,eo,qJ,eY,fu,gm,dZ,bL,cY,void];done)| (simp_all[ld,cV,eo,qJ,eY,fu,gm,dZ,bL,cY,void];omega)| (by_cases hz:0<=m.k2.value/\m.k2.value<=7<;>first| (simp_all[ld,cV,eo,qJ,eY,fu,gm,dZ,bL,cY,void];done)| (simp_all[ld,cV,eo,qJ,eY,fu,gm,dZ,bL,cY,void];omega)))
theorem Nf (L:List Sx.Obj) (k:Key) (m:bp) (i:Int) (hq:mI L k m i):an Tryz.prog 83 [.sa 0,.key k,jJ m,.it .i64 i] [.ro (.arr none 163 (.ob L))] (yA (ld L k m) ((eo L k m).2.2) [jJ (cV L k m),.it .i64 (eo L k m).1]) (fun _ _=>False):=
 bm (inl:=(fun f=>f==109||f==79||f==86||f==31)) (ann:=aQ) (ae JT (ae Fl ar)) (aC OW (aC NF (aC TM aE))) (N9 L k m i hq) (by kernel_rfl)
theorem Pw:lh Tryz.prog 83 UX:=
 iP (m:=fun x=>C3.cn x 0) (fP yB (fun _=>rfl)) (fun _=>rfl) (fun _ _=>rfl) fun L x hq=>Nf L x.1 x.2.1 x.2.2.1 hq
abbrev abO(m:bp)(L:List Sx.Obj)(k:Key)(i:Int):=aba (decide (m.code=4)) (true=true/\aq L/\(k9 L k i=false->true=true/\gQ L k m=false/\0=(bh L k m).code/\abJ=(bh L k m).data/\ck L k i=(bh L k m).k0/\void=(bh L k m).k1/\void=(bh L k m).k2/\b8 L k i=(dC L k m).fst)/\(k9 L k i=true->true=true/\gQ L k m=true/\(0=(bh L k m).code/\abJ=(bh L k m).data/\ck L k i=(bh L k m).k0/\void=(bh L k m).k1/\void=(bh L k m).k2/\b8 L k i=(dC L k m).fst)/\bE L k i=(dC L k m).snd.snd)) (aba (decide (m.code=5)) (true=true/\aba (jF L k m.k0) (true=true/\true=true/\gQ L k m=false/\0=(bh L k m).code/\abJ=(bh L k m).data/\void=(bh L k m).k0/\void=(bh L k m).k1/\abg 1=(bh L k m).k2/\aN L k=(dC L k m).fst) (true=true/\true=true/\gQ L k m=false/\0=(bh L k m).code/\abJ=(bh L k m).data/\void=(bh L k m).k0/\void=(bh L k m).k1/\abg 0=(bh L k m).k2/\aN L k=(dC L k m).fst)) (true=true/\aq L/\(kX L k=false->true=true/\true=true/\gQ L k m=false/\0=(bh L k m).code/\abJ=(bh L k m).data/\void=(bh L k m).k0/\void=(bh L k m).k1/\abg (fN L k)=(bh L k m).k2/\aN L k=(dC L k m).fst)/\(kX L k=true->true=true/\true=true/\gQ L k m=true/\(0=(bh L k m).code/\abJ=(bh L k m).data/\void=(bh L k m).k0/\void=(bh L k m).k1/\abg (fN L k)=(bh L k m).k2/\aN L k=(dC L k m).fst)/\ib L k=(dC L k m).snd.snd)))
abbrev abP(L:List Sx.Obj)(k:Key)(m:bp):=true=true/\aq L/\(gE L k m.code=false->true=true/\gQ L k m=false/\0=(bh L k m).code/\abJ=(bh L k m).data/\dh L k m.code=(bh L k m).k0/\void=(bh L k m).k1/\void=(bh L k m).k2/\cA L k m.code=(dC L k m).fst)/\(gE L k m.code=true->true=true/\gQ L k m=true/\(0=(bh L k m).code/\abJ=(bh L k m).data/\dh L k m.code=(bh L k m).k0/\void=(bh L k m).k1/\void=(bh L k m).k2/\cA L k m.code=(dC L k m).fst)/\fx L k m.code=(dC L k m).snd.snd)
abbrev abQ(m:bp)(L:List Sx.Obj)(k:Key)(i:Int):=aba (decide (m.code=3)) (true=true/\aq L/\(jU L k m.k0=false->gQ L k m=false/\0=(bh L k m).code/\abJ=(bh L k m).data/\void=(bh L k m).k0/\void=(bh L k m).k1/\void=(bh L k m).k2/\cE L k m.k0=(dC L k m).fst)/\(jU L k m.k0=true->gQ L k m=true/\(0=(bh L k m).code/\abJ=(bh L k m).data/\void=(bh L k m).k0/\void=(bh L k m).k1/\void=(bh L k m).k2/\cE L k m.k0=(dC L k m).fst)/\gA L k m.k0=(dC L k m).snd.snd)) (abO m L k i)
theorem Jw (L:List Sx.Obj) (k:Key) (m:bp) (i:Int) (hq:mI L k m i):
 aba (decide (m.code=1)) (aba (decide (m.code=1)) (abP L k m) (abQ m L k i)) (aba (decide (m.code=2)) (abP L k m) (abQ m L k i)):=by
 delta aba abJ abg abQ abP abO
 obtain⟨hL,hs,hk,rfl⟩:=hq;have hlq:iK k (aS m)↔(0<=aS m/\aS m<=7):=by unfold iK;simp[hk]
 have h8:=N4 (m:=m);have hin:=Dy (m:=m);have hr:aF IntKind.i64 (64-aS m):=by unfold aF cc;omega
 have hr4:aF IntKind.i64 (aS m+4):=by unfold aF cc;omega
 repeat' (first|with_reducible assumption|with_reducible rfl|with_reducible apply And.intro|with_reducible intro _)
 all_goals(first| (simp_all[gQ,bh,dC,eY,fu,gm,dZ,bL,cY,void];done)| (simp_all[gQ,bh,dC,eY,fu,gm,dZ,bL,cY,void];omega)| (by_cases hz:0<=m.k2.value/\m.k2.value<=7<;>first| (simp_all[gQ,bh,dC,eY,fu,gm,dZ,bL,cY,void];done)| (simp_all[gQ,bh,dC,eY,fu,gm,dZ,bL,cY,void];omega)))
theorem JK (L:List Sx.Obj) (k:Key) (m:bp) (i:Int) (hq:mI L k m i):an Tryz.prog 84 [.sa 0,.key k,jJ m,.it .i64 i] [.ro (.arr none 163 (.ob L))] (yA (gQ L k m) ((dC L k m).2.2) [jJ (bh L k m),.it .i64 (dC L k m).1]) (fun _ _=>False):=
 bm (inl:=(fun f=>f==109||f==79||f==86||f==31)) (ann:=aQ) (ae ND ar) (aC OU (aC SI (aC JA (aC PK aE)))) (Jw L k m i hq) (by kernel_rfl)
theorem Jp:lh Tryz.prog 84 MC:=
 iP (m:=fun x=>C3.cn x 0) (fP yB (fun _=>rfl)) (fun _=>rfl) (fun _ _=>rfl) fun L x hq=>JK L x.1 x.2.1 x.2.2.1 hq
abbrev abR(L:List Sx.Obj)(k:Key):=aJ L (abE 2 k void.value) 0
abbrev abS(k:Key):=abE 2 k void.value
abbrev abT(L:List Sx.Obj)(k:Key)(m:bp):=decide (cm L (abR L k) m.k2.value (bO m.data)=0)&& !decide (bW L (abR L k) m.k2.value (bO m.data) true=0)
theorem KY (L:List Sx.Obj) (k:Key) (m:bp) (i:Int) (hq:mI L k m i):
 aba ((decide (m.code=1)||decide (m.code=2))&&(decide (i<0)||decide (11<i))) (iw L k m=false/\0=(bG L k m).code/\abJ=(bG L k m).data/\void=(bG L k m).k0/\void=(bG L k m).k1/\void=(bG L k m).k2/\4=(dv L k m).fst) (aba (decide (m.code=1)) (abd (i+4)/\abb (iw L k m=false/\0=(bG L k m).code/\abJ=(bG L k m).data/\aJ L (abS k) (i+4)=(bG L k m).k0/\void=(bG L k m).k1/\void=(bG L k m).k2/\bY L (abS k) (i+4)=(dv L k m).fst)) (aba (decide (m.code=2)) (abd (i+4)/\abb (aq L/\(iL L (abS k) (i+4) m.k0=false->abb (iw L k m=false/\0=(bG L k m).code/\abJ=(bG L k m).data/\cT L (abS k) (i+4) m.k0=(bG L k m).k0/\void=(bG L k m).k1/\void=(bG L k m).k2/\bj L (abS k) (i+4) m.k0=(dv L k m).fst))/\(iL L (abS k) (i+4) m.k0=true->abb (iw L k m=true/\(0=(bG L k m).code/\abJ=(bG L k m).data/\cT L (abS k) (i+4) m.k0=(bG L k m).k0/\void=(bG L k m).k1/\void=(bG L k m).k2/\bj L (abS k) (i+4) m.k0=(dv L k m).fst)/\cC L (abS k) (i+4) m.k0=(dv L k m).snd.snd)))) (aba (decide (m.code=3)) (abb (iw L k m=false/\0=(bG L k m).code/\abJ=(bG L k m).data/\abE 6 k m.k2.value=(bG L k m).k0/\void=(bG L k m).k1/\void=(bG L k m).k2/\0=(dv L k m).fst)) (aba (decide (m.code=4)) (abb (abb (iw L k m=false/\0=(bG L k m).code/\abJ=(bG L k m).data/\void=(bG L k m).k0/\void=(bG L k m).k1/\abg (bw L k.oid)=(bG L k m).k2/\0=(dv L k m).fst))) (aba (decide (m.code=5)) (abb (aq L/\(ku L k.oid i=false->iw L k m=false/\0=(bG L k m).code/\abJ=(bG L k m).data/\void=(bG L k m).k0/\void=(bG L k m).k1/\void=(bG L k m).k2/\er L k.oid i=(dv L k m).fst)/\(ku L k.oid i=true->iw L k m=true/\(0=(bG L k m).code/\abJ=(bG L k m).data/\void=(bG L k m).k0/\void=(bG L k m).k1/\void=(bG L k m).k2/\er L k.oid i=(dv L k m).fst)/\dg L k.oid i=(dv L k m).snd.snd))) (aba (decide (m.code=6)) (aq L/\aba (decide (cm L (abR L k) m.k2.value 32=0)&& !decide (bW L (abR L k) m.k2.value 32 false=0)) (abd (1000+bW L (abR L k) m.k2.value 32 false)/\iw L k m=false/\0=(bG L k m).code/\jW L (abR L k) m.k2.value 32=(bG L k m).data/\void=(bG L k m).k0/\void=(bG L k m).k1/\void=(bG L k m).k2/\1000+bW L (abR L k) m.k2.value 32 false=(dv L k m).fst) (iw L k m=false/\0=(bG L k m).code/\jW L (abR L k) m.k2.value 32=(bG L k m).data/\void=(bG L k m).k0/\void=(bG L k m).k1/\void=(bG L k m).k2/\cm L (abR L k) m.k2.value 32=(dv L k m).fst)) (abb ((aq L/\aw m.data)/\(ma L (abR L k) m.k2.value (bO m.data) true=false->aba (abT L k m) (abd (1000+bW L (abR L k) m.k2.value (bO m.data) true)/\iw L k m=false/\0=(bG L k m).code/\abJ=(bG L k m).data/\void=(bG L k m).k0/\void=(bG L k m).k1/\void=(bG L k m).k2/\1000+bW L (abR L k) m.k2.value (bO m.data) true=(dv L k m).fst) (iw L k m=false/\0=(bG L k m).code/\abJ=(bG L k m).data/\void=(bG L k m).k0/\void=(bG L k m).k1/\void=(bG L k m).k2/\cm L (abR L k) m.k2.value (bO m.data)=(dv L k m).fst))/\(ma L (abR L k) m.k2.value (bO m.data) true=true->aba (abT L k m) (abd (1000+bW L (abR L k) m.k2.value (bO m.data) true)/\iw L k m=true/\(0=(bG L k m).code/\abJ=(bG L k m).data/\void=(bG L k m).k0/\void=(bG L k m).k1/\void=(bG L k m).k2/\1000+bW L (abR L k) m.k2.value (bO m.data) true=(dv L k m).fst)/\kx L (abR L k) m.k2.value m.data=(dv L k m).snd.snd) (iw L k m=true/\(0=(bG L k m).code/\abJ=(bG L k m).data/\void=(bG L k m).k0/\void=(bG L k m).k1/\void=(bG L k m).k2/\cm L (abR L k) m.k2.value (bO m.data)=(dv L k m).fst)/\kx L (abR L k) m.k2.value m.data=(dv L k m).snd.snd)))))))))):=by
 delta aba abJ abg abE abT abS abR abd abb
 obtain⟨hL,hs,hk,rfl⟩:=hq;have hlq:iK k (aS m)↔(0<=aS m/\aS m<=7):=by unfold iK;simp[hk]
 have hin:=Dy (m:=m);have hr:aF IntKind.i64 (64-aS m):=by unfold aF cc;omega
 have hr4:aF IntKind.i64 (aS m+4):=by unfold aF cc;omega
 have hw:Key.mk 2 k.oid k.count void.call void.rights void.value=fl k:=rfl;have hro:aJ L (fl k) 0=fO L k:=rfl;have f1:=Iu (L:=L) (k:=fO L k) (a:=m.k2.value) (n:=32) (w:=false);have f2:=Iu (L:=L) (k:=fO L k) (a:=m.k2.value) (n:=bO m.data) (w:=true);have g1:aF IntKind.i64 (1000+bW L (fO L k) m.k2.value 32 false):=by unfold aF cc;omega
 have g2:aF IntKind.i64 (1000+bW L (fO L k) m.k2.value (bO m.data) true):=by unfold aF cc;omega
 rw[hw,hro];refine⟨fun h=>?_,fun h=>⟨fun h1=>?_,fun h1=>⟨fun h2=>?_,fun h2=>?_⟩⟩⟩
 ·simp only[aaV,Bool.or_eq_true,aaW]at h;obtain⟨h1|h1,h2⟩:=h
  ·simp[iw,bG,dv,h1,h2,cY]
  ·simp[iw,bG,dv,h1,h2,cY]
 ·have h1:=aaZ h1;have hz:¬(aS m<0\/11<aS m):=by rw[h1]at h;simpa using h
  have e1:dv L k m=(bY L (fl k) (aS m+4),eY (aJ L (fl k) (aS m+4)),L):=by unfold dv;rw[aa2 h1,aa1 hz]
  have e2:bG L k m=eY (aJ L (fl k) (aS m+4)):=by unfold bG;rw[aa1 (fun hh=>hz hh.2),e1]
  have e3:iw L k m=false:=by unfold iw;rw[aa2 h1]
  rw[e1,e2,e3];exact⟨hr4,rfl,rfl,rfl,rfl,rfl,rfl,rfl,rfl⟩
 ·have h1:=aaY h1;have h2:=aaZ h2;have hz:¬(aS m<0\/11<aS m):=by rw[h2]at h;simpa using h
  have e1:dv L k m=(bj L (fl k) (aS m+4) m.k0,eY (cT L (fl k) (aS m+4) m.k0),cC L (fl k) (aS m+4) m.k0):=by unfold dv;rw[aa1 h1,aa2 h2,aa1 hz,aa1 hz]
  have e2:bG L k m=eY (cT L (fl k) (aS m+4) m.k0):=by unfold bG;rw[aa1 (fun hh=>hz hh.2),e1]
  have e3:iw L k m=iL L (fl k) (aS m+4) m.k0:=by unfold iw;rw[aa1 h1,aa2 h2,aa1 hz]
  rw[e1,e2,e3];exact⟨hr4,rfl,hL,fun h=>⟨rfl,h,rfl,rfl,rfl,rfl,rfl,rfl⟩,fun h=>⟨rfl,h,⟨rfl,rfl,rfl,rfl,rfl,rfl⟩,rfl⟩⟩
 have h1:=aaY h1;have h2:=aaY h2;clear h;repeat' (first|with_reducible assumption|with_reducible rfl|with_reducible apply And.intro|with_reducible intro _)
 all_goals(first| (simp_all[iw,bG,dv,eY,fu,gm,dZ,bL,cY,void];done)| (simp_all[iw,bG,dv,eY,fu,gm,dZ,bL,cY,void];omega))
theorem PO (L:List Sx.Obj) (k:Key) (m:bp) (i:Int) (hq:mI L k m i):an Tryz.prog 85 [.sa 0,.key k,jJ m,.it .i64 i] [.ro (.arr none 163 (.ob L))] (yA (iw L k m) ((dv L k m).2.2) [jJ (bG L k m),.it .i64 (dv L k m).1]) (fun _ _=>False):=
 bm (inl:=(fun f=>f==109||f==79||f==86||f==31)) (ann:=aQ) (ae ED (ae vM (ae WS ar))) (aC Eu (aC Io (aC X1 aE))) (KY L k m i hq) (by kernel_rfl)
theorem KR:lh Tryz.prog 85 Q4:=
 iP (m:=fun x=>C3.cn x 0) (fP yB (fun _=>rfl)) (fun _=>rfl) (fun _ _=>rfl) fun L x hq=>PO L x.1 x.2.1 x.2.2.1 hq
abbrev abU(L:List Sx.Obj)(k:Key):=(ah L k).kind=10
abbrev abV(L:List Sx.Obj)(k:Key)(m:bp):=cq L (ah L k) (aH L m)
abbrev abW(L:List Sx.Obj)(k:Key)(m:bp):=cV L (ah L k) (aH L m)
abbrev abX(L:List Sx.Obj)(k:Key)(m:bp):=bh L (ah L k) (aH L m)
abbrev abY(L:List Sx.Obj)(k:Key)(m:bp):=bG L (ah L k) (aH L m)
theorem XH (L:List Sx.Obj) (n:Int) (k:Key) (m:bp) (hL:aq L) (hs:aw m.data):
 aba (decide (bQ (ai L)=0)) (fz L n k m=false/\0=(aG L n k m).code/\abJ=(aG L n k m).data/\void=(aG L n k m).k0/\void=(aG L n k m).k1/\void=(aG L n k m).k2/\false=cW L n k m/\1=cJ L n k m) (((!(decide (n<0)|| !bJ L k))=true->aw m.data)/\aba (decide (n<0)|| !bJ L k|| !fk L m) (fz L n k m=false/\0=(aG L n k m).code/\abJ=(aG L n k m).data/\void=(aG L n k m).k0/\void=(aG L n k m).k1/\void=(aG L n k m).k2/\false=cW L n k m/\2=cJ L n k m) (aba (decide ((ah L k).kind=6)||decide ((ah L k).kind=7)) (fz L n k m=false/\0=(aG L n k m).code/\abJ=(aG L n k m).data/\void=(aG L n k m).k0/\void=(aG L n k m).k1/\void=(aG L n k m).k2/\false=cW L n k m/\241=cJ L n k m) (aba (decide ((ah L k).kind=0)) (abb (fz L n k m=false/\190=(aG L n k m).code/\abJ=(aG L n k m).data/\void=(aG L n k m).k0/\void=(aG L n k m).k1/\void=(aG L n k m).k2/\false=cW L n k m/\0=cJ L n k m)) (aba (decide ((aH L m).code=0)) (abb (abb (fz L n k m=false/\0=(aG L n k m).code/\abJ=(aG L n k m).data/\void=(aG L n k m).k0/\void=(aG L n k m).k1/\abg (ah L k).kind=(aG L n k m).k2/\false=cW L n k m/\0=cJ L n k m))) (((!decide ((aH L m).code<1))=true->xT (ah L k).kind)/\aba (decide ((aH L m).code<1)||decide (de (ah L k).kind<(aH L m).code)||cX (ah L k).kind (aH L m).code&& !decide ((aH L m).k2.kind=1)) (abb (fz L n k m=false/\240=(aG L n k m).code/\abJ=(aG L n k m).data/\void=(aG L n k m).k0/\void=(aG L n k m).k1/\void=(aG L n k m).k2/\false=cW L n k m/\0=cJ L n k m)) ((aba (decide (0<=(aH L m).k2.value)&&decide ((aH L m).k2.value<=2147483647)) (∃g: Unit,xu L n k m/\n=n/\(ah L k).kind=(ah L k).kind/\(aH L m).k2.value=aS (aH L m)/\L=L/\ah L k=ah L k/\(aH L m).code=(aH L m).code/\(aH L m).data=(aH L m).data/\(aH L m).k0=(aH L m).k0/\(aH L m).k1=(aH L m).k1/\(aH L m).k2=(aH L m).k2/\abJ=abJ/\void=void/\void=void/\void=void) (∃g:Unit,xu L n k m/\n=n/\(ah L k).kind=(ah L k).kind/\-1=aS (aH L m)/\L=L/\ah L k=ah L k/\(aH L m).code=(aH L m).code/\(aH L m).data=(aH L m).data/\(aH L m).k0=(aH L m).k0/\(aH L m).k1=(aH L m).k1/\(aH L m).k2=(aH L m).k2/\abJ=abJ/\void=void/\void=void/\void=void))/\∀(g:Unit),xu L n k m->aba (decide ((ah L k).kind=1)) (abb (abb (fz L n k m=false/\0=(aG L n k m).code/\abJ=(aG L n k m).data/\void=(aG L n k m).k0/\void=(aG L n k m).k1/\abg (ah L k).value=(aG L n k m).k2/\decide (abU L k)=cW L n k m/\0=cJ L n k m))) (aba (decide ((ah L k).kind=2)) (abb (mI L (ah L k) (aH L m) (aS (aH L m))/\(kg L (ah L k) (aH L m)=false->aba (!decide ((ey L (ah L k) (aH L m)).fst=0)) (abb (fz L n k m=false/\(ey L (ah L k) (aH L m)).fst=(aG L n k m).code/\abJ=(aG L n k m).data/\void=(aG L n k m).k0/\void=(aG L n k m).k1/\void=(aG L n k m).k2/\decide (abU L k)=cW L n k m/\0=cJ L n k m)) (fz L n k m=false/\(abV L k m).code=(aG L n k m).code/\(abV L k m).data=(aG L n k m).data/\(abV L k m).k0=(aG L n k m).k0/\(abV L k m).k1=(aG L n k m).k1/\(abV L k m).k2=(aG L n k m).k2/\decide (abU L k)=cW L n k m/\0=cJ L n k m))/\(kg L (ah L k) (aH L m)=true->aba (!decide ((ey L (ah L k) (aH L m)).fst=0)) (abb (fz L n k m=true/\((ey L (ah L k) (aH L m)).fst=(aG L n k m).code/\abJ=(aG L n k m).data/\void=(aG L n k m).k0/\void=(aG L n k m).k1/\void=(aG L n k m).k2/\decide (abU L k)=cW L n k m/\0=cJ L n k m)/\(ey L (ah L k) (aH L m)).snd.snd=ia L n k m)) (fz L n k m=true/\((abV L k m).code=(aG L n k m).code/\(abV L k m).data=(aG L n k m).data/\(abV L k m).k0=(aG L n k m).k0/\(abV L k m).k1=(aG L n k m).k1/\(abV L k m).k2=(aG L n k m).k2/\decide (abU L k)=cW L n k m/\0=cJ L n k m)/\(ey L (ah L k) (aH L m)).snd.snd=ia L n k m)))) (aba (decide ((ah L k).kind=3)) (abb (mI L (ah L k) (aH L m) (aS (aH L m))/\(ld L (ah L k) (aH L m)=false->aba (!decide ((eo L (ah L k) (aH L m)).fst=0)) (abb (fz L n k m=false/\(eo L (ah L k) (aH L m)).fst=(aG L n k m).code/\abJ=(aG L n k m).data/\void=(aG L n k m).k0/\void=(aG L n k m).k1/\void=(aG L n k m).k2/\decide (abU L k)=cW L n k m/\0=cJ L n k m)) (fz L n k m=false/\(abW L k m).code=(aG L n k m).code/\(abW L k m).data=(aG L n k m).data/\(abW L k m).k0=(aG L n k m).k0/\(abW L k m).k1=(aG L n k m).k1/\(abW L k m).k2=(aG L n k m).k2/\decide (abU L k)=cW L n k m/\0=cJ L n k m))/\(ld L (ah L k) (aH L m)=true->aba (!decide ((eo L (ah L k) (aH L m)).fst=0)) (abb (fz L n k m=true/\((eo L (ah L k) (aH L m)).fst=(aG L n k m).code/\abJ=(aG L n k m).data/\void=(aG L n k m).k0/\void=(aG L n k m).k1/\void=(aG L n k m).k2/\decide (abU L k)=cW L n k m/\0=cJ L n k m)/\(eo L (ah L k) (aH L m)).snd.snd=ia L n k m)) (fz L n k m=true/\((abW L k m).code=(aG L n k m).code/\(abW L k m).data=(aG L n k m).data/\(abW L k m).k0=(aG L n k m).k0/\(abW L k m).k1=(aG L n k m).k1/\(abW L k m).k2=(aG L n k m).k2/\decide (abU L k)=cW L n k m/\0=cJ L n k m)/\(eo L (ah L k) (aH L m)).snd.snd=ia L n k m)))) (aba (decide ((ah L k).kind=4)) (abb (mI L (ah L k) (aH L m) (aS (aH L m))/\(gQ L (ah L k) (aH L m)=false->aba (!decide ((dC L (ah L k) (aH L m)).fst=0)) (abb (fz L n k m=false/\(dC L (ah L k) (aH L m)).fst=(aG L n k m).code/\abJ=(aG L n k m).data/\void=(aG L n k m).k0/\void=(aG L n k m).k1/\void=(aG L n k m).k2/\decide (abU L k)=cW L n k m/\0=cJ L n k m)) (fz L n k m=false/\(abX L k m).code=(aG L n k m).code/\(abX L k m).data=(aG L n k m).data/\(abX L k m).k0=(aG L n k m).k0/\(abX L k m).k1=(aG L n k m).k1/\(abX L k m).k2=(aG L n k m).k2/\decide (abU L k)=cW L n k m/\0=cJ L n k m))/\(gQ L (ah L k) (aH L m)=true->aba (!decide ((dC L (ah L k) (aH L m)).fst=0)) (abb (fz L n k m=true/\((dC L (ah L k) (aH L m)).fst=(aG L n k m).code/\abJ=(aG L n k m).data/\void=(aG L n k m).k0/\void=(aG L n k m).k1/\void=(aG L n k m).k2/\decide (abU L k)=cW L n k m/\0=cJ L n k m)/\(dC L (ah L k) (aH L m)).snd.snd=ia L n k m)) (fz L n k m=true/\((abX L k m).code=(aG L n k m).code/\(abX L k m).data=(aG L n k m).data/\(abX L k m).k0=(aG L n k m).k0/\(abX L k m).k1=(aG L n k m).k1/\(abX L k m).k2=(aG L n k m).k2/\decide (abU L k)=cW L n k m/\0=cJ L n k m)/\(dC L (ah L k) (aH L m)).snd.snd=ia L n k m)))) (aba (decide ((ah L k).kind=5)) (abb (mI L (ah L k) (aH L m) (aS (aH L m))/\(iw L (ah L k) (aH L m)=false->aba (!decide ((dv L (ah L k) (aH L m)).fst=0)) (abb (fz L n k m=false/\(dv L (ah L k) (aH L m)).fst=(aG L n k m).code/\abJ=(aG L n k m).data/\void=(aG L n k m).k0/\void=(aG L n k m).k1/\void=(aG L n k m).k2/\decide (abU L k)=cW L n k m/\0=cJ L n k m)) (fz L n k m=false/\(abY L k m).code=(aG L n k m).code/\(abY L k m).data=(aG L n k m).data/\(abY L k m).k0=(aG L n k m).k0/\(abY L k m).k1=(aG L n k m).k1/\(abY L k m).k2=(aG L n k m).k2/\decide (abU L k)=cW L n k m/\0=cJ L n k m))/\(iw L (ah L k) (aH L m)=true->aba (!decide ((dv L (ah L k) (aH L m)).fst=0)) (abb (fz L n k m=true/\((dv L (ah L k) (aH L m)).fst=(aG L n k m).code/\abJ=(aG L n k m).data/\void=(aG L n k m).k0/\void=(aG L n k m).k1/\void=(aG L n k m).k2/\decide (abU L k)=cW L n k m/\0=cJ L n k m)/\(dv L (ah L k) (aH L m)).snd.snd=ia L n k m)) (fz L n k m=true/\((abY L k m).code=(aG L n k m).code/\(abY L k m).data=(aG L n k m).data/\(abY L k m).k0=(aG L n k m).k0/\(abY L k m).k1=(aG L n k m).k1/\(abY L k m).k2=(aG L n k m).k2/\decide (abU L k)=cW L n k m/\0=cJ L n k m)/\(dv L (ah L k) (aH L m)).snd.snd=ia L n k m)))) (aba (decide ((ah L k).kind=8)) (aba (decide ((aH L m).code=1)) (abb (abb (fz L n k m=false/\0=(aG L n k m).code/\abJ=(aG L n k m).data/\void=(aG L n k m).k0/\void=(aG L n k m).k1/\abg (aH L m).k0.kind=(aG L n k m).k2/\decide (abU L k)=cW L n k m/\0=cJ L n k m))) (aba (decide ((aH L m).code=2)) (abb (aba (k7 (aH L m).k0 (aH L m).k1) (abb (abb (fz L n k m=false/\0=(aG L n k m).code/\abJ=(aG L n k m).data/\void=(aG L n k m).k0/\void=(aG L n k m).k1/\abg 1=(aG L n k m).k2/\decide (abU L k)=cW L n k m/\0=cJ L n k m))) (abb (abb (fz L n k m=false/\0=(aG L n k m).code/\abJ=(aG L n k m).data/\void=(aG L n k m).k0/\void=(aG L n k m).k1/\abg 0=(aG L n k m).k2/\decide (abU L k)=cW L n k m/\0=cJ L n k m))))) (abb (abb (fz L n k m=false/\0=(aG L n k m).code/\abJ=(aG L n k m).data/\void=(aG L n k m).k0/\void=(aG L n k m).k1/\abg (aH L m).k0.rights=(aG L n k m).k2/\decide (abU L k)=cW L n k m/\0=cJ L n k m))))) (aba (decide ((ah L k).kind=9)) (abb (abb (fz L n k m=false/\0=(aG L n k m).code/\abJ=(aG L n k m).data/\void=(aG L n k m).k0/\void=(aG L n k m).k1/\abg n=(aG L n k m).k2/\decide (abU L k)=cW L n k m/\0=cJ L n k m))) (fz L n k m=false/\0=(aG L n k m).code/\abJ=(aG L n k m).data/\void=(aG L n k m).k0/\void=(aG L n k m).k1/\void=(aG L n k m).k2/\decide (abU L k)=cW L n k m/\0=cJ L n k m))))))))))))):=by
 delta aba abJ abg abY abX abW abV abU abb
 have hd:(aH L m).data=m.data:=rfl;have hcd:(aH L m).code=m.code:=rfl;have hsz:bQ (ai L)=0↔ai L=0:=by simp[bQ]
 refine⟨fun h=>?_,fun h=>⟨fun _=>hs,fun h2=>?_,fun h2=>⟨fun h3=>?_,fun h3=>⟨fun h4=>?_,fun h4=>⟨fun h5=>?_,fun h5=>⟨fun _=>?_,fun h6=>?_,fun h6=>?_⟩⟩⟩⟩⟩⟩
 ·obtain⟨a,b,c,d⟩:=Lu (n:=n) (k:=k) (m:=m) (L:=L) (e:=1) (by unfold cJ;rw[aa2 (hsz.1 (aaZ h))]) (by omega)
  rw[a,b,c];exact⟨rfl,rfl,rfl,rfl,rfl,rfl,rfl,d⟩
 all_goals have h0:¬ai L=0:=fun e=>aaY h (hsz.2 e)
 ·have hf:qL L n k m=false:=Sk h2;obtain⟨a,b,c,d⟩:=Lu (n:=n) (k:=k) (m:=m) (L:=L) (e:=2) (by unfold cJ;rw[aa1 h0,aa2 hf]) (by omega)
  rw[a,b,c];exact⟨rfl,rfl,rfl,rfl,rfl,rfl,rfl,d⟩
 all_goals have hf:¬qL L n k m=false:=L0 h2
 ·have h3:(ah L k).kind=6\/(ah L k).kind=7:=by simpa using h3
  obtain⟨a,b,c,d⟩:=Lu (n:=n) (k:=k) (m:=m) (L:=L) (e:=241) (by unfold cJ;rw[aa1 h0,aa1 hf,aa2 h3]) (by omega)
  rw[a,b,c];exact⟨rfl,rfl,rfl,rfl,rfl,rfl,rfl,d⟩
 all_goals have h3:¬((ah L k).kind=6\/(ah L k).kind=7):=by simpa using h3
 all_goals have hE:cJ L n k m=0:=by unfold cJ;rw[aa1 h0,aa1 hf,aa1 h3]
 ·have h4:=aaZ h4;obtain⟨a,b,c,d,e⟩:=CV (c:=false) (r:=(190,cY,L)) hE (by unfold dI;rw[aa2 h4]) (by unfold vK;rw[aa2 h4])
  rw[a,b,d,h4];exact⟨rfl,rfl,rfl,rfl,rfl,rfl,rfl,rfl,e⟩
 all_goals have h4:=aaY h4
 ·have h5:=aaZ h5;obtain⟨a,b,c,d,e⟩:=CV (c:=false) (r:=(0,fu (ah L k).kind,L)) hE (by unfold dI;rw[aa1 h4,aa2 h5]) (by unfold vK;rw[aa1 h4,aa2 h5])
  rw[hcd]at h5;rw[a,b,d,h5];refine⟨rfl,rfl,rfl,rfl,rfl,rfl,rfl,rfl,?_,e⟩;simp
 all_goals have h5:=aaY h5
 ·unfold xT;have:=tH (L:=L) (k:=k);unfold aV at this;simp only[aaV,aaW]at this;omega
 ·have h6':(aH L m).code<1\/de (ah L k).kind<(aH L m).code\/(cX (ah L k).kind (aH L m).code=true/\(aH L m).k2.kind≠1):=by
   simp only[Bool.or_eq_true,aaV,aaW,Bool.not_eq_true',decide_eq_false_iff_not]at h6;rcases h6 with(h6|h6)|h6
   ·exact .inl h6
   ·exact .inr (.inl h6)
   ·exact .inr (.inr h6)
  obtain⟨a,b,c,d,e⟩:=CV (c:=false) (r:=(240,cY,L)) hE (by unfold dI;rw[aa1 h4,aa1 h5,aa2 h6']) (by unfold vK;rw[aa1 h4,aa1 h5,aa2 h6'])
  have hw:(decide ((ah L k).kind=10)&&decide (m.code=1))=false:=by
   by_cases hk:(ah L k).kind=10
   ·have h1:de (ah L k).kind=1:=by rw[hk];rfl
    have h2:cX (ah L k).kind (aH L m).code=false:=by rw[hk];rfl
    rw[h2,h1,hcd]at h6';have:¬m.code=1:=fun hm=>by rw[hm]at h6';simp at h6'
    simp[this]
   ·simp[hk]
  rw[a,b,d,hw];exact⟨rfl,rfl,rfl,rfl,rfl,rfl,rfl,rfl,e⟩
 have h6':¬((aH L m).code<1\/de (ah L k).kind<(aH L m).code\/(cX (ah L k).kind (aH L m).code=true/\(aH L m).k2.kind≠1)):=fun hh=>by
  simp only[Bool.or_eq_false_iff,Bool.and_eq_false_iff,decide_eq_false_iff_not,Bool.not_eq_false',aaW]at h6;obtain⟨⟨h6a,h6b⟩,h6c⟩:=h6;rcases hh with hh|hh|hh
  ·exact h6a hh
  ·exact h6b hh
  ·rcases h6c with h6c|h6c
   ·rw[h6c]at hh;simp at hh
   ·exact hh.2 h6c
 have hZ:xu L n k m:=⟨⟨hL,hs⟩,hE,h4,h5,h6'⟩;refine⟨⟨fun h7=>⟨(),hZ,?_⟩,fun h7=>⟨(),hZ,?_⟩⟩,fun _ _=>?_⟩
 ·have h7:0<=(aH L m).k2.value/\(aH L m).k2.value<=2147483647:=by simpa using h7
  have:(aH L m).k2.value=aS (aH L m):=by unfold aS;rw[aa2 h7]
  exact⟨rfl,rfl,this,rfl,rfl,rfl,rfl,rfl,rfl,rfl,rfl,rfl,rfl,rfl⟩
 ·have h7:¬(0<=(aH L m).k2.value/\(aH L m).k2.value<=2147483647):=by simpa using h7
  have: -1=aS (aH L m):=by unfold aS;rw[aa1 h7]
  exact⟨rfl,rfl,this,rfl,rfl,rfl,rfl,rfl,rfl,rfl,rfl,rfl,rfl,rfl⟩
 obtain⟨e1,e2,e3,e4,e5⟩:=UH hZ rfl rfl;have hro:mI L (ah L k) (aH L m) (aS (aH L m)):=⟨hL,hs,tH,rfl⟩;clear hZ h6' h6 h5 h4 hE h3 hf h0 h2 h hsz hcd hd hL hs;rw[e1,e2,e3,e4,<-e5];clear e1 e2 e3 e4 e5;generalize ah L k=k' at *
 generalize aH L m=m' at *
 repeat' (first|with_reducible assumption|with_reducible rfl|with_reducible apply And.intro|with_reducible intro _)
 all_goals(first| (simp_all[tP,eJ,Py,PU,MK,bh,gg,fu,dZ,bL,cY,void];done)| (simp_all[tP,eJ,Py,PU,MK,bh,gg,fu,dZ,bL,cY,void];omega))
theorem Xe (L:List Sx.Obj) (n:Int) (k:Key) (m:bp) (hL:aq L) (hs:aw m.data):an Tryz.prog 52 [.sa 0,.it .i64 n,.key k,jJ m] [.ro (.arr none 163 (.ob L))] (yA (fz L n k m) (ia L n k m) [jJ (aG L n k m),.bo (cW L n k m),.it .i64 (cJ L n k m)]) (fun _ _=>False):=
 bm (inl:=(fun f=>f==109||f==79||f==86||f==31||f==78)) (ann:=(iJ [(52,2000019,En [0,1,6,7,9,12] (fun(_:Unit)=> [(13,.it .i64 (aS (aH L m)))]) (fun _=> []) (fun _=> []) (fun _=>xu L n k m))])) (ae yV (ae Dp (ae Cm (ae pL (ae QX (ae Mb (ae PC ar))))))) (aC K9 (aC Pw (aC Jp (aC KR aE)))) (XH L n k m hL hs) (by kernel_rfl)
theorem Yx:lh Tryz.prog 52 Z2:=
 iP (m:=fun x=>MG.cn x 0) (fP IP (fun _=>rfl)) (fun _=>rfl) (fun _ _=>rfl) fun L x hq=>Xe L x.1 x.2.1 x.2.2.1 hq.1 hq.2
end Go.Proofs.YtlblcfaclmpekaaGreat
namespace Go.Sx
theorem Td {L:List Obj} {i:Int} {m:bp} (hL:aq L):aq (gx L i m):=by
 unfold gx;split
 ·rename_i hE
  have hm:fk L m=true/\bw L i=1:=by
   unfold gf at hE;split at hE
   ·omega
   ·split at hE
    ·omega
    ·split at hE
     ·omega
     ·rename_i h1 h2;exact⟨by simpa using h1,by omega⟩
  obtain⟨a,b,c,d⟩:=o7 (qM.1.1 (by omega:0<=bw L i))
  obtain⟨f0,f1,f2⟩:=Df (by have:=gY hL;omega:0<L.length) m
  exact kS hL (GY (dt hL i.toNat (by omega)) d f0 f1 f2 (Ah (by omega)))
 ·exact hL
theorem V6 {L:List Obj} {n:Int} {p:jb} (hL:aq L):aq (dP L n p):=by
 unfold dP;split
 ·split
  ·exact VY hL
  ·unfold w8;have h1:aq (iH L n p):=Gu hL;split
   ·split
    ·exact Td h1
    ·split
     ·exact G6 h1
     ·exact h1
   ·exact h1
 ·exact hL
theorem XJ {n:Int} {p:jb} (hn:gN n):gN (jn n p):=by
 unfold jn;split
 ·rename_i h;obtain⟨hr,hk⟩:=h;unfold eu at hr;rw[aa2 hk]at hr;simp only[aaV,aaW]at hr;unfold gN at hn⊢;omega
 ·exact hn
def Es (l:TL) (L:List Obj) (n:Int):Prop:=aq L/\gN n/\∃x:List jb,l=lX x/\wE x/\ai x<=40
theorem Ft {L:List Obj} {i:Int} {o:Obj} (hL:aq L):aq (cK L i o):=by
 unfold cK;split
 ·rename_i h;rcases GS o (ai L:Int)with⟨_,h2⟩|⟨h1,_⟩
  ·exact kS hL h2
  ·rw[h.2]at h1;simp at h1
 ·exact hL
theorem SM {n:Int} (h:gZ n=true):aq (kh n):=by
 unfold gZ at h;simp only[aaV,aaW]at h;have hl:(kh n).length=n.toNat:=by simp[kh]
 have key:∀k:Fin 65,1<=k.val->bM free (k.val:Int)=true:=by decide+kernel
 refine gM.2 ⟨by omega,by omega,fun i hi=>?_⟩
 have e:aj (kh n) i free=free:=by
  unfold aj kh;rw[aa0,List.getElem?_replicate];split<;>rfl
 rw[e,hl];exact key ⟨n.toNat,by omega⟩ (by simp only;omega)
theorem Si {n:Int} (h:gZ n=true):aq (dc n):=Ft (Ft (SM h))
def gr (p:jb):Prop:=True
def qj (L:List Obj) (p:jb) (g:Int):Prop:=0<=g/\g<(ai (b7 L):Int)/\aj (b7 L) g.toNat 0=aX L p
def Vj (o:Obj) (p:jb):bp:=⟨p.code,p.data,oD o p.s0,oD o p.s1,oD o p.s2⟩
def mz (L:List Obj) (p:jb):bp:=Vj (aL L (aX L p)) p
def ye (L:List Obj) (p:jb):Key:=ah L ((aj L (aX L p).toNat free).slots.at (4+p.reg).toNat)
def stM (L:List Obj) (n:Int) (p:jb):bp:=aG L n (ye L p) (bK L p)
def Yh (L:List Obj) (n:Int) (p:jb):List Obj:=ia L n (ye L p) (bK L p)
def JD (L:List Obj) (p:jb) (s:Int):Key:=(aj L (aX L p).toNat free).slots.at (4+s).toNat
def Ve (L:List Obj) (p:jb) (s:Int) (r:Prop):Prop:=aF .i64 (4+s)/\(0<=aX L p/\aX L p< ↑(ai L))/\(0<=4+s/\4+s< ↑16)/\(aX L p).toNat<ai L/\r
def xJ (L:List Obj) (n:Int) (p:jb) (r:Prop):Prop:=L=L/\n=n/\p.kind=p.kind/\p.proc=p.proc/\p.reg=p.reg/\p.mode=p.mode/\p.code=p.code/\p.data=p.data/\p.s0=p.s0/\p.s1=p.s1/\p.s2=p.s2/\p.num=p.num/\p.val=p.val/\Value.slice none 0 0=Value.slice none 0 0/\ByteArray.mk (Array.mk [])=ByteArray.mk (Array.mk [])/\void=void/\void=void/\void=void/\false=false/\b7 L=b7 L/\r
def Ie (L:List Obj) (n:Int) (p:jb):Prop:=L=L/\n=n/\p.kind=p.kind/\p.proc=p.proc/\p.reg=p.reg/\p.mode=p.mode/\p.code=p.code/\p.data=p.data/\p.s0=p.s0/\p.s1=p.s1/\p.s2=p.s2/\p.num=p.num/\p.val=p.val/\Value.slice none 0 0=Value.slice none 0 0/\ByteArray.mk (Array.mk [])=ByteArray.mk (Array.mk [])/\void=void/\void=void/\void=void/\false=false/\b7 L=b7 L
theorem CM {L:List Obj} {n:Int} {p:jb}:Ie L n p:=⟨rfl,rfl,rfl,rfl,rfl,rfl,rfl,rfl,rfl,rfl,rfl,rfl,rfl,rfl,rfl,rfl,rfl,rfl,rfl,rfl⟩
theorem FQ {L:List Obj} {n:Int} {p:jb} {r:Prop} (h:r):xJ L n p r:=⟨rfl,rfl,rfl,rfl,rfl,rfl,rfl,rfl,rfl,rfl,rfl,rfl,rfl,rfl,rfl,rfl,rfl,rfl,rfl,rfl,h⟩
def QP (L:List Obj) (n:Int) (p:jb) (x o i e:Int) (m:bp) (w:Bool):Prop:=x=jn n p/\o=(aT L n p).out/\i=(aT L n p).proc/\e=(aT L n p).err/\m.code=(aT L n p).ans.code/\m.data=(aT L n p).ans.data/\m.k0=(aT L n p).ans.k0/\m.k1=(aT L n p).ans.k1/\m.k2=(aT L n p).ans.k2/\w=(aT L n p).wants
theorem w7 {L:List Obj} {n x o i e:Int} {p:jb} {m:bp} {w:Bool} (h1:jn n p=x) (h2:aT L n p=⟨o,i,e,m,w⟩):QP L n p x o i e m w:=by
 unfold QP;rw[h1,h2];(repeat' apply And.intro)<;>rfl
theorem Ch {L:List Obj} {p:jb} {s:Int} (h0:0<=aX L p) (h1:aX L p<(ai L:Int)) (hs:gU s=true):(decide (0<=s)=true->(∀r,r->Ve L p s r)/\JD L p s=oD (aL L (aX L p)) s)/\(decide (0<=s)=false->void=oD (aL L (aX L p)) s):=by
 refine⟨fun h=>?_,fun h=>?_⟩
 ·have h:=aaZ h
  have hb:s<12:=by
   unfold gU tL at hs;simp only[Bool.or_eq_true,aaV,aaW]at hs;omega
  refine⟨fun r hr=>⟨by simp only[aF,cc];omega,⟨h0,h1⟩,by omega,by omega,hr⟩,?_⟩
  unfold oD;rw[aa1 (by omega),fG h0 h1]
  rfl
 ·have h:=aaY h;unfold oD;rw[aa2 (by omega)]
theorem He (L:List Obj):∀(k:Nat),∀x∈dL L (k:Int),0<=x/\x<(k:Int)
 |0,x,h=>by rw[show((0:Nat):Int)=0 from rfl,wU]at h;simp at h
 |k+1,x,h=>by
  rw[show((k+1:Nat):Int)=(k:Int)+1 by omega,wC L (by omega)]at h
  have ih:=He L k x;split at h
  ·unfold jm at h;rcases List.mem_append.1 h with h|h
   ·have:=ih h;omega
   ·simp only[List.mem_singleton]at h;omega
  ·have:=ih h;omega
theorem WY {L:List Obj} {p:jb} (hL:aq L) (h0:¬ai (b7 L)=0):0<=aX L p/\aX L p<(ai L:Int):=by
 obtain⟨_,_,_,f4⟩:=we (p:=p) hL h0
 have hlt:((p.proc.tmod (ai (b7 L):Int)+(ai (b7 L):Int)).tmod (ai (b7 L):Int)).toNat<(b7 L).length:=by
  have:ai (b7 L)=(b7 L).length:=rfl;omega
 have hm:aX L p∈b7 L:=by
  unfold aX aj;rw[aa0,List.getElem?_eq_getElem hlt];exact List.getElem_mem _
 exact He L (ai L) _ hm
theorem XN {L:List Obj} {p:jb} (hL:aq L) (h0:¬ai (b7 L)=0):(p.proc.tmod (ai (b7 L):Int)<0->qj L p (p.proc.tmod (ai (b7 L):Int)+(ai (b7 L):Int)))/\(¬p.proc.tmod (ai (b7 L):Int)<0->qj L p (p.proc.tmod (ai (b7 L):Int))):=by
 have hN:(0:Int)<(ai (b7 L):Int):=by omega
 have hb:=Int.tmod_lt_of_pos p.proc hN;have hb2:=Int.lt_tmod_of_pos p.proc hN;unfold qj aX;generalize p.proc.tmod (ai (b7 L):Int)=x at *
 refine⟨fun h=>⟨by omega,by omega,?_⟩,fun h=>⟨by omega,by omega,?_⟩⟩
 ·rw[Int.tmod_eq_of_lt (by omega) (by omega)]
 ·rw[Int.tmod_eq_emod_of_nonneg (by omega),Int.add_emod_right,Int.emod_eq_of_lt (by omega) hb]
theorem X2 {L:List Obj} {n:Int} {p:jb} {A:List Obj} (hA:iH L n p=A):w8 L n p=if bw A (aX L p)=1 then(if p.mode=1 then gx A (aX L p) (aG L n (cR L p) (bK L p))else if p.mode=3 then dg A (aX L p) 0 else A)else A:=by
 unfold w8;rw[hA]
 have:(dS A (aX L p)=true/\iG A (aX L p)=1)↔bw A (aX L p)=1:=by
  unfold iG bw;split<;>simp_all
 simp only[this]
def Hj (L:List Obj) (n:Int) (p:jb) (A:List Obj) (E D:Prop):Prop:=((decide (bw A (aX L p)=1)&&decide (p.mode=1))=true->true=true/\(aq A/\aw (stM L n p).data)/\(pM A (aX L p) (stM L n p)=false->((decide (bw A (aX L p)=1)&&decide (p.mode=3))=true->true=true/\aq A/\(ku A (aX L p) 0=false->D/\E)/\(ku A (aX L p) 0=true->D/\dg A (aX L p) 0=dP L n p))/\((decide (bw A (aX L p)=1)&&decide (p.mode=3))=false->D/\E))/\(pM A (aX L p) (stM L n p)=true->((decide (bw (gx A (aX L p) (stM L n p)) (aX L p)=1)&&decide (p.mode=3))=true->true=true/\aq (gx A (aX L p) (stM L n p))/\(ku (gx A (aX L p) (stM L n p)) (aX L p) 0=false->D/\gx A (aX L p) (stM L n p)=dP L n p)/\(ku (gx A (aX L p) (stM L n p)) (aX L p) 0=true->D/\dg (gx A (aX L p) (stM L n p)) (aX L p) 0=dP L n p))/\((decide (bw (gx A (aX L p) (stM L n p)) (aX L p)=1)&&decide (p.mode=3))=false->D/\gx A (aX L p) (stM L n p)=dP L n p)))/\((decide (bw A (aX L p)=1)&&decide (p.mode=1))=false->((decide (bw A (aX L p)=1)&&decide (p.mode=3))=true->true=true/\aq A/\(ku A (aX L p) 0=false->D/\E)/\(ku A (aX L p) 0=true->D/\dg A (aX L p) 0=dP L n p))/\((decide (bw A (aX L p)=1)&&decide (p.mode=3))=false->D/\E))
theorem IB {L:List Obj} {n:Int} {p:jb} {A:List Obj} {E D:Prop} (hA:iH L n p=A) (hE:dP L n p=A->E) (hl:dP L n p=w8 L n p) (hM:aG L n (cR L p) (bK L p)=stM L n p) (hL:aq A) (d:D):Hj L n p A E D:=by
 rw[X2 hA,hM]at hl;have hs:aw (stM L n p).data:=by rw[<-hM];exact CZ
 simp only[Hj,aaV,Bool.and_eq_false_iff,aaW,decide_eq_false_iff_not];refine⟨fun⟨h1,h2⟩=>?_,fun h=>⟨fun⟨h1,h3⟩=>?_,fun h3=>⟨d,hE ?_⟩⟩⟩
 ·rw[aa2 h1,aa2 h2]at hl;have h3:¬p.mode=3:=by omega
  refine⟨trivial,⟨hL,hs⟩,fun hc=>⟨fun hh=>absurd hh.2 h3,fun _=>⟨d,hE (hl.trans (Ya hc))⟩⟩,fun hc=>⟨fun hh=>absurd hh.2 h3,fun _=>⟨d,hl.symm⟩⟩⟩
 ·rw[aa2 h1,aa1 (by omega),aa2 h3]at hl
  exact⟨trivial,hL,fun hc=>⟨d,hE (hl.trans (H9 hc))⟩,fun hc=>⟨d,hl.symm⟩⟩
 ·by_cases h1:bw A (aX L p)=1
  ·rw[aa2 h1,aa1 (by omega),aa1 (by omega)]at hl
   exact hl
  ·rw[aa1 h1]at hl;exact hl
def kRs (L M:List Obj) (n:Int) (D:V) (v:V) (r:List aK):Prop:=
 match v with
 | .tp l=>match l with
   | [a,d]=>match a with
     | .ag m=>match m with
       | [b,y]=>match b with
         | .sa p=>if p==0 then oW (.tp [.it .i64 n,D]) (.tp [y,d]) r/\M=L else if Nat.ble 1 p then match az r p with
           | .arr own z t=>match own with
             |some e=>match t with
              | .ob N=>if z==163&&e==tO then oW (.tp [.it .i64 n,D]) (.tp [y,d]) r/\N=M else False
              |_=>False
             |none=>False
           |_=>False
           else False
         |_=>False
       |_=>False
     |_=>False
   |_=>False
 |_=>False
theorem RF {L M:List Obj} {n:Int} {D v:V} {r:List aK} (h:kRs L M n D v r):∃p y d,v= .tp [.ag [.sa p,y],d]/\oW (.tp [.it .i64 n,D]) (.tp [y,d]) r/\((p=0/\M=L)\/(1<=p/\az r p= .arr (some tO) 163 (.ob M))):=by
 unfold kRs at h;split at h
 case h_2=>exact h.elim
 split at h
 case h_2=>exact h.elim
 split at h
 case h_2=>exact h.elim
 split at h
 case h_2=>exact h.elim
 rename_i d _ _ _ y;split at h
 case h_2=>exact h.elim
 rename_i p;split at h
 ·rename_i e;exact⟨p,y,d,rfl,h.1,.inl ⟨aaX.1 e,h.2⟩⟩
 ·split at h
  case isFalse=>exact h.elim
  rename_i hp;split at h
  case h_2=>exact h.elim
  rename_i hrp;split at h
  case h_2=>exact h.elim
  split at h
  case h_2=>exact h.elim
  split at h
  case isFalse=>exact h.elim
  rename_i hc;simp only[aaV,aaX]at hc;obtain⟨rfl,rfl⟩:=hc;obtain⟨h1,rfl⟩:=h;exact⟨p,y,d,rfl,h1,.inr ⟨by simpa using hp,hrp⟩⟩
def Cu:kq:=fun args res K=>
 match args with
 |a::l=>match uw JM l with
  |some x=>match a with
   | .ag m=>match m with
     | [b,y]=>match b with
       | .sa j=>match y with
         | .it k n=>match k with
           | .i64=>match cP res j with
             | .arr _ z t=>if z==163 then match t with
               | .ob M=>(Xy M n (wy x.1)/\eu (wy x.1) n=true)/\(dP M n (wy x.1)=M->K (.tp [.ag [.sa j,.it .i64 (jn n (wy x.1))],YQ (aT M n (wy x.1))]) res)/\
                 K (.tp [.ag [.sa res.length,.it .i64 (jn n (wy x.1))],YQ (aT M n (wy x.1))]) (res++ [.arr (some tO) 163 (.ob (dP M n (wy x.1)))])
               |_=>False
               else False
             |_=>False
           |_=>False
         |_=>False
       |_=>False
     |_=>False
   |_=>False
  |none=>False
 |_=>False
theorem EJ {κ:Nat->Option Nat} {p j:Nat} {n:Int} {y d F:V} {r:List aK} (hκ:κ p=some j) (hF:kE F=true) (hb:oW (.tp [.it .i64 n,F]) (.tp [y,d]) r):lu κ (.tp [.ag [.sa p,y],d]) (.tp [.ag [.sa j,.it .i64 n],F]):=by
 intro ρ2 ρ3 N N' h1 h2 hv;obtain⟨⟨⟨hp,hy,_⟩,_⟩,hd,_⟩:=hv;obtain⟨e1,e2,_⟩:=dK hb ρ2 N;obtain⟨a1,a2,a3,a4,a5,a6⟩:=h1 p j hκ;have hFN:fQ N [.it .i64 n,F]:=e2 ⟨hy,hd,trivial⟩;have hF0:fQ (fun _=>False) [V.it .i64 n,F]:=mF _ (by simp[lW,kE,hF]) hFN
 have e3:bz ρ3 [.it .i64 n,F]=bz ρ2 [.it .i64 n,F]:=fW (N:=fun _=>False) (fun _ h=>h.elim) _ hF0
 have hN':fQ N' [V.it .i64 n,F]:=mF _ (by simp[lW,kE,hF]) hFN
 have e1:den ρ2 y= .int .i64 n/\den ρ2 d=den ρ2 F:=by simpa[den,bz]using e1
 have e3:den ρ3 F=den ρ2 F:=by simpa[bz,den]using e3
 refine⟨?_,⟨⟨h2 p j hκ hp,hN'.1,trivial⟩,trivial,trivial,trivial⟩,hN'.2⟩;simp only[den,bz,bn,e1.1,e1.2,e3,a2,a4,a5]
theorem W9 {P:Program} {f:Nat} (hcl:∀L n p,Xy L n p->eu p n=true->an P f [.ag [.sa 0,.it .i64 n],Ky p] [.ro (.arr none 163 (.ob L))] (kRs L (dP L n p) (jn n p) (YQ (aT L n p))) (fun _ _=>False)):lh P f Cu:=by
 intro args res K KP h;unfold Cu at h;split at h
 case h_2=>exact h.elim
 split at h
 case h_2=>exact h.elim
 rename_i x hx;refine an.args (ff.j4 (fP F5 (fun _=>rfl) _ _ hx)) ?_
 split at h
 case h_2=>exact h.elim
 split at h
 case h_2=>exact h.elim
 split at h
 case h_2=>exact h.elim
 rename_i j;split at h
 case h_2=>exact h.elim
 rename_i n;split at h
 case h_2=>exact h.elim
 split at h
 case h_2=>exact h.elim
 rename_i own z t hj;split at h
 case isFalse=>exact h.elim
 rename_i hz;have hz:=aaX.1 hz;subst hz;split at h
 case h_2=>exact h.elim
 rename_i M;obtain⟨⟨hQ,hR⟩,h0,h1⟩:=h;have hkj:=eU hj (by simp)
 have hjl:=aO hkj;have hres:fD (lS 0 (dV [(j,false)])) res [(j,false)]= [.ro (.arr own 163 (.ob M))]:=by simp[fD,hj,gL]
 refine an.frame (pl:= [(j,false)]) (args0:= [.ag [.sa 0,.it .i64 n],Ky (wy x.1)]) (K0:=kRs M (dP M n (wy x.1)) (jn n (wy x.1)) (YQ (aT M n (wy x.1)))) (KP0:=fun _ _=>False) (by simp[fm,cQ.2 hkj]) (by simpa[ju,dV,pF]using hjl) ?_ ?_ (fun v r hv=>?_) (fun _ _ h=>h.elim)
 ·exact mg (by simp[ga,eX,lS,idxOf,dV]) (lf _ rfl)
 ·rw[hres];exact an.Vm (hcl M n (wy x.1) hQ hR)
 ·obtain⟨p,y,d,rfl,hb,hv⟩:=RF hv;rcases hv with⟨rfl,hc⟩|⟨hp,hrp⟩
  ·have hm:merge [(j,false)] [] r res=res:=by simp[merge,fC,gG]
   refine⟨[],_,rfl,by simp[kV],rfl,EJ (j:=j) (by simp[back,v7]) rfl hb,by rw[hm];exact h0 hc⟩
  ·have hpl:p<r.length:=aO (by rw[hrp];simp)
   have hm:merge [(j,false)] [p] r res=res++ [.arr (some tO) 163 (.ob (dP M n (wy x.1)))]:=by simp[merge,fC,hrp,gL,gG]
   refine⟨[p],_,by simpa[ju,pF]using⟨hp,hpl⟩,by simp[kV],by simp[oz,hrp,jT],EJ (j:=res.length) ?_ rfl hb,by rw[hm];exact h1⟩
   unfold back;rw[sj _ _ (by simpa using hp)]
   simp[idxOf]
def rdM (res:List aK) (a:V):Option (Nat×Nat×Int×List Obj):=
 match a with
 | .lp b off=>match cP res b with
   | .blk t c=>match M6 c with
     |some q=>match cP res q.1 with
      | .store ts e L=>if off==0&&t==sR&&ts==tS&&e==eS then some (b,q.1,q.2,L)else none
      |_=>none
     |none=>none
   |_=>none
 |_=>none
theorem Ln {res:List aK} {a:V} {b s:Nat} {n:Int} {L:List Obj} (h:rdM res a=some (b,s,n,L)):a= .lp b 0/\(cP res b= .blk sR (om s n)\/cP res b= .blk sR (.ag [.lp s 0,.ci .i64 n]))/\cP res s= .store tS eS L:=by
 unfold rdM at h;split at h
 case h_2=>simp at h
 split at h
 case h_2=>simp at h
 rename_i hb;split at h
 case h_2=>simp at h
 rename_i q hq;split at h
 case h_2=>simp at h
 rename_i hs;split at h
 case isFalse=>simp at h
 rename_i hc;simp only[aaV,aaX]at hc;obtain⟨⟨⟨rfl,rfl⟩,rfl⟩,rfl⟩:=hc;simp only[aaT,aaU]at h;obtain⟨rfl,rfl,rfl,rfl⟩:=h;obtain⟨y,rfl,hy⟩:=wo (s:=q.1) (n:=q.2) hq;refine⟨rfl,?_,hs⟩;rw[hb];cases y<;>simp[rI,toInt]at hy
 all_goals(obtain⟨rfl,hn⟩:=hy;subst hn;first|exact .inl rfl|exact .inr rfl)
def ctM (Q:List Obj->Option Prop) (x:Int->Nat->V) (new:List Obj->List aK):Ct:=fun res nid args=>match args with
 | [a]=>match rdM res a with
   |some r=>some (Q r.2.2.2,x r.2.2.1 nid,new r.2.2.2)
   |none=>none
 |_=>none
theorem Lm {P:Program} {f:Nat} {π:List Nat} {Q:List Obj->Option Prop} {x:Int->Nat->V} {new:List Obj->List aK} (hnd:π.Nodup) (hy:∀L,YL (new L)=true)
  (h:∀n L,dY (Q L)->an P f [.lp 0 0] [.ro (.blk sR (om 1 n)),.ro (.store tS eS L)] (fun v r=>xf π (x n) (fun _=>new L) v r) (fun _ _=>False)):cz P f (ctM Q x new):=by
 intro J fps res K w0 F0 w nid args q y new' hH hargs hg hq hfr;unfold ctM at hg;split at hg
 case h_2=>simp at hg
 split at hg<;>simp only[aaT,aaU,reduceCtorEq]at hg
 rename_i r hr;obtain⟨b,s,n,L⟩:=r;obtain⟨rfl,rfl,rfl⟩:=hg;obtain⟨rfl,hb,hs⟩:=Ln hr;refine⟨?_,fun k hk=>uz (hy L) k hk⟩
 have hne:b≠s:=fun e=>by rcases hb with hb|hb<;>rw[e,hs]at hb<;>simp at hb
 have hfr:∀b,b<w0.heap.size->¬F0 b->w.heap[b]? =w0.heap[b]? /\¬(fun _:Nat=>False) b:=fun b hb hF=>⟨hH.same b hb hF,fun h=>h⟩
 have hv:Env.via (fun p=>if p=b then some 0 else if p=s then some 1 else none) J (J.pull fun i=>if i=0 then b else s):=rB fun p i hp=>by
  split at hp<;>(try split at hp)<;>simp only[aaT,reduceCtorEq]at hp<;>subst hp<;>simp[*]
 have hkn:∀i,known [.ro (.blk sR (om 1 n)),.ro (.store tS eS L)] i↔i=0\/i=1:=fun i=>by
  match i with
  |0=>simp[known,az]
  |1=>simp[known,az]
  |i+2=>simp[known,az]
 have hrep:bq (J.pull fun i=>if i=0 then b else s) (fun _ _=>False) [.ro (.blk sR (om 1 n)),.ro (.store tS eS L)] (known [.ro (.blk sR (om 1 n)),.ro (.store tS eS L)]) w (fun _=>False) w:=by
  refine⟨fun i hi=>hi,Nat.le_refl _,rfl,rfl,rfl,fun i hi=>?_,fun i b hi h=>h.elim,fun i j b hi hj hne h=>h.elim,fun i b hi h=>h.elim,fun _ _ _=>rfl⟩
  have gen:∀p j r,cP res p=r->r≠ .yet->(fun p=>if p=b then some 0 else if p=s then some 1 else none) p=some j->∃fp:Nat->Prop,(gL (fun p=>if p=b then some 0 else if p=s then some 1 else none) r).holds (known [.ro (.blk sR (om 1 n)),.ro (.store tS eS L)]) (J.pull fun i=>if i=0 then b else s) j fp w (fun _=>False) w/\∀b,fp b->b<w.heap.size/\¬(fun _=>False) b:=by
   intro p j r hr hy hp;obtain⟨fp,g1,g2⟩:=(pE.look hr hy).2 J fps K w0 F0 w hH;refine⟨fp,iV hv (fun p i hp _=>?_) hp _ _ _ (aK.tC hH.old hfr _ _ g1),fun c hc=>⟨?_,fun h=>h⟩⟩
   ·rw[hkn];split at hp<;>(try split at hp)<;>simp only[aaT,reduceCtorEq]at hp<;>subst hp<;>simp
   ·rcases g2 c hc with⟨j,hj,hf⟩|⟨hl,_⟩
    ·exact hH.lt j c hj hf
    ·exact Nat.lt_of_lt_of_le hl hH.old
  rcases(hkn i).1 hi with rfl|rfl
  ·rcases hb with hb|hb<;>obtain⟨fp,h1,h2⟩:=gen b 0 _ hb (by simp) (by simp)<;>simp only[gL,om,ga,eX,if_true,aa1 (Ne.symm hne)]at h1<;>exact⟨fp,h1,h2⟩
  ·obtain⟨fp,h1,h2⟩:=gen s 1 _ hs (by simp) (by simp[Ne.symm hne])
   exact⟨fp,h1,h2⟩
 have hd:bz J [.lp b 0]=bz (J.pull fun i=>if i=0 then b else s) [.lp 0 0]:=by simp[bz,den,Env.pull]
 rw[hd];refine(h n L hq _ _ _ _ _ hrep ⟨(hkn 0).2 (.inl rfl),trivial⟩).mono fun e w' ⟨v,ρ1,fps1,r,g1,g2,g3,g4⟩=>?_
 rcases g4 with⟨rfl,hN⟩|⟨_,hF⟩
 ·exact⟨_,rfl,uq (new:=fun _=>new L) hnd g1 g3 hN⟩
 ·exact hF.elim
def hJ:Obj:=Obj.mk 1 1 free.calls free.slots free.bytes
def CL:Obj:=Obj.mk 1 1 free.calls (free.slots.put 2 (bL 1)) free.bytes
def ky:Obj:=Obj.mk 1 1 free.calls (CL.slots.put 4 (Key.mk 4 1 1 void.call void.rights void.value)) free.bytes
def oh:Obj:=Obj.mk 1 1 free.calls (((ky.slots.put 5 (Key.mk 8 void.oid void.count void.call void.rights void.value)).put 6 (Key.mk 9 void.oid void.count void.call void.rights void.value)).put 7 (Key.mk 10 void.oid void.count void.call void.rights void.value)) free.bytes
def bX (n:Int) (o:Obj):List Obj:=b6 (k8 n.toNat free) 0 o
def oy (n:Int):List Obj:=bX n xj
def ee (n:Int) (o:Obj):List Obj:=b6 (bX n xj) 1 o
def gW (l:List Obj) (i:Int) (s:Nat) (k:Key):List Obj:=b6 l (Int.toNat i) (Obj.mk (aj l (Int.toNat i) free).kind (aj l (Int.toNat i) free).count (aj l (Int.toNat i) free).calls ((aj l (Int.toNat i) free).slots.put s k) (aj l (Int.toNat i) free).bytes)
def pG (l:List Obj) (i:Int) (x:Int):List Obj:=b6 l (Int.toNat i) (Obj.mk x (aj l (Int.toNat i) free).count (aj l (Int.toNat i) free).calls (aj l (Int.toNat i) free).slots (aj l (Int.toNat i) free).bytes)
def AN (l:List Obj) (i:Int) (x:Int):List Obj:=b6 l (Int.toNat i) (Obj.mk (aj l (Int.toNat i) free).kind x (aj l (Int.toNat i) free).calls (aj l (Int.toNat i) free).slots (aj l (Int.toNat i) free).bytes)
def lV (l:List Obj) (i:Int):Prop:=0<=i/\i< ↑(ai l)
theorem uX (l:List Obj) (i:Int):(∀s k,ai (gW l i s k)=ai l)/\(∀x,ai (pG l i x)=ai l)/\∀x,ai (AN l i x)=ai l:=by
 refine⟨fun s k=>?_,fun x=>?_,fun x=>?_⟩<;>simp[gW,pG,AN,ai,b6]
theorem np (n:Int) (o:Obj):ai (bX n o)=n.toNat:=by unfold bX ai b6 k8;simp
theorem HN (n:Int) (o:Obj):ai (ee n o)=n.toNat:=by rw[<-np n xj];unfold ee ai b6;simp
theorem NN (l:List Obj) (i:Nat) (o p:Obj):b6 (b6 l i o) i p=b6 l i p:=by unfold b6;simp
theorem qx {n:Int} (h:4<=n) (o:Obj):(∀s k,gW (bX n o) 0 s k=bX n ⟨o.kind,o.count,o.calls,o.slots.put s k,o.bytes⟩)/\(∀x,pG (bX n o) 0 x=bX n ⟨x,o.count,o.calls,o.slots,o.bytes⟩)/\∀x,AN (bX n o) 0 x=bX n ⟨o.kind,x,o.calls,o.slots,o.bytes⟩:=by
 have hg:aj (bX n o) (Int.toNat 0) free=o:=(mL _ _ _ _).2 (by unfold k8;simp;omega)
 refine⟨fun s k=>?_,fun x=>?_,fun x=>?_⟩<;>simp only[gW,pG,AN,hg]<;>exact NN _ _ _ _
theorem Dl {n:Int} (h:4<=n) (o:Obj):(∀s k,gW (ee n o) 1 s k=ee n ⟨o.kind,o.count,o.calls,o.slots.put s k,o.bytes⟩)/\(∀x,pG (ee n o) 1 x=ee n ⟨x,o.count,o.calls,o.slots,o.bytes⟩)/\∀x,AN (ee n o) 1 x=ee n ⟨o.kind,x,o.calls,o.slots,o.bytes⟩:=by
 have hl:ai (bX n xj)=n.toNat:=np _ _;have hg:aj (ee n o) (Int.toNat 1) free=o:=(mL _ _ _ _).2 (by unfold ai at hl;show 1<_;omega)
 refine⟨fun s k=>?_,fun x=>?_,fun x=>?_⟩<;>simp only[gW,pG,AN,hg]<;>exact NN _ _ _ _
def wJ (n:Int):List Obj:=gW (bX n ky) 0 5 (Key.mk 8 void.oid void.count void.call void.rights void.value)
def qO (n:Int):List Obj:=gW (wJ n) 0 6 (Key.mk 9 void.oid void.count void.call void.rights void.value)
def qN (n:Int):List Obj:=gW (ee n hJ) 1 0 (bL 2)
def oX (n:Int) (l m:List Obj):Prop:=∃g:Unit,gr jk/\n=n/\Value.slice none 0 0=Value.slice none 0 0/\l=m
theorem zw {n:Int} {l m:List Obj} (h:l=m):oX n l m:=⟨(),trivial,rfl,rfl,h⟩
theorem NU:∀k:Fin 65,4<=k.val->bM xj (k.val:Int)=true/\bM (Lb ((k.val:Int)-1)) (k.val:Int)=true:=by decide+kernel
theorem TC {n:Int} (h4:4<=n) (h64:n<=64):ee n (Lb (n-1))=dc n:=by
 have hn:((n.toNat:Nat):Int)=n:=by omega
 obtain⟨k1,k2⟩:=NU ⟨n.toNat,by omega⟩ (by simp only;omega)
 simp only[hn]at k1 k2;have hl0:ai (kh n)=n.toNat:=by unfold kh ai;simp
 have put:∀(L:List Obj) (i:Int) (o:Obj),ai L=n.toNat->(i=0\/i=1)->bM o n=true->cK L i o=b6 L i.toNat o:=fun L i o hL hi ho=>by
  unfold cK dA ej;rw[hL,hn,ho];have:L.length=n.toNat:=hL;grind
 unfold dc ee bX;rw[put (kh n) 0 xj hl0 (.inl rfl) k1,put _ 1 _ (by unfold ai b6 at *;simpa using hl0) (.inr rfl) k2]
 rfl
theorem T8 {n:Int} (h:4<=n):aj (oy n) (Int.toNat 1) free=free:=by
 unfold oy bX;rw[(mL _ _ _ _).1 _ (by decide)]
 unfold aj k8;rw[aa0,List.getElem?_replicate];split<;>rfl
theorem Zy {n:Int} (h:4<=n):pG (oy n) 1 1=ee n ⟨1,free.count,free.calls,free.slots,free.bytes⟩:=by
 simp only[pG,T8 h];rfl
theorem V2 {n:Int} (h:4<=n):pG (k8 n.toNat free) 0 1=bX n ⟨1,free.count,free.calls,free.slots,free.bytes⟩:=by
 have hg:aj (k8 n.toNat free) (Int.toNat 0) free=free:=by
  unfold aj k8;rw[aa0,List.getElem?_replicate];split<;>rfl
 simp only[pG,hg];rfl
theorem qH {n:Int} (h:4<=n) {l:List Obj} (hl:ai l=n.toNat):(lV l 0/\lV l 1)/\Int.toNat 0<ai l/\Int.toNat 1<ai l:=by
 have e0:Int.toNat 0=0:=rfl;have e1:Int.toNat 1=1:=rfl;unfold lV;rw[hl,e0,e1];omega
def II (n:Int):Prop:=4<=n/\n<=64
def QY:Ct:=Rx (ba iA gJ) (fun x=>some (II x.1)) (fun _ nid=> .ag [.sa nid,.ci .i64 0]) (fun x _=> [.arr (some tO) 163 (.ob (dc x.1))])
def XF:Ct:=s7 (ba iA gJ) (fun _=>none) fun x=> .key (bL x.1)
def aax:Ct:=ctM (fun _=>none) (fun n _=> .it .i64 n) fun _=> []
def ZT:Ct:=ctM (fun L=>some (ai L<=1000/\bu L=false)) (fun _ nid=> .lp nid 0) fun L=> [.store tS eS L]
abbrev tG:Nat:=31
def aat (c:Nat) (U:St):Option (List Nat):=
 match az U.res c with
 | .blk _ v=>match asV v with
   |some p=>some [p.1]
   |none=>none
 |_=>none
def aaS (j4:List Nat) (i c k:Nat) (inv:Int×Int×List Obj->Prop) (μ:Int×Int×List Obj->Nat):dD:=
 {γ:=Int×Int×List Obj,head:=fun U g=> {U with slots:=I5 j4 [(i,.it .i64 g.1)] 0 U.slots,res:=IG [(0,.blk sR (om 1 g.2.1)),(1,.store tS eS g.2.2),(c,.blk tG (.ag [.sa k,.it .i64 g.2.1]))] U.res++ [.arr none 163 (.ob g.2.2)]},
  inv:=inv,μ:=μ,pre:= [.ab c],ext:=aat c}
def oF (m:Nat) (g:Int×Int×List Obj):Prop:=0<=g.1/\g.1<=(m:Int)/\gN g.2.1/\aq g.2.2
def oY (m:Nat) (g:Int×Int×List Obj):Nat:=m-g.1.toNat
def CG (x:List jb) (g:Int×Int×List Obj):List Obj:=dP g.snd.snd g.snd.fst (aj x g.fst.toNat jk)
def Kz (x:List jb) (g:Int×Int×List Obj):Int:=jn g.snd.fst (aj x g.fst.toNat jk)
def mpD (x:List jb) (g:Int×Int×List Obj):Dn:=aT g.snd.snd g.snd.fst (aj x g.fst.toNat jk)
def Vh (x:List jb) (g:Int×Int×List Obj):Int:=oJ g.snd.fst (aj x g.fst.toNat jk)
def Vg (x:List jb) (g:Int×Int×List Obj):Bool:=eu (aj x g.fst.toNat jk) g.snd.fst
def dnS (d:Dn):Bool:=(decide (d.out=d.out)&&(decide (d.proc=d.proc)&&(decide (d.err=d.err)&&(decide (d.ans.code=d.ans.code)&&(AD d.ans.data d.ans.data&&(Bw d.ans.k0 d.ans.k0&&(Bw d.ans.k1 d.ans.k1&&(Bw d.ans.k2 d.ans.k2&&true))&&true))&&(d.wants==d.wants&&true)))))
def dnZ (d:Dn):Bool:=(decide (d.out=0)&&(decide (d.proc=0)&&(decide (d.err=0)&&(decide (d.ans.code=0)&&(AD d.ans.data (ByteArray.mk (Array.mk []))&&(Bw d.ans.k0 void&&(Bw d.ans.k1 void&&(Bw d.ans.k2 void&&true))&&true))&&(d.wants==false&&true)))))
def Vd (x:List jb) (g:Int×Int×List Obj):Bool:=(!decide (Vh x g=0)|| !dnS (mpD x g)|| !decide (Kz x g=Kz x g))
theorem aau (d:Dn):dnS d=true:=by simp[dnS,kH,jy]
theorem aae:dnZ dn0=true:=by simp[dnZ,dn0,cY,kH,jy]
theorem rnX {x:List jb} {L:List Obj} {n:Int} (hq:Es (lX x) L n):wE x/\ai x<=40:=by
 obtain⟨_,_,x',hx',hxs,hxl⟩:=hq;have e1:ai x=ai x':=congrArg TL.len hx';refine⟨fun i hi=>?_,by omega⟩
 have e2:(lX x).get i=(lX x').get i:=by rw[hx']
 have e3:Ky (aj x i jk)=Ky (aj x' i jk):=e2
 have e4:(aj x i jk).data=(aj x' i jk).data:=by
  simp only[Ky,V.ag.injEq,List.cons.injEq,V.st.injEq]at e3;exact e3.2.2.2.2.2.1
 rw[e4];exact hxs i (by omega)
theorem Zq {x:List jb} {g:Int×Int×List Obj} (h:Vg x g=false):Kz x g=g.snd.fst/\CG x g=g.snd.snd/\mpD x g=dn0/\Vh x g=2:=by
 unfold Vg at h;refine⟨?_,?_,?_,?_⟩
 ·unfold Kz jn;rw[aa1 (by simp[h])]
 ·unfold CG dP;rw[aa1 (by simp[h])]
 ·unfold mpD aT;rw[aa1 (by simp[h])]
 ·unfold Vh oJ;rw[aa1 (by simp[h])]
theorem Yy {x:List jb} {g:Int×Int×List Obj} (h:Vg x g=true):Vh x g=0/\Vd x g=false:=by
 have e:Vh x g=0:=by unfold Vg at h;unfold Vh oJ;rw[aa2 h]
 refine⟨e,?_⟩;unfold Vd;rw[e,aau];simp
theorem QU {m:Nat} {g:Int×Int×List Obj} (hg:oF m g) (hlt:g.fst<(m:Int)) (n:Int) (M:List Obj) (hn:gN n) (hM:aq M):oF m (g.fst+1,n,M)/\oY m (g.fst+1,n,M)<oY m g:=by
 obtain⟨g0,g1,_,_⟩:=hg;exact⟨⟨by simp only;omega,by simp only;omega,hn,hM⟩,by unfold oY;simp only;omega⟩
theorem HT {L:List Obj} (hL:aq L):ai L<=1000/\bu L=false:=by
 have h:=gY hL;refine⟨by unfold ai;omega,?_⟩
 cases hc:bu L with
 |false=>rfl
 |true=>rw[wI]at hc;subst hc;simp at h
def kPl (v:V) (r:List aK):Prop:=
 match az r 1 with
 | .store t e L=>if t==tS&&e==eS then match az r 0 with
   | .blk t c=>match mcX c with
     |some n=>if t==sR then oW (.bo true) v r else False
     |none=>False
   |_=>False
   else False
 |_=>False
theorem TQ {v:V} {r:List aK} (h:kPl v r):∃n M,ya (.bo true) v r/\az r 0= .blk sR (om 1 n)/\az r 1= .store tS eS M:=by
 unfold kPl at h;split at h
 case h_2=>exact h.elim
 rename_i hr;split at h
 case isFalse=>exact h.elim
 rename_i hc;simp only[aaV,aaX]at hc;obtain⟨rfl,rfl⟩:=hc;split at h
 case h_2=>exact h.elim
 rename_i h0;split at h
 case h_2=>exact h.elim
 rename_i n hn;split at h
 case isFalse=>exact h.elim
 rename_i ht;have ht:=aaX.1 ht;subst ht;exact⟨n,_,dK h,by rw[h0,EO hn],hr⟩
def plX (y:V):Option (Nat×Int):=
 match y with
 | .ag m=>match m with
   | [x,z]=>match x with
     | .sa j=>match rI .i64 z with
       |some n=>some (j,n)
       |none=>none
     |_=>none
   |_=>none
 |_=>none
theorem Ns {y:V} {j:Nat} {n:Int} (h:plX y=some (j,n)):∃z,y= .ag [.sa j,z]/\rI .i64 z=some n:=by
 unfold plX at h;split at h
 case h_2=>simp at h
 split at h
 case h_2=>simp at h
 split at h
 case h_2=>simp at h
 split at h
 case h_2=>simp at h
 rename_i hn;simp only[aaT,aaU]at h;obtain⟨rfl,rfl⟩:=h;exact⟨_,rfl,hn⟩
def Cj:kq:=fun args res K=>
 match args with
 | [a,y,c]=>match a with
   | .lp b off=>if off==0 then match c with
     | .sa k=>match plX y with
       |some (j,m)=>match az res b with
        | .blk t y=>match M6 y with
          |some (s,n)=>match az res s with
           | .store ts e L=>match cP res k with
             | .arr _ esz l=>match cP res j with
               | .arr _ ez g=>match g with
                 | .ob M=>if t==sR&&ts==tS&&e==eS&&esz==11&&ez==163 then(Es l L n/\L=M/\n=m)/\
                   ∀n' M',K (.bo true) (bP (bP res b (.blk sR (om s n'))) s (.store tS eS M'))else False
                 |_=>False
               |_=>False
             |_=>False
           |_=>False
          |none=>False
        |_=>False
       |none=>False
     |_=>False
     else False
   |_=>False
 |_=>False
theorem an.Xn {P:Program} {f:Nat} {args:List V} {K KP:V->List aK->Prop} {own own':Option Nat} {e e':Nat} {l l':TL} {a b:aK} (h:an P f args [a,b,.ro (.arr none e l),.ro (.arr none e' l')] K KP):an P f args [a,b,.ro (.arr own e l),.ro (.arr own' e' l')] K KP:=by
 have hK:known [a,b,.ro (.arr own e l),.ro (.arr own' e' l')]=known [a,b,.ro (.arr none e l),.ro (.arr none e' l')]:=by
  funext i
  match i with
  |0=>rfl
  |1=>rfl
  |2=>simp[known,az]
  |3=>simp[known,az]
  |n+4=>rfl
 refine h.uU fun J fps w0 F0 w hH=>⟨J,fps,hH.weaken fun i hi=>⟨by rw[hK];exact hi,fun fp hh=>?_⟩,Env.bD.refl _ _,fun i hi=>by rw[<-hK];exact hi⟩
 rw[hK]at hh;match i with
 |0=>exact hh
 |1=>exact hh
 |2=>
  obtain⟨fp',g1,g2⟩:=hh;exact⟨fp',zs g1,g2⟩
 |3=>
  obtain⟨fp',g1,g2⟩:=hh;exact⟨fp',zs g1,g2⟩
 |n+4=>exact hh
theorem WE {P:Program} {f:Nat} (h:∀(x:List jb) (L:List Obj) (n:Int),Es (lX x) L n->an P f [.lp 0 0,.ag [.sa 2,.it .i64 n],.sa 3] [.blk sR (om 1 n),.store tS eS L,.ro (.arr none 163 (.ob L)),.ro (.arr none 11 (lX x))]
  kPl (fun _ _=>False)):lh P f Cj:=by
 intro args res K KP hh;unfold Cj at hh;split at hh
 case h_2=>exact hh.elim
 split at hh
 case h_2=>exact hh.elim
 rename_i b off;split at hh
 case isFalse=>exact hh.elim
 rename_i ho;have ho:=aaX.1 ho;subst ho;split at hh
 case h_2=>exact hh.elim
 rename_i k;split at hh
 case h_2=>exact hh.elim
 rename_i j m hy;split at hh
 case h_2=>exact hh.elim
 rename_i t c hb;split at hh
 case h_2=>exact hh.elim
 rename_i s n hc;split at hh
 case h_2=>exact hh.elim
 rename_i ts e L hs;split at hh
 case h_2=>exact hh.elim
 rename_i own esz l hk;split at hh
 case h_2=>exact hh.elim
 rename_i own' ez g hj;split at hh
 case h_2=>exact hh.elim
 rename_i M;split at hh
 case isFalse=>exact hh.elim
 rename_i ht;simp only[aaV,aaX]at ht;obtain⟨⟨⟨⟨rfl,rfl⟩,rfl⟩,rfl⟩,rfl⟩:=ht;obtain⟨⟨hq,rfl,rfl⟩,hK⟩:=hh;obtain⟨x,rfl,_⟩:=id hq.2.2;obtain⟨y,rfl,hy'⟩:=wo hc;obtain⟨z,rfl,hz⟩:=Ns hy;have hkb:known res b:=by unfold known;rw[hb];simp
 have hlb:=aO hkb;have hne:b≠s:=fun e=>by rw[e,hs]at hb;simp at hb
 have hnk:b≠k:=fun e=>by unfold cP at hk;rw[<-e,hb]at hk;simp at hk
 have hsk:s≠k:=fun e=>by unfold cP at hk;rw[<-e,hs]at hk;simp at hk
 have hnj:b≠j:=fun e=>by unfold cP at hj;rw[<-e,hb]at hj;simp at hj
 have hsj:s≠j:=fun e=>by unfold cP at hj;rw[<-e,hs]at hj;simp at hj
 have hjk:j≠k:=fun e=>by rw[e,hk]at hj;simp at hj
 refine an.mcN hb hy' ?_;refine an.args (args':= [.lp b 0,.ag [.sa j,.it .i64 n],.sa k]) (ff.j4 fun J K hk=>?_) ?_
 ·obtain⟨r1,r2⟩:=gq .i64 z n hz;obtain⟨⟨⟨k1,k2,_⟩,_⟩,k3⟩:=hk;refine⟨?_,⟨⟨⟨k1,fT (r2 K k2),trivial⟩,trivial,trivial,trivial⟩,k3⟩⟩;have e1:=r1 J;simp only[bz,den,bn]at e1⊢;rw[e1]
 have hl1:(bP res b (.blk sR (om s n))).length=res.length:=cG _ _ _;have hb1:az (bP res b (.blk sR (om s n))) b= .blk sR (om s n):=by rw[bI _ _ _ _ hlb,aa2 rfl]
 have hs1:az (bP res b (.blk sR (om s n))) s= .store tS eS L:=by rw[bI _ _ _ _ hlb,aa1 (Ne.symm hne)];exact hs
 have hk1:cP (bP res b (.blk sR (om s n))) k= .arr own 11 (lX x):=by unfold cP at hk⊢;rw[bI _ _ _ _ hlb,aa1 (Ne.symm hnk)];exact hk
 have hj1:cP (bP res b (.blk sR (om s n))) j= .arr own' 163 (.ob L):=by unfold cP at hj⊢;rw[bI _ _ _ _ hlb,aa1 (Ne.symm hnj)];exact hj
 have hrr:∀n',bP res b (.blk sR (om s n'))=bP (bP res b (.blk sR (om s n))) b (.blk sR (om s n')):=fun n'=>by rw[kP,kP,kP,List.set_set]
 have hK:∀n' M',K (.bo true) (bP (bP (bP res b (.blk sR (om s n))) b (.blk sR (om s n'))) s (.store tS eS M')):=fun n' M'=>by rw[<-hrr];exact hK n' M'
 generalize bP res b (.blk sR (om s n))=res at *
 have kb:known res b:=by unfold known;rw[hb1];simp
 have ks:known res s:=by unfold known;rw[hs1];simp
 have kk':=eU hk1 (by simp)
 have kj':=eU hj1 (by simp)
 have lb:=aO kb;have ls:=aO ks;have lk:=aO kk';have lj:=aO kj'
 have hres:fD (lS 0 (dV [(b,true),(s,true),(j,false),(k,false)])) res [(b,true),(s,true),(j,false),(k,false)]= [.blk sR (om 1 n),.store tS eS L,.ro (.arr own' 163 (.ob L)),.ro (.arr own 11 (lX x))]:=by
  simp[fD,hb1,hs1,hk1,hj1,gL,om,ga,eX,lS,idxOf,dV,hne,Ne.symm hne,hnk,Ne.symm hnk,hsk,Ne.symm hsk,hnj,Ne.symm hnj,hsj,Ne.symm hsj,hjk,Ne.symm hjk]
 refine an.frame (pl:= [(b,true),(s,true),(j,false),(k,false)]) (args0:= [.lp 0 0,.ag [.sa 2,.it .i64 n],.sa 3]) (K0:=kPl) (KP0:=fun _ _=>False)
  (by simp[fm,cQ.2 kb,cQ.2 ks,cQ.2 kk',cQ.2 kj']) (by simp[ju,dV,pF,lb,ls,lk,lj,hne,Ne.symm hne,hnk,Ne.symm hnk,hsk,Ne.symm hsk,hnj,Ne.symm hnj,hsj,Ne.symm hsj,hjk,Ne.symm hjk]) ?_ ?_ (fun v r hv=>?_) (fun _ _ h=>h.elim)
 ·simp[eX,ga,lS,idxOf,dV,hnk,Ne.symm hnk,hsk,Ne.symm hsk,hnj,Ne.symm hnj,hsj,Ne.symm hsj,hjk,Ne.symm hjk]
 ·rw[hres];exact an.Xn (h x L n hq)
 ·obtain⟨n',M',h1,h2,h3⟩:=TQ hv
  have hm:merge [(b,true),(s,true),(j,false),(k,false)] [] r res=bP (bP res b (.blk sR (om s n'))) s (.store tS eS M'):=by
   simp[merge,fC,h2,h3,gL,gG,om,ga,eX,back,v7]
  exact⟨[],.bo true,rfl,by simp[kV,h2,h3,jT],rfl,lu.kE h1 rfl,by rw[hm];exact hK n' M'⟩
end Go.Sx
namespace Go.Proofs.YtlblcfaclmpekaaGreat
open Go.Sx
theorem Jv (p:jb) (n:Int) (hs:aw p.data) (hn:gN n):
 aba (decide (p.kind=2)) (((decide (0<=p.val)&&decide (p.val<=1099511627776))=true->abd (n+p.val))/\(decide (0<=p.val)&&decide (p.val<=1099511627776)&&decide (n+p.val<=4611686018427387904))=eu p n) (((decide (p.kind=1)&&decide (1<=p.mode)&&decide (p.mode<=3))=true->abd (bO p.data))/\(decide (p.kind=1)&&decide (1<=p.mode)&&decide (p.mode<=3)&&decide (bO p.data<=32)&&decide (0<=p.reg)&&decide (p.reg<=11)&&decide (-1<=p.s0)&&decide (p.s0<=11)&&decide (-1<=p.s1)&&decide (p.s1<=11)&&decide (-1<=p.s2)&&decide (p.s2<=11))=eu p n):=by
 delta aba abd
 unfold eu;refine⟨fun hk=>⟨fun hv=>?_,?_⟩,fun hk=>⟨fun _=>?_,?_⟩⟩
 ·simp only[aaV,aaW]at hv;unfold gN at hn;simp only[aF,cc];omega
 ·rw[aa2 (aaZ hk)];congr 1;exact decide_eq_decide.2 (by omega)
 ·unfold aw at hs;simp only[aF,cc,bO];omega
 ·rw[aa1 (aaY hk)];unfold gU tL;rw[Bool.eq_iff_iff];simp only[aaV,Bool.or_eq_true,aaW];omega
theorem JI:cz Tryz.prog 34 Fj:=
 eQ (aA Ga (aA dE bV)) (fun _=>rfl) fun a hq hok=>by
  obtain⟨x,n,_⟩:=a;exact bc (inl:=bx) (ann:=(iJ [(34,5,Ml 4)])) ar (Jv (wy x) n hq.1 hq.2) (by kernel_rfl)
theorem Lq (L:List Sx.Obj) (n:Int) (p:jb) (hq:Xy L n p) (hr:eu p n=true):
 aba (decide (p.kind=2)) (abd (n+p.val)/\QP L n p (n+p.val) (5) (0) (0) cY (false)/\dP L n p=L) (abb (iu L/\(true=false->False)/\(true=true->aba (decide (bQ (ai (b7 L))=0)) (QP L n p (n) (1) (0) (0) cY (false)/\dP L n p=L) ((nX (bQ (ai (b7 L)))/\abd (p.proc.tmod (bQ (ai (b7 L)))))/\(aba (decide (p.proc.tmod (bQ (ai (b7 L)))<0)) (abd (p.proc.tmod (bQ (ai (b7 L)))+bQ (ai (b7 L)))/\∃g,qj L p g/\p.proc.tmod (bQ (ai (b7 L)))+bQ (ai (b7 L))=g/\Ie L n p) (∃g,qj L p g/\p.proc.tmod (bQ (ai (b7 L)))=g/\Ie L n p))/\∀(g:Int),qj L p g->((0<=g/\g< ↑(ai (b7 L)))/\g.toNat<ai (b7 L)/\∃g_1:Unit,gr p/\aj (b7 L) g.toNat 0=aX L p/\Ie L n p)/\∀(g:Unit),gr p->(aba (decide (0<=p.s0)) (Ve L p p.s0 ((decide (0<=p.s1)=true->Ve L p p.s1 ((decide (0<=p.s2)=true->Ve L p p.s2 (∃g:Unit,gr p/\aX L p=aX L p/\xJ L n p (p.code=(mz L p).code/\p.data=(mz L p).data/\JD L p p.s0=(mz L p).k0/\JD L p p.s1=(mz L p).k1/\JD L p p.s2=(mz L p).k2)))/\(decide (0<=p.s2)=false->∃g:Unit,gr p/\aX L p=aX L p/\xJ L n p (p.code=(mz L p).code/\p.data=(mz L p).data/\JD L p p.s0=(mz L p).k0/\JD L p p.s1=(mz L p).k1/\void=(mz L p).k2))))/\(decide (0<=p.s1)=false->(decide (0<=p.s2)=true->Ve L p p.s2 (∃g:Unit,gr p/\aX L p=aX L p/\xJ L n p (p.code=(mz L p).code/\p.data=(mz L p).data/\JD L p p.s0=(mz L p).k0/\void=(mz L p).k1/\JD L p p.s2=(mz L p).k2)))/\(decide (0<=p.s2)=false->∃g:Unit,gr p/\aX L p=aX L p/\xJ L n p (p.code=(mz L p).code/\p.data=(mz L p).data/\JD L p p.s0=(mz L p).k0/\void=(mz L p).k1/\void=(mz L p).k2))))) (aba (decide (0<=p.s1)) (Ve L p p.s1 ((decide (0<=p.s2)=true->Ve L p p.s2 (∃g:Unit,gr p/\aX L p=aX L p/\xJ L n p (p.code=(mz L p).code/\p.data=(mz L p).data/\void=(mz L p).k0/\JD L p p.s1=(mz L p).k1/\JD L p p.s2=(mz L p).k2)))/\(decide (0<=p.s2)=false->∃g:Unit,gr p/\aX L p=aX L p/\xJ L n p (p.code=(mz L p).code/\p.data=(mz L p).data/\void=(mz L p).k0/\JD L p p.s1=(mz L p).k1/\void=(mz L p).k2)))) (aba (decide (0<=p.s2)) (Ve L p p.s2 (∃g:Unit,gr p/\aX L p=aX L p/\xJ L n p (p.code=(mz L p).code/\p.data=(mz L p).data/\void=(mz L p).k0/\void=(mz L p).k1/\JD L p p.s2=(mz L p).k2))) (∃g:Unit,gr p/\aX L p=aX L p/\xJ L n p (p.code=(mz L p).code/\p.data=(mz L p).data/\void=(mz L p).k0/\void=(mz L p).k1/\void=(mz L p).k2)))))/\∀(g:Unit),gr p->(aba p.num (abb (∃g:Unit,gr p/\aX L p=aX L p/\xJ L n p ((mz L p).code=(bK L p).code/\(mz L p).data=(bK L p).data/\(mz L p).k0=(bK L p).k0/\(mz L p).k1=(bK L p).k1/\abg p.val=(bK L p).k2))) (∃g:Unit,gr p/\aX L p=aX L p/\xJ L n p ((mz L p).code=(bK L p).code/\(mz L p).data=(bK L p).data/\(mz L p).k0=(bK L p).k0/\(mz L p).k1=(bK L p).k1/\(mz L p).k2=(bK L p).k2)))/\∀(g:Unit),gr p->abd (4+p.reg)/\(0<=aX L p/\aX L p< ↑(ai L))/\(0<=4+p.reg/\4+p.reg< ↑16)/\(aX L p).toNat<ai L/\aba (decide ((ye L p).kind=6)||decide ((ye L p).kind=7)) (abb ((aq L/\aw (bK L p).data)/\(lR L (aX L p) (ye L p) p.mode (bK L p)=false->aba (!decide (b9 L (aX L p) (ye L p) p.mode (bK L p)=0)) (QP L n p (n) (3) (aX L p) (b9 L (aX L p) (ye L p) p.mode (bK L p)) cY (false)/\dP L n p=L) (QP L n p (n) (2) (aX L p) (0) cY (false)/\dP L n p=L))/\(lR L (aX L p) (ye L p) p.mode (bK L p)=true->aba (!decide (b9 L (aX L p) (ye L p) p.mode (bK L p)=0)) (QP L n p (n) (3) (aX L p) (b9 L (aX L p) (ye L p) p.mode (bK L p)) cY (false)/\fe L (aX L p) (ye L p) p.mode (bK L p)=dP L n p) (QP L n p (n) (2) (aX L p) (0) cY (false)/\fe L (aX L p) (ye L p) p.mode (bK L p)=dP L n p)))) (abb ((aq L/\aw (bK L p).data)/\(fz L n (ye L p) (bK L p)=false->Hj L n p L (dP L n p=L) (QP L n p (n) (4) (aX L p) (0) (stM L n p) (cW L n (ye L p) (bK L p))))/\(fz L n (ye L p) (bK L p)=true->Hj L n p (Yh L n p) (Yh L n p=dP L n p) (QP L n p (n) (4) (aX L p) (0) (stM L n p) (cW L n (ye L p) (bK L p)))))))))):=by
 delta aba abg abd abb
 obtain⟨hL,hs,hn⟩:=hq;have hnn:bQ (ai (b7 L))=(ai (b7 L):Int):=rfl;refine⟨fun h2=>?_,fun h2=>⟨rfl,Bc hL,fun h=>by simp at h,fun _=>⟨fun h0=>?_,fun h0=>?_⟩⟩⟩
 ·have h2:=aaZ h2
  have ht:aF IntKind.i64 (n+p.val):=by
   unfold eu at hr;rw[aa2 h2]at hr;simp only[aaV,aaW]at hr;unfold gN at hn;simp only[aF,cc];omega
  exact⟨ht,w7 (by unfold jn;rw[aa2 ⟨hr,h2⟩]) (by unfold aT;rw[aa2 hr,aa2 h2]),by unfold dP;rw[aa1 (fun h=>h.2.1 h2)]⟩
 all_goals
  have h2:=aaY h2
  have hk:p.kind=1:=by
   unfold eu at hr;rw[aa1 h2]at hr;simp only[aaV,aaW]at hr;omega
  have eN:jn n p=n:=by unfold jn;rw[aa1 (fun h=>h2 h.2)]
 ·have h0:ai (b7 L)=0:=by have:=aaZ h0;rw[hnn]at this;omega
  exact⟨w7 eN (by unfold aT;rw[aa2 hr,aa1 h2,aa2 h0]),by unfold dP;rw[aa1 (fun h=>h.2.2 h0)]⟩
 have h0:¬ai (b7 L)=0:=by have:=aaY h0;rw[hnn]at this;omega
 obtain⟨hm,⟨r0,r1⟩,s0,s1,s2⟩:=Bd hr hk;obtain⟨f1,f2,f3,_⟩:=we (p:=p) hL h0;obtain⟨i0,i1⟩:=WY (p:=p) hL h0;obtain⟨a0,a1⟩:=XN (p:=p) hL h0;have eK:cR L p=ye L p:=by unfold cR ye;rw[fG i0 i1]
 have eM:aG L n (cR L p) (bK L p)=stM L n p:=by rw[eK];rfl
 have eA:iH L n p=Yh L n p:=by unfold iH;rw[eK];rfl
 have eC:rr L p=(decide ((ye L p).kind=6)||decide ((ye L p).kind=7)):=by unfold rr;rw[eK]
 have eL:dP L n p=if rr L p=true then fe L (aX L p) (cR L p) p.mode (bK L p)else w8 L n p:=by unfold dP;rw[aa2 ⟨hr,h2,h0⟩]
 have eD:aT L n p=if rr L p=true then(if b9 L (aX L p) (cR L p) p.mode (bK L p)=0 then⟨2,aX L p,0,cY,false⟩else⟨3,aX L p,b9 L (aX L p) (cR L p) p.mode (bK L p),cY,false⟩)
   else⟨4,aX L p,0,aG L n (cR L p) (bK L p),cW L n (cR L p) (bK L p)⟩:=by unfold aT;rw[aa2 hr,aa1 h2,aa1 h0]
 rw[eC]at eL eD;rw[eM]at eD;rw[eK]at eD eL;rw[hnn];obtain⟨u0,v0⟩:=Ch i0 i1 s0;obtain⟨u1,v1⟩:=Ch i0 i1 s1;obtain⟨u2,v2⟩:=Ch i0 i1 s2
 have leaf:∀k0 k1 k2,k0=oD (aL L (aX L p)) p.s0->k1=oD (aL L (aX L p)) p.s1->k2=oD (aL L (aX L p)) p.s2->∃g:Unit,gr p/\aX L p=aX L p/\xJ L n p (p.code=(mz L p).code/\p.data=(mz L p).data/\k0=(mz L p).k0/\k1=(mz L p).k1/\k2=(mz L p).k2):=
  fun _ _ _ e0 e1 e2=>⟨(),trivial,rfl,FQ ⟨rfl,rfl,e0,e1,e2⟩⟩
 have hw:∀e,aF IntKind.i64 e↔(-9223372036854775808<=e/\e<=9223372036854775807):=fun e=>Iff.rfl
 refine⟨⟨f2,by rw[hw];omega⟩,⟨fun h=>⟨by rw[hw];omega,_,a0 (aaZ h),rfl,CM⟩,fun h=>⟨_,a1 (aaY h),rfl,CM⟩⟩,fun g hg=>⟨⟨⟨hg.1,hg.2.1⟩,by have:=hg.2.1;have:=hg.1;omega,(),trivial,hg.2.2,CM⟩,fun _ _=>⟨?_,fun _ _=>⟨⟨fun hN=>⟨rfl,(),trivial,rfl,FQ ⟨rfl,rfl,rfl,rfl,?_⟩⟩,fun hN=>⟨(),trivial,rfl,FQ ⟨rfl,rfl,rfl,rfl,?_⟩⟩⟩,fun _ _=>⟨by rw[hw];omega,⟨i0,i1⟩,by omega,by omega,fun hC=>⟨rfl,⟨hL,hs⟩,?_,?_⟩,fun hC=>⟨rfl,⟨hL,hs⟩,?_,?_⟩⟩⟩⟩⟩⟩
 ·exact⟨fun h0=>(u0 h0).1 _ ⟨fun h1=>(u1 h1).1 _ ⟨fun h2=>(u2 h2).1 _ (leaf _ _ _ (u0 h0).2 (u1 h1).2 (u2 h2).2),fun h2=>leaf _ _ _ (u0 h0).2 (u1 h1).2 (v2 h2)⟩,fun h1=>⟨fun h2=>(u2 h2).1 _ (leaf _ _ _ (u0 h0).2 (v1 h1) (u2 h2).2),fun h2=>leaf _ _ _ (u0 h0).2 (v1 h1) (v2 h2)⟩⟩,
   fun h0=>⟨fun h1=>(u1 h1).1 _ ⟨fun h2=>(u2 h2).1 _ (leaf _ _ _ (v0 h0) (u1 h1).2 (u2 h2).2),fun h2=>leaf _ _ _ (v0 h0) (u1 h1).2 (v2 h2)⟩,fun h1=>⟨fun h2=>(u2 h2).1 _ (leaf _ _ _ (v0 h0) (v1 h1) (u2 h2).2),fun h2=>leaf _ _ _ (v0 h0) (v1 h1) (v2 h2)⟩⟩⟩
 ·show _=if p.num=true then bL p.val else _
  rw[aa2 hN];rfl
 ·show _=if p.num=true then bL p.val else _
  rw[aa1 (by simp[hN])];rfl
 ·rw[aa2 hC]at eL eD;refine fun hc=>⟨fun he=>⟨w7 eN ?_,eL.trans (MY hc)⟩,fun he=>⟨w7 eN ?_,eL.trans (MY hc)⟩⟩
  ·rw[eD,aa1 (by simpa using he)]
  ·rw[eD,aa2 (by simpa using he)]
 ·rw[aa2 hC]at eL eD;refine fun hc=>⟨fun he=>⟨w7 eN ?_,eL.symm⟩,fun he=>⟨w7 eN ?_,eL.symm⟩⟩
  ·rw[eD,aa1 (by simpa using he)]
  ·rw[eD,aa2 (by simpa using he)]
 ·rw[aa1 (by rw[hC];simp)]at eL eD
  exact fun hc=>IB (eA.trans (WN hc)) id eL eM hL (w7 eN eD)
 ·rw[aa1 (by rw[hC];simp)]at eL eD
  exact fun hc=>IB eA Eq.symm eL eM (Gu hL) (w7 eN eD)
theorem Qc:lh Tryz.prog 35 Cu:=W9 fun L n p hq hr=>bm (inl:=(fun f=>f==31)) (ann:=(iJ [(35,13,Ml 4),(35,2000010,En [2,3,4,5,6] (fun(g:Int)=> [(7,.it .i64 g)]) (fun _=> []) (fun _=> []) (qj L p)),(35,2000011,En [2,3,4,5] (fun(_:Unit)=> [(8,.it .i64 (aX L p))]) (fun _=> []) (fun _=> []) (fun _=>gr p)),(35,2000017,En [2,3,4,5,8,9] (fun(_:Unit)=> []) (fun _=> [(9,.blk 47 (jJ (Vj (aL L (aX L p)) p)))]) (fun _=> []) (fun _=>gr p)),(35,2000019,En [2,3,4,5,8,9] (fun(_:Unit)=> []) (fun _=> [(9,.blk 47 (jJ (bK L p)))]) (fun _=> []) (fun _=>gr p))])) (ae vM (ae pL ar)) (aC Te (aC Ts (aC Yx (aC T5 (aC Io aE))))) (Lq L n p hq hr) (by kernel_rfl)
theorem QO (M:List Sx.Obj):
 abb (abb (abb (∀(r0:Loop),(∃g,p6 [] M g/\ak []=ak []/\0=g/\M=M/\false=false/\0=g/\Value.pointer none=Value.pointer none/\Value.pointer none=Value.pointer none/\r0=r0)/\∀(g:Int),p6 [] M g->aba (decide (g<ak [])) False (decide (g=bQ (ai M))=jZ [] M)))):=by
 delta aba abb
 refine⟨rfl,rfl,rfl,fun r0=>⟨⟨0,⟨by omega,by unfold ai;omega,by omega,fun j hj=>by omega⟩,by(repeat' apply And.intro)<;>rfl⟩,fun g hg=>⟨fun hlt=>?_,fun _=>BV hg (by simp only[ai,List.length_nil];exact hg.1)⟩⟩⟩
 have h0:g<0:=aaZ hlt;exact absurd hg.1 (by omega)
theorem Li (M:List Sx.Obj):an Tryz.prog 15 [ke,.sa 0] [.ro (.arr none 163 (.ob M))] (oW (.bo (jZ [] M))) (fun _ _=>False):=bc (inl:=(fun f=>f==24)) (ann:=(iJ [(6000+44,1,lpR [0,1,5] (fun g=> [(6,.it .i64 g)]) 3 (fun g=> .blk 3 (.it .i64 g)) (p6 [] M) 0)])) (ae bC ar) (QO M) (by kernel_rfl)
theorem Ps (L M:List Sx.Obj) (hL:L.length<=9223372036854775807):
 abb (abb (abb (∀(r0:Loop),(∃g,p6 L M g/\ak L=ak L/\0=g/\M=M/\L=L/\false=false/\0=g/\r0=r0)/\∀(g:Int),p6 L M g->aba (decide (g<ak L)) ((0<=g/\g< ↑(ai L))/\g.toNat<ai L/\g.toNat<ai L/\r0=r0/\r0=r0/\((!(!decide (g=g)||decide (bQ (ai M)<=g)))=true->0<=g/\g< ↑(ai M))/\((!(!decide (g=g)||decide (bQ (ai M)<=g)))=true->g.toNat<ai M)/\aba (!decide (g=g)||decide (bQ (ai M)<=g)|| !CW (aj L g.toNat free) (aj M g.toNat free)) (r0=r0/\false=jZ L M) (abd (g+1)/\r0=r0/\abd (g+1)/\∃g',p6 L M g'/\(bQ (ai L)-g').toNat<(bQ (ai L)-g).toNat/\ak L=ak L/\g+1=g'/\M=M/\L=L/\false=false/\g+1=g'/\r0=r0)) (decide (g=bQ (ai M))=jZ L M)))):=by
 delta aba abd abb
 refine⟨rfl,rfl,rfl,fun r0=>⟨⟨0,⟨by omega,by unfold ai;omega,by omega,fun j hj=>by omega⟩,by(repeat' apply And.intro)<;>rfl⟩,fun g hg=>⟨fun hlt=>?_,fun hge=>?_⟩⟩⟩
 ·have hg':=hg;obtain⟨g0,g1,g2,g3⟩:=hg;have hlt:g<ak L:=aaZ hlt;have hle:=rj L;have hlm:=rj M;have hq:ak L=(L.length:Int):=rfl;rw[hq]at hlt;have hz:∀b:Bool,(!decide (g=g)||b)=b:=by simp
  rw[hz];refine⟨⟨g0,by omega⟩,by omega,by omega,rfl,rfl,fun h=>?_,fun h=>?_,fun h=>⟨rfl,?_⟩,fun h=>?_⟩
  ·have h:¬(bQ (ai M)<=g):=by simpa using h
   rw[kD]at h;exact⟨g0,by omega⟩
  ·have h:¬(bQ (ai M)<=g):=by simpa using h
   rw[kD]at h;omega
  ·unfold jZ;symm
   rw[decide_eq_false_iff_not];rintro rfl
   rw[Bool.or_eq_true,aaW,kD]at h;rcases h with h|h
   ·omega
   ·simp[CW]at h
  ·rw[Bool.or_eq_false_iff,decide_eq_false_iff_not,kD]at h;obtain⟨h1,h2⟩:=h;have h2:aj L g.toNat free=aj M g.toNat free:=by simpa[CW]using h2
   have hr:aF IntKind.i64 (g+1):=by simp only[aF,cc];omega
   refine⟨hr,rfl,hr,g+1,⟨by omega,by omega,by omega,fun j hj=>?_⟩,by rw[kD];omega,by(repeat' apply And.intro)<;>rfl⟩
   by_cases e:(j:Int)<g
   ·exact g3 j e
   ·rw[show j=g.toNat by omega];exact h2
 ·have hge:¬g<ak L:=aaY hge;exact BV hg (by unfold ak at hge;omega)
theorem Ik:cz Tryz.prog 15 Xs:=
 RD (fun _ _=>rfl) (fun M _ _=>Li M) (fun L M _ hL _ _=>bc (inl:=(fun f=>f==24)) (ann:=(iJ [(6000+44,1,lpR [0,1,5] (fun g=> [(6,.it .i64 g)]) 6 (fun g=> .blk 3 (.it .i64 g)) (p6 L M) (bQ (ai L)))])) (ae bC ar) (Ps L M hL) (by kernel_rfl))
theorem Xp (n:Int) (L:List Sx.Obj):
 true=true/\∀(nid:Nat),some (V.it IntKind.i64 n)=some (V.it IntKind.i64 n)/\some ([]:List aK)=some []:=by
 exact⟨rfl,fun _=>⟨rfl,rfl⟩⟩
theorem OE:cz Tryz.prog 14 aax:=Lm (π:= []) (by simp) (fun _=>rfl) fun n L _=>bc (inl:=(fun f=>f==32)) (ann:=aQ) ar (Xp n L) (by kernel_rfl)
theorem TZ (n:Int):
 Key.mk 1 void.oid void.count void.call void.rights n=bL n:=by
 rfl
theorem UU:cz Tryz.prog 31 XF:=eQ (aA dE bV) (fun _=>rfl) fun a _ _=>bc (inl:=bx) (ann:=aQ) ar (TZ a.1) (by kernel_rfl)
abbrev acm(n:Int):=gW (qO n) 0 7 (abE 10 void void.value)
abbrev acn(n:Int):=lV (bX n ky) 0/\(Int.toNat 0<ai (bX n ky)/\(Int.toNat 0<ai (wJ n)/\lV (qO n) 0/\Int.toNat 0<ai (qO n)/\oX n (acm n) (bX n oh))/\lV (wJ n) 0/\Int.toNat 0<ai (wJ n)/\Int.toNat 0<ai (qO n)/\oX n (acm n) (bX n oh))/\lV (bX n ky) 0/\Int.toNat 0<ai (bX n ky)/\Int.toNat 0<ai (wJ n)/\Int.toNat 0<ai (qO n)/\oX n (acm n) (bX n oh)
abbrev aco(n:Int):=gW (qN n) 1 1 (bL (n-1))
abbrev acp(n:Int):=(Int.toNat 1<ai (ee n hJ)/\lV (qN n) 1/\Int.toNat 1<ai (qN n)/\oX n (aco n) (dc n))/\lV (ee n hJ) 1/\Int.toNat 1<ai (ee n hJ)/\Int.toNat 1<ai (qN n)/\oX n (aco n) (dc n)
abbrev acq(n:Int):=Int.toNat 0<ai (bX n ky)/\lV (wJ n) 0/\Int.toNat 0<ai (wJ n)/\Int.toNat 0<ai (qO n)/\oX n (acm n) (bX n oh)
abbrev acr(n:Int):=lV (ee n hJ) 1/\Int.toNat 1<ai (ee n hJ)/\Int.toNat 1<ai (qN n)/\oX n (aco n) (dc n)
theorem PV (n:Int) (h4:4<=n) (h64:n<=64):
 Hm n n 856/\(lV (k8 n.toNat free) 0/\Int.toNat 0<ai (k8 n.toNat free)/\lV (pG (k8 n.toNat free) 0 1) 0/\Int.toNat 0<ai (pG (k8 n.toNat free) 0 1)/\oX n (AN (pG (k8 n.toNat free) 0 1) 0 1) (bX n hJ))/\∀(g:Unit),gr jk->(lV (bX n hJ) 0/\Int.toNat 0<ai (bX n hJ)/\oX n (gW (bX n hJ) 0 2 (bL 1)) (bX n CL))/\∀(g: Unit),gr jk->(lV (bX n CL) 0/\Int.toNat 0<ai (bX n CL)/\oX n (gW (bX n CL) 0 4 (Key.mk 4 1 1 void.call void.rights void.value)) (bX n ky))/\∀(g:Unit),gr jk->((lV (bX n ky) 0/\(Int.toNat 0<ai (bX n ky)/\(lV (wJ n) 0/\(Int.toNat 0<ai (wJ n)/\lV (qO n) 0/\Int.toNat 0<ai (qO n)/\oX n (acm n) (bX n oh))/\lV (wJ n) 0/\Int.toNat 0<ai (wJ n)/\Int.toNat 0<ai (qO n)/\oX n (acm n) (bX n oh))/\lV (wJ n) 0/\lV (wJ n) 0/\Int.toNat 0<ai (wJ n)/\Int.toNat 0<ai (qO n)/\oX n (acm n) (bX n oh))/\(acn n)/\lV (bX n ky) 0/\(acq n)/\lV (bX n ky) 0/\Int.toNat 0<ai (bX n ky)/\Int.toNat 0<ai (wJ n)/\Int.toNat 0<ai (qO n)/\oX n (acm n) (bX n oh))/\(lV (bX n ky) 0/\(acn n)/\lV (bX n ky) 0/\lV (bX n ky) 0/\Int.toNat 0<ai (bX n ky)/\Int.toNat 0<ai (wJ n)/\Int.toNat 0<ai (qO n)/\oX n (acm n) (bX n oh))/\lV (bX n ky) 0/\(lV (bX n ky) 0/\(acq n)/\lV (bX n ky) 0/\Int.toNat 0<ai (bX n ky)/\Int.toNat 0<ai (wJ n)/\Int.toNat 0<ai (qO n)/\oX n (acm n) (bX n oh))/\lV (bX n ky) 0/\lV (bX n ky) 0/\Int.toNat 0<ai (bX n ky)/\Int.toNat 0<ai (wJ n)/\Int.toNat 0<ai (qO n)/\oX n (acm n) (bX n oh))/\∀(g:Unit),gr jk->(lV (bX n oh) 0/\Int.toNat 0<ai (bX n oh)/\oX n (gW (bX n oh) 0 8 (Key.mk 5 0 1 void.call void.rights void.value)) (oy n))/\∀(g:Unit),gr jk->(lV (oy n) 1/\Int.toNat 1<ai (oy n)/\lV (pG (oy n) 1 1) 1/\Int.toNat 1<ai (pG (oy n) 1 1)/\oX n (AN (pG (oy n) 1 1) 1 1) (ee n hJ))/\∀(g:Unit),gr jk->(aF IntKind.i64 (n-1)/\(((lV (ee n hJ) 1/\(Int.toNat 1<ai (ee n hJ)/\lV (qN n) 1/\Int.toNat 1<ai (qN n)/\oX n (aco n) (dc n))/\lV (ee n hJ) 1/\Int.toNat 1<ai (ee n hJ)/\Int.toNat 1<ai (qN n)/\oX n (aco n) (dc n))/\lV (ee n hJ) 1/\lV (ee n hJ) 1/\Int.toNat 1<ai (ee n hJ)/\Int.toNat 1<ai (qN n)/\oX n (aco n) (dc n))/\(lV (ee n hJ) 1/\(acp n)/\lV (ee n hJ) 1/\Int.toNat 1<ai (ee n hJ)/\Int.toNat 1<ai (qN n)/\oX n (aco n) (dc n))/\lV (ee n hJ) 1/\(acr n)/\lV (ee n hJ) 1/\Int.toNat 1<ai (ee n hJ)/\Int.toNat 1<ai (qN n)/\oX n (aco n) (dc n))/\(lV (ee n hJ) 1/\((acp n)/\lV (ee n hJ) 1/\Int.toNat 1<ai (ee n hJ)/\Int.toNat 1<ai (qN n)/\oX n (aco n) (dc n))/\lV (ee n hJ) 1/\Int.toNat 1<ai (ee n hJ)/\Int.toNat 1<ai (qN n)/\oX n (aco n) (dc n))/\lV (ee n hJ) 1/\((acr n)/\lV (ee n hJ) 1/\Int.toNat 1<ai (ee n hJ)/\Int.toNat 1<ai (qN n)/\oX n (aco n) (dc n))/\lV (ee n hJ) 1/\Int.toNat 1<ai (ee n hJ)/\Int.toNat 1<ai (qN n)/\oX n (aco n) (dc n))/\∀(g:Unit),gr jk->∀(nid:Nat),some (V.ag [V.sa nid,V.ci IntKind.i64 0])=some (V.ag [V.sa nid,V.ci IntKind.i64 0])/\some [aK.arr (some tO) 163 (TL.ob (dc n))]=some [aK.arr (some tO) 163 (TL.ob (dc n))]:=by
 delta abE acr acq acp aco acn acm
 have hK:ai (pG (k8 n.toNat free) 0 1)=n.toNat:=by rw[(uX _ _).2.1];unfold ai k8;simp
 have hP:ai (wJ n)=n.toNat:=by unfold wJ;rw[(uX _ _).1,np]
 have hQ:ai (qO n)=n.toNat:=by unfold qO;rw[(uX _ _).1,hP]
 have hR:ai (qN n)=n.toNat:=by unfold qN;rw[(uX _ _).1,HN]
 have hA:ai (pG (oy n) 1 1)=n.toNat:=by rw[(uX _ _).2.1];exact np _ _
 obtain⟨⟨a0,_⟩,c0,_⟩:=qH h4 (l:=k8 n.toNat free) (by unfold ai k8;simp)
 obtain⟨⟨a1,_⟩,c1,_⟩:=qH h4 hK;obtain⟨⟨a2,_⟩,c2,_⟩:=qH h4 (np n hJ);obtain⟨⟨a3,_⟩,c3,_⟩:=qH h4 (np n CL);obtain⟨⟨a4,_⟩,c4,_⟩:=qH h4 (np n ky);obtain⟨⟨a5,_⟩,c5,_⟩:=qH h4 hP;obtain⟨⟨a6,_⟩,c6,_⟩:=qH h4 hQ;obtain⟨⟨a7,_⟩,c7,_⟩:=qH h4 (np n oh);obtain⟨⟨_,a8⟩,_,c8⟩:=qH h4 (l:=oy n) (np n xj);obtain⟨⟨_,a9⟩,_,c9⟩:=qH h4 hA;obtain⟨⟨_,b2⟩,_,d2⟩:=qH h4 (HN n hJ);obtain⟨⟨_,b3⟩,_,d3⟩:=qH h4 hR
 have hm:Hm n n 856:=⟨rfl,by omega,by omega,by omega⟩
 have e2:oX n (AN (pG (k8 n.toNat free) 0 1) 0 1) (bX n hJ):=zw (by rw[V2 h4];exact(qx h4 _).2.2 _)
 have e3:oX n (gW (bX n hJ) 0 2 (bL 1)) (bX n CL):=zw ((qx h4 _).1 _ _);have e4:oX n (gW (bX n CL) 0 4 (Key.mk 4 1 1 void.call void.rights void.value)) (bX n ky):=zw ((qx h4 _).1 _ _);have e5:oX n (gW (qO n) 0 7 (Key.mk 10 void.oid void.count void.call void.rights void.value)) (bX n oh):=zw (by unfold qO wJ;rw[(qx h4 _).1,(qx h4 _).1,(qx h4 _).1];rfl)
 have e6:oX n (gW (bX n oh) 0 8 (Key.mk 5 0 1 void.call void.rights void.value)) (oy n):=zw ((qx h4 _).1 _ _);have e7:oX n (AN (pG (oy n) 1 1) 1 1) (ee n hJ):=zw (by rw[Zy h4];exact(Dl h4 _).2.2 _)
 have e8:oX n (gW (qN n) 1 1 (bL (n-1))) (dc n):=zw (by unfold qN;rw[(Dl h4 _).1,(Dl h4 _).1,<-TC h4 h64];rfl)
 have hi:aF .i64 (n-1):=by simp only[aF,cc];omega
 simp only[hm,a0,a1,a2,a3,a4,a5,a6,a7,a8,a9,b2,b3,c0,c1,c2,c3,c4,c5,c6,c7,c8,c9,d2,d3,e2,e3,e4,e5,e6,e7,e8,hi,true_and,and_true,and_self,implies_true];try exact fun _ _ _ _ _ _ _ _ _ _ _ _ _ _ _=>trivial
theorem PB:cz Tryz.prog 13 QY:=IQ (π:=fun _=> [1]) (aA dE bV) (fun _=>by simp) (fun _ _=>rfl) fun a hq _=>by
  obtain⟨n,_⟩:=a
  exact bc (inl:=bx) (ann:=(iJ [(13,2000003,En [0,2,3] (fun(_:Unit)=> []) (fun _=> []) (fun _=> [(1,.arr (some tO) 163 (.ob (bX n hJ)))]) (fun _=>gr jk)),(13,2000004,En [0,2,3] (fun(_:Unit)=> []) (fun _=> []) (fun _=> [(1,.arr (some tO) 163 (.ob (bX n CL)))]) (fun _=>gr jk)),(13,2000005,En [0,2,3] (fun(_:Unit)=> []) (fun _=> []) (fun _=> [(1,.arr (some tO) 163 (.ob (bX n ky)))]) (fun _=>gr jk)),(13,2000006,En [0,2,3] (fun(_:Unit)=> []) (fun _=> []) (fun _=> [(1,.arr (some tO) 163 (.ob (bX n oh)))]) (fun _=>gr jk)),(13,2000007,En [0,2,3] (fun(_:Unit)=> []) (fun _=> []) (fun _=> [(1,.arr (some tO) 163 (.ob (oy n)))]) (fun _=>gr jk)),(13,2000008,En [0,2,3] (fun(_:Unit)=> []) (fun _=> []) (fun _=> [(1,.arr (some tO) 163 (.ob (ee n hJ)))]) (fun _=>gr jk)),(13,2000009,En [0,2,3] (fun(_:Unit)=> []) (fun _=> []) (fun _=> [(1,.arr (some tO) 163 (.ob (dc n)))]) (fun _=>gr jk))])) (ae UU ar) (PV n hq.1 hq.2) (by kernel_rfl)
theorem Ww (n:Int) (L:List Sx.Obj) (hq:ai L<=1000/\bu L=false):
 true=true/\true=true/\(ai L).le 1000/\aba (bu L) (∀(nid:Nat),some (V.nl (Value.pointer none))=some (V.lp nid 0)/\none=some [aK.store tS eS L]) (∀(nid: Nat),some (V.lp nid 0)=some (V.lp nid 0)/\some [aK.store tS eS L]=some [aK.store tS eS L]):=by
 delta aba
 exact⟨rfl,rfl,hq.1,fun h=>by rw[hq.2]at h;simp at h,fun _ _=>⟨rfl,rfl⟩⟩
theorem Od:cz Tryz.prog 16 ZT:=Lm (π:= [2]) (by simp) (fun _=>rfl) fun n L hq=>bm (inl:=(fun f=>f==32)) (ann:=aQ) ar (aC xY aE) (Ww n L hq) (by kernel_rfl)
theorem OT (x:List jb) (L:List Sx.Obj) (n:Int) (hq:Es (lX x) L n):
 (∃g,oF (ai x) g/\0=g.fst/\n=g.snd.fst/\L=g.snd.snd/\L=L/\ai x=ai x/\(xF x=xF x)/\n=g.snd.fst/\L=g.snd.snd)/\∀(g:Int×Int×List Sx.Obj),oF (ai x) g->aba (decide (g.fst<bQ (ai x))) ((0<=g.fst/\g.fst< ↑(ai x))/\g.fst.toNat<ai x/\true=true/\(aq g.snd.snd/\aw (aj x g.fst.toNat jk).data/\gN g.snd.fst)/\(0<=g.fst/\g.fst< ↑(ai x))/\g.fst.toNat<ai x/\(aw (aj x g.fst.toNat jk).data/\gN g.snd.fst)/\aba (!Vg x g) (aba (!dnZ (mpD x g)|| !decide (Vh x g=2)) (false=true) (abd (g.fst+1)/\∃g',oF (ai x) g'/\oY (ai x) g'<oY (ai x) g/\g.fst+1=g'.fst/\Kz x g=g'.snd.fst/\CG x g=g'.snd.snd/\L=L/\ai x=ai x/\(xF x=xF x)/\g.snd.fst=g'.snd.fst/\g.snd.snd=g'.snd.snd)) ((0<=g.fst/\g.fst< ↑(ai x))/\g.fst.toNat<ai x/\true=true/\((aq g.snd.snd/\aw (aj x g.fst.toNat jk).data/\gN g.snd.fst)/\Vg x g=true)/\(CG x g=g.snd.snd->((!Vd x g)=true/\(ai (CG x g)).le 1000/\bu (CG x g)=false)/\aba (Vd x g|| !jZ (CG x g) g.snd.snd) (false=true) (abd (g.fst+1)/\∃g',oF (ai x) g'/\oY (ai x) g'<oY (ai x) g/\g.fst+1=g'.fst/\Kz x g=g'.snd.fst/\CG x g=g'.snd.snd/\L=L/\ai x=ai x/\(xF x=xF x)/\Kz x g=g'.snd.fst/\g.snd.snd=g'.snd.snd))/\((!Vd x g)=true/\(ai (CG x g)).le 1000/\bu (CG x g)=false)/\aba (Vd x g|| !jZ (CG x g) (CG x g)) (false=true) (abd (g.fst+1)/\∃g',oF (ai x) g'/\oY (ai x) g'<oY (ai x) g/\g.fst+1=g'.fst/\Kz x g=g'.snd.fst/\CG x g=g'.snd.snd/\L=L/\ai x=ai x/\(xF x=xF x)/\Kz x g=g'.snd.fst/\CG x g=g'.snd.snd))) (true=true):=by
 delta aba abd
 obtain⟨hxs,hxl⟩:=rnX hq;refine⟨⟨(0,n,L),⟨Int.le_refl _,by simp only;omega,hq.2.1,hq.1⟩,rfl,rfl,rfl,rfl,rfl,rfl,rfl,rfl⟩,fun g hg=>⟨fun hlt=>?_,fun _=>rfl⟩⟩
 have hlt:g.fst<(ai x:Int):=aaZ hlt;obtain⟨g0,g1,g2,g3⟩:=id hg;have hi:g.fst.toNat<ai x:=by omega
 have hS:=hxs g.fst.toNat hi;have hw:aF .i64 (g.fst+1):=by simp only[aF,cc];omega
 have st:=QU hg hlt;refine⟨⟨g0,hlt⟩,hi,rfl,⟨g3,hS,g2⟩,⟨g0,hlt⟩,hi,⟨hS,g2⟩,fun hR=>?_,fun hR=>?_⟩
 ·obtain⟨e1,e2,e3,e4⟩:=Zq (x:=x) (g:=g) (by simpa using hR)
  refine⟨fun h=>?_,fun _=>⟨hw,(g.fst+1,g.snd.fst,g.snd.snd),(st _ _ g2 g3).1,(st _ _ g2 g3).2,rfl,e1,e2,rfl,rfl,rfl,rfl,rfl⟩⟩
  rw[e3,e4,aae]at h;simp at h
 ·have hR:Vg x g=true:=by simpa using hR
  obtain⟨e4,hc⟩:=Yy hR;have k1:aq (CG x g):=V6 g3;have k2:gN (Kz x g):=XJ g2;have hb:=HT k1;rw[hc];refine⟨⟨g0,hlt⟩,hi,rfl,⟨⟨g3,hS,g2⟩,hR⟩,fun hE=>⟨⟨rfl,hb⟩,fun h=>?_,fun _=>⟨hw,(g.fst+1,Kz x g,g.snd.snd),(st _ _ k2 g3).1,(st _ _ k2 g3).2,rfl,rfl,hE,rfl,rfl,rfl,rfl,rfl⟩⟩,⟨rfl,hb⟩,fun h=>?_,fun _=>⟨hw,(g.fst+1,Kz x g,CG x g),(st _ _ k2 k1).1,(st _ _ k2 k1).2,rfl,rfl,rfl,rfl,rfl,rfl,rfl,rfl⟩⟩
  ·rw[hE,iZ]at h;simp at h
  ·rw[iZ]at h;simp at h
theorem KZ:lh Tryz.prog 17 Cj:=WE fun x L n hq=>bm (inl:=bx) (ann:=(iJ [(17,2,aaS [0,2,4] 7 4 5 (oF (ai x)) (oY (ai x)))])) (ae Ik (ae JI (ae OE (ae Od ar)))) (aC IV (aC Qc aE)) (OT x L n hq) (by kernel_rfl)
theorem Qz (n:Int) (x:List jb) (hx:wE x):
 Ll (lX x)/\aba (sd (lX x)) (true=true) (abb (abb ((gZ n=false->aba (decide (n<4)||decide (64<n)) (true=true) (II n/\false=true))/\(gZ n=true->aba (decide (n<4)) (aba (decide (n<4)||decide (64<n)) (true=true) (II n/\false=true)) (abb (abb (aF IntKind.i64 (n-1)/\abb (abb (abb (aba (decide (n<4)||decide (64<n)) (false=true) (II n/\(decide ((0:Int)=0)=true/\(ai (dc n)).le 1000/\bu (dc n)=false)/\aba (decide ((0:Int)=0)&&jZ (dc n) (dc n)) (abb ((Es (lX x) (dc n) 0/\dc n=dc n/\(0:Int)=0)/\∀(n':Int) (M':List Sx.Obj),(true&&true)=true)) (false=true)))))))))))):=by
 delta aba abb
 have hf4:(decide (n<4)||decide (64<n))=true↔(n<4\/64<n):=by simp
 have hf5:(decide (n<4)||decide (64<n))=false↔(¬n<4/\¬64<n):=by simp
 have hnw:gZ n=true↔(1<=n/\n<=64):=by unfold gZ;simp
 rw[hf4,hf5];refine⟨⟨x,rfl,hx⟩,fun _=>rfl,fun hfar=>⟨rfl,rfl,fun hn=>⟨fun _=>rfl,fun h=>?_⟩,fun hn=>?_⟩⟩
 ·have:¬(1<=n/\n<=64):=fun hh=>by rw[<-hnw,hn]at hh;simp at hh
  omega
 have hlen40:¬40<(ai x:Int):=X5 hfar;obtain⟨n1,n64⟩:=hnw.1 hn;have hB:=Si hn;refine⟨fun h4=>⟨fun _=>rfl,fun h=>absurd (aaZ h4) h.1⟩,fun h4=>?_⟩
 have h4:=aaY h4;refine⟨rfl,rfl,by simp only[aF,cc];omega,rfl,rfl,rfl,fun h=>?_,fun h=>⟨⟨by omega,n64⟩,⟨rfl,HT hB⟩,fun _=>⟨rfl,⟨⟨hB,by unfold gN;omega,x,rfl,hx,by omega⟩,rfl,rfl⟩,fun _ _=>rfl⟩,fun hs=>?_⟩⟩
 ·omega
 ·rw[iZ]at hs;simp at hs
theorem OI (n:Int) (x:List jb) (hx:wE x):an Tryz.prog 3 [.it .i64 n,.sa 0] [.ro (.arr none 11 (lX x))] (oW (.bo true)) (fun _ _=>False):=
 bm (inl:=(fun f=>f==12||f==29)) (ann:=aQ) (ae KS (ae Yc (ae Ik (ae PB (ae OE (ae Od ar)))))) (aC Mh (aC dB (aC KZ aE))) (Qz n x hx) (by kernel_rfl)
end Go.Proofs.YtlblcfaclmpekaaGreat
namespace Go.Sx
open Go.ChangeShapes Go.WideShapes
def Kd.ofR:Kd->Value->Prop
 | .b,v=>∃x,v= .bool x
 | .s,v=>∃x:ByteArray,v= .string x/\x.size<=maxLen
 | .i k,v=>∃n,v= .int k n/\cc k n
def xG:List Kd->List Value->Prop
 | [],[]=>True
 |k::ks,v::vs=>k.ofR v/\xG ks vs
 |_,_=>False
theorem xG.length:∀{ks:List Kd} {vs:List Value},xG ks vs->vs.length=ks.length
 | [],[],_=>rfl
 |_::_,_::_,h=>by simp[xG.length h.2]
 | [],_::_,h=>h.elim
 |_::_,[],h=>h.elim
theorem xG.split:∀{a b:List Kd} {vs:List Value},xG (a++b) vs->xG a (vs.take a.length)/\xG b (vs.drop a.length)
 | [],b,vs,h=>by simpa[xG]using h
 |k::a,b,[],h=>h.elim
 |k::a,b,v::vs,h=>by
  obtain⟨h1,h2⟩:=xG.split (a:=a) h.2;exact⟨by simpa[xG]using⟨h.1,h1⟩,by simpa using h2⟩
theorem xG.join:∀{a b:List Kd} {vs us:List Value},xG a vs->xG b us->xG (a++b) (vs++us)
 | [],_,[],_,_,h=>by simpa using h
 |k::a,_,v::vs,_,h,h'=>⟨h.1,xG.join h.2 h'⟩
 | [],_,_::_,_,h,_=>h.elim
 |_::_,_,[],_,h,_=>h.elim
theorem L2 {k:IntKind} {n:Int} (h:(Lit.int k n).wf=true):cc k n:=by
 cases k<;>simp[Lit.wf,IntKind.min,IntKind.max,IntKind.signed,IntKind.bits]at h<;>simp only[cc]<;>omega
theorem zg {α:Type} {l:List α} {c n:Nat} (h:(l.take c).length=n):l.take c=l.take n:=by
 rw[List.length_take]at h;rcases Nat.le_total c l.length with hc|hc
 ·rw[Nat.min_eq_left hc]at h;rw[h]
 ·rw[Nat.min_eq_right hc]at h;rw[List.take_of_length_le hc,List.take_of_length_le (by omega)]
section
variable {H:Type} {enc:TypeId×Value->H} {P:Program} {w:World} {base:Nat} {sp:Nat->Bool} {held:Bool}
theorem rf {t n:Nat} (h:pg P t=some n):P.cellsOf t=n:=by
 unfold pg at h;unfold Program.cellsOf;rw[h];rfl
theorem xw {m f:Nat} (ih:∀t ks,fK P f t=some ks->∀cs x,DataW.trod enc P w base sp held m t cs=some x->xG ks cs) (cs:List Value):∀(fs:List Field) (off:Nat) (ks:List Kd),me (fK P f) off fs=some ks->
  (∀g∈fs,∃x,DataW.trod enc P w base sp held m g.type ((cs.drop g.offset).take (P.cellsOf g.type))=some x)->xG ks ((cs.drop off).take ks.length)
 | [],off,ks,h,_=>by
   simp only[me,aaT]at h;subst h;simp[xG]
 |g::fs,off,ks,h,hx=>by
  simp only[me]at h;split at h
  ·rename_i hc;simp only[aaV,bne_iff_ne,ne_eq,aaX]at hc;obtain⟨hn,ho⟩:=hc;cases hg:fK P f g.type with
   |none=>simp[hg]at h
   |some k1=>
    simp only[hg]at h;cases hr:me (fK P f) (off+k1.length) fs with
    |none=>simp[hr]at h
    |some k2=>
     simp only[hr,Option.map_some,aaT]at h;subst h;obtain⟨x,hx1⟩:=hx g (by simp)
     have t1:=ih _ _ hg _ _ hx1;have hl:=t1.length;rw[zg hl,ho]at t1;have t2:=xw ih cs fs (off+k1.length) k2 hr fun g' hg'=>hx g' (by simp[hg'])
     have:(cs.drop off).take (k1++k2).length=(cs.drop off).take k1.length++(cs.drop (off+k1.length)).take k2.length:=by
      rw[List.length_append,List.take_add,List.drop_drop]
     rw[this];exact t1.join t2
  ·simp at h
theorem wq:∀(f:Nat) (t:TypeId) (ks:List Kd),fK P f t=some ks->∀(fuel:Nat) (cs:List Value) (x:DataW H×List MemPlace),DataW.trod enc P w base sp held fuel t cs=some x->xG ks cs
 |0,_,_,h,_,_,_,_=>by simp[fK]at h
 |f+1,t,ks,h,fuel,cs,x,hx=>by
  simp only[fK]at h;split at h
  ·rename_i hu;simp only[aaT]at h;subst h;obtain⟨b,rfl,_⟩:=DataW.trod_bool hu hx;exact⟨⟨b,rfl⟩,trivial⟩
  ·rename_i hu;simp only[aaT]at h;subst h;obtain⟨b,rfl,_,hb⟩:=DataW.trod_string hu hx;exact⟨⟨b,rfl,hb⟩,trivial⟩
  ·rename_i k hu;simp only[aaT]at h;subst h;obtain⟨n,rfl,_,hw⟩:=DataW.trod_int hu hx;exact⟨⟨n,rfl,L2 hw⟩,trivial⟩
  ·rename_i fs hu;split at h
   ·simp at h
   ·split at h
    ·simp at h
    ·rename_i ks' hfs;split at h
     ·rename_i hs;have hs:=aaX.1 hs;simp only[aaT]at h;subst h;obtain⟨xs,n,rfl,_,hl,hxl,hall⟩:=DataW.trod_struct hu hx
      have:=xw (fun t ks h cs x hx=>wq f t ks h n cs x hx) cs fs.toList 0 ks' hfs fun g hg=>by
       obtain⟨i,hi,hgi⟩:=List.getElem_of_mem hg;have hfi:fs[i]? =some g:=by rw[<-Array.getElem?_toList,List.getElem?_eq_getElem hi,hgi]
       have:=hall i g hfi;rw[List.getElem?_eq_getElem (by rw[hxl];simpa using hi)]at this
       exact⟨_,this⟩
      rw[rf hs]at hl;rw[List.drop_zero,<-hl,List.take_length]at this;exact this
     ·simp at h
  ·rename_i n e hu;split at h
   ·simp at h
   ·rename_i k1 he;split at h
    ·rename_i hs;simp only[aaV,aaX]at hs;simp only[aaT]at h;subst h;obtain⟨xs,m,rfl,_,hl,hxl,hall⟩:=DataW.trod_array hu hx;rw[rf hs.2]at hl;rw[rf hs.1]at hall
     have key:∀j,j<=n->xG (List.replicate j k1).flatten (cs.take (j*k1.length)):=by
      intro j;induction j with
      |zero=>intro _;simp[xG]
      |succ j ihj=>
       intro hj;have h1:=ihj (by omega)
       have h2:=hall j (by omega)
       rw[List.getElem?_eq_getElem (by omega)]at h2
       have h3:=wq f e k1 he m _ _ h2;rw[List.replicate_succ',List.flatten_append,Nat.succ_mul,List.take_add];simpa using h1.join h3
     have:=key n (Nat.le_refl _);rwa [<-hl,List.take_length]at this
    ·simp at h
  ·simp at h
end
open Go.RowKit (Below)
section
variable {H:Type} {enc:TypeId×Value->H} {P:Program}
theorem I7 {f:Nat} {vs:List V} {res:List aK} (h:an P f vs res (oW (.bo true)) (fun _ _=>False)) {J:Env} {W:World} (hH:bq J (fun _ _=>False) res (known res) W (fun _=>False) W) (hok:fQ (known res) vs):
  Calls P f (bz J vs).toArray W fun e W'=>e= .returned (.bool true)/\Below W.heap.size W W':=
 (Yp (h J _ W _ W hH hok)).mono fun e W' ⟨x,ρ',fps',res',g1,g2,g3,g4⟩=>by
  rcases g4 with⟨rfl,hK⟩|⟨_,hK⟩
  ·obtain⟨e1,_,_⟩:=dK hK ρ' (known res');refine⟨by rw[e1];rfl,g1.os,g1.tape,g1.output,g1.old,fun b hb=>g1.same b hb (fun h=>h)⟩
  ·exact hK.elim
theorem tt {W W':World} (hB:Below W.heap.size W W') (hl:laidOutB P=true):∀{ts:List TypeId} {vs:List Value} {ds:List (DataW H)} {p:List MemPlace},
  (∀t∈ts,P.readableRec t=true/\t<P.types.size)->DataW.TrodAll enc P W 0 (fun _=>true) true ts vs ds p->(∀q∈p,q.block<W.heap.size)->∀sp:Nat->Bool,(∀q∈p,sp q.block=true)->DataW.TrodAll enc P W' 0 sp true ts vs ds p
 | [],vs,ds,p,_,h,_,sp,_=>by
   obtain⟨rfl,rfl,rfl⟩:=trodAll_nil h;exact trodAll_mk0
 |t::ts,vs,ds,p,hr,h,hlt,sp,hsp=>by
  obtain⟨v,vs',d,ds',p1,q1,rfl,rfl,rfl,⟨n,h1⟩,h2⟩:=trodAll_cons h;obtain⟨r1,r2⟩:=hr t (by simp)
  refine trodAll_cons_mk ⟨n,?_⟩ (tt hB hl (fun t ht=>hr t (by simp[ht])) h2 (fun q hq=>hlt q (List.mem_append_right _ hq)) sp fun q hq=>hsp q (List.mem_append_right _ hq))
  exact DataW.trod_stays (kids_book hl r1) (book_sized r1) (fun h=>by cases h) ⟨r2,book_self t⟩ h1 (fun q hq=>hB.same (hlt q (List.mem_append_left _ hq))) fun q hq=>hsp q (List.mem_append_left _ hq)
theorem Nr {f:Func} {s:ChangeSpec} {apart fresh handsOn again:Bool} {W W':World} {args:Array Value} {ds gs:List (DataW H)} {before:List MemPlace} {tb:TypeId}
  (hW:DataW.Whole enc P f.params.toList s.vars apart W args.toList ds gs before) (hvars:s.vars= []) (hB:Below W.heap.size W W') (hl:laidOutB P=true)
  (hr:∀t∈f.params.toList,P.readableRec t=true/\t<P.types.size) (hrt:f.resultTypes= #[tb]) (htb:P.underlying tb=some .bool)
  (hs:(s.fn H (ds++gs)).results= [.lit (.bool true)]/\(s.fn H (ds++gs)).args=ds/\(s.fn H (ds++gs)).vars= []):s.post enc P f apart fresh handsOn again W args (.bool true) W':=by
 have hW':=hW;have hlt:=hW.lt;obtain⟨pa,pv,hA,hV,hps,hz,hn⟩:=hW;rw[hvars]at hV;obtain⟨rfl,rfl⟩:=trodVars_none hV;rw[List.append_nil]at hps;subst hps;have hag:∀sp:Nat->Bool,(∀q∈before,sp q.block=true)->DataW.TrodAll enc P W' 0 sp true f.params.toList args.toList ds before:=fun sp hsp=>tt hB hl hr hA hlt sp hsp
 have hres:∀(b:Nat) (sp:Nat->Bool) (hd:Bool),DataW.TrodAll enc P W' b sp hd f.resultTypes.toList ((Value.bool true).resultList f.resultTypes.size) [.lit (.bool true)] []:=fun b sp hd=>by
  rw[hrt];exact trodAll_mk1 (RowKit.shut_bool htb true)
 have hok:∀(j:Nat) (t:TypeId) (r:Value),f.resultTypes[j]? =some t->((Value.bool true).resultList f.resultTypes.size)[j]? =some r->Value.okWide P W' .any 0 t r:=RowKit.ok_one hrt rfl (RowKit.okWide_bool_mk htb true);refine⟨ds,[],before,[],before,[],hW',by rw[hs.1];exact hres _ _ _,?_,?_,hB.frame _,fun _=>⟨hok,?_⟩⟩
 ·rw[hs.2.1];exact hag _ fun q hq=>by simpa using hlt q hq
 ·rw[hvars,hs.2.2];rfl
 ·refine⟨[.lit (.bool true)]++ds,[],before,⟨[]++before,[],trodAll_append (hag _ fun _ _=>rfl) (hres _ _ _),by rw[hvars];rfl,by simp,fun b off hp=>?_,hn⟩,fun p hp _=>hp⟩
  have:=hz b off hp;rw[hB.frozen (p:=⟨b,off,none⟩) (hlt _ hp)];exact this
def yI (w:World) (v:Value) (esz:Nat) (l:TL):Prop:=
 (∀j,j<l.len->ok (fun _=>False) (l.get j)/\cS (l.get j)=false/\fi (l.get j)=esz)/\l.len<=9223372036854775807/\
 ∃(sa:Option Addr) (cap:Nat),v= .slice sa l.len cap/\(0<l.len->∃a,sa=some a/\a.spot=none/\a.block<w.heap.size/\∀j,j<l.len->∀k,k<esz->w.cell? ⟨a.block,a.off+(j*esz+k),none⟩=(cells Env.zero (l.get j))[k]?)
def Zt:Value->Option Addr
 | .slice a _ _=>a
 |_=>none
def slN:Value->Nat
 | .slice _ n _=>n
 |_=>0
def slC:Value->Nat
 | .slice _ _ c=>c
 |_=>0
def tR (A:List (Value×Nat×TL)):Env:=
 {num:=fun _=>0,cap:=fun i=>slC (A.getD i (.slice none 0 0,0,.bo [])).1,adr:=fun i=>(Zt (A.getD i (.slice none 0 0,0,.bo [])).1).getD ⟨0,0,none⟩,sa:=fun i=>Zt (A.getD i (.slice none 0 0,0,.bo [])).1,
  sn:=fun i=>slN (A.getD i (.slice none 0 0,0,.bo [])).1,ob:=fun _ _=>0}
def mT:List (Value×Nat×TL)->List aK
 | []=> []
 |a::l=> .arr none a.2.1 a.2.2::mT l
theorem p9:∀(A:List (Value×Nat×TL)) (i:Nat),az (mT A) i=match A[i]? with|some a=> .arr none a.2.1 a.2.2|none=> .yet
 | [],i=>by simp[mT,az]
 |a::l,0=>by simp[mT,az]
 |a::l,i+1=>by simp[mT,az,p9 l i]
theorem oT:∀A:List (Value×Nat×TL),(mT A).length=A.length
 | []=>rfl
 |a::l=>by simp[mT,oT l]
theorem L3 {A:List (Value×Nat×TL)} {W:World} (h:∀a∈A,yI W a.1 a.2.1 a.2.2):bq (tR A) (fun _ _=>False) (mT A) (known (mT A)) W (fun _=>False) W:=by
 refine⟨fun i hi=>hi,Nat.le_refl _,rfl,rfl,rfl,fun i hi=>?_,fun i b _ h=>h.elim,fun i j b _ _ _ h=>h.elim,fun i b _ h=>h.elim,fun _ _ _=>rfl⟩
 have hlt:=aO hi;rw[oT]at hlt;have hA:A[i]? =some A[i]:=List.getElem?_eq_getElem hlt;have hh:=h A[i] (List.getElem_mem hlt);generalize A[i]=a at hA hh
 rw[p9,hA];simp only;obtain⟨h1,h2,sa,cap,h3,h4⟩:=hh;have hd:A.getD i (.slice none 0 0,0,.bo [])=a:=by rw[aa0,hA];rfl
 have e1:(tR A).sa i=sa:=by show Zt (A.getD i _).1=sa;rw[hd,h3];rfl
 have e2:(tR A).sn i=a.2.2.len:=by show slN (A.getD i _).1=_;rw[hd,h3];rfl
 have e3:(tR A).adr i=sa.getD ⟨0,0,none⟩:=by show(Zt (A.getD i _).1).getD _=_;rw[hd,h3];rfl
 refine⟨h1,e2,h2,fun x hx=>?_,fun hl=>?_,fun hl=>?_,.inl ⟨rfl,fun hl=>?_,fun j hj k hk=>?_⟩⟩
 ·rw[e1]at hx;rw[e3,hx];rfl
 ·obtain⟨x,rfl,_⟩:=h4 hl;rw[e1];rfl
 ·obtain⟨x,rfl,g,_⟩:=h4 hl;rw[e3];exact g
 ·obtain⟨x,rfl,_,g,_⟩:=h4 hl;exact⟨fun h=>h,by rw[e3];exact g⟩
 ·obtain⟨x,rfl,_,_,g⟩:=h4 (by omega)
  have:=g j hj k hk;rw[e3];simp only[Option.getD_some];rw[this,dX (N:=fun _=>False) (J:=Env.zero) (ρ':=tR A) (fun _ h=>h.elim) _ (h1 j hj).1]
theorem TJ {A:List (Value×Nat×TL)} {W:World} (h:∀a∈A,yI W a.1 a.2.1 a.2.2) {i:Nat} {a:Value×Nat×TL} (hi:A[i]? =some a):den (tR A) (.sa i)=a.1/\known (mT A) i:=by
 obtain⟨h1,h2,sa,cap,h3,h4⟩:=h a (List.mem_of_getElem? hi);have hd:A.getD i (.slice none 0 0,0,.bo [])=a:=by rw[aa0,hi];rfl
 refine⟨?_,by unfold known;rw[p9,hi];simp⟩
 show Value.slice (Zt (A.getD i _).1) (slN (A.getD i _).1) (slC (A.getD i _).1)=a.1
 rw[hd,h3];rfl
theorem w9 {α:Type} {p:Nat->α->Prop}:∀n:Nat,(∀i,i<n->∃y,p i y)->∃l:List α,l.length=n/\∀(i:Nat) (y:α),l[i]? =some y->p i y
 |0,_=>⟨[],rfl,by simp⟩
 |n+1,h=>by
  obtain⟨l,h1,h2⟩:=w9 n fun i hi=>h i (by omega)
  obtain⟨y,hy⟩:=h n (by omega)
  refine⟨l++ [y],by simp[h1],fun i z hz=>?_⟩
  by_cases hi:i<n
  ·rw[List.getElem?_append_left (by omega)]at hz
   exact h2 i z hz
  ·rw[List.getElem?_append_right (by omega)]at hz
   have:i-l.length=0:=by
    have:=(List.getElem?_eq_some_iff.1 hz).1;simp at this;omega
   rw[this]at hz;simp at hz;subst hz;rw[show i=n by omega];exact hy
theorem Ge {α:Type} {W:World} {t e esz:TypeId} {v:Value} {d:DataW H} {ps:List MemPlace} (ht:P.underlying t=some (.slice e)) (hc:P.cellsOf e=esz) (hz:0<esz)
  (hval:∃a0 ln cp,v= .slice a0 ln cp) (hd:DataW.Trod enc P W 0 (fun _=>true) true t v d ps) (mk:α->V) (wf:α->Prop) (tl:List α->TL) (d0:α) (htl:∀l:List α,(tl l).len=l.length/\∀i,(tl l).get i=mk (aj l i d0))
  (hmk:∀y,wf y->ok (fun _=>False) (mk y)/\cS (mk y)=false/\fi (mk y)=esz) (hop:∀n cs x,DataW.trod enc P W 0 (fun _=>true) true n e cs=some x->∃y,wf y/\cs=cells Env.zero (mk y)):
  ∃l:List α,(∀y∈l,wf y)/\yI W v esz (tl l):=by
 obtain⟨a0,ln,cp,rfl⟩:=hval;obtain⟨fuel,hf⟩:=hd;rcases Go.Deep.open_slice ht hf with⟨hcs,_⟩|⟨a,len,cap,m,n,D,Pl,hcs,_,hlc,hcm,hm,_,hx⟩
 ·simp[Value.cells]at hcs;obtain⟨rfl,rfl,rfl⟩:=hcs;obtain⟨e1,e2⟩:=htl [];have e1:(tl []).len=0:=e1;exact⟨[],by simp,fun j hj=>by omega,by omega,none,0,by rw[e1],fun h=>by omega⟩
 ·simp[Value.cells]at hcs;obtain⟨rfl,rfl,rfl⟩:=hcs;simp only[if_true]at hm;subst hm
  have hx':∀i,i<ln->∃y,wf y/\∀k,k<esz->W.cell? ((a.add (i*esz)).add k)=(cells Env.zero (mk y))[k]? :=fun i hi=>by
   obtain⟨cs,g1,g2⟩:=hx i (by omega)
   rw[hc]at g1;obtain⟨y,y1,y2⟩:=hop n cs _ g2;obtain⟨_,_,g3⟩:=World.cells?_some g1;exact⟨y,y1,fun k hk=>by rw[g3 k hk,y2]⟩
  obtain⟨l,l1,l2⟩:=w9 ln hx';obtain⟨e1,e2⟩:=htl l
  have hget:∀j,j<ln->l[j]? =some (aj l j d0):=fun j hj=>by
   unfold aj;rw[aa0,List.getElem?_eq_getElem (by omega)];rfl
  have hcell0:∀j,j<ln->∀k,k<esz->W.cell? ((a.add (j*esz)).add k)=(cells Env.zero ((tl l).get j))[k]? :=fun j hj k hk=>by
   rw[e2];exact(l2 j _ (hget j hj)).2 k hk
  refine⟨l,fun y hy=>?_,fun j hj=>?_,?_,some a,m,by rw[e1,l1],fun hl=>?_⟩
  ·obtain⟨i,hi,rfl⟩:=List.getElem_of_mem hy;exact(l2 i _ (List.getElem?_eq_getElem hi)).1
  ·rw[e2];exact hmk _ (l2 j _ (hget j (by rw[e1,l1]at hj;exact hj))).1
  ·have:m<=9223372036854775807:=by simpa[maxLen]using hcm
   omega
  ·have hln:0<ln:=by rw[e1,l1]at hl;exact hl
   have h0:=hcell0 0 hln 0 hz
   have hsome:∃u,(cells Env.zero ((tl l).get 0))[0]? =some u:=by
    have hk:=hmk _ (l2 0 _ (hget 0 hln)).1;rw[<-e2]at hk;have:=bg Env.zero _ hk.1;exact⟨_,List.getElem?_eq_getElem (by rw[this,hk.2.2];exact hz)⟩
   obtain⟨u,hu⟩:=hsome;rw[hu]at h0;simp only[Nat.zero_mul,Addr.add,if_true]at h0
   have hspot:a.spot=none:=by
    unfold World.cell? at h0;split at h0
    ·split at h0
     ·simp at h0
     ·rename_i hs;simpa using hs
    ·simp at h0
   refine⟨a,rfl,hspot,World.block_lt_of_cell? W a h0,fun j hj k hk=>?_⟩
   have:=hcell0 j (by rw[e1,l1]at hj;exact hj) k hk
   rw[<-this];congr 1
   obtain⟨b,o,s⟩:=a;simp only at hspot;subst hspot;rw[add_lit,add_lit];show(⟨b,o+(j*esz+k),none⟩:Addr)=⟨b,o+j*esz+k,none⟩
   rw[Nat.add_assoc]
theorem JG {α:Type} {W:World} {t e esz:TypeId} {base:Nat} {v:Value} {d:DataW H} {ps:List MemPlace} (ht:P.underlying t=some (.slice e)) (hc:P.cellsOf e=esz) (hz:0<esz)
  (hval:Value.okWide P W .any base t v) (hd:DataW.Trod enc P W 0 (fun _=>true) true t v d ps) (mk:α->V) (wf:α->Prop) (tl:List α->TL) (d0:α) (htl:∀l:List α,(tl l).len=l.length/\∀i,(tl l).get i=mk (aj l i d0))
  (hmk:∀y,wf y->ok (fun _=>False) (mk y)/\cS (mk y)=false/\fi (mk y)=esz) (hop:∀n cs x,DataW.trod enc P W 0 (fun _=>true) true n e cs=some x->∃y,wf y/\cs=cells Env.zero (mk y)):
  ∃l:List α,(∀y∈l,wf y)/\yI W v esz (tl l):=
 Ge ht hc hz (okWide_slice ht hval) hd mk wf tl d0 htl hmk hop
end
end Go.Sx
namespace Go.Proofs.YtlblcfaclmpekaaGreat
open Go.Sx Go.ChangeShapes Go.WideShapes
theorem aaA:ownKnob Tryz.prog.godebug=none:=by kernel_rfl
theorem aav:laidOutB Tryz.prog=true:=by kernel_rfl
section
variable {H:Type} {enc:TypeId×Value->H} {W:World} {base:Nat} {v:Value} {d:DataW H} {ps:List MemPlace}
end
def Ss {α:Type} (ks:List Kd) (W:α->Prop) (m:α->V):Prop:=
 (∀cs,xG ks cs->∃x,W x/\cs=cells Env.zero (m x))/\∀x,W x->ok (fun _=>False) (m x)/\cS (m x)=false/\fi (m x)=ks.length
def So {α:Type} (ks:List Kd) (W:α->Prop) (m:α->List V):Prop:=
 (∀cs,xG ks cs->∃x,W x/\cs=bn Env.zero (m x))/\∀x,W x->fQ (fun _=>False) (m x)/\tv (m x)/\Hb (m x)=ks.length
theorem Ez:So [] (fun _:Unit=>True) (fun _=> []):=by
 refine⟨fun cs h=>?_,fun _ _=>⟨trivial,trivial,rfl⟩⟩
 cases cs with
 |nil=>exact⟨(),trivial,rfl⟩
 |cons a l=>exact h.elim
theorem iq {α β:Type} {ks1 ks2:List Kd} {W1:α->Prop} {W2:β->Prop} {m1:α->V} {m2:β->List V} (h1:Ss ks1 W1 m1) (h2:So ks2 W2 m2):So (ks1++ks2) (fun x:α×β=>W1 x.1/\W2 x.2) (fun x=>m1 x.1::m2 x.2):=by
 refine⟨fun cs h=>?_,fun x hx=>?_⟩
 ·obtain⟨g1,g2⟩:=xG.split h;obtain⟨a,a1,a2⟩:=h1.1 _ g1;obtain⟨b,b1,b2⟩:=h2.1 _ g2;refine⟨(a,b),⟨a1,b1⟩,?_⟩;have e:bn Env.zero (m1 a::m2 b)=cells Env.zero (m1 a)++bn Env.zero (m2 b):=rfl;show cs=bn Env.zero (m1 a::m2 b)
  rw[e,<-a2,<-b2,List.take_append_drop]
 ·obtain⟨a1,a2,a3⟩:=h1.2 x.1 hx.1;obtain⟨b1,b2,b3⟩:=h2.2 x.2 hx.2;refine⟨⟨a1,b1⟩,⟨?_,b2⟩,?_⟩
  ·cases hm:m1 x.1<;>rw[hm]at a2<;>first|trivial|simp[cS]at a2
  ·show fi (m1 x.1)+Hb (m2 x.2)=_
   rw[a3,b3,List.length_append]
theorem MW {α:Type} {ks:List Kd} {W:α->Prop} {m:α->List V} (h:So ks W m):Ss ks W (fun x=> .ag (m x)):=
 ⟨fun cs hc=>by
  obtain⟨x,h1,h2⟩:=h.1 cs hc;exact⟨x,h1,by rw[h2];simp[cells,den,Value.cells]⟩,fun x hx=>⟨⟨(h.2 x hx).1,(h.2 x hx).2.1⟩,rfl,(h.2 x hx).2.2⟩⟩
theorem RY {α β:Type} {ks:List Kd} {W:α->Prop} {m:α->V} {m':β->V} (h:Ss ks W m) (f:α->β) (g:β->α) (hm:∀y,m' y=m (g y)) (hfg:∀x,g (f x)=x):Ss ks (fun y=>W (g y)) m':=by
 refine⟨fun cs hc=>?_,fun y hy=>?_⟩
 ·obtain⟨x,h1,h2⟩:=h.1 cs hc;exact⟨f x,by show W (g (f x));rw[hfg];exact h1,by rw[hm,hfg];exact h2⟩
 ·rw[hm];exact h.2 _ hy
theorem vj (k:IntKind):Ss [.i k] (cc k) (V.it k):=by
 refine⟨fun cs h=>?_,fun x hx=>⟨hx,rfl,rfl⟩⟩
 match cs,h with
 | [],h=>exact h.elim
 | [a],h=>obtain⟨⟨n,rfl,hn⟩,_⟩:=h;exact⟨n,hn,rfl⟩
 |_::_::_,h=>exact h.2.elim
theorem Zs:Ss [.b] (fun _=>True) V.bo:=by
 refine⟨fun cs h=>?_,fun x hx=>⟨trivial,rfl,rfl⟩⟩
 match cs,h with
 | [],h=>exact h.elim
 | [a],h=>obtain⟨⟨n,rfl⟩,_⟩:=h;exact⟨n,trivial,rfl⟩
 |_::_::_,h=>exact h.2.elim
theorem Y8:Ss [.s] (fun s:ByteArray=>(s.size:Int)<=9223372036854775807) V.st:=by
 refine⟨fun cs h=>?_,fun x hx=>⟨trivial,rfl,rfl⟩⟩
 match cs,h with
 | [],h=>exact h.elim
 | [a],h=>
   obtain⟨⟨n,rfl,hn⟩,_⟩:=h;refine⟨n,?_,rfl⟩;simp only[maxLen]at hn;omega
 |_::_::_,h=>exact h.2.elim
section
variable {H:Type} {enc:TypeId×Value->H} {W:World} {base:Nat} {v:Value} {d:DataW H} {ps:List MemPlace}
theorem JJ {α:Type} {t e:TypeId} {ks:List Kd} {wf:α->Prop} {m:α->V} (tl:List α->TL) (d0:α) (ht:Tryz.prog.underlying t=some (.slice e)) (hf:fK Tryz.prog 8 e=some ks) (hc:Tryz.prog.cellsOf e=ks.length) (hz:0<ks.length) (ho:Ss ks wf m)
  (htl:∀l:List α,(tl l).len=l.length/\∀i,(tl l).get i=m (aj l i d0)) (hval:Value.okWide Tryz.prog W .any base t v) (hd:DataW.Trod enc Tryz.prog W 0 (fun _=>true) true t v d ps):
  ∃l:List α,(∀o∈l,wf o)/\yI W v ks.length (tl l):=
 JG (esz:=ks.length) ht hc hz hval hd m wf tl d0 htl (fun y hy=>ho.2 y hy) fun n cs x hx=>ho.1 _ (wq 8 _ _ hf n cs x hx)
theorem Rc {t:TypeId} {k:IntKind} (ht:Tryz.prog.underlying t=some (.int k)) (hval:Value.okWide Tryz.prog W .any base t v) (hd:DataW.Trod enc Tryz.prog W 0 (fun _=>true) true t v d ps):∃n:Int,cc k n/\v= .int k n:=by
 obtain⟨n,h1,_,_,h2⟩:=open_int ht hval hd;exact⟨n,L2 h2,h1⟩
end
theorem RE {α:Type} {l:List α} {p:α->Prop} (h:∀o∈l,p o) (d:α) (i:Nat) (hi:i<ai l):p (aj l i d):=by
 have hi:i<l.length:=hi;unfold aj;rw[aa0,List.getElem?_eq_getElem hi];exact h _ (List.getElem_mem hi)
theorem Rv {J:Env} {res:List aK} {W:World} (h:bq J (fun _ _=>False) res (known res) W (fun _=>False) W) (hk:∀i,i<res.length->known res i):bq J (fun _ _=>False) (nJ res) (known (nJ res)) W (fun _=>False) W:=by
 have hg:∀i,az (nJ res) i=if i<res.length then .ro (az res i)else .yet:=fun i=>by
  rw[nk,nk];unfold nJ;by_cases hi:i<res.length
  ·simp[aa0,hi]
  ·simp[aa0,hi]
 have hkn:∀i,known (nJ res) i↔i<res.length:=fun i=>by
  unfold known;rw[hg];split<;>simp_all
 refine⟨fun i hi=>hi,Nat.le_refl _,rfl,rfl,rfl,fun i hi=>?_,fun i b _ h=>h.elim,fun i j b _ _ _ h=>h.elim,fun i b _ h=>h.elim,fun _ _ _=>rfl⟩
 have hlt:=(hkn i).1 hi;rw[hg,aa2 hlt];exact⟨fun _=>False,aK.oG _ (h.holds i (hk i hlt)) fun j hj=>(hkn j).2 (aO hj),fun b hb=>hb.elim⟩
theorem Jc {A:List (Value×Nat×TL)}:∀i,i<(mT A).length->known (mT A) i:=fun i hi=>by
 rw[oT]at hi;unfold known;rw[p9,List.getElem?_eq_getElem hi];simp
theorem La {l:List aK} {i:Nat} {r:aK} (h:az l i= .ro r):known l i:=by
 unfold known;rw[h];simp
def kI:List Kd:= [.i .i64]
def aaN:List Kd:=kI++(kI++(kI++ []))
def kOp:List Kd:=kI++(kI++(kI++(kI++(kI++([.s]++(aaN++([.b]++(kI++ []))))))))
def aaH (x:jb):Prop:=cc .i64 x.kind/\cc .i64 x.proc/\cc .i64 x.reg/\cc .i64 x.mode/\cc .i64 x.code/\aw x.data/\(cc .i64 x.s0/\cc .i64 x.s1/\cc .i64 x.s2/\True)/\True/\cc .i64 x.val/\True
theorem YU:Ss kOp aaH Ky:=
 RY (MW (iq (vj .i64) (iq (vj .i64) (iq (vj .i64) (iq (vj .i64) (iq (vj .i64) (iq Y8 (iq (MW (iq (vj .i64) (iq (vj .i64) (iq (vj .i64) Ez)))) (iq Zs (iq (vj .i64) Ez))))))))))
  (fun x=>(⟨x.1,x.2.1,x.2.2.1,x.2.2.2.1,x.2.2.2.2.1,x.2.2.2.2.2.1,x.2.2.2.2.2.2.1.1,x.2.2.2.2.2.2.1.2.1,x.2.2.2.2.2.2.1.2.2.1,x.2.2.2.2.2.2.2.1,x.2.2.2.2.2.2.2.2.1⟩:jb))
  (fun y:jb=>(y.kind,y.proc,y.reg,y.mode,y.code,y.data,(y.s0,y.s1,y.s2,()),y.num,y.val,())) (fun _=>rfl) (fun _=>rfl)
end Go.Proofs.YtlblcfaclmpekaaGreat
namespace Go.Proofs.YtlblcfaclmpekaaGreat.machinePlay
open Go.Sx Go.ChangeShapes Go.WideShapes Go.RowKit
theorem contract (H:Type) (enc:TypeId×Value->H) (W:World) (base:Nat) (args:Array Value) (ds gs:List (DataW H)) (before:List MemPlace)
  (hval:∀(j:Nat) t v,Tryz.f3.params[j]? =some t->args[j]? =some v->Value.okWide Tryz.prog W .any base t v)
  (hW:DataW.Whole enc Tryz.prog Tryz.f3.params.toList Rows.machinePlaySpec.vars false W args.toList ds gs before):
  Calls Tryz.prog 3 args W fun e W'=>∃v,e= .returned v/\Rows.machinePlaySpec.post enc Tryz.prog Tryz.f3 false true false false W args v W':=by
 have hW':=hW;obtain⟨p,q,hA0,hV,rfl,hfz,hnd⟩:=hW;have hA:DataW.TrodAll enc Tryz.prog W 0 (fun _=>true) true Tryz.f3.params.toList args.toList ds p:=hA0
 rw[Tryz.params3]at hA hval;obtain⟨v0,vs0,d0,ds0,p0,q0,hargs,rfl,rfl,h0,r0⟩:=trodAll_cons hA;obtain⟨v1,vs1,d1,ds1,p1,q1,rfl,rfl,rfl,h1,r1⟩:=trodAll_cons r0;obtain⟨rfl,rfl,rfl⟩:=trodAll_nil r1;obtain rfl:args= #[v0,v1]:=by cases args;simp_all
 obtain⟨rfl,rfl⟩:=trodVars_none hV;obtain⟨a0,w0,rfl⟩:=Rc Tryz.underlying3 (hval 0 3 v0 rfl rfl) h0;obtain⟨a1,w1,s1⟩:=JJ lX jk Tryz.underlying22 (by kernel_rfl:fK Tryz.prog 8 56=some kOp) (by kernel_rfl) (by decide) YU (fun l=>⟨rfl,fun i=>rfl⟩) (hval 1 22 v1 rfl rfl) h1
 have s1:yI W v1 11 (lX a1):=s1
 have hs:∀a∈([(v1,11,lX a1)]:List (Value×Nat×TL)),yI W a.1 a.2.1 a.2.2:=by
  simp only[List.mem_cons,List.not_mem_nil,or_false,forall_eq_or_imp,forall_eq];exact s1
 have k1:=TJ hs (i:=0) (a:=(v1,11,lX a1)) rfl;have hc:=I7 (OI a0 a1 (fun i hi=>(RE w1 jk i hi).2.2.2.2.2.1)) (Rv (L3 hs) Jc) ⟨w0,La rfl,trivial⟩
 have e:(bz (tR [(v1,11,lX a1)]) [.it .i64 a0,.sa 0]).toArray= #[.int .i64 a0,v1]:=by
  simp only[bz,k1.1];rfl
 rw[e]at hc;exact hc.mono fun e W' ⟨he,hB⟩=>⟨_,he,Nr hW' rfl hB aav (by rw[Tryz.params3];simp only[List.mem_cons,List.not_mem_nil,or_false,forall_eq_or_imp,forall_eq];exact⟨⟨by kernel_rfl,by decide+kernel⟩,⟨by kernel_rfl,by decide+kernel⟩⟩) (by kernel_rfl) Tryz.underlying4 ⟨rfl,rfl,rfl⟩⟩
set_option maxRecDepth 100000 in
theorem lifted (os:Os) (started:os.Started) (H:Type) (enc:TypeId×Value->H):
  ReturnsInHanded {} Tryz.checked os 3 .any (Rows.machinePlaySpec.pre6 enc Tryz.prog Tryz.f3 Rows.machinePlayRow.domain false) (Rows.machinePlaySpec.post enc Tryz.prog Tryz.f3 false true false false):=by
 refine returnsInHanded_of_change (C:=Tryz.checked) aaA started (by kernel_rfl) Tryz.func3
  (ChangeSpec.witness6 (enc:=enc) (C:=Tryz.checked) false ⟨#[], #[.int .i64 0,.slice none 0 0],[]⟩ 8 (by kernel_rfl) (by kernel_rfl) (by kernel_rfl) (by kernel_rfl)) ?_
 intro W base args ds gs before hval hW _ _;exact contract H enc W base args ds gs before hval hW
theorem over:Rows.machinePlayRow.holds Tryz.pinned (OpenSpec.ofChange Rows.machinePlaySpec):=
 OpenClaim.holds_of_wide 3 Tryz.f3 rfl rfl rfl rfl rfl rfl rfl ⟨rfl,rfl,rfl,rfl,rfl⟩ rfl rfl rfl rfl rfl (by kernel_rfl) Tryz.func3 (by kernel_rfl)
  (aaZ (by kernel_rfl)) (by unfold Func.isWrapper;first| (rw[aa2 (by decide+kernel)];kernel_rfl)| (rw[aa1 (by decide+kernel)];exact⟨rfl,rfl⟩))
  (fun os started H enc _=>lifted os started H enc)
theorem proved:Rows.MachinePlaySaid:=
 over
#print axioms proved
end Go.Proofs.YtlblcfaclmpekaaGreat.machinePlay
