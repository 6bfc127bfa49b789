import Derived.Test.YtlblcfaclmpekaaGreatMa4
import Derived.OpenShut
import Derived.Deep.Slices
import Derived.ChangeArms
import Derived.ChangeSame
import Derived.ChangeBook
import Derived.RowKit
import Derived.ProofKit
import Derived.ChangeMaps5
import Derived.SizedLaws
import Derived.Handed
import Derived.Test.YtlblcfaclmpekaaGreatRows
import Derived.WalkKit
import Derived.JoinedOf
set_option linter.unusedSimpArgs false
set_option linter.unusedVariables false
set_option maxRecDepth 100000
namespace Go.Proofs.YtlblcfaclmpekaaGreat
open Go.Sx
theorem MX (L:List Sx.Obj) (n:Int) (k:Key) (m:br) (hL:ar L) (hs:aw m.data):
 true=true/\true=true/\true=true/\true=true/\true=true/\(br.mk 0 eB void void (Key.mk 1 void.oid void.count void.call void.rights k.value),L)=aP L n (kk 1 k) (mm 1 m):=by
 simp+decide [aP,ei,ey,dG,eJ,eo,ep,dA,dr,cW,c9,eY,fq,gf,gk,cJ,void,cY,eB,aS,dZ,fK,fj,kk,mm,hL,hs];try grind
theorem OZ (L:List Sx.Obj) (n:Int) (k:Key) (m:br) (hL:ar L) (hs:aw m.data):an Tryz.prog 102 [.lp 0 0] [.ro (.blk oP (iR (.ci .i64 1) m n (.ci .i64 1) k)),.store tS eS L] (kO (aP L n ((kk 1 k)) ((mm 1 m)))) (fun _ _=>False):=
 aY (inl:=(fun f=>f==131||f==142||f==152||f==146||f==202||f==185||f==227||f==177||f==148||f==174||f==173||f==132||f==144||f==184||f==188||f==143)) (ann:=aQ) (ae dw aq) aD (eP bX) (MX L n k m hL hs) (by kernel_rfl)
theorem PB (L:List Sx.Obj) (n:Int) (k:Key) (m:br) (hL:ar L) (hs:aw m.data):
 abb (abb (abb (abb (abb (abb (aba (!decide (m.k2.kind=1)) ((br.mk 240 eB void void void,L)=aP L n (kk 2 k) (mm 1 m)) (aba (decide (m.k2.value<0)||decide (2147483647<m.k2.value)) (abb (abb (abb (aba (!decide (bV L (kk 2 k) (-1)=0)) ((br.mk (bV L (kk 2 k) (-1)) eB void void void,L)=aP L n (kk 2 k) (mm 1 m)) ((br.mk 0 eB (aJ L (kk 2 k) (-1)) void void,L)=aP L n (kk 2 k) (mm 1 m)))))) (abb (abb (abb (aba (!decide (bV L (kk 2 k) m.k2.value=0)) ((br.mk (bV L (kk 2 k) m.k2.value) eB void void void,L)=aP L n (kk 2 k) (mm 1 m)) ((br.mk 0 eB (aJ L (kk 2 k) m.k2.value) void void,L)=aP L n (kk 2 k) (mm 1 m))))))))))))):=by
 delta aba abb
 simp+decide [aP,ei,ey,dG,eJ,eo,ep,dA,dr,cW,c9,eY,fq,gf,gk,cJ,void,cY,eB,aS,dZ,fK,fj,kk,mm,hL,hs];try grind
theorem Oe (L:List Sx.Obj) (n:Int) (k:Key) (m:br) (hL:ar L) (hs:aw m.data):an Tryz.prog 102 [.lp 0 0] [.ro (.blk oP (iR (.ci .i64 1) m n (.ci .i64 2) k)),.store tS eS L] (kO (aP L n ((kk 2 k)) ((mm 1 m)))) (fun _ _=>False):=
 aY (inl:=(fun f=>f==131||f==142||f==152||f==146||f==202||f==185||f==227||f==177||f==148||f==174||f==173||f==132||f==144||f==184||f==188||f==145)) (ann:=aQ) (ae sw (ae dw aq)) aD (eP bX) (PB L n k m hL hs) (by kernel_rfl)
theorem K5 (L:List Sx.Obj) (n:Int) (k:Key) (m:br) (hL:ar L) (hs:aw m.data):
 abb (abb (abb (abb (abb (abb (aba (!decide (m.k2.kind=1)) ((br.mk 240 eB void void void,L)=aP L n (kk 2 k) (mm 2 m)) (aba (decide (m.k2.value<0)||decide (2147483647<m.k2.value)) (abb (ar L/\abb (abb (abb (aba (!decide (bk L (kk 2 k) (-1) m.k0=0)) ((br.mk (bk L (kk 2 k) (-1) m.k0) eB void void void,cA L (kk 2 k) (-1) m.k0)=aP L n (kk 2 k) (mm 2 m)) ((br.mk 0 eB (cU L (kk 2 k) (-1) m.k0) void void,cA L (kk 2 k) (-1) m.k0)=aP L n (kk 2 k) (mm 2 m))))))) (abb (ar L/\abb (abb (abb (aba (!decide (bk L (kk 2 k) m.k2.value m.k0=0)) ((br.mk (bk L (kk 2 k) m.k2.value m.k0) eB void void void,cA L (kk 2 k) m.k2.value m.k0)=aP L n (kk 2 k) (mm 2 m)) ((br.mk 0 eB (cU L (kk 2 k) m.k2.value m.k0) void void,cA L (kk 2 k) m.k2.value m.k0)=aP L n (kk 2 k) (mm 2 m)))))))))))))):=by
 delta aba abb
 simp+decide [aP,ei,ey,dG,eJ,eo,ep,dA,dr,cW,c9,eY,fq,gf,gk,cJ,void,cY,eB,aS,dZ,fK,fj,kk,mm,hL,hs];try grind
theorem OT (L:List Sx.Obj) (n:Int) (k:Key) (m:br) (hL:ar L) (hs:aw m.data):an Tryz.prog 102 [.lp 0 0] [.ro (.blk oP (iR (.ci .i64 2) m n (.ci .i64 2) k)),.store tS eS L] (kO (aP L n ((kk 2 k)) ((mm 2 m)))) (fun _ _=>False):=
 aY (inl:=(fun f=>f==131||f==142||f==152||f==146||f==202||f==185||f==227||f==177||f==148||f==174||f==173||f==132||f==144||f==184||f==188||f==149)) (ann:=aQ) (ae dw aq) (aB G7 aD) (eP bX) (K5 L n k m hL hs) (by kernel_rfl)
theorem NH (L:List Sx.Obj) (n:Int) (k:Key) (m:br) (hL:ar L) (hs:aw m.data):
 abb (abb (abb (abb (ar L/\abb (abb (aba (!decide (aC L (kk 2 k) 2 true=0)) ((br.mk (aC L (kk 2 k) 2 true) eB void void void,fG L (kk 2 k))=aP L n (kk 2 k) (mm 3 m)) ((br.mk 0 eB void void void,fG L (kk 2 k))=aP L n (kk 2 k) (mm 3 m)))))))):=by
 delta aba abb
 simp+decide [aP,ei,ey,dG,eJ,eo,ep,dA,dr,cW,c9,eY,fq,gf,gk,cJ,void,cY,eB,aS,dZ,fK,fj,kk,mm,hL,hs];try grind
theorem Pq (L:List Sx.Obj) (n:Int) (k:Key) (m:br) (hL:ar L) (hs:aw m.data):an Tryz.prog 102 [.lp 0 0] [.ro (.blk oP (iR (.ci .i64 3) m n (.ci .i64 2) k)),.store tS eS L] (kO (aP L n ((kk 2 k)) ((mm 3 m)))) (fun _ _=>False):=
 aY (inl:=(fun f=>f==131||f==142||f==152||f==146||f==202||f==185||f==227||f==177||f==148||f==174||f==173||f==132||f==144||f==184||f==188||f==151)) (ann:=aQ) (ae dw aq) (aB Rc aD) (eP bX) (NH L n k m hL hs) (by kernel_rfl)
theorem Qw (L:List Sx.Obj) (n:Int) (k:Key) (m:br) (hL:ar L) (hs:aw m.data):
 abb (abb (abb (abb (ar L/\abb (abb (aba (!decide (bS L (kk 2 k) m.k0=0)) ((br.mk (bS L (kk 2 k) m.k0) eB void void void,eQ L (kk 2 k) m.k0)=aP L n (kk 2 k) (mm 4 m)) ((br.mk 0 eB void void void,eQ L (kk 2 k) m.k0)=aP L n (kk 2 k) (mm 4 m)))))))):=by
 delta aba abb
 simp+decide [aP,ei,ey,dG,eJ,eo,ep,dA,dr,cW,c9,eY,fq,gf,gk,cJ,void,cY,eB,aS,dZ,fK,fj,kk,mm,hL,hs];try grind
theorem Py (L:List Sx.Obj) (n:Int) (k:Key) (m:br) (hL:ar L) (hs:aw m.data):an Tryz.prog 102 [.lp 0 0] [.ro (.blk oP (iR (.ci .i64 4) m n (.ci .i64 2) k)),.store tS eS L] (kO (aP L n ((kk 2 k)) ((mm 4 m)))) (fun _ _=>False):=
 aY (inl:=(fun f=>f==131||f==142||f==152||f==146||f==202||f==185||f==227||f==177||f==148||f==174||f==173||f==132||f==144||f==184||f==188||f==154)) (ann:=aQ) (ae dw aq) (aB RV aD) (eP bX) (Qw L n k m hL hs) (by kernel_rfl)
theorem NJ (L:List Sx.Obj) (n:Int) (k:Key) (m:br) (hL:ar L) (hs:aw m.data) (hk:aV (kk 2 k)=true):
 abb (abb (abb (abb (abb (aba (!decide (m.k2.kind=1)) ((br.mk 240 eB void void void,L)=aP L n (kk 2 k) (mm 5 m)) (abb (aba (!(decide (0<=m.k2.value)&&decide (m.k2.value<=7))) ((br.mk 2 eB void void void,L)=aP L n (kk 2 k) (mm 5 m)) (iH (kk 2 k) m.k2.value/\abb (abb (abb ((br.mk 0 eB (jx (kk 2 k) m.k2.value) void void,L)=aP L n (kk 2 k) (mm 5 m)))))))))))):=by
 delta aba abb
 have hX:aP L n (kk 2 k) (mm 5 m)=if m.k2.kind=1 then(if 0<=m.k2.value/\m.k2.value<=7 then(eY (jx (kk 2 k) m.k2.value),L)else(gf 2,L))else(gf 240,L):=by
  by_cases h1:m.k2.kind=1
  ·by_cases h2:0<=m.k2.value/\m.k2.value<=7
   ·simp+decide [aP,ei,ey,dG,eJ,eo,ep,dA,dr,cW,c9,eY,fq,gf,gk,cJ,void,cY,eB,aS,dZ,fK,fj,kk,mm,h1,h2]
   ·simp+decide [aP,ei,ey,dG,eJ,eo,ep,dA,dr,cW,c9,eY,fq,gf,gk,cJ,void,cY,eB,aS,dZ,fK,fj,kk,mm,h1,h2]
  ·simp+decide [aP,ei,ey,dG,eJ,eo,ep,dA,dr,cW,c9,eY,fq,gf,gk,cJ,void,cY,eB,aS,dZ,fK,fj,kk,mm,h1]
 rw[hX];refine⟨rfl,rfl,rfl,rfl,rfl,fun h=>?_,fun h=>⟨rfl,fun h'=>?_,fun h'=>⟨⟨hk,?_⟩,rfl,rfl,rfl,?_⟩⟩⟩
 ·have h:¬m.k2.kind=1:=by simpa using h
  rw[aa3 h];rfl
 ·have h:m.k2.kind=1:=by simpa using h
  have h':¬(0<=m.k2.value/\m.k2.value<=7):=fun hh=>by simp[hh.1,hh.2]at h'
  rw[aa4 h,aa3 h'];rfl
 ·simpa using h'
 ·have h:m.k2.kind=1:=by simpa using h
  have h':0<=m.k2.value/\m.k2.value<=7:=by simpa using h'
  rw[aa4 h,aa4 h'];rfl
theorem LV (L:List Sx.Obj) (n:Int) (k:Key) (m:br) (hL:ar L) (hs:aw m.data) (hk:aV (kk 2 k)=true):an Tryz.prog 102 [.lp 0 0] [.ro (.blk oP (iR (.ci .i64 5) m n (.ci .i64 2) k)),.store tS eS L] (kO (aP L n ((kk 2 k)) ((mm 5 m)))) (fun _ _=>False):=
 aY (inl:=(fun f=>f==131||f==142||f==152||f==146||f==202||f==185||f==227||f==177||f==148||f==174||f==173||f==132||f==144||f==184||f==188||f==156)) (ann:=aQ) (ae E9 (ae dw aq)) aD (eP bX) (NJ L n k m hL hs hk) (by kernel_rfl)
theorem NK (L:List Sx.Obj) (n:Int) (k:Key) (m:br) (hL:ar L) (hs:aw m.data):
 abb (abb (abb (abb (aba (!decide (k.rights=0)) ((br.mk 191 eB void void void,L)=aP L n (kk 2 k) (mm 6 m)) (abb (abb (abb ((br.mk 0 eB (abE 5 k void.value) void void,L)=aP L n (kk 2 k) (mm 6 m))))))))):=by
 delta aba abE abb
 simp+decide [aP,ei,ey,dG,eJ,eo,ep,dA,dr,cW,c9,eY,fq,gf,gk,cJ,void,cY,eB,aS,dZ,fK,fj,kk,mm,hL,hs];try grind
theorem Qz (L:List Sx.Obj) (n:Int) (k:Key) (m:br) (hL:ar L) (hs:aw m.data):an Tryz.prog 102 [.lp 0 0] [.ro (.blk oP (iR (.ci .i64 6) m n (.ci .i64 2) k)),.store tS eS L] (kO (aP L n ((kk 2 k)) ((mm 6 m)))) (fun _ _=>False):=
 aY (inl:=(fun f=>f==131||f==142||f==152||f==146||f==202||f==185||f==227||f==177||f==148||f==174||f==173||f==132||f==144||f==184||f==188||f==157)) (ann:=aQ) (ae dw aq) aD (eP bX) (NK L n k m hL hs) (by kernel_rfl)
abbrev abF:=imax 0 (lP 32 (Int.ofNat (64+Nat.succ 0)))
theorem Pa (L:List Sx.Obj) (n:Int) (k:Key) (m:br) (hL:ar L) (hs:aw m.data):
 abb (abb (abb (abb (abb (abb (aba (!decide (m.k2.kind=1)) ((br.mk 240 eB void void void,L)=aP L n (kk 3 k) (mm 1 m)) (aba (decide (m.k2.value<0)||decide (2147483647<m.k2.value)) (abb (abb (abb (aba (!decide (cy L (kk 3 k) (-1) abF=0)) ((br.mk (cy L (kk 3 k) (-1) abF) eB void void void,L)=aP L n (kk 3 k) (mm 1 m)) ((br.mk 0 (dY L (kk 3 k) (-1) abF) void void void,L)=aP L n (kk 3 k) (mm 1 m)))))) (aF IntKind.i64 (64-m.k2.value)/\abb (abb (abb (aba (!decide (cy L (kk 3 k) m.k2.value (imax 0 (lP 32 (64-m.k2.value)))=0)) ((br.mk (cy L (kk 3 k) m.k2.value (imax 0 (lP 32 (64-m.k2.value)))) eB void void void,L)=aP L n (kk 3 k) (mm 1 m)) ((br.mk 0 (dY L (kk 3 k) m.k2.value (imax 0 (lP 32 (64-m.k2.value)))) void void void,L)=aP L n (kk 3 k) (mm 1 m))))))))))))):=by
 delta aba abF abb
 have hX:aP L n (kk 3 k) (mm 1 m)=if m.k2.kind=1 then(if cy L (kk 3 k) (aS m) (qu (aS m))=0 then(gk (dY L (kk 3 k) (aS m) (qu (aS m))),L)else(gf (cy L (kk 3 k) (aS m) (qu (aS m))),L))else(gf 240,L):=by
  by_cases h1:m.k2.kind=1
  ·by_cases h2:cy L (kk 3 k) (aS m) (qu (aS m))=0
   ·simp+decide [aP,ei,ey,dG,eJ,ep,c9,show(kk 3 k).kind=3 from rfl,show(mm 1 m).code=1 from rfl,show(mm 1 m).k2=m.k2 from rfl,show aS (mm 1 m)=aS m from rfl,h1,h2]
   ·simp+decide [aP,ei,ey,dG,eJ,ep,c9,show(kk 3 k).kind=3 from rfl,show(mm 1 m).code=1 from rfl,show(mm 1 m).k2=m.k2 from rfl,show aS (mm 1 m)=aS m from rfl,h1,h2]
  ·simp+decide [aP,ei,ey,dG,c9,cW,show(kk 3 k).kind=3 from rfl,show(mm 1 m).code=1 from rfl,show(mm 1 m).k2=m.k2 from rfl,h1,cY,gf]
 rw[hX];have e1:∀s,br.mk 0 s void void void=gk s:=fun _=>rfl
 have e2:∀c,br.mk c eB void void void=gf c:=fun _=>rfl
 simp only[e1,e2];by_cases h1:m.k2.kind=1
 ·by_cases h2:0<=m.k2.value/\m.k2.value<=2147483647
  ·have hN:aS m=m.k2.value:=by unfold aS;rw[aa4 h2]
   have hR:qu m.k2.value=imax 0 (lP 32 (64-m.k2.value)):=rfl;have hr:aF .i64 (64-m.k2.value):=by simp only[aF,bY];omega
   rw[hN,hR];simp[h1,h2,hr];grind
  ·have hN:aS m= -1:=by unfold aS;rw[aa3 h2]
   have hR:qu (-1)=imax 0 (lP 32 65):=rfl;rw[hN,hR];simp[h1];grind
 ·simp[h1]
theorem O7 (L:List Sx.Obj) (n:Int) (k:Key) (m:br) (hL:ar L) (hs:aw m.data):an Tryz.prog 102 [.lp 0 0] [.ro (.blk oP (iR (.ci .i64 1) m n (.ci .i64 3) k)),.store tS eS L] (kO (aP L n ((kk 3 k)) ((mm 1 m)))) (fun _ _=>False):=
 aY (inl:=(fun f=>f==131||f==142||f==152||f==146||f==202||f==185||f==227||f==177||f==148||f==174||f==173||f==132||f==144||f==184||f==188||f==158)) (ann:=aQ) (ae pD (ae dw aq)) aD (eP bX) (Pa L n k m hL hs) (by kernel_rfl)
theorem Mr (L:List Sx.Obj) (n:Int) (k:Key) (m:br) (hL:ar L) (hs:aw m.data):
 abb (abb (abb (abb (abb (abb (aba (!decide (m.k2.kind=1)) ((br.mk 240 eB void void void,L)=aP L n (kk 3 k) (mm 2 m)) (aba (decide (m.k2.value<0)||decide (2147483647<m.k2.value)) (abb ((ar L/\aw m.data)/\abb (abb (aba (!decide (cN L (kk 3 k) (-1) m.data=0)) ((br.mk (cN L (kk 3 k) (-1) m.data) eB void void void,eX L (kk 3 k) (-1) m.data)=aP L n (kk 3 k) (mm 2 m)) ((br.mk 0 eB void void void,eX L (kk 3 k) (-1) m.data)=aP L n (kk 3 k) (mm 2 m)))))) (abb ((ar L/\aw m.data)/\abb (abb (aba (!decide (cN L (kk 3 k) m.k2.value m.data=0)) ((br.mk (cN L (kk 3 k) m.k2.value m.data) eB void void void,eX L (kk 3 k) m.k2.value m.data)=aP L n (kk 3 k) (mm 2 m)) ((br.mk 0 eB void void void,eX L (kk 3 k) m.k2.value m.data)=aP L n (kk 3 k) (mm 2 m))))))))))))):=by
 delta aba abb
 simp+decide [aP,ei,ey,dG,eJ,eo,ep,dA,dr,cW,c9,eY,fq,gf,gk,cJ,void,cY,eB,aS,dZ,fK,fj,kk,mm,hL,hs];try grind
theorem KF (L:List Sx.Obj) (n:Int) (k:Key) (m:br) (hL:ar L) (hs:aw m.data):an Tryz.prog 102 [.lp 0 0] [.ro (.blk oP (iR (.ci .i64 2) m n (.ci .i64 3) k)),.store tS eS L] (kO (aP L n ((kk 3 k)) ((mm 2 m)))) (fun _ _=>False):=
 aY (inl:=(fun f=>f==131||f==142||f==152||f==146||f==202||f==185||f==227||f==177||f==148||f==174||f==173||f==132||f==144||f==184||f==188||f==159)) (ann:=aQ) (ae dw aq) (aB CY aD) (eP bX) (Mr L n k m hL hs) (by kernel_rfl)
theorem Lg (L:List Sx.Obj) (n:Int) (k:Key) (m:br) (hL:ar L) (hs:aw m.data):
 abb (abb (abb (abb (ar L/\abb (abb (aba (!decide (aW L (kk 3 k) true=0)) ((br.mk (aW L (kk 3 k) true) eB void void void,fl L (kk 3 k))=aP L n (kk 3 k) (mm 3 m)) ((br.mk 0 eB void void void,fl L (kk 3 k))=aP L n (kk 3 k) (mm 3 m)))))))):=by
 delta aba abb
 simp+decide [aP,ei,ey,dG,eJ,eo,ep,dA,dr,cW,c9,eY,fq,gf,gk,cJ,void,cY,eB,aS,dZ,fK,fj,kk,mm,hL,hs];try grind
theorem Nr (L:List Sx.Obj) (n:Int) (k:Key) (m:br) (hL:ar L) (hs:aw m.data):an Tryz.prog 102 [.lp 0 0] [.ro (.blk oP (iR (.ci .i64 3) m n (.ci .i64 3) k)),.store tS eS L] (kO (aP L n ((kk 3 k)) ((mm 3 m)))) (fun _ _=>False):=
 aY (inl:=(fun f=>f==131||f==142||f==152||f==146||f==202||f==185||f==227||f==177||f==148||f==174||f==173||f==132||f==144||f==184||f==188||f==161)) (ann:=aQ) (ae dw aq) (aB Ta aD) (eP bX) (Lg L n k m hL hs) (by kernel_rfl)
theorem PE (L:List Sx.Obj) (n:Int) (k:Key) (m:br) (hL:ar L) (hs:aw m.data):
 abb (abb (abb (abb (ar L/\abb (abb (aba (!decide (cS L (kk 3 k) m.k0=0)) ((br.mk (cS L (kk 3 k) m.k0) eB void void void,fA L (kk 3 k) m.k0)=aP L n (kk 3 k) (mm 4 m)) ((br.mk 0 eB void void void,fA L (kk 3 k) m.k0)=aP L n (kk 3 k) (mm 4 m)))))))):=by
 delta aba abb
 simp+decide [aP,ei,ey,dG,eJ,eo,ep,dA,dr,cW,c9,eY,fq,gf,gk,cJ,void,cY,eB,aS,dZ,fK,fj,kk,mm,hL,hs];try grind
theorem Pv (L:List Sx.Obj) (n:Int) (k:Key) (m:br) (hL:ar L) (hs:aw m.data):an Tryz.prog 102 [.lp 0 0] [.ro (.blk oP (iR (.ci .i64 4) m n (.ci .i64 3) k)),.store tS eS L] (kO (aP L n ((kk 3 k)) ((mm 4 m)))) (fun _ _=>False):=
 aY (inl:=(fun f=>f==131||f==142||f==152||f==146||f==202||f==185||f==227||f==177||f==148||f==174||f==173||f==132||f==144||f==184||f==188||f==163)) (ann:=aQ) (ae dw aq) (aB Xz aD) (eP bX) (PE L n k m hL hs) (by kernel_rfl)
theorem Ls (L:List Sx.Obj) (n:Int) (k:Key) (m:br) (hL:ar L) (hs:aw m.data) (hk:aV (kk 3 k)=true):
 abb (abb (abb (abb (abb (aba (!decide (m.k2.kind=1)) ((br.mk 240 eB void void void,L)=aP L n (kk 3 k) (mm 5 m)) (abb (aba (!(decide (0<=m.k2.value)&&decide (m.k2.value<=7))) ((br.mk 2 eB void void void,L)=aP L n (kk 3 k) (mm 5 m)) (iH (kk 3 k) m.k2.value/\abb (abb (abb ((br.mk 0 eB (jx (kk 3 k) m.k2.value) void void,L)=aP L n (kk 3 k) (mm 5 m)))))))))))):=by
 delta aba abb
 have hX:aP L n (kk 3 k) (mm 5 m)=if m.k2.kind=1 then(if 0<=m.k2.value/\m.k2.value<=7 then(eY (jx (kk 3 k) m.k2.value),L)else(gf 2,L))else(gf 240,L):=by
  by_cases h1:m.k2.kind=1
  ·by_cases h2:0<=m.k2.value/\m.k2.value<=7
   ·simp+decide [aP,ei,ey,dG,eJ,eo,ep,dA,dr,cW,c9,eY,fq,gf,gk,cJ,void,cY,eB,aS,dZ,fK,fj,kk,mm,h1,h2]
   ·simp+decide [aP,ei,ey,dG,eJ,eo,ep,dA,dr,cW,c9,eY,fq,gf,gk,cJ,void,cY,eB,aS,dZ,fK,fj,kk,mm,h1,h2]
  ·simp+decide [aP,ei,ey,dG,eJ,eo,ep,dA,dr,cW,c9,eY,fq,gf,gk,cJ,void,cY,eB,aS,dZ,fK,fj,kk,mm,h1]
 rw[hX];refine⟨rfl,rfl,rfl,rfl,rfl,fun h=>?_,fun h=>⟨rfl,fun h'=>?_,fun h'=>⟨⟨hk,?_⟩,rfl,rfl,rfl,?_⟩⟩⟩
 ·have h:¬m.k2.kind=1:=by simpa using h
  rw[aa3 h];rfl
 ·have h:m.k2.kind=1:=by simpa using h
  have h':¬(0<=m.k2.value/\m.k2.value<=7):=fun hh=>by simp[hh.1,hh.2]at h'
  rw[aa4 h,aa3 h'];rfl
 ·simpa using h'
 ·have h:m.k2.kind=1:=by simpa using h
  have h':0<=m.k2.value/\m.k2.value<=7:=by simpa using h'
  rw[aa4 h,aa4 h'];rfl
theorem N5 (L:List Sx.Obj) (n:Int) (k:Key) (m:br) (hL:ar L) (hs:aw m.data) (hk:aV (kk 3 k)=true):an Tryz.prog 102 [.lp 0 0] [.ro (.blk oP (iR (.ci .i64 5) m n (.ci .i64 3) k)),.store tS eS L] (kO (aP L n ((kk 3 k)) ((mm 5 m)))) (fun _ _=>False):=
 aY (inl:=(fun f=>f==131||f==142||f==152||f==146||f==202||f==185||f==227||f==177||f==148||f==174||f==173||f==132||f==144||f==184||f==188||f==156)) (ann:=aQ) (ae E9 (ae dw aq)) aD (eP bX) (Ls L n k m hL hs hk) (by kernel_rfl)
theorem Mp (L:List Sx.Obj) (n:Int) (k:Key) (m:br) (hL:ar L) (hs:aw m.data):
 abb (abb (abb (abb (ar L/\abb (abb (abb (aba (!decide (cx L (kk 4 k) 1=0)) ((br.mk (cx L (kk 4 k) 1) eB void void void,ft L (kk 4 k) 1)=aP L n (kk 4 k) (mm 1 m)) ((br.mk 0 eB (dc L (kk 4 k) 1) void void,ft L (kk 4 k) 1)=aP L n (kk 4 k) (mm 1 m))))))))):=by
 delta aba abb
 simp+decide [aP,ei,ey,dG,eJ,eo,ep,dA,dr,cW,c9,eY,fq,gf,gk,cJ,void,cY,eB,aS,dZ,fK,fj,kk,mm,hL,hs];try grind
theorem Oj (L:List Sx.Obj) (n:Int) (k:Key) (m:br) (hL:ar L) (hs:aw m.data):an Tryz.prog 102 [.lp 0 0] [.ro (.blk oP (iR (.ci .i64 1) m n (.ci .i64 4) k)),.store tS eS L] (kO (aP L n ((kk 4 k)) ((mm 1 m)))) (fun _ _=>False):=
 aY (inl:=(fun f=>f==131||f==142||f==152||f==146||f==202||f==185||f==227||f==177||f==148||f==174||f==173||f==132||f==144||f==184||f==188||f==210)) (ann:=aQ) (ae dw aq) (aB Fs aD) (eP bX) (Mp L n k m hL hs) (by kernel_rfl)
theorem N4 (L:List Sx.Obj) (n:Int) (k:Key) (m:br) (hL:ar L) (hs:aw m.data):
 abb (abb (abb (abb (ar L/\abb (abb (abb (aba (!decide (cx L (kk 4 k) 2=0)) ((br.mk (cx L (kk 4 k) 2) eB void void void,ft L (kk 4 k) 2)=aP L n (kk 4 k) (mm 2 m)) ((br.mk 0 eB (dc L (kk 4 k) 2) void void,ft L (kk 4 k) 2)=aP L n (kk 4 k) (mm 2 m))))))))):=by
 delta aba abb
 simp+decide [aP,ei,ey,dG,eJ,eo,ep,dA,dr,cW,c9,eY,fq,gf,gk,cJ,void,cY,eB,aS,dZ,fK,fj,kk,mm,hL,hs];try grind
theorem L6 (L:List Sx.Obj) (n:Int) (k:Key) (m:br) (hL:ar L) (hs:aw m.data):an Tryz.prog 102 [.lp 0 0] [.ro (.blk oP (iR (.ci .i64 2) m n (.ci .i64 4) k)),.store tS eS L] (kO (aP L n ((kk 4 k)) ((mm 2 m)))) (fun _ _=>False):=
 aY (inl:=(fun f=>f==131||f==142||f==152||f==146||f==202||f==185||f==227||f==177||f==148||f==174||f==173||f==132||f==144||f==184||f==188||f==210)) (ann:=aQ) (ae dw aq) (aB Fs aD) (eP bX) (N4 L n k m hL hs) (by kernel_rfl)
theorem ON (L:List Sx.Obj) (n:Int) (k:Key) (m:br) (hL:ar L) (hs:aw m.data):
 abb (abb (abb (abb (ar L/\abb (abb (aba (!decide (cC L (kk 4 k) m.k0=0)) ((br.mk (cC L (kk 4 k) m.k0) eB void void void,gB L (kk 4 k) m.k0)=aP L n (kk 4 k) (mm 3 m)) ((br.mk 0 eB void void void,gB L (kk 4 k) m.k0)=aP L n (kk 4 k) (mm 3 m)))))))):=by
 delta aba abb
 simp+decide [aP,ei,ey,dG,eJ,eo,ep,dA,dr,cW,c9,eY,fq,gf,gk,cJ,void,cY,eB,aS,dZ,fK,fj,kk,mm,hL,hs];try grind
theorem Of (L:List Sx.Obj) (n:Int) (k:Key) (m:br) (hL:ar L) (hs:aw m.data):an Tryz.prog 102 [.lp 0 0] [.ro (.blk oP (iR (.ci .i64 3) m n (.ci .i64 4) k)),.store tS eS L] (kO (aP L n ((kk 4 k)) ((mm 3 m)))) (fun _ _=>False):=
 aY (inl:=(fun f=>f==131||f==142||f==152||f==146||f==202||f==185||f==227||f==177||f==148||f==174||f==173||f==132||f==144||f==184||f==188||f==166)) (ann:=aQ) (ae dw aq) (aB RF aD) (eP bX) (ON L n k m hL hs) (by kernel_rfl)
theorem PT (L:List Sx.Obj) (n:Int) (k:Key) (m:br) (hL:ar L) (hs:aw m.data):
 abb (abb (abb (abb (abb (abb (aba (!decide (m.k2.kind=1)) ((br.mk 240 eB void void void,L)=aP L n (kk 4 k) (mm 4 m)) (aba (decide (m.k2.value<0)||decide (2147483647<m.k2.value)) (abb (ar L/\abb (abb (abb (aba (!decide (b7 L (kk 4 k) (-1)=0)) ((br.mk (b7 L (kk 4 k) (-1)) eB void void void,bF L (kk 4 k) (-1))=aP L n (kk 4 k) (mm 4 m)) ((br.mk 0 eB (cc L (kk 4 k) (-1)) void void,bF L (kk 4 k) (-1))=aP L n (kk 4 k) (mm 4 m))))))) (abb (ar L/\abb (abb (abb (aba (!decide (b7 L (kk 4 k) m.k2.value=0)) ((br.mk (b7 L (kk 4 k) m.k2.value) eB void void void,bF L (kk 4 k) m.k2.value)=aP L n (kk 4 k) (mm 4 m)) ((br.mk 0 eB (cc L (kk 4 k) m.k2.value) void void,bF L (kk 4 k) m.k2.value)=aP L n (kk 4 k) (mm 4 m)))))))))))))):=by
 delta aba abb
 simp+decide [aP,ei,ey,dG,eJ,eo,ep,dA,dr,cW,c9,eY,fq,gf,gk,cJ,void,cY,eB,aS,dZ,fK,fj,kk,mm,hL,hs];try grind
theorem Pd (L:List Sx.Obj) (n:Int) (k:Key) (m:br) (hL:ar L) (hs:aw m.data):an Tryz.prog 102 [.lp 0 0] [.ro (.blk oP (iR (.ci .i64 4) m n (.ci .i64 4) k)),.store tS eS L] (kO (aP L n ((kk 4 k)) ((mm 4 m)))) (fun _ _=>False):=
 aY (inl:=(fun f=>f==131||f==142||f==152||f==146||f==202||f==185||f==227||f==177||f==148||f==174||f==173||f==132||f==144||f==184||f==188||f==168)) (ann:=aQ) (ae dw aq) (aB IY aD) (eP bX) (PT L n k m hL hs) (by kernel_rfl)
theorem KT (L:List Sx.Obj) (n:Int) (k:Key) (m:br) (hL:ar L) (hs:aw m.data):
 abb (abb (abb (abb (aba (!decide (aN L (kk 4 k)=0)) ((br.mk (aN L (kk 4 k)) eB void void void,L)=aP L n (kk 4 k) (mm 5 m)) (abb (aba (jz L (kk 4 k) m.k0) (abb (abb ((br.mk 0 eB void void (abg 1),L)=aP L n (kk 4 k) (mm 5 m)))) (abb (abb ((br.mk 0 eB void void (abg 0),L)=aP L n (kk 4 k) (mm 5 m)))))))))):=by
 delta aba abg abb
 simp+decide [aP,ei,ey,dG,eJ,eo,ep,dA,dr,cW,c9,eY,fq,gf,gk,cJ,void,cY,eB,aS,dZ,fK,fj,kk,mm,hL,hs];try grind
theorem Nf (L:List Sx.Obj) (n:Int) (k:Key) (m:br) (hL:ar L) (hs:aw m.data):an Tryz.prog 102 [.lp 0 0] [.ro (.blk oP (iR (.ci .i64 5) m n (.ci .i64 4) k)),.store tS eS L] (kO (aP L n ((kk 4 k)) ((mm 5 m)))) (fun _ _=>False):=
 aY (inl:=(fun f=>f==131||f==142||f==152||f==146||f==202||f==185||f==227||f==177||f==148||f==174||f==173||f==132||f==144||f==184||f==188||f==170)) (ann:=aQ) (ae Kz (ae dw aq)) aD (eP bX) (KT L n k m hL hs) (by kernel_rfl)
theorem N3 (L:List Sx.Obj) (n:Int) (k:Key) (m:br) (hL:ar L) (hs:aw m.data):
 abb (abb (abb (abb (ar L/\abb (aba (!decide (aN L (kk 4 k)=0)) ((br.mk (aN L (kk 4 k)) eB void void void,g9 L (kk 4 k))=aP L n (kk 4 k) (mm 6 m)) (abb (abb ((br.mk 0 eB void void (abg (fD L (kk 4 k))),g9 L (kk 4 k))=aP L n (kk 4 k) (mm 6 m))))))))):=by
 delta aba abg abb
 simp+decide [aP,ei,ey,dG,eJ,eo,ep,dA,dr,cW,c9,eY,fq,gf,gk,cJ,void,cY,eB,aS,dZ,fK,fj,kk,mm,hL,hs];try grind
theorem Qq (L:List Sx.Obj) (n:Int) (k:Key) (m:br) (hL:ar L) (hs:aw m.data):an Tryz.prog 102 [.lp 0 0] [.ro (.blk oP (iR (.ci .i64 6) m n (.ci .i64 4) k)),.store tS eS L] (kO (aP L n ((kk 4 k)) ((mm 6 m)))) (fun _ _=>False):=
 aY (inl:=(fun f=>f==131||f==142||f==152||f==146||f==202||f==185||f==227||f==177||f==148||f==174||f==173||f==132||f==144||f==184||f==188||f==171)) (ann:=aQ) (ae dw aq) (aB LQ aD) (eP bX) (N3 L n k m hL hs) (by kernel_rfl)
theorem O1 (L:List Sx.Obj) (n:Int) (k:Key) (m:br) (hL:ar L) (hs:aw m.data):
 abb (abb (abb (abb (abb (abb (abb (abb (aba (!decide (m.k2.kind=1)) ((br.mk 240 eB void void void,L)=aP L n (kk 5 k) (mm 1 m)) (aba (decide (m.k2.value<0)||decide (2147483647<m.k2.value)) (abb ((br.mk 4 eB void void void,L)=aP L n (kk 5 k) (mm 1 m))) (abb (aba (!(decide (0<=m.k2.value)&&decide (m.k2.value<12))) ((br.mk 4 eB void void void,L)=aP L n (kk 5 k) (mm 1 m)) (aF IntKind.i64 (m.k2.value+4)/\abb (abb (abb (aba (!decide (bV L (abE 2 k void.value) (m.k2.value+4)=0)) ((br.mk (bV L (abE 2 k void.value) (m.k2.value+4)) eB void void void,L)=aP L n (kk 5 k) (mm 1 m)) ((br.mk 0 eB (aJ L (abE 2 k void.value) (m.k2.value+4)) void void,L)=aP L n (kk 5 k) (mm 1 m))))))))))))))))):=by
 delta aba abE abb
 have hw:Key.mk 2 k.oid k.count void.call void.rights void.value=fj k:=rfl;have e2:∀c,br.mk c eB void void void=gf c:=fun _=>rfl
 simp only[hw,e2];have hX:=Hk (L:=L) (n:=n) (k:=k) (m:=m) (c:=1) (by omega)
 rw[hX];clear hX;by_cases h1:m.k2.kind=1
 case neg=>simp[h1,show cW 5 1=true by decide,hL,hs]
 have hf:¬(cW 5 1=true/\m.k2.kind≠1):=fun h=>h.2 h1
 rw[aa3 hf];have hC:dr L (kk 5 k) (mm 1 m)=(if aS m<0\/11<aS m then 4 else bV L (fj k) (aS m+4),eY (aJ L (fj k) (aS m+4)),L):=rfl
 rw[hC];clear hC;have e3:∀a,br.mk 0 eB a void void=eY a:=fun _=>rfl
 simp only[e3];by_cases h2:0<=m.k2.value/\m.k2.value<=2147483647
 ·have hN:aS m=m.k2.value:=by unfold aS;rw[aa4 h2]
  have hr:aF .i64 (m.k2.value+4):=by simp only[aF,bY];omega
  rw[hN];by_cases h3:11<m.k2.value
  ·have h4:¬m.k2.value<12:=by omega
   simp[h1,h2,h3,h4,u4,hr]<;>omega
  ·have h4:m.k2.value<12:=by omega
   have h5:¬(m.k2.value<0\/11<m.k2.value):=by omega
   simp[h1,h2,h4,h5,u4,hr,hL];grind
 ·have hN:aS m= -1:=by unfold aS;rw[aa3 h2]
  rw[hN];simp[h1,u4]<;>omega
theorem MB (L:List Sx.Obj) (n:Int) (k:Key) (m:br) (hL:ar L) (hs:aw m.data):an Tryz.prog 102 [.lp 0 0] [.ro (.blk oP (iR (.ci .i64 1) m n (.ci .i64 5) k)),.store tS eS L] (kO (aP L n ((kk 5 k)) ((mm 1 m)))) (fun _ _=>False):=
 aY (inl:=(fun f=>f==131||f==142||f==152||f==146||f==202||f==185||f==227||f==177||f==148||f==174||f==173||f==132||f==144||f==184||f==188||f==172)) (ann:=aQ) (ae sw (ae dw aq)) aD (eP bX) (O1 L n k m hL hs) (by kernel_rfl)
theorem P7 (L:List Sx.Obj) (n:Int) (k:Key) (m:br) (hL:ar L) (hs:aw m.data):
 abb (abb (abb (abb (abb (abb (abb (abb (aba (!decide (m.k2.kind=1)) ((br.mk 240 eB void void void,L)=aP L n (kk 5 k) (mm 2 m)) (aba (decide (m.k2.value<0)||decide (2147483647<m.k2.value)) (abb ((br.mk 4 eB void void void,L)=aP L n (kk 5 k) (mm 2 m))) (abb (aba (!(decide (0<=m.k2.value)&&decide (m.k2.value<12))) ((br.mk 4 eB void void void,L)=aP L n (kk 5 k) (mm 2 m)) (aF IntKind.i64 (m.k2.value+4)/\abb (ar L/\abb (abb (abb (aba (!decide (bk L (abE 2 k void.value) (m.k2.value+4) m.k0=0)) ((br.mk (bk L (abE 2 k void.value) (m.k2.value+4) m.k0) eB void void void,cA L (abE 2 k void.value) (m.k2.value+4) m.k0)=aP L n (kk 5 k) (mm 2 m)) ((br.mk 0 eB (cU L (abE 2 k void.value) (m.k2.value+4) m.k0) void void,cA L (abE 2 k void.value) (m.k2.value+4) m.k0)=aP L n (kk 5 k) (mm 2 m)))))))))))))))))):=by
 delta aba abE abb
 have hw:Key.mk 2 k.oid k.count void.call void.rights void.value=fj k:=rfl;have e2:∀c,br.mk c eB void void void=gf c:=fun _=>rfl
 simp only[hw,e2];have hX:=Hk (L:=L) (n:=n) (k:=k) (m:=m) (c:=2) (by omega)
 rw[hX];clear hX;by_cases h1:m.k2.kind=1
 case neg=>simp[h1,show cW 5 2=true by decide,hL,hs]
 have hf:¬(cW 5 2=true/\m.k2.kind≠1):=fun h=>h.2 h1
 rw[aa3 hf];have hC:dr L (kk 5 k) (mm 2 m)=(if aS m<0\/11<aS m then 4 else bk L (fj k) (aS m+4) m.k0,eY (cU L (fj k) (aS m+4) m.k0),if aS m<0\/11<aS m then L else cA L (fj k) (aS m+4) m.k0):=rfl
 rw[hC];clear hC;have e3:∀a,br.mk 0 eB a void void=eY a:=fun _=>rfl
 simp only[e3];by_cases h2:0<=m.k2.value/\m.k2.value<=2147483647
 ·have hN:aS m=m.k2.value:=by unfold aS;rw[aa4 h2]
  have hr:aF .i64 (m.k2.value+4):=by simp only[aF,bY];omega
  rw[hN];by_cases h3:11<m.k2.value
  ·have h4:¬m.k2.value<12:=by omega
   simp[h1,h2,h3,h4,u4,hr]<;>omega
  ·have h4:m.k2.value<12:=by omega
   have h5:¬(m.k2.value<0\/11<m.k2.value):=by omega
   simp[h1,h2,h4,h5,u4,hr,hL];grind
 ·have hN:aS m= -1:=by unfold aS;rw[aa3 h2]
  rw[hN];simp[h1,u4]<;>omega
theorem MF (L:List Sx.Obj) (n:Int) (k:Key) (m:br) (hL:ar L) (hs:aw m.data):an Tryz.prog 102 [.lp 0 0] [.ro (.blk oP (iR (.ci .i64 2) m n (.ci .i64 5) k)),.store tS eS L] (kO (aP L n ((kk 5 k)) ((mm 2 m)))) (fun _ _=>False):=
 aY (inl:=(fun f=>f==131||f==142||f==152||f==146||f==202||f==185||f==227||f==177||f==148||f==174||f==173||f==132||f==144||f==184||f==188||f==175)) (ann:=aQ) (ae dw aq) (aB G7 aD) (eP bX) (P7 L n k m hL hs) (by kernel_rfl)
theorem Nb (L:List Sx.Obj) (n:Int) (k:Key) (m:br) (hL:ar L) (hs:aw m.data):
 abb (abb (abb (abb (abb (aba (!decide (m.k2.kind=1)) ((br.mk 240 eB void void void,L)=aP L n (kk 5 k) (mm 3 m)) (abb (abb (abb ((br.mk 0 eB (abE 6 k m.k2.value) void void,L)=aP L n (kk 5 k) (mm 3 m)))))))))):=by
 delta aba abE abb
 simp+decide [aP,ei,ey,dG,eJ,eo,ep,dA,dr,cW,c9,eY,fq,gf,gk,cJ,void,cY,eB,aS,dZ,fK,fj,kk,mm,hL,hs];try grind
theorem O5 (L:List Sx.Obj) (n:Int) (k:Key) (m:br) (hL:ar L) (hs:aw m.data):an Tryz.prog 102 [.lp 0 0] [.ro (.blk oP (iR (.ci .i64 3) m n (.ci .i64 5) k)),.store tS eS L] (kO (aP L n ((kk 5 k)) ((mm 3 m)))) (fun _ _=>False):=
 aY (inl:=(fun f=>f==131||f==142||f==152||f==146||f==202||f==185||f==227||f==177||f==148||f==174||f==173||f==132||f==144||f==184||f==188||f==176)) (ann:=aQ) (ae dw aq) aD (eP bX) (Nb L n k m hL hs) (by kernel_rfl)
theorem KW (L:List Sx.Obj) (n:Int) (k:Key) (m:br) (hL:ar L) (hs:aw m.data):
 abb (abb (abb (aba (!dP L k.oid) (abb (abb ((br.mk 0 eB void void (abg (-1)),L)=aP L n (kk 5 k) (mm 4 m)))) (abb (abb ((br.mk 0 eB void void (abg (iE L k.oid)),L)=aP L n (kk 5 k) (mm 4 m))))))):=by
 delta aba abg abb
 simp+decide [aP,ei,ey,dG,eJ,eo,ep,dA,dr,cW,c9,eY,fq,gf,gk,cJ,void,cY,eB,aS,dZ,fK,fj,kk,mm,hL,hs];unfold iE bz;grind
theorem LH (L:List Sx.Obj) (n:Int) (k:Key) (m:br) (hL:ar L) (hs:aw m.data):an Tryz.prog 102 [.lp 0 0] [.ro (.blk oP (iR (.ci .i64 4) m n (.ci .i64 5) k)),.store tS eS L] (kO (aP L n ((kk 5 k)) ((mm 4 m)))) (fun _ _=>False):=
 aY (inl:=(fun f=>f==131||f==142||f==152||f==146||f==202||f==185||f==227||f==177||f==148||f==174||f==173||f==132||f==144||f==184||f==188||f==178)) (ann:=aQ) (ae rH (ae dw aq)) aD (eP bX) (KW L n k m hL hs) (by kernel_rfl)
theorem NC (L:List Sx.Obj) (n:Int) (k:Key) (m:br) (hL:ar L) (hs:aw m.data):
 abb (abb (abb (abb (abb (abb (aba (!decide (m.k2.kind=1)) ((br.mk 240 eB void void void,L)=aP L n (kk 5 k) (mm 5 m)) (aba (decide (m.k2.value<0)||decide (2147483647<m.k2.value)) (abb (ar L/\abb (abb (aba (!decide (en L k.oid (-1)=0)) ((br.mk (en L k.oid (-1)) eB void void void,dg L k.oid (-1))=aP L n (kk 5 k) (mm 5 m)) ((br.mk 0 eB void void void,dg L k.oid (-1))=aP L n (kk 5 k) (mm 5 m)))))) (abb (ar L/\abb (abb (aba (!decide (en L k.oid m.k2.value=0)) ((br.mk (en L k.oid m.k2.value) eB void void void,dg L k.oid m.k2.value)=aP L n (kk 5 k) (mm 5 m)) ((br.mk 0 eB void void void,dg L k.oid m.k2.value)=aP L n (kk 5 k) (mm 5 m))))))))))))):=by
 delta aba abb
 simp+decide [aP,ei,ey,dG,eJ,eo,ep,dA,dr,cW,c9,eY,fq,gf,gk,cJ,void,cY,eB,aS,dZ,fK,fj,kk,mm,hL,hs];try grind
theorem NI (L:List Sx.Obj) (n:Int) (k:Key) (m:br) (hL:ar L) (hs:aw m.data):an Tryz.prog 102 [.lp 0 0] [.ro (.blk oP (iR (.ci .i64 5) m n (.ci .i64 5) k)),.store tS eS L] (kO (aP L n ((kk 5 k)) ((mm 5 m)))) (fun _ _=>False):=
 aY (inl:=(fun f=>f==131||f==142||f==152||f==146||f==202||f==185||f==227||f==177||f==148||f==174||f==173||f==132||f==144||f==184||f==188||f==179)) (ann:=aQ) (ae dw aq) (aB NM aD) (eP bX) (NC L n k m hL hs) (by kernel_rfl)
abbrev abG(L:List Sx.Obj)(k:Key):=aJ L (abE 2 k void.value) 0
theorem LK (L:List Sx.Obj) (n:Int) (k:Key) (m:br) (hL:ar L) (hs:aw m.data):
 abb (abb (abb (abb (abb (abb (aba (!decide (m.k2.kind=1)) ((br.mk 240 eB void void void,L)=aP L n (kk 5 k) (mm 6 m)) (abb (abb (aba (!decide (cg L (abG L k) m.k2.value 32=0)) ((br.mk (cg L (abG L k) m.k2.value 32) eB void void void,L)=aP L n (kk 5 k) (mm 6 m)) (aba (!decide (bU L (abG L k) m.k2.value 32 false=0)) (aF IntKind.i64 (1000+bU L (abG L k) m.k2.value 32 false)/\(br.mk (1000+bU L (abG L k) m.k2.value 32 false) eB void void void,L)=aP L n (kk 5 k) (mm 6 m)) (abb (abb (abb ((br.mk 0 (jU L (abG L k) m.k2.value 32) void void void,L)=aP L n (kk 5 k) (mm 6 m))))))))))))))):=by
 delta aba abE abG abb
 have hw:Key.mk 2 k.oid k.count void.call void.rights void.value=fj k:=rfl;have e2:∀c,br.mk c eB void void void=gf c:=fun _=>rfl
 simp only[hw,e2];have hX:=Hk (L:=L) (n:=n) (k:=k) (m:=m) (c:=6) (by omega)
 rw[hX];clear hX;by_cases h1:m.k2.kind=1
 case neg=>simp[h1,show cW 5 6=true by decide,hL,hs]
 have hf:¬(cW 5 6=true/\m.k2.kind≠1):=fun h=>h.2 h1
 rw[aa3 hf];have hC:dr L (kk 5 k) (mm 6 m)=(if cg L (fK L k) m.k2.value 32=0 then(if bU L (fK L k) m.k2.value 32 false=0 then 0 else 1000+bU L (fK L k) m.k2.value 32 false)else cg L (fK L k) m.k2.value 32,gk (jU L (fK L k) m.k2.value 32),L):=rfl
 rw[hC];clear hC;have e3:∀s,br.mk 0 s void void void=gk s:=fun _=>rfl
 have e4:gf 0=cY:=rfl;have hi:=Hb (L:=L) (k:=aJ L (fj k) 0) (a:=m.k2.value) (n:=32) (w:=false);have hr:aF .i64 (1000+bU L (aJ L (fj k) 0) m.k2.value (32) false):=by simp only[aF,bY];omega
 simp only[e3,fK];simp[h1,hr,u4,hL,hs];grind
theorem OA (L:List Sx.Obj) (n:Int) (k:Key) (m:br) (hL:ar L) (hs:aw m.data):an Tryz.prog 102 [.lp 0 0] [.ro (.blk oP (iR (.ci .i64 6) m n (.ci .i64 5) k)),.store tS eS L] (kO (aP L n ((kk 5 k)) ((mm 6 m)))) (fun _ _=>False):=
 aY (inl:=(fun f=>f==131||f==142||f==152||f==146||f==202||f==185||f==227||f==177||f==148||f==174||f==173||f==132||f==144||f==184||f==188||f==180)) (ann:=aQ) (ae sw (ae aay (ae dw aq))) aD (eP bX) (LK L n k m hL hs) (by kernel_rfl)
abbrev abH(L:List Sx.Obj)(k:Key):=aJ L (abE 2 k void.value) 0
theorem Ny (L:List Sx.Obj) (n:Int) (k:Key) (m:br) (hL:ar L) (hs:aw m.data):
 abb (abb (abb (abb (abb (abb (aba (!decide (m.k2.kind=1)) ((br.mk 240 eB void void void,L)=aP L n (kk 5 k) (mm 7 m)) (abb (aw m.data/\(ar L/\aw m.data)/\abb (abb (aba (!decide (cg L (abH L k) m.k2.value (bN m.data)=0)) ((br.mk (cg L (abH L k) m.k2.value (bN m.data)) eB void void void,kz L (abH L k) m.k2.value m.data)=aP L n (kk 5 k) (mm 7 m)) (aba (!decide (bU L (abH L k) m.k2.value (bN m.data) true=0)) (aF IntKind.i64 (1000+bU L (abH L k) m.k2.value (bN m.data) true)/\(br.mk (1000+bU L (abH L k) m.k2.value (bN m.data) true) eB void void void,kz L (abH L k) m.k2.value m.data)=aP L n (kk 5 k) (mm 7 m)) (abb (abb ((br.mk 0 eB void void void,kz L (abH L k) m.k2.value m.data)=aP L n (kk 5 k) (mm 7 m))))))))))))))):=by
 delta aba abE abH abb
 have hw:Key.mk 2 k.oid k.count void.call void.rights void.value=fj k:=rfl;have e2:∀c,br.mk c eB void void void=gf c:=fun _=>rfl
 simp only[hw,e2];have hX:=Hk (L:=L) (n:=n) (k:=k) (m:=m) (c:=7) (by omega)
 rw[hX];clear hX;by_cases h1:m.k2.kind=1
 case neg=>simp[h1,show cW 5 7=true by decide,hL,hs]
 have hf:¬(cW 5 7=true/\m.k2.kind≠1):=fun h=>h.2 h1
 rw[aa3 hf];have hC:dr L (kk 5 k) (mm 7 m)=(if cg L (fK L k) m.k2.value (bN m.data)=0 then(if bU L (fK L k) m.k2.value (bN m.data) true=0 then 0 else 1000+bU L (fK L k) m.k2.value (bN m.data) true)else cg L (fK L k) m.k2.value (bN m.data),cY,kz L (fK L k) m.k2.value m.data):=rfl
 rw[hC];clear hC;have e3:∀s,br.mk 0 s void void void=gk s:=fun _=>rfl
 have e4:gf 0=cY:=rfl;have hi:=Hb (L:=L) (k:=aJ L (fj k) 0) (a:=m.k2.value) (n:=bN m.data) (w:=true);have hr:aF .i64 (1000+bU L (aJ L (fj k) 0) m.k2.value (bN m.data) true):=by simp only[aF,bY];omega
 simp only[e3,fK];simp[h1,hr,u4,hL,hs];grind
theorem PS (L:List Sx.Obj) (n:Int) (k:Key) (m:br) (hL:ar L) (hs:aw m.data):an Tryz.prog 102 [.lp 0 0] [.ro (.blk oP (iR (.ci .i64 7) m n (.ci .i64 5) k)),.store tS eS L] (kO (aP L n ((kk 5 k)) ((mm 7 m)))) (fun _ _=>False):=
 aY (inl:=(fun f=>f==131||f==142||f==152||f==146||f==202||f==185||f==227||f==177||f==148||f==174||f==173||f==132||f==144||f==184||f==188||f==181)) (ann:=aQ) (ae sw (ae dw aq)) (aB Xr aD) (eP bX) (Ny L n k m hL hs) (by kernel_rfl)
theorem Pe (L:List Sx.Obj) (n:Int) (k:Key) (m:br) (hL:ar L) (hs:aw m.data):
 true=true/\true=true/\true=true/\true=true/\true=true/\(br.mk 0 eB void void (Key.mk 1 void.oid void.count void.call void.rights m.k0.kind),L)=aP L n (kk 8 k) (mm 1 m):=by
 simp+decide [aP,ei,ey,dG,eJ,eo,ep,dA,dr,cW,c9,eY,fq,gf,gk,cJ,void,cY,eB,aS,dZ,fK,fj,kk,mm,hL,hs];try grind
theorem Lu (L:List Sx.Obj) (n:Int) (k:Key) (m:br) (hL:ar L) (hs:aw m.data):an Tryz.prog 102 [.lp 0 0] [.ro (.blk oP (iR (.ci .i64 1) m n (.ci .i64 8) k)),.store tS eS L] (kO (aP L n ((kk 8 k)) ((mm 1 m)))) (fun _ _=>False):=
 aY (inl:=(fun f=>f==131||f==142||f==152||f==146||f==202||f==185||f==227||f==177||f==148||f==174||f==173||f==132||f==144||f==184||f==188||f==182)) (ann:=aQ) (ae dw aq) aD (eP bX) (Pe L n k m hL hs) (by kernel_rfl)
theorem Ph (L:List Sx.Obj) (n:Int) (k:Key) (m:br) (hL:ar L) (hs:aw m.data):
 abb (abb (abb (abb (aba (kU m.k0 m.k1) (abb (abb ((br.mk 0 eB void void (abg 1),L)=aP L n (kk 8 k) (mm 2 m)))) (abb (abb ((br.mk 0 eB void void (abg 0),L)=aP L n (kk 8 k) (mm 2 m)))))))):=by
 delta aba abg abb
 simp+decide [aP,ei,ey,dG,eJ,eo,ep,dA,dr,cW,c9,eY,fq,gf,gk,cJ,void,cY,eB,aS,dZ,fK,fj,kk,mm,hL,hs];try grind
theorem Oh (L:List Sx.Obj) (n:Int) (k:Key) (m:br) (hL:ar L) (hs:aw m.data):an Tryz.prog 102 [.lp 0 0] [.ro (.blk oP (iR (.ci .i64 2) m n (.ci .i64 8) k)),.store tS eS L] (kO (aP L n ((kk 8 k)) ((mm 2 m)))) (fun _ _=>False):=
 aY (inl:=(fun f=>f==131||f==142||f==152||f==146||f==202||f==185||f==227||f==177||f==148||f==174||f==173||f==132||f==144||f==184||f==188||f==183)) (ann:=aQ) (ae Tj (ae dw aq)) aD (eP bX) (Ph L n k m hL hs) (by kernel_rfl)
theorem LO (L:List Sx.Obj) (n:Int) (k:Key) (m:br) (hL:ar L) (hs:aw m.data):
 true=true/\true=true/\true=true/\true=true/\true=true/\(br.mk 0 eB void void (Key.mk 1 void.oid void.count void.call void.rights m.k0.rights),L)=aP L n (kk 8 k) (mm 3 m):=by
 simp+decide [aP,ei,ey,dG,eJ,eo,ep,dA,dr,cW,c9,eY,fq,gf,gk,cJ,void,cY,eB,aS,dZ,fK,fj,kk,mm,hL,hs];try grind
theorem OW (L:List Sx.Obj) (n:Int) (k:Key) (m:br) (hL:ar L) (hs:aw m.data):an Tryz.prog 102 [.lp 0 0] [.ro (.blk oP (iR (.ci .i64 3) m n (.ci .i64 8) k)),.store tS eS L] (kO (aP L n ((kk 8 k)) ((mm 3 m)))) (fun _ _=>False):=
 aY (inl:=(fun f=>f==131||f==142||f==152||f==146||f==202||f==185||f==227||f==177||f==148||f==174||f==173||f==132||f==144||f==184||f==188||f==187)) (ann:=aQ) (ae dw aq) aD (eP bX) (LO L n k m hL hs) (by kernel_rfl)
theorem Mo (L:List Sx.Obj) (n:Int) (k:Key) (m:br) (hL:ar L) (hs:aw m.data):
 true=true/\true=true/\true=true/\true=true/\true=true/\(br.mk 0 eB void void (Key.mk 1 void.oid void.count void.call void.rights n),L)=aP L n (kk 9 k) (mm 1 m):=by
 simp+decide [aP,ei,ey,dG,eJ,eo,ep,dA,dr,cW,c9,eY,fq,gf,gk,cJ,void,cY,eB,aS,dZ,fK,fj,kk,mm,hL,hs];try grind
theorem K3 (L:List Sx.Obj) (n:Int) (k:Key) (m:br) (hL:ar L) (hs:aw m.data):an Tryz.prog 102 [.lp 0 0] [.ro (.blk oP (iR (.ci .i64 1) m n (.ci .i64 9) k)),.store tS eS L] (kO (aP L n ((kk 9 k)) ((mm 1 m)))) (fun _ _=>False):=
 aY (inl:=(fun f=>f==131||f==142||f==152||f==146||f==202||f==185||f==227||f==177||f==148||f==174||f==173||f==132||f==144||f==184||f==188||f==189)) (ann:=aQ) (ae dw aq) aD (eP bX) (Mo L n k m hL hs) (by kernel_rfl)
theorem Kl (L:List Sx.Obj) (n:Int) (k:Key) (m:br) (hL:ar L) (hs:aw m.data):
 true=true/\true=true/\true=true/\(br.mk 0 eB void void void,L)=aP L n (kk 10 k) (mm 1 m):=by
 simp+decide [aP,ei,ey,dG,eJ,eo,ep,dA,dr,cW,c9,eY,fq,gf,gk,cJ,void,cY,eB,aS,dZ,fK,fj,kk,mm,hL,hs];try grind
theorem J7 (L:List Sx.Obj) (n:Int) (k:Key) (m:br) (hL:ar L) (hs:aw m.data):an Tryz.prog 102 [.lp 0 0] [.ro (.blk oP (iR (.ci .i64 1) m n (.ci .i64 10) k)),.store tS eS L] (kO (aP L n ((kk 10 k)) ((mm 1 m)))) (fun _ _=>False):=
 aY (inl:=(fun f=>f==131||f==142||f==152||f==146||f==202||f==185||f==227||f==177||f==148||f==174||f==173||f==132||f==144||f==184||f==188||f==190)) (ann:=aQ) (ae dw aq) aD (eP bX) (Kl L n k m hL hs) (by kernel_rfl)
theorem VI (L:List Sx.Obj) (n:Int) (k:Key) (m:br) (hL:ar L) (hs:aw m.data):
 true=true/\(br.mk 190 eB void void void,L)=aP L n (kk 0 k) m:=by
 simp+decide [aP,ei,ey,dG,eJ,eo,ep,dA,dr,cW,c9,eY,fq,gf,gk,cJ,void,cY,eB,aS,dZ,fK,fj,kk,mm,hL,hs];try grind
theorem Yp (L:List Sx.Obj) (n:Int) (k:Key) (m:br) (hL:ar L) (hs:aw m.data):an Tryz.prog 102 [.lp 0 0] [.ro (.blk oP (iR (.it .i64 m.code) m n (.ci .i64 0) k)),.store tS eS L] (kO (aP L n ((kk 0 k)) (m))) (fun _ _=>False):=
 aY (inl:=(fun f=>f==131||f==142||f==152||f==146||f==202||f==185||f==227||f==177||f==148||f==174||f==173||f==132||f==144||f==184||f==188)) (ann:=aQ) (ae dw aq) aD (eP bX) (VI L n k m hL hs) (by kernel_rfl)
theorem Xk (L:List Sx.Obj) (n:Int) (k:Key) (m:br) (hL:ar L) (hs:aw m.data) (hz:¬k.kind=0):
 abb (aba (!!decide (k.kind=0)) ((br.mk 190 eB void void void,L)=aP L n k (mm 0 m)) (abb (abb ((br.mk 0 eB void void (abg k.kind),L)=aP L n k (mm 0 m))))):=by
 delta aba abg abb
 have hX:aP L n k (mm 0 m)=(fq k.kind,L):=by
  have hr:dG L n k (mm 0 m)=(0,fq k.kind,L):=by
   unfold dG;rw[aa3 hz,aa4 (show(mm 0 m).code=0 from rfl)]
  simp[aP,ei,ey,hr]
 rw[hX];simp[hz];rfl
theorem Xv (L:List Sx.Obj) (n:Int) (k:Key) (m:br) (hL:ar L) (hs:aw m.data) (hz:¬k.kind=0):an Tryz.prog 102 [.lp 0 0] [.ro (.blk oP (iR (.ci .i64 0) m n (.it .i64 k.kind) k)),.store tS eS L] (kO (aP L n (k) ((mm 0 m)))) (fun _ _=>False):=
 aY (inl:=(fun f=>f==131||f==142||f==152||f==146||f==202||f==185||f==227||f==177||f==148||f==174||f==173||f==132||f==144||f==184||f==188)) (ann:=aQ) (ae dw aq) aD (eP bX) (Xk L n k m hL hs hz) (by kernel_rfl)
abbrev abI:=true=true/\False
theorem Wm (L:List Sx.Obj) (n:Int) (k:Key) (m:br) (hL:ar L) (hs:aw m.data) (hz:¬k.kind=0) (hc:¬m.code=0) (hn:m.code<1\/c9 k.kind<m.code):
 abb (aba (!!decide (k.kind=0)) ((br.mk 190 eB void void void,L)=aP L n k m) (aba (decide (m.code=0)) (abb (abb ((br.mk 0 eB void void (abg k.kind),L)=aP L n k m))) (abb (aba (!(oc 1 1 k m||(oc 2 1 k m||(oc 2 2 k m||(oc 2 3 k m||(oc 2 4 k m||(oc 2 5 k m||(oc 2 6 k m||(oc 3 1 k m||(oc 3 2 k m||(oc 3 3 k m||(oc 3 4 k m||(oc 3 5 k m||(oc 4 1 k m||(oc 4 2 k m||(oc 4 3 k m||(oc 4 4 k m||(oc 4 5 k m||(oc 4 6 k m||(oc 5 1 k m||(oc 5 2 k m||(oc 5 3 k m||(oc 5 4 k m||(oc 5 5 k m||(oc 5 6 k m||(oc 5 7 k m||(oc 8 1 k m||(oc 8 2 k m||(oc 8 3 k m||(oc 9 1 k m||oc 10 1 k m)))))))))))))))))))))))))))))) ((br.mk 240 eB void void void,L)=aP L n k m) (aba (oc 1 1 k m) abI (aba (oc 2 1 k m) abI (aba (oc 2 2 k m) abI (aba (oc 2 3 k m) abI (aba (oc 2 4 k m) abI (aba (oc 2 5 k m) abI (aba (oc 2 6 k m) abI (aba (oc 3 1 k m) abI (aba (oc 3 2 k m) abI (aba (oc 3 3 k m) abI (aba (oc 3 4 k m) abI (aba (oc 3 5 k m) abI (aba (oc 4 1 k m) abI (aba (oc 4 2 k m) abI (aba (oc 4 3 k m) abI (aba (oc 4 4 k m) abI (aba (oc 4 5 k m) abI (aba (oc 4 6 k m) abI (aba (oc 5 1 k m) abI (aba (oc 5 2 k m) abI (aba (oc 5 3 k m) abI (aba (oc 5 4 k m) abI (aba (oc 5 5 k m) abI (aba (oc 5 6 k m) abI (aba (oc 5 7 k m) abI (aba (oc 8 1 k m) abI (aba (oc 8 2 k m) abI (aba (oc 8 3 k m) abI (aba (oc 9 1 k m) abI (aba (oc 10 1 k m) abI False)))))))))))))))))))))))))))))))))):=by
 delta aba abg abI abb
 have hX:aP L n k m=(gf 240,L):=by
  have hr:dG L n k m=(240,cY,L):=by
   unfold dG;rw[aa3 hz,aa3 hc,aa4 (by rcases hn with h|h;exact .inl h;exact .inr (.inl h))]
  simp[aP,ei,ey,hr]
 rw[hX]
 have hq:∀a b:Int,1<=b->b<=c9 a->oc a b k m=false:=fun a b h1 h2=>by
  cases h:oc a b k m with
  |false=>rfl
  |true=>
   unfold oc at h;simp only[aaX,aaY]at h;obtain⟨rfl,rfl⟩:=h;omega
 have f1_1:oc 1 1 k m=false:=hq 1 1 (by omega) (by decide)
 have f2_1:oc 2 1 k m=false:=hq 2 1 (by omega) (by decide)
 have f2_2:oc 2 2 k m=false:=hq 2 2 (by omega) (by decide)
 have f2_3:oc 2 3 k m=false:=hq 2 3 (by omega) (by decide)
 have f2_4:oc 2 4 k m=false:=hq 2 4 (by omega) (by decide)
 have f2_5:oc 2 5 k m=false:=hq 2 5 (by omega) (by decide)
 have f2_6:oc 2 6 k m=false:=hq 2 6 (by omega) (by decide)
 have f3_1:oc 3 1 k m=false:=hq 3 1 (by omega) (by decide)
 have f3_2:oc 3 2 k m=false:=hq 3 2 (by omega) (by decide)
 have f3_3:oc 3 3 k m=false:=hq 3 3 (by omega) (by decide)
 have f3_4:oc 3 4 k m=false:=hq 3 4 (by omega) (by decide)
 have f3_5:oc 3 5 k m=false:=hq 3 5 (by omega) (by decide)
 have f4_1:oc 4 1 k m=false:=hq 4 1 (by omega) (by decide)
 have f4_2:oc 4 2 k m=false:=hq 4 2 (by omega) (by decide)
 have f4_3:oc 4 3 k m=false:=hq 4 3 (by omega) (by decide)
 have f4_4:oc 4 4 k m=false:=hq 4 4 (by omega) (by decide)
 have f4_5:oc 4 5 k m=false:=hq 4 5 (by omega) (by decide)
 have f4_6:oc 4 6 k m=false:=hq 4 6 (by omega) (by decide)
 have f5_1:oc 5 1 k m=false:=hq 5 1 (by omega) (by decide)
 have f5_2:oc 5 2 k m=false:=hq 5 2 (by omega) (by decide)
 have f5_3:oc 5 3 k m=false:=hq 5 3 (by omega) (by decide)
 have f5_4:oc 5 4 k m=false:=hq 5 4 (by omega) (by decide)
 have f5_5:oc 5 5 k m=false:=hq 5 5 (by omega) (by decide)
 have f5_6:oc 5 6 k m=false:=hq 5 6 (by omega) (by decide)
 have f5_7:oc 5 7 k m=false:=hq 5 7 (by omega) (by decide)
 have f8_1:oc 8 1 k m=false:=hq 8 1 (by omega) (by decide)
 have f8_2:oc 8 2 k m=false:=hq 8 2 (by omega) (by decide)
 have f8_3:oc 8 3 k m=false:=hq 8 3 (by omega) (by decide)
 have f9_1:oc 9 1 k m=false:=hq 9 1 (by omega) (by decide)
 have f10_1:oc 10 1 k m=false:=hq 10 1 (by omega) (by decide)
 simp only[f1_1,f2_1,f2_2,f2_3,f2_4,f2_5,f2_6,f3_1,f3_2,f3_3,f3_4,f3_5,f4_1,f4_2,f4_3,f4_4,f4_5,f4_6,f5_1,f5_2,f5_3,f5_4,f5_5,f5_6,f5_7,f8_1,f8_2,f8_3,f9_1,f10_1];simp[hz,hc];rfl
theorem XG (L:List Sx.Obj) (n:Int) (k:Key) (m:br) (hL:ar L) (hs:aw m.data) (hz:¬k.kind=0) (hc:¬m.code=0) (hn:m.code<1\/c9 k.kind<m.code):an Tryz.prog 102 [.lp 0 0] [.ro (.blk oP (iR (.it .i64 m.code) m n (.it .i64 k.kind) k)),.store tS eS L] (kO (aP L n (k) (m))) (fun _ _=>False):=
 aY (inl:=(fun f=>f==131||f==142||f==152||f==146||f==202||f==185||f==227||f==177||f==148||f==174||f==173||f==132||f==144||f==184||f==188)) (ann:=aQ) (ae dw aq) aD (eP bX) (Wm L n k m hL hs hz hc hn) (by kernel_rfl)
theorem uk {L:List Sx.Obj} {n:Int} {k:Key} {m:br} {kd cd:Int} (hk:k.kind=kd) (hc:m.code=cd) (h:an Tryz.prog 102 [.lp 0 0] [.ro (.blk oP (iR (.ci .i64 cd) m n (.ci .i64 kd) k)),.store tS eS L] (kO (aP L n (kk kd k) (mm cd m))) (fun _ _=>False)):
  an Tryz.prog 102 [.lp 0 0] [.ro (.blk oP (iR (.it .i64 m.code) m n (.it .i64 k.kind) k)),.store tS eS L] (kO (aP L n k m)) (fun _ _=>False):=by
 rw[yb hk,H8 hc]at h;subst hk;subst hc;exact zL (c':= .ci .i64 m.code) (d':= .ci .i64 k.kind) (by simp) (fun _=>rfl) (fun _ h=>h) rfl (fun _=>rfl) (fun _ h=>h) rfl h
theorem Ui (L:List Sx.Obj) (n:Int) (k:Key) (m:br) (hL:ar L) (hs:aw m.data) (hk:aV k=true):an Tryz.prog 102 [.lp 0 0] [.ro (.blk oP (iR (.it .i64 m.code) m n (.it .i64 k.kind) k)),.store tS eS L] (kO (aP L n k m)) (fun _ _=>False):=by
 by_cases h0:k.kind=0
 ·have:=Yp L n k m hL hs;rw[yb h0]at this;exact zL (by simp) (fun _=>rfl) (fun _ h=>h) rfl (fun _=>by rw[h0];rfl) (fun _ h=>by rw[h0]at h;exact h) rfl this
 by_cases hc:m.code=0
 ·have:=Xv L n k m hL hs h0;rw[H8 hc]at this;exact zL (by simp) (fun _=>by rw[hc];rfl) (fun _ h=>by rw[hc]at h;exact h) rfl (fun _=>rfl) (fun _ h=>h) rfl this
 by_cases hn:m.code<1\/c9 k.kind<m.code
 ·exact XG L n k m hL hs h0 hc hn
 have hkd:k.kind=1\/k.kind=2\/k.kind=3\/k.kind=4\/k.kind=5\/k.kind=8\/k.kind=9\/k.kind=10:=by
  unfold c9 at hn;grind
 rcases hkd with e|e|e|e|e|e|e|e
 ·have hq:c9 k.kind=1:=by rw[e];decide
  have hcd:m.code=1:=by omega
  have f:=hcd
  ·exact uk e f (OZ L n k m hL hs)
 ·have hq:c9 k.kind=6:=by rw[e];decide
  have hcd:m.code=1\/m.code=2\/m.code=3\/m.code=4\/m.code=5\/m.code=6:=by omega
  rcases hcd with f|f|f|f|f|f
  ·exact uk e f (Oe L n k m hL hs)
  ·exact uk e f (OT L n k m hL hs)
  ·exact uk e f (Pq L n k m hL hs)
  ·exact uk e f (Py L n k m hL hs)
  ·exact uk e f (LV L n k m hL hs (by rw[yb e];exact hk))
  ·exact uk e f (Qz L n k m hL hs)
 ·have hq:c9 k.kind=5:=by rw[e];decide
  have hcd:m.code=1\/m.code=2\/m.code=3\/m.code=4\/m.code=5:=by omega
  rcases hcd with f|f|f|f|f
  ·exact uk e f (O7 L n k m hL hs)
  ·exact uk e f (KF L n k m hL hs)
  ·exact uk e f (Nr L n k m hL hs)
  ·exact uk e f (Pv L n k m hL hs)
  ·exact uk e f (N5 L n k m hL hs (by rw[yb e];exact hk))
 ·have hq:c9 k.kind=6:=by rw[e];decide
  have hcd:m.code=1\/m.code=2\/m.code=3\/m.code=4\/m.code=5\/m.code=6:=by omega
  rcases hcd with f|f|f|f|f|f
  ·exact uk e f (Oj L n k m hL hs)
  ·exact uk e f (L6 L n k m hL hs)
  ·exact uk e f (Of L n k m hL hs)
  ·exact uk e f (Pd L n k m hL hs)
  ·exact uk e f (Nf L n k m hL hs)
  ·exact uk e f (Qq L n k m hL hs)
 ·have hq:c9 k.kind=7:=by rw[e];decide
  have hcd:m.code=1\/m.code=2\/m.code=3\/m.code=4\/m.code=5\/m.code=6\/m.code=7:=by omega
  rcases hcd with f|f|f|f|f|f|f
  ·exact uk e f (MB L n k m hL hs)
  ·exact uk e f (MF L n k m hL hs)
  ·exact uk e f (O5 L n k m hL hs)
  ·exact uk e f (LH L n k m hL hs)
  ·exact uk e f (NI L n k m hL hs)
  ·exact uk e f (OA L n k m hL hs)
  ·exact uk e f (PS L n k m hL hs)
 ·have hq:c9 k.kind=3:=by rw[e];decide
  have hcd:m.code=1\/m.code=2\/m.code=3:=by omega
  rcases hcd with f|f|f
  ·exact uk e f (Lu L n k m hL hs)
  ·exact uk e f (Oh L n k m hL hs)
  ·exact uk e f (OW L n k m hL hs)
 ·have hq:c9 k.kind=1:=by rw[e];decide
  have hcd:m.code=1:=by omega
  have f:=hcd
  ·exact uk e f (K3 L n k m hL hs)
 ·have hq:c9 k.kind=1:=by rw[e];decide
  have hcd:m.code=1:=by omega
  have f:=hcd
  ·exact uk e f (J7 L n k m hL hs)
theorem FD:kJ Tryz.prog 102 Vj:=by
 intro args res K KP h;unfold Vj at h;split at h
 case h_2=>exact h.elim
 split at h
 case h_2=>exact h.elim
 rename_i j off;split at h
 case isFalse=>exact h.elim
 rename_i hoff;have hoff:=aaZ.1 hoff;subst hoff;split at h
 case h_2=>exact h.elim
 rename_i t c hj;split at h
 case isFalse=>exact h.elim
 rename_i ht;have ht:=aaZ.1 ht;subst ht;split at h
 case h_2=>exact h.elim
 split at h
 case h_2=>exact h.elim
 rename_i mv sv nv kv;split at h
 case h_2=>exact h.elim
 rename_i m hm;split at h
 case h_2=>exact h.elim
 rename_i i o2;split at h
 case isFalse=>exact h.elim
 rename_i hij;simp only[aaX,aaZ,Bool.not_eq_true',beq_eq_false_iff_ne,ne_eq]at hij;obtain⟨rfl,hij⟩:=hij;split at h
 case h_2=>exact h.elim
 rename_i n hn;split at h
 case h_2=>exact h.elim
 rename_i k hk;split at h
 case h_2=>exact h.elim
 rename_i t2 e L hi;split at h
 case isFalse=>exact h.elim
 rename_i hc;simp only[aaX,aaZ]at hc;obtain⟨rfl,rfl⟩:=hc;obtain⟨⟨hL,hs,hok⟩,h⟩:=h;have hkj:known res j:=by unfold known;rw[hj];simp
 have hki:known res i:=by unfold known;rw[hi];simp
 have hlj:=aO hkj;have hli:=aO hki;have hlj':cG res j= .blk oP (.ag [mv,.lp i 0,nv,kv]):=by unfold cG;rw[hj]
 have im:=u5 (κ:=k7 0 (dB [(j,false),(i,true)])) mv (Nt hm);have inn:=u5 (κ:=k7 0 (dB [(j,false),(i,true)])) nv (ry hn);have ik:=u5 (κ:=k7 0 (dB [(j,false),(i,true)])) kv (Ch hk);have il:fU (k7 0 (dB [(j,false),(i,true)])) (.lp i 0)=some (.lp 1 0):=by simp[fU,k7,idxOf,dB,Ne.symm hij]
 have hb:fU (k7 0 (dB [(j,false),(i,true)])) (.ag [mv,.lp i 0,nv,kv])=some (.ag [mv,.lp 1 0,nv,kv]):=by unfold fU;rw[lY im (lY il (lY inn (lY ik rfl)))]
 have hres:eV (k7 0 (dB [(j,false),(i,true)])) res [(j,false),(i,true)]= [.ro (.blk oP (.ag [mv,.lp 1 0,nv,kv])),.store tS eS L]:=by simp only[eV,hlj',hi,gm,hb];rfl
 refine an.frame (pl:= [(j,false),(i,true)]) (args0:= [.lp 0 0]) (K0:=kO (aP L n k m)) (KP0:=fun _ _=>False) (by simp[eH,cD.2 hkj,cD.2 hki]) (by simpa[iD,dB,nL]using⟨⟨hlj,hij⟩,hli⟩) (by simp[eO,fU,k7,idxOf,dB]) ?_ (fun v r hv=>?_) (fun _ _ h=>h.elim)
 ·rw[hres];exact KV (by simp) hm hn hk (Ui L n k m hL hs hok)
 ·obtain⟨h1,h2⟩:=WQ hv;have hm':merge [(j,false),(i,true)] [] r res=bO res i (.store tS eS (ey L n k m)):=by simp[merge,eZ,h2,gm,fZ,aP]
  exact⟨[],jG (ei L n k m),rfl,by simp[jP,h2,jI],rfl,jR.kf h1 rfl,by rw[hm'];exact h⟩
theorem GL (k:Key):
 (decide (bw k=0)&&(!ba k||decide (cw k<0)))=bK [] k:=by
 unfold bK bw cw ba bd;simp only[ai,List.length_nil];grind
theorem JT (L:List Sx.Obj) (k:Key):
 (decide (bw k=0)&&(!ba k||decide (cw k<ak L)))=bK L k:=by
 unfold bK bw cw ba bd ak;grind
theorem v7:cq Tryz.prog 101 Qd:=
 eW (aA tc (aA iF bW)) (fun _=>rfl) fun a hq hok=>by
  obtain⟨S,k,_⟩:=a;cases S with
  |none=>exact bj (inl:=bx) (ann:=aQ) (ae bC (ae gx (ae dH aq))) aD (GL k) (by kernel_rfl)
  |some L=>exact bj (inl:=bx) (ann:=aQ) (ae bC (ae gx (ae dH aq))) aD (JT L k) (by kernel_rfl)
theorem WN (n:Int) (k:Key) (m:br) (hs:aw m.data):
 (decide (0<=n)=true->aF IntKind.i64 (bN m.data))/\0=(aG [] n k m).code/\ByteArray.mk (Array.mk [])=(aG [] n k m).data/\void=(aG [] n k m).k0/\void=(aG [] n k m).k1/\void
  =(aG [] n k m).k2/\false=cX [] n k m/\1=cK [] n k m:=by
 have hin:aF .i64 (bN m.data):=by have:=hs;unfold aw at this;unfold aF bY bN;omega
 have e:cK [] n k m=1:=by unfold cK;rw[aa4 (show ai ([]:List Sx.Obj)=0 from rfl)]
 have e1:aG [] n k m=cY:=by unfold aG;rw[e];rfl
 have e2:cX [] n k m=false:=by unfold cX;rw[e];rfl
 rw[e1,e2,e];exact⟨fun _=>hin,rfl,rfl,rfl,rfl,rfl,rfl,rfl⟩
theorem Yi (n:Int) (k:Key) (m:br) (hs:aw m.data):
 (decide (0<=n)=true->aF IntKind.i64 (bN m.data))/\0=(aG [] n k m).code/\ByteArray.mk (Array.mk [])=(aG [] n k m).data/\void=(aG [] n k m).k0/\void=(aG [] n k m).k1/\void
  =(aG [] n k m).k2/\false=cX [] n k m/\1=cK [] n k m:=by
 have hin:aF .i64 (bN m.data):=by have:=hs;unfold aw at this;unfold aF bY bN;omega
 have e:cK [] n k m=1:=by unfold cK;rw[aa4 (show ai ([]:List Sx.Obj)=0 from rfl)]
 have e1:aG [] n k m=cY:=by unfold aG;rw[e];rfl
 have e2:cX [] n k m=false:=by unfold cX;rw[e];rfl
 rw[e1,e2,e];exact⟨fun _=>hin,rfl,rfl,rfl,rfl,rfl,rfl,rfl⟩
abbrev abK(m:br)(L:List Sx.Obj):=br.mk m.code m.data (ah L m.k0) (ah L m.k1) (ah L m.k2)
theorem YQ (L:List Sx.Obj) (n:Int) (k:Key) (m:br) (hL:ar L) (hs:aw m.data):
 (decide (0<=n)=true->aF IntKind.i64 (bN m.data))/\aba (decide (ak L=0)) ((0=(aG L n k m).code/\abJ=(aG L n k m).data/\void=(aG L n k m).k0/\void=(aG L n k m).k1/\void=(aG L n k m).k2/\false=cX L n k m/\1=cK L n k m)/\L=gY L n k m) (aba (!(decide (0<=n)&&decide (bN m.data<=32)&&bK L k&&bK L m.k0&&bK L m.k1&&bK L m.k2)) ((0=(aG L n k m).code/\abJ=(aG L n k m).data/\void=(aG L n k m).k0/\void=(aG L n k m).k1/\void=(aG L n k m).k2/\false=cX L n k m/\2=cK L n k m)/\L=gY L n k m) (aba (decide ((ah L k).kind=6)||decide ((ah L k).kind=7)) ((0=(aG L n k m).code/\abJ=(aG L n k m).data/\void=(aG L n k m).k0/\void=(aG L n k m).k1/\void=(aG L n k m).k2/\false=cX L n k m/\241=cK L n k m)/\L=gY L n k m) (true=true/\Vo L (ah L k) (abK m L)/\((ei L n (ah L k) (abK m L)).code=(aG L n k m).code/\(ei L n (ah L k) (abK m L)).data=(aG L n k m).data/\(ei L n (ah L k) (abK m L)).k0=(aG L n k m).k0/\(ei L n (ah L k) (abK m L)).k1=(aG L n k m).k1/\(ei L n (ah L k) (abK m L)).k2=(aG L n k m).k2/\(decide ((ah L k).kind=10)&&decide (m.code=1))=cX L n k m/\0=cK L n k m)/\ey L n (ah L k) (abK m L)=gY L n k m))):=by
 delta aba abJ abK
 have hcn:br.mk m.code m.data (ah L m.k0) (ah L m.k1) (ah L m.k2)=aH L m:=rfl;simp only[hcn];have hin:aF .i64 (bN m.data):=by have:=hs;unfold aw at this;unfold aF bY bN;omega
 have hf:(decide (0<=n)&&decide (bN m.data<=32)&&bK L k&&bK L m.k0&&bK L m.k1&&bK L m.k2)=qp L n k m:=by
  unfold qp fk;cases decide (0<=n)<;>cases decide (bN m.data<=32)<;>cases bK L k<;>cases bK L m.k0<;>cases bK L m.k1<;>cases bK L m.k2<;>rfl
 rw[hf];have hsz:ak L=0↔ai L=0:=by unfold ak;simp[bD]
 have no:∀e:Int,cK L n k m=e->e≠0->(0=(aG L n k m).code/\ByteArray.mk (Array.mk [])=(aG L n k m).data/\void=(aG L n k m).k0/\void=(aG L n k m).k1/\void=(aG L n k m).k2/\false=cX L n k m/\e=cK L n k m)/\L=gY L n k m:=fun e he h0=>by
  have e1:aG L n k m=cY:=by unfold aG;rw[he,aa3 h0]
  have e2:cX L n k m=false:=by unfold cX;rw[he];simp[h0]
  have e3:gY L n k m=L:=by unfold gY;rw[he,aa3 h0]
  rw[e1,e2,e3,he];exact⟨⟨rfl,rfl,rfl,rfl,rfl,rfl,rfl⟩,rfl⟩
 refine⟨fun _=>hin,fun h=>?_,fun h=>⟨fun h2=>?_,fun h2=>⟨fun h3=>?_,fun h3=>?_⟩⟩⟩
 ·have h:=hsz.1 (by simpa using h)
  exact no 1 (by unfold cK;rw[aa4 h]) (by omega)
 ·have h:¬ai L=0:=fun e=>by simp[hsz.2 e]at h
  have h2:qp L n k m=false:=by simpa using h2
  exact no 2 (by unfold cK;rw[aa3 h,aa4 h2]) (by omega)
 ·have h:¬ai L=0:=fun e=>by simp[hsz.2 e]at h
  have h2:qp L n k m=true:=by simpa using h2
  have h3:(ah L k).kind=6\/(ah L k).kind=7:=by simpa using h3
  exact no 241 (by unfold cK;rw[aa3 h,aa3 (by simp[h2]),aa4 h3]) (by omega)
 ·have h:¬ai L=0:=fun e=>by simp[hsz.2 e]at h
  have h2:qp L n k m=true:=by simpa using h2
  have h3:¬((ah L k).kind=6\/(ah L k).kind=7):=by simpa using h3
  have he:cK L n k m=0:=by unfold cK;rw[aa3 h,aa3 (by simp[h2]),aa3 h3]
  have e1:aG L n k m=ei L n (ah L k) (aH L m):=by unfold aG;rw[aa4 he]
  have e2:cX L n k m=(decide ((ah L k).kind=10)&&decide (m.code=1)):=by unfold cX;rw[he];rfl
  have e3:gY L n k m=ey L n (ah L k) (aH L m):=by unfold gY;rw[aa4 he]
  rw[e1,e2,e3,he];exact⟨trivial,⟨hL,hs,tC⟩,⟨rfl,rfl,rfl,rfl,rfl,rfl,rfl⟩,rfl⟩
theorem ZO (L:List Sx.Obj) (n:Int) (k:Key) (m:br) (hL:ar L) (hs:aw m.data):an Tryz.prog 61 [.lp 0 0,.it .i64 n,.key k,jG m] [.store tS eS L] (C5 (.tp [jG (aG L n k m),.bo (cX L n k m),.it .i64 (cK L n k m)]) (gY L n k m)) (fun _ _=>False):=
 bj (inl:=bx) (ann:=(iu [(61,3,MV 4)])) (ae bC (ae ia (ae v7 aq))) (aB FD aD) (YQ L n k m hL hs) (by kernel_rfl)
theorem Zb:kJ Tryz.prog 61 aaE:=
 Ci (m:=fun x=>Ox.cn x 0) (fL HP (fun _=>rfl)) (fun _=>rfl) (fun _ _=>rfl) (fun x hs=>bj (inl:=bx) (ann:=(iu [(61,3,MV 4)])) (ae rW (ae ia (ae v7 aq))) (aB FD aD) (WN x.1 x.2.1 x.2.2.1 hs) (by kernel_rfl)) (fun x hs=>bj (inl:=bx) (ann:=(iu [(61,3,MV 4)])) (ae rW (ae ia (ae v7 aq))) (aB FD aD) (Yi x.1 x.2.1 x.2.2.1 hs) (by kernel_rfl)) fun L x hq=>ZO L x.1 x.2.1 x.2.2.1 hq.1 hq.2
end Go.Proofs.YtlblcfaclmpekaaGreat
namespace Go.Sx
structure iW where
 kind:Int
 proc:Int
 reg:Int
 mode:Int
 code:Int
 data:ByteArray
 s0:Int
 s1:Int
 s2:Int
 num:Bool
 val:Int
def Kn (o:iW):V:= .ag [.it .i64 o.kind,.it .i64 o.proc,.it .i64 o.reg,.it .i64 o.mode,.it .i64 o.code,.st o.data,.ag [.it .i64 o.s0,.it .i64 o.s1,.it .i64 o.s2],.bo o.num,.it .i64 o.val]
structure Dn where
 out:Int
 proc:Int
 err:Int
 ans:br
 wants:Bool
def YH (d:Dn):V:= .ag [.it .i64 d.out,.it .i64 d.proc,.it .i64 d.err,jG d.ans,.bo d.wants]
def ZN:Dn:=⟨0,0,0,cY,false⟩
def ug (n:Int):Bool:=decide (0<=n)&&decide (n<12)
def gQ (n:Int):Bool:=decide (n= -1)||ug n
def er (o:iW) (now:Int):Bool:=
 if o.kind=2 then decide (0<=o.val)&&decide (o.val<=1099511627776)&&decide (now<=4611686018427387904-o.val)
 else decide (o.kind=1)&&decide (1<=o.mode)&&decide (o.mode<=3)&&decide (bN o.data<=32)&&ug o.reg&&gQ o.s0&&gQ o.s1&&gQ o.s2
def oi (o:Obj) (n:Int):Key:=if n<0 then void else o.slots.at (4+n).toNat
def bR (o:Obj) (p:iW):br:=⟨p.code,p.data,oi o p.s0,oi o p.s1,if p.num=true then cJ p.val else oi o p.s2⟩
def bZ (L:List Obj):List Int:=dJ L (bD (ai L))
def aX (L:List Obj) (p:iW):Int:=aj (bZ L) ((p.proc.tmod (ai (bZ L):Int)+(ai (bZ L):Int)).tmod (ai (bZ L):Int)).toNat 0
def cR (L:List Obj) (p:iW):Key:=ah L ((aL L (aX L p)).slots.at (4+p.reg).toNat)
def bL (L:List Obj) (p:iW):br:=bR (aL L (aX L p)) p
def rB (L:List Obj) (p:iW):Bool:=decide ((cR L p).kind=6)||decide ((cR L p).kind=7)
def iC (L:List Obj) (n:Int) (p:iW):List Obj:=gY L n (cR L p) (bL L p)
def xc (L:List Obj) (n:Int) (p:iW):List Obj:=
 if dP (iC L n p) (aX L p)=true/\iE (iC L n p) (aX L p)=1 then
  if p.mode=1 then gr (iC L n p) (aX L p) (aG L n (cR L p) (bL L p))else if p.mode=3 then dg (iC L n p) (aX L p) 0 else iC L n p
 else iC L n p
def dM (L:List Obj) (n:Int) (p:iW):List Obj:=
 if er p n=true/\¬p.kind=2/\¬ai (bZ L)=0 then
  if rB L p=true then fe L (aX L p) (cR L p) p.mode (bL L p)else xc L n p
 else L
def jh (n:Int) (p:iW):Int:=if er p n=true/\p.kind=2 then n+p.val else n
def oq (n:Int) (p:iW):Int:=if er p n=true then 0 else 2
def aT (L:List Obj) (n:Int) (p:iW):Dn:=
 if er p n=true then
  if p.kind=2 then⟨5,0,0,cY,false⟩
  else if ai (bZ L)=0 then⟨1,0,0,cY,false⟩
  else if rB L p=true then
   if b6 L (aX L p) (cR L p) p.mode (bL L p)=0 then⟨2,aX L p,0,cY,false⟩else⟨3,aX L p,b6 L (aX L p) (cR L p) p.mode (bL L p),cY,false⟩
  else⟨4,aX L p,0,aG L n (cR L p) (bL L p),cX L n (cR L p) (bL L p)⟩
 else ZN
def gN (n:Int):Prop:=0<=n/\n<=4611686018427387904
abbrev si:Nat:=85
def n8 (s:Nat) (n:Int):V:= .ag [.lp s 0,.it .i64 n]
def K4 (c:V):Option (Nat×Int):=
 match c with
 | .ag m=>match m with
   | [p,y]=>match p with
     | .lp s off=>match rI .i64 y with
       |some n=>if off==0 then some (s,n)else none
       |none=>none
     |_=>none
   |_=>none
 |_=>none
def sdA:Arg (Int×Int×Int×Unit):=YL (bc iA (bc iA (bc iA gK)))
theorem VH:mU sdA:=Gf (aA dO (aA dO (aA dO bW)))
abbrev OpT:Type:=Int×Int×Int×Int×Int×ByteArray×(Int×Int×Int×Unit)×Bool×Int×Unit
def opA:Arg OpT:=YL (bc iA (bc iA (bc iA (bc iA (bc iA (bc zA (bc sdA (bc bA (bc iA gK)))))))))
theorem Gu:mU opA:=Gf (aA dO (aA dO (aA dO (aA dO (aA dO (aA Zd (aA VH (aA DI (aA dO bW)))))))))
def wx (x:OpT):iW:=⟨x.1,x.2.1,x.2.2.1,x.2.2.2.1,x.2.2.2.2.1,x.2.2.2.2.2.1,x.2.2.2.2.2.2.1.1,x.2.2.2.2.2.2.1.2.1,x.2.2.2.2.2.2.1.2.2.1,x.2.2.2.2.2.2.2.1,x.2.2.2.2.2.2.2.2.1⟩
def JQ:ld (OpT×Unit):=bc opA gK
theorem F8:gR JQ:=aA Gu bW
theorem wN {c:V} {s:Nat} {n:Int} (h:K4 c=some (s,n)):∃y,c= .ag [.lp s 0,y]/\rI .i64 y=some n:=by
 unfold K4 at h;repeat' (first| (split at h<;>try(simp at h;done))|skip)
 rename_i y n' hn ho;simp only[aaV,aaW]at h;obtain⟨rfl,rfl⟩:=h;have:=aaZ.1 ho;subst this;exact⟨_,rfl,hn⟩
theorem an.Wv {P:Program} {f:Nat} {rest:List V} {res:List aK} {K KP:V->List aK->Prop} {b s tm t e:Nat} {L M:List Obj} {n n':Int} {x:V}
  (hb:ay res b= .blk tm (n8 s n)) (hs:ay res s= .store t e L) (hid:lf rest=true) (hx:kf x=true)
  (h:an P f (.lp 0 0::rest) [.blk tm (n8 1 n),.store t e L] (fun v r=>xj x v r/\ay r 0= .blk tm (n8 1 n')/\ay r 1= .store t e M) (fun _ _=>False))
  (hK:K x (bO (bO res b (.blk tm (n8 s n'))) s (.store t e M))):an P f (.lp b 0::rest) res K KP:=by
 have hkb:known res b:=by unfold known;rw[hb];simp
 have hks:known res s:=by unfold known;rw[hs];simp
 have hlb:=aO hkb;have hls:=aO hks;have hne:b≠s:=fun e=>by rw[e,hs]at hb;simp at hb
 refine an.frame (pl:= [(b,true),(s,true)]) (args0:= .lp 0 0::rest) (K0:=fun v r=>xj x v r/\ay r 0= .blk tm (n8 1 n')/\ay r 1= .store t e M) (KP0:=fun _ _=>False)
  (by simp[eH,cD.2 hkb,cD.2 hks]) (by simp[iD,dB,nL,hlb,hls,hne,Ne.symm hne]) ?_ ?_ (fun v r hv=>?_) (fun _ _ h=>h.elim)
 ·simp only[eO,fU,k7,idxOf,dB];rw[jt rest hid];simp
 ·have:eV (k7 0 (dB [(b,true),(s,true)])) res [(b,true),(s,true)]= [.blk tm (n8 1 n),.store t e L]:=by simp[eV,hb,hs,gm,n8,fU,eO,k7,idxOf,dB,hne,Ne.symm hne]
  rw[this];exact h
 ·obtain⟨h1,h2,h3⟩:=hv;have hm:merge [(b,true),(s,true)] [] r res=bO (bO res b (.blk tm (n8 s n'))) s (.store t e M):=by simp[merge,eZ,h2,h3,gm,fZ,n8,fU,eO,back,uN]
  exact⟨[],x,rfl,by simp[jP,h2,h3,jI],rfl,jR.kf h1 hx,by rw[hm];exact hK⟩
theorem an.mcN {P:Program} {f:Nat} {args:List V} {res:List aK} {K KP:V->List aK->Prop} {b s tm:Nat} {y:V} {n:Int} (hb:ay res b= .blk tm (.ag [.lp s 0,y])) (hy:rI .i64 y=some n)
  (h:an P f args (bO res b (.blk tm (n8 s n))) K KP):an P f args res K KP:=by
 have hkb:known res b:=by unfold known;rw[hb];simp
 have hlb:=aO hkb
 have hkn:∀i,known (bO res b (.blk tm (n8 s n))) i↔known res i:=fun i=>by
  unfold known;rw[bJ _ _ _ _ hlb];by_cases e:i=b
  ·subst e;rw[aa4 rfl,hb];simp
  ·rw[aa3 e]
 have hK:known (bO res b (.blk tm (n8 s n)))=known res:=by funext i;exact propext (hkn i)
 obtain⟨r1,r2⟩:=gi .i64 y n hy;refine h.tx fun J fps w0 F0 w hH=>⟨J,fps,hH.weaken (fun i hi=>⟨(hkn i).1 hi,fun fp hh=>?_⟩),Env.bE.refl _ _,fun i hi=>(hkn i).2 hi⟩
 rw[hK,bJ _ _ _ _ hlb];by_cases e:i=b
 ·subst e;rw[aa4 rfl];rw[hb]at hh;obtain⟨h1,h2,h3,h4⟩:=hh;have hd:=r1 J;refine⟨?_,rfl,h3,?_⟩
  ·exact⟨⟨h1.1.1,fQ (r2 _ h1.1.2.1),trivial⟩,trivial,trivial,trivial⟩
  ·rw[h4];simp only[cells,n8,den,bp,Value.cells,hd]
 ·rw[aa3 e];exact hh
def Es:Ct:=s6 (bc opA (bc iA gK)) (fun x=>some (aw x.1.2.2.2.2.2.1/\gN x.2.1)) fun x=> .bo (er (wx x.1) x.2.1)
def X2:Ct:=s6 (bc oA JQ) (fun x=>some (gQ (wx x.2.1).s0=true/\gQ (wx x.2.1).s1=true/\gQ (wx x.2.1).s2=true)) fun x=>jG (bR x.1 (wx x.2.1))
def hMc (Q:List Obj->Int->iW->Prop) (F:List Obj->Int->iW->V) (N:Int->iW->Int) (M:List Obj->Int->iW->List Obj):ke:=fun args res K=>
 match args with
 |a::l=>match um JQ l with
  |some x=>match a with
   | .lp b off=>if off==0 then match ay res b with
     | .blk t c=>match K4 c with
       |some (s,n)=>match ay res s with
        | .store ts e L=>if t==si&&ts==tS&&e==eS then Q L n (wx x.1)/\K (F L n (wx x.1)) (bO (bO res b (.blk si (n8 s (N n (wx x.1))))) s (.store tS eS (M L n (wx x.1))))else False
        |_=>False
       |none=>False
     |_=>False
     else False
   |_=>False
  |none=>False
 |_=>False
def Yd (L:List Obj) (n:Int) (p:iW):Prop:=ar L/\aw p.data/\gN n
def VB:ke:=hMc Yd (fun L n p=> .tp [YH (aT L n p),.it .i64 (oq n p)]) jh dM
def V1:ke:=hMc (fun L n p=>Yd L n p/\er p n=true/\p.kind=1) (fun L n p=>YH (aT L n p)) (fun n _=>n) dM
def mcX (c:V):Option Int:=
 match c with
 | .ag q=>match q with
   | [p,y]=>match p with
     | .lp s off=>match y with
       | .it k n=>match k with
         | .i64=>if s==1&&off==0 then some n else none
         |_=>none
       |_=>none
     |_=>none
   |_=>none
 |_=>none
theorem ER {c:V} {n:Int} (h:mcX c=some n):c=n8 1 n:=by
 unfold mcX at h;split at h
 case h_2=>simp at h
 split at h
 case h_2=>simp at h
 split at h
 case h_2=>simp at h
 split at h
 case h_2=>simp at h
 split at h
 case h_2=>simp at h
 split at h
 case isFalse=>simp at h
 rename_i hc;simp only[aaX,aaZ]at hc;obtain⟨rfl,rfl⟩:=hc;simp only[aaV]at h;subst h;rfl
def mcS (r:aK) (m:Int):Prop:=
 match r with
 | .blk t c=>match mcX c with
   |some n=>if t==si then n=m else False
   |none=>False
 |_=>False
theorem SV {r:aK} {m:Int} (h:mcS r m):r= .blk si (n8 1 m):=by
 unfold mcS at h;split at h
 case h_2=>exact h.elim
 split at h
 case h_2=>exact h.elim
 rename_i n hn;split at h
 case isFalse=>exact h.elim
 rename_i ht;have ht:=aaZ.1 ht;subst ht;subst h;rw[ER hn]
def kMc (x:V) (n:Int) (M:List Obj) (v:V) (r:List aK):Prop:=
 match ay r 1 with
 | .store t e L=>if t==tS&&e==eS then mcS (ay r 0) n/\oD x v r/\L=M else False
 |_=>False
theorem Ra {x:V} {n:Int} {M:List Obj} {v:V} {r:List aK} (h:kMc x n M v r):xj x v r/\ay r 0= .blk si (n8 1 n)/\ay r 1= .store tS eS M:=by
 unfold kMc at h;split at h
 ·rename_i hr;split at h
  ·rename_i hc;simp only[aaX,aaZ]at hc;obtain⟨rfl,rfl⟩:=hc;obtain⟨h1,h2,rfl⟩:=h;exact⟨dE h2,SV h1,hr⟩
  ·exact h.elim
 ·exact h.elim
theorem Lw {P:Program} {f:Nat} {Q:List Obj->Int->iW->Prop} {F:List Obj->Int->iW->V} {N:Int->iW->Int} {M:List Obj->Int->iW->List Obj} (hF:∀L n p,kf (F L n p)=true)
  (h:∀L n p,Q L n p->an P f [.lp 0 0,Kn p] [.blk si (n8 1 n),.store tS eS L] (kMc (F L n p) (N n p) (M L n p)) (fun _ _=>False)):kJ P f (hMc Q F N M):=by
 intro args res K KP hh;unfold hMc at hh;split at hh
 case h_2=>exact hh.elim
 split at hh
 case h_2=>exact hh.elim
 rename_i x hx;split at hh
 case h_2=>exact hh.elim
 rename_i b off;split at hh
 case isFalse=>exact hh.elim
 rename_i ho;have ho:=aaZ.1 ho;subst ho;split at hh
 case h_2=>exact hh.elim
 rename_i t c hb;split at hh
 case h_2=>exact hh.elim
 rename_i s n hc;split at hh
 case h_2=>exact hh.elim
 rename_i ts e L hs;split at hh
 case isFalse=>exact hh.elim
 rename_i ht;simp only[aaX,aaZ]at ht;obtain⟨⟨rfl,rfl⟩,rfl⟩:=ht;obtain⟨hq,hK⟩:=hh;obtain⟨y,rfl,hy⟩:=wN hc;have hkb:known res b:=by unfold known;rw[hb];simp
 have hlb:=aO hkb;refine an.args (fc.jH (fL F8 (fun _=>rfl) _ _ hx)) ?_
 refine an.mcN hb hy ?_;have hne:b≠s:=fun e=>by rw[e,hs]at hb;simp at hb
 refine an.Wv (rest:=JQ.cn x 0) (by rw[bJ _ _ _ _ hlb,aa4 rfl]) (by rw[bJ _ _ _ _ hlb,aa3 (Ne.symm hne)];exact hs) rfl (hF _ _ _) ((h L n (wx x.1) hq).mono (fun _ _ hv=>Ra hv) fun _ _ h=>h) ?_
 have:∀(l:List aK) (i:Nat) (a b:aK),bO (bO l i a) i b=bO l i b:=fun l i a b=>by rw[kH,kH,kH,List.set_set]
 rw[this];exact hK
structure Pac where
 kind:Int
 oid:Int
 key:Key
 mode:Int
 state:Int
 msg:br
theorem NO {L:List Obj} {i:Int} {k:Key} {md:Int} {m:br} (h:lM L i k md m=false):fe L i k md m=L:=by
 unfold lM at h;unfold fe;rw[aa3 (aa0 h)]
theorem X5 {L:List Obj} {i:Int} {m:br} (h:o7 L i m=false):gr L i m=L:=by
 unfold o7 at h;unfold gr;rw[aa3 (aa0 h)]
theorem Bj {L:List Obj} (h:ar L):iq L:=by have:=gy h;unfold iq;omega
def XR:ld (Key×Int×Key×Unit):=bc kA (bc iA (bc kA gK))
theorem Tr:gR XR:=aA iF (aA dO (aA iF bW))
def CV:ld (Key×br×Int×Unit):=bc kA (bc mA (bc iA gK))
theorem ye:gR CV:=aA iF (aA zM (aA dO bW))
def iI (L:List Obj) (k:Key) (i:Int) (v:Key):Bool:=decide (bk L k i v=0)
def mw (L:List Obj) (k:Key):Bool:=decide (aC L k 2 true=0)
def kK (L:List Obj) (t f:Key):Bool:=decide (bS L t f=0)
def mr (L:List Obj) (k:Key):Bool:=decide (aW L k true=0)
def mJ (L:List Obj) (t f:Key):Bool:=decide (cS L t f=0)
def Tk:Ct:=s6 (bc As (bc kA (bc iA gK))) (fun _=>none) fun x=> .tp [.key (aJ x.1 x.2.1 x.2.2.1),.it .i64 (bV x.1 x.2.1 x.2.2.1)]
def UB:ke:=Ar (um XR) (fun L _=>ar L) (fun L x=>iI L x.1 x.2.1 x.2.2.1) (fun L x=>cA L x.1 x.2.1 x.2.2.1) fun L x=> [.key (cU L x.1 x.2.1 x.2.2.1),.it .i64 (bk L x.1 x.2.1 x.2.2.1)]
def SD:ke:=Ar (um kB) (fun L _=>ar L) (fun L x=>mw L x.1) (fun L x=>fG L x.1) fun L x=> [.it .i64 (aC L x.1 2 true)]
def QP:ke:=Ar (um O2) (fun L _=>ar L) (fun L x=>kK L x.1 x.2.1) (fun L x=>eQ L x.1 x.2.1) fun L x=> [.it .i64 (bS L x.1 x.2.1)]
def K8:Ct:=s6 (bc As (bc kA (bc iA (bc iA gK)))) (fun x=>some (ar x.1)) fun x=> .tp [.st (dY x.1 x.2.1 x.2.2.1 x.2.2.2.1),.it .i64 (cy x.1 x.2.1 x.2.2.1 x.2.2.2.1)]
def TA:ke:=Ar (um kB) (fun L _=>ar L) (fun L x=>mr L x.1) (fun L x=>fl L x.1) fun L x=> [.it .i64 (aW L x.1 true)]
def VS:ke:=Ar (um O2) (fun L _=>ar L) (fun L x=>mJ L x.1 x.2.1) (fun L x=>fA L x.1 x.2.1) fun L x=> [.it .i64 (cS L x.1 x.2.1)]
def kg (L:List Obj) (k:Key) (m:br):Bool:=
 if m.code=1 then false else if m.code=2 then iI L k (aS m) m.k0 else if m.code=3 then mw L k else if m.code=4 then kK L k m.k0 else false
def kV (L:List Obj) (k:Key) (m:br):Bool:=
 if m.code=1 then false else if m.code=2 then ki L k (aS m) m.data else if m.code=3 then mr L k else if m.code=4 then mJ L k m.k0 else false
def gJ (L:List Obj) (k:Key) (m:br):Bool:=
 if m.code=1 then gF L k 1 else if m.code=2 then gF L k 2 else if m.code=3 then jM L k m.k0 else if m.code=4 then kZ L k (aS m)else if m.code=5 then false else kR L k
def ij (L:List Obj) (k:Key) (m:br):Bool:=
 if m.code=1 then false else if m.code=2 then(if aS m<0\/11<aS m then false else iI L (fj k) (aS m+4) m.k0)else if m.code=3 then false else if m.code=4 then false
 else if m.code=5 then kq L k.oid (aS m)else if m.code=6 then false else lW L (fK L k) m.k2.value (bN m.data) true
def tq (L:List Obj) (k:Key) (m:br):Bool:=
 if k.kind=1 then false else if k.kind=2 then kg L k m else if k.kind=3 then kV L k m else if k.kind=4 then gJ L k m else if k.kind=5 then ij L k m else false
def vE (L:List Obj) (k:Key) (m:br):Bool:=
 if k.kind=0 then false else if m.code=0 then false else if m.code<1\/c9 k.kind<m.code\/(cW k.kind m.code=true/\m.k2.kind≠1)then false else tq L k m
def fx (L:List Obj) (n:Int) (k:Key) (m:br):Bool:=decide (cK L n k m=0)&&vE L (ah L k) (aH L m)
def mF (L:List Obj) (k:Key) (m:br) (i:Int):Prop:=ar L/\aw m.data/\aV k=true/\i=aS m
def ym (d:Int):Prop:=0<=d/\d<=10
def SU:Ct:=s6 (bc iA gK) (fun x=>some (ym x.1)) fun x=> .it .i64 (c9 x.1)
def R6:Ct:=QK (rI .i64) (rI .i64) fun a b=> .bo (cW a b)
def cj (L:List Obj) (k:Key) (m:br):br:=if(m.code=1\/m.code=2\/m.code=3\/m.code=4)\/(eo L k m).1=0 then(eo L k m).2.1 else cY
def cT (L:List Obj) (k:Key) (m:br):br:=if(m.code=1\/m.code=2\/m.code=3\/m.code=4)\/(ep L k m).1=0 then(ep L k m).2.1 else cY
def bh (L:List Obj) (k:Key) (m:br):br:=(dA L k m).2.1
def bH (L:List Obj) (k:Key) (m:br):br:=if(m.code=1\/m.code=2)/\(aS m<0\/11<aS m)then cY else(dr L k m).2.1
theorem Na {L:List Obj} {k:Key} {m:br} (h:(eo L k m).1=0):cj L k m=(eo L k m).2.1:=by unfold cj;rw[aa4 (.inr h)]
theorem KK {L:List Obj} {k:Key} {m:br} (h:(ep L k m).1=0):cT L k m=(ep L k m).2.1:=by unfold cT;rw[aa4 (.inr h)]
theorem Qm {L:List Obj} {k:Key} {m:br} (h:(dr L k m).1=0):bH L k m=(dr L k m).2.1:=by
 unfold bH;split
 ·rename_i hh;unfold dr at h;obtain⟨h1|h1,h2⟩:=hh
  ·rw[aa4 h1,aa4 h2]at h;simp at h
  ·rw[aa3 (by omega),aa4 h1,aa4 h2]at h;simp at h
 ·rfl
theorem Di {m:br}: -1<=aS m/\aS m<=2147483647:=by unfold aS;split<;>omega
theorem PH {m:br}:(0<=aS m/\aS m<=7/\aS m=m.k2.value/\0<=m.k2.value/\m.k2.value<=7)\/((aS m<0\/7<aS m)/\¬(0<=m.k2.value/\m.k2.value<=7)):=by unfold aS;split<;>omega
def RE:ke:=Ar (um CV) (fun L x=>mF L x.1 x.2.1 x.2.2.1) (fun L x=>kg L x.1 x.2.1) (fun L x=>(eo L x.1 x.2.1).2.2) fun L x=> [jG (cj L x.1 x.2.1),.it .i64 (eo L x.1 x.2.1).1]
def SH:ke:=Ar (um CV) (fun L x=>mF L x.1 x.2.1 x.2.2.1) (fun L x=>kV L x.1 x.2.1) (fun L x=>(ep L x.1 x.2.1).2.2) fun L x=> [jG (cT L x.1 x.2.1),.it .i64 (ep L x.1 x.2.1).1]
def LU:ke:=Ar (um CV) (fun L x=>mF L x.1 x.2.1 x.2.2.1) (fun L x=>gJ L x.1 x.2.1) (fun L x=>(dA L x.1 x.2.1).2.2) fun L x=> [jG (bh L x.1 x.2.1),.it .i64 (dA L x.1 x.2.1).1]
def Uw:ke:=Ar (um CV) (fun L x=>mF L x.1 x.2.1 x.2.2.1) (fun L x=>ij L x.1 x.2.1) (fun L x=>(dr L x.1 x.2.1).2.2) fun L x=> [jG (bH L x.1 x.2.1),.it .i64 (dr L x.1 x.2.1).1]
def ZF:ke:=Ar (um Ox) (fun L x=>ar L/\aw x.2.2.1.data) (fun L x=>fx L x.1 x.2.1 x.2.2.1) (fun L x=>gY L x.1 x.2.1 x.2.2.1) fun L x=> [jG (aG L x.1 x.2.1 x.2.2.1),.bo (cX L x.1 x.2.1 x.2.2.1),.it .i64 (cK L x.1 x.2.1 x.2.2.1)]
def xe (L:List Obj) (n:Int) (k:Key) (m:br):Prop:=
 (ar L/\aw m.data)/\cK L n k m=0/\¬(ah L k).kind=0/\¬m.code=0/\¬(m.code<1\/c9 (ah L k).kind<m.code\/(cW (ah L k).kind m.code=true/\(aH L m).k2.kind≠1))
theorem Md {L:List Obj} {n:Int} {k:Key} {m:br} {e:Int} (h:cK L n k m=e) (h0:e≠0):fx L n k m=false/\aG L n k m=cY/\cX L n k m=false/\e=cK L n k m:=by
 refine⟨?_,?_,?_,h.symm⟩
 ·unfold fx;rw[h];simp[h0]
 ·unfold aG;rw[h,aa3 h0]
 ·unfold cX;rw[h];simp[h0]
theorem Db {L:List Obj} {n:Int} {k:Key} {m:br} {c:Bool} {r:LA} (h:cK L n k m=0) (hr:dG L n (ah L k) (aH L m)=r) (hc:vE L (ah L k) (aH L m)=c):
  fx L n k m=c/\aG L n k m=(if r.1=0 then r.2.1 else gf r.1)/\gY L n k m=r.2.2/\cX L n k m=(decide ((ah L k).kind=10)&&decide (m.code=1))/\0=cK L n k m:=by
 refine⟨?_,?_,?_,?_,h.symm⟩
 ·unfold fx;rw[h,hc];rfl
 ·unfold aG ei;rw[aa4 h,hr]
 ·unfold gY ey;rw[aa4 h,hr]
 ·unfold cX;rw[h];rfl
theorem S0 {L:List Obj} {n:Int} {k:Key} {m:br} (h:xe L n k m):dG L n (ah L k) (aH L m)=eJ L n (ah L k) (aH L m)/\vE L (ah L k) (aH L m)=tq L (ah L k) (aH L m):=by
 obtain⟨_,h0,h1,h2,h3⟩:=h;have h2':¬(aH L m).code=0:=h2;have h3':¬((aH L m).code<1\/c9 (ah L k).kind<(aH L m).code\/(cW (ah L k).kind (aH L m).code=true/\(aH L m).k2.kind≠1)):=h3;unfold dG vE;rw[aa3 h1,aa3 h2',aa3 h3',aa3 h1,aa3 h2',aa3 h3'];exact⟨rfl,rfl⟩
theorem Za {L:List Obj} {n:Int} {k:Key} {m:br} (h:xe L n k m):(decide ((ah L k).kind=10)&&decide (m.code=1))=decide ((ah L k).kind=10):=by
 obtain⟨_,h0,h1,h2,h3⟩:=h;by_cases hk:(ah L k).kind=10
 ·have:c9 (ah L k).kind=1:=by rw[hk];rfl
  have:m.code=1:=by omega
  simp[this]
 ·simp[hk]
theorem Rw {L:List Obj} {n:Int} {k:Key} {m:br} {c:Bool} {r:LA} (h:xe L n k m) (hr:eJ L n (ah L k) (aH L m)=r) (hc:tq L (ah L k) (aH L m)=c):
  fx L n k m=c/\aG L n k m=(if r.1=0 then r.2.1 else gf r.1)/\gY L n k m=r.2.2/\cX L n k m=decide ((ah L k).kind=10)/\0=cK L n k m:=by
 obtain⟨e1,e2⟩:=S0 h;obtain⟨a1,a2,a3,a4,a5⟩:=Db h.2.1 (e1.trans hr) (e2.trans hc);exact⟨a1,a2,a3,a4.trans (Za h),a5⟩
theorem Sv {L:List Obj} {n:Int} {k:Key} {m:br} (h:(decide (n<0)|| !bK L k|| !fk L m)=true):qp L n k m=false:=by
 unfold qp;cases hm:bK L k<;>cases hm2:fk L m<;>simp_all<;>omega
theorem LL {L:List Obj} {n:Int} {k:Key} {m:br} (h:(decide (n<0)|| !bK L k|| !fk L m)=false):¬qp L n k m=false:=by
 unfold qp;cases hm:bK L k<;>cases hm2:fk L m<;>simp_all<;>omega
theorem HX {L:List Obj} {k:Key} {kind:Int} (h:gF L k kind=false):ft L k kind=L:=by
 unfold gF at h;unfold ft;split
 ·rename_i he;rw[decide_eq_true he,Bool.true_and]at h;unfold lH at h;simp only[Bool.or_eq_false_iff,Bool.not_eq_false',aaY]at h;unfold cH;rw[aa4 h.1,Ap h.2]
 ·rfl
theorem QO {L:List Obj} {k:Key} (h:kR L k=false):g9 L k=L:=by
 unfold kR at h;unfold g9;split
 ·rename_i he;rw[decide_eq_true he,Bool.true_and]at h;simp only[Bool.not_eq_false',aaY]at h;exact zh h
 ·rfl
theorem WD {L:List Obj} {k:Key} {n:Int} (h:kZ L k n=false):bF L k n=L:=by
 unfold kZ at h;unfold bF;rw[aa3 (aa0 h)]
theorem Sp {L:List Obj} {k v:Key} (h:jM L k v=false):gB L k v=L:=by
 unfold jM at h;unfold gB;rw[aa3 (aa0 h)]
theorem WC {L:List Obj} {k:Key} {n:Int} (h:b7 L k n=0):aN L k=0/\0<=gu L k:=by
 have he:aN L k=0:=Decidable.byContradiction fun he=>by
  rw[zI he]at h;exact he h
 refine⟨he,?_⟩;unfold b7 at h;split at h
 ·split at h
  ·omega
  ·rename_i h';omega
 ·rename_i h';exact absurd h h'
theorem PG {L:List Obj} {k:Key} (hL:ar L):ar (g9 L k):=by
 unfold g9;split
 ·exact HL hL fun o ho=>yv ho
 ·exact hL
theorem Rd {L:List Obj} {k v:Key} (hL:ar L):ar (gB L k v):=by
 unfold gB;split
 ·by_cases h:v.oid.toNat<L.length
  ·exact lF hL (yv (dq hL _ h))
  ·have:cz L v.oid.toNat (Am (aj L v.oid.toNat free))=L:=by unfold cz;exact List.set_eq_of_length_le (by omega)
   rw[this];exact hL
 ·exact hL
theorem WB {L:List Obj} {k:Key} {n:Int} (hL:ar L):ar (bF L k n):=by
 by_cases h:b7 L k n=0
 ·exact(Ql hL (WC h).1 h).1
 ·unfold bF;rw[aa3 h];exact hL
theorem CM {L:List Obj} {k:Key} {b:Bytes} (hL:ar L) (h:aU L k=true) (h2:k.kind=3):ar (tA L k b):=(rk hL h h2).2.2
theorem Hg {L:List Obj} {a:ZK} (hL:ar L) (h:Dd L a=true):ar (Li L a):=by
 unfold Dd at h;unfold Li;split at h
 ·simp at h
 ·rename_i h1;rw[aa3 h1];split at h
  ·rename_i h2;rw[aa4 h2];have h:=aa1 h
   have hp:aW L a.key true=0:=by
    unfold cN at h;split at h
    ·assumption
    ·rename_i h3;exact absurd h h3
   obtain⟨a1,a2,_⟩:=m5 hp;unfold eX;rw[aa4 h];exact CM hL a1 a2
  ·rename_i h2;rw[aa3 h2];split at h
   ·rename_i h3;rw[aa4 h3];have h:=aa1 h;obtain⟨a1,a2,_⟩:=m5 h;unfold fl;rw[aa4 h];exact CM hL a1 a2
   ·rename_i h3;rw[aa3 h3];have h:=aa1 h
    have hp:aW L a.key true=0:=by
     unfold cS at h;split at h
     ·assumption
     ·rename_i h3;exact absurd h h3
    obtain⟨a1,a2,_⟩:=m5 hp;unfold fA;rw[aa4 h];exact CM hL a1 a2
theorem Ee {L:List Obj} {k v:Key} {i:Int} (hL:ar L):ar (cA L k i v):=by
 by_cases h:bk L k i v=0
 ·exact zw (a:=⟨2,i,k,v⟩) hL (by simp[z7,h])
 ·unfold cA;rw[aa3 h];exact hL
theorem Mz {L:List Obj} {k:Key} (hL:ar L):ar (fG L k):=by
 by_cases h:aC L k 2 true=0
 ·exact zw (a:=⟨3,0,k,k⟩) hL (by simp[z7,h])
 ·unfold fG;rw[aa3 h];exact hL
theorem Ow {L:List Obj} {t f:Key} (hL:ar L):ar (eQ L t f):=by
 by_cases h:bS L t f=0
 ·exact zw (a:=⟨4,0,t,f⟩) hL (by simp[z7,h])
 ·unfold eQ;rw[aa3 h];exact hL
theorem OQ {L:List Obj} {k:Key} (hL:ar L):ar (fl L k):=by
 by_cases h:aW L k true=0
 ·exact Hg (a:=⟨3,0,0,k,k,⟨#[]⟩⟩) hL (by simp[Dd,h])
 ·unfold fl;rw[aa3 h];exact hL
theorem SC {L:List Obj} {t f:Key} (hL:ar L):ar (fA L t f):=by
 by_cases h:cS L t f=0
 ·exact Hg (a:=⟨4,0,0,t,f,⟨#[]⟩⟩) hL (by simp[Dd,h])
 ·unfold fA;rw[aa3 h];exact hL
theorem fo {c:Prop} [Decidable c] {a b:LA} (ha:ar a.2.2) (hb:ar b.2.2):ar (if c then a else b).2.2:=by split<;>assumption
theorem ZB {L:List Obj} {k:Key} {m:br} (hL:ar L):ar (eo L k m).2.2:=by
 unfold eo;exact fo hL (fo (Ee hL) (fo (Mz hL) (fo (Ow hL) (fo hL hL))))
theorem aaj {L:List Obj} {k:Key} {m:br} (hL:ar L):ar (ep L k m).2.2:=by
 unfold ep;exact fo hL (fo (HZ hL) (fo (OQ hL) (fo (SC hL) hL)))
theorem aaw {L:List Obj} {k:Key} {m:br} (hL:ar L):ar (dA L k m).2.2:=by
 unfold dA;exact fo (Ij hL) (fo (Ij hL) (fo (Rd hL) (fo (WB hL) (fo hL (PG hL)))))
theorem Zp {L:List Obj} {k:Key} {m:br} (hL:ar L):ar (dr L k m).2.2:=by
 have hC:ar (if aS m<0\/11<aS m then L else cA L (fj k) (aS m+4) m.k0):=by
  split
  ·exact hL
  ·exact Ee hL
 unfold dr;exact fo hL (fo hC (fo hL (fo hL (fo (FT hL) (fo hL (VR hL))))))
theorem Yn {L:List Obj} {n:Int} {k:Key} {m:br} (hL:ar L):ar (eJ L n k m).2.2:=by
 unfold eJ;exact fo hL (fo (ZB hL) (fo (aaj hL) (fo (aaw hL) (fo (Zp hL) (fo hL (fo hL hL))))))
theorem Fv {L:List Obj} {k v:Key} {i:Int} (h:iI L k i v=false):cA L k i v=L:=by unfold iI at h;unfold cA;rw[aa3 (aa0 h)]
theorem Qj {L:List Obj} {k:Key} (h:mw L k=false):fG L k=L:=by unfold mw at h;unfold fG;rw[aa3 (aa0 h)]
theorem MH {L:List Obj} {t f:Key} (h:kK L t f=false):eQ L t f=L:=by unfold kK at h;unfold eQ;rw[aa3 (aa0 h)]
theorem RP {L:List Obj} {k:Key} {i:Int} {s:ByteArray} (h:ki L k i s=false):eX L k i s=L:=by unfold ki at h;unfold eX;rw[aa3 (aa0 h)]
theorem PO {L:List Obj} {k:Key} (h:mr L k=false):fl L k=L:=by unfold mr at h;unfold fl;rw[aa3 (aa0 h)]
theorem Sd {L:List Obj} {t f:Key} (h:mJ L t f=false):fA L t f=L:=by unfold mJ at h;unfold fA;rw[aa3 (aa0 h)]
theorem G8 {L:List Obj} {i st:Int} (h:kq L i st=false):dg L i st=L:=by unfold kq at h;unfold dg;rw[aa3 (aa0 h)]
theorem fV {c:Prop} [Decidable c] {a b:LA} {x y:Bool} {L:List Obj} (ha:x=false->a.2.2=L) (hb:y=false->b.2.2=L) (h:(if c then x else y)=false):(if c then a else b).2.2=L:=by
 by_cases hc:c
 ·rw[aa4 hc]at h⊢;exact ha h
 ·rw[aa3 hc]at h⊢;exact hb h
theorem Y0 {L:List Obj} {k:Key} {m:br}:kg L k m=false->(eo L k m).2.2=L:=by
 unfold kg eo;exact fV (fun _=>rfl) (fV Fv (fV Qj (fV MH (fun _=>by split<;>rfl))))
theorem ZR {L:List Obj} {k:Key} {m:br}:kV L k m=false->(ep L k m).2.2=L:=by
 unfold kV ep;exact fV (fun _=>rfl) (fV RP (fV PO (fV Sd (fun _=>rfl))))
theorem aaq {L:List Obj} {k:Key} {m:br}:gJ L k m=false->(dA L k m).2.2=L:=by
 unfold gJ dA;exact fV HX (fV HX (fV Sp (fV WD (fV (fun _=>rfl) QO))))
theorem aac {L:List Obj} {k:Key} {m:br}:ij L k m=false->(dr L k m).2.2=L:=by
 unfold ij dr;refine fV (fun _=>rfl) (fV (fun h=>?_) (fV (fun _=>rfl) (fV (fun _=>rfl) (fV G8 (fV (fun _=>rfl) XX)))))
 show(if aS m<0\/11<aS m then L else cA L (fj k) (aS m+4) m.k0)=L
 by_cases hc:aS m<0\/11<aS m
 ·rw[aa4 hc]
 ·rw[aa3 hc]at h⊢;exact Fv h
theorem XW {L:List Obj} {n:Int} {k:Key} {m:br}:tq L k m=false->(eJ L n k m).2.2=L:=by
 unfold tq eJ
 exact fV (fun _=>rfl) (fV Y0 (fV ZR (fV aaq (fV aac (fun _=>by repeat' split
                                                                all_goals rfl)))))
theorem Xo {L:List Obj} {n:Int} {k:Key} {m:br} (hL:ar L):ar (ey L n k m):=by
 unfold ey dG;exact fo hL (fo hL (fo hL (Yn hL)))
theorem FR {L:List Obj} {n:Int} {k:Key} {m:br} (hL:ar L):ar (gY L n k m):=by
 unfold gY;split
 ·exact Xo hL
 ·exact hL
theorem V6 {L:List Obj} {n:Int} {k:Key} {m:br} (h:fx L n k m=false):gY L n k m=L:=by
 unfold fx at h;unfold gY;by_cases he:cK L n k m=0
 ·rw[he]at h;rw[aa4 he];have h:vE L (ah L k) (aH L m)=false:=by simpa using h
  unfold vE at h;unfold ey dG;exact fV (fun _=>rfl) (fV (fun _=>rfl) (fV (fun _=>rfl) XW)) h
 ·rw[aa3 he]
structure Aok where
 key:Key
 msg:br
 now:Int
section
variable {L:List Obj} {n:Int} {k:Key} {m:br} {p:iW}
theorem Uc (b:Bytes) (lo hi:Nat):(xC b lo hi).size<=64:=by rw[JX];omega
theorem DP {i x:Int}:(dY L k i x).size<=64:=by
 unfold dY;split
 ·exact Uc _ _ _
 ·exact Nat.zero_le _
theorem XH {i x:Int}:(jU L k i x).size<=64:=by
 unfold jU;split
 ·exact DP
 ·exact Nat.zero_le _
theorem SS:(eo L k m).2.1.data.size<=64:=by unfold eo;(repeat' split)<;>exact Nat.zero_le _
theorem Um:(ep L k m).2.1.data.size<=64:=by unfold ep;(repeat' split)<;>first|exact DP|exact Nat.zero_le _
theorem Rn:(dA L k m).2.1.data.size<=64:=by unfold dA;(repeat' split)<;>exact Nat.zero_le _
theorem S1:(dr L k m).2.1.data.size<=64:=by
 unfold dr;by_cases h1:m.code=1
 ·rw[aa4 h1];exact Nat.zero_le _
 rw[aa3 h1];by_cases h2:m.code=2
 ·rw[aa4 h2];exact Nat.zero_le _
 rw[aa3 h2];by_cases h3:m.code=3
 ·rw[aa4 h3];exact Nat.zero_le _
 rw[aa3 h3];by_cases h4:m.code=4
 ·rw[aa4 h4];exact Nat.zero_le _
 rw[aa3 h4];by_cases h5:m.code=5
 ·rw[aa4 h5];exact Nat.zero_le _
 rw[aa3 h5];by_cases h6:m.code=6
 ·rw[aa4 h6];exact XH
 rw[aa3 h6];exact Nat.zero_le _
theorem Wc:(aG L n k m).data.size<=64:=by
 have hB:∀k m,(eJ L n k m).2.1.data.size<=64:=fun k m=>by
  unfold eJ;split
  ·exact Nat.zero_le _
  split
  ·exact SS
  split
  ·exact Um
  split
  ·exact Rn
  split
  ·exact S1
  split
  ·show(if m.code=1 then fq m.k0.kind else if m.code=2 then fq (dZ (kU m.k0 m.k1))else fq m.k0.rights).data.size<=64
   split
   ·exact Nat.zero_le _
   ·split<;>exact Nat.zero_le _
  ·split<;>exact Nat.zero_le _
 have hR:∀k m,(dG L n k m).2.1.data.size<=64:=fun k m=>by
  unfold dG;split
  ·exact Nat.zero_le _
  split
  ·exact Nat.zero_le _
  split
  ·exact Nat.zero_le _
  ·exact hB k m
 unfold aG;split
 ·unfold ei;split
  ·exact hR _ _
  ·exact Nat.zero_le _
 ·exact Nat.zero_le _
theorem Cv:aw (aG L n k m).data:=by have:=Wc (L:=L) (n:=n) (k:=k) (m:=m);unfold aw;omega
theorem wQ (hL:ar L) (h0:¬ai (bZ L)=0):let N:Int:=(ai (bZ L):Int);N<=64/\N≠0/\(-64<=p.proc.tmod N/\p.proc.tmod N<=64)/\(0<=(p.proc.tmod N+N).tmod N/\(p.proc.tmod N+N).tmod N<N):=by
 intro N
 have h1:ai (bZ L)<=L.length:=by
  have:=Ed L (bD (ai L));have e:(bD (ai L)).toNat=L.length:=by unfold bD ai;omega
  rw[e]at this;exact this
 have h2:=gy hL;have hN:0<N:=by show(0:Int)<(ai (bZ L):Int);omega
 have hN2:N<=64:=by show(ai (bZ L):Int)<=64;omega
 have a1:=Int.tmod_lt_of_pos p.proc hN;have a2:=Int.lt_tmod_of_pos p.proc hN;refine⟨hN2,by omega,⟨by omega,by omega⟩,Int.tmod_nonneg _ (by omega),Int.tmod_lt_of_pos _ hN⟩
theorem BH (h:er p n=true) (hk:p.kind=1):(1<=p.mode/\p.mode<=3)/\(0<=p.reg/\p.reg<12)/\(gQ p.s0=true/\gQ p.s1=true/\gQ p.s2=true):=by
 unfold er at h;rw[aa3 (by omega)]at h
 simp only[aaX,aaY]at h;obtain⟨⟨⟨⟨⟨⟨⟨a,b⟩,c⟩,d⟩,e⟩,f⟩,g⟩,h⟩:=h;unfold ug at e;simp only[aaX,aaY]at e;exact⟨⟨b,c⟩,e,f,g,h⟩
end
def ng:iW:=⟨0,0,0,0,0,⟨#[]⟩,0,0,0,false,0⟩
def lG (x:List iW):TL:= .fn (ai x) fun i=>Kn (aj x i ng)
def xw (x:List iW):Nat->V:=fun i=>Kn (aj x i ng)
def opD (v:V):Int:=match v with
 | .ag l=>match l with
   | [_,_,_,_,_,s,_,_,_]=>match s with
     | .st b=>bN b
     |_=>0
   |_=>0
 |_=>0
def opL:Arg TL:=laA 11 some id
theorem Wo:mU opL:=Wx fun l x h=>by simpa using h
def Eb (n:Nat) (F:Nat->V):Nat->Bool
 |0=>false
 |j+1=>Eb n F j||(decide (j<n)&&decide (100<opD (F j)))
def qB (l:TL):Bool:=match l with
 | .fn n F=>decide (40<bD n)||Eb n F n
 |_=>false
def wI (x:List iW):Prop:=∀i,i<ai x->aw (aj x i ng).data
def L8 (l:TL):Prop:=∃x:List iW,l=lG x/\wI x
def aav:Ct:=s6 (bc opL gK) (fun x=>some (L8 x.1)) fun x=> .bo (qB x.1)
def xW (x:List iW) (g:Int):Prop:=0<=g/\g<=(ai x:Int)/\Eb (ai x) (fun i=>Kn (aj x i ng)) g.toNat=false
theorem X7 {x:List iW} (h:qB (lG x)=false):¬40<bD (ai x):=by
 unfold qB lG at h;simp only[Bool.or_eq_false_iff,decide_eq_false_iff_not]at h;exact h.1
theorem DY {n:Nat} {F:Nat->V} {j:Nat} (hj:j<n) (h:100<opD (F j)):∀k,j<k->Eb n F k=true
 |0,hk=>by omega
 |k+1,hk=>by
  unfold Eb;by_cases e:j=k
  ·subst e;simp[hj,h]
  ·rw[DY hj h k (by omega)];rfl
theorem Jr {n:Nat} {F:Nat->V} {j:Nat} (h0:Eb n F j=false) (h:¬100<opD (F j)):Eb n F (j+1)=false:=by
 unfold Eb;simp[h0,h]
def aax:Obj:=Obj.mk 1 1 free.calls ((((((free.slots.put 2 (Key.mk 1 void.oid void.count void.call void.rights 1)).put 4 (Key.mk 4 1 1 void.call void.rights void.value)).put 5 (Key.mk 8 void.oid void.count void.call void.rights void.value)).put 6 (Key.mk 9 void.oid void.count void.call void.rights void.value)).put 7 (Key.mk 10 void.oid void.count void.call void.rights void.value)).put 8 (Key.mk 5 0 1 void.call void.rights void.value)) free.bytes
def aak (x:Int):Obj:=Obj.mk 1 1 free.calls ((free.slots.put 0 (Key.mk 1 void.oid void.count void.call void.rights 2)).put 1 (Key.mk 1 void.oid void.count void.call void.rights x)) free.bytes
def xJ (n:Int):List Obj:=cM (cM (mG n) 0 aax) 1 (aak (n-1))
end Go.Sx
namespace Go.Proofs.YtlblcfaclmpekaaGreat
open Go.Sx
abbrev acd(p:iW)(n:Int):=aba (!decide (p.s2= -1)) (true=true/\aba (!(decide (0<=p.s2)&&decide (p.s2<12))) (false=er p n) (true=er p n)) (true=er p n)
abbrev ace(p:iW)(n:Int):=aba (!decide (p.s1= -1)) (true=true/\aba (!(decide (0<=p.s1)&&decide (p.s1<12))) (false=er p n) (acd p n)) (acd p n)
theorem IV (p:iW) (n:Int) (hs:aw p.data) (hn:gN n):
 aba (decide (p.kind=2)) (((decide (0<=p.val)&&decide (p.val<=1099511627776))=true->abd (4611686018427387904-p.val))/\(decide (0<=p.val)&&decide (p.val<=1099511627776)&&decide (n<=4611686018427387904-p.val))=er p n) (((!(!decide (p.kind=1)||decide (p.mode<1)||decide (3<p.mode)))=true->abd (bN p.data))/\aba (!decide (p.kind=1)||decide (p.mode<1)||decide (3<p.mode)||decide (32<bN p.data)) (false=er p n) (true=true/\aba (!(decide (0<=p.reg)&&decide (p.reg<12))) (false=er p n) (aba (!decide (p.s0= -1)) (true=true/\aba (!(decide (0<=p.s0)&&decide (p.s0<12))) (false=er p n) (ace p n)) (ace p n)))):=by
 delta aba ace acd abd
 have hz:(bD (ai ([]:List Int)))=0:=rfl;have h1:aF IntKind.i64 (bN p.data):=by unfold aw at hs;simp only[aF,bY,bN];omega
 have c0:gQ p.s0=(decide (p.s0= -1)||(decide (0<=p.s0)&&decide (p.s0<12))):=rfl
 have c1:gQ p.s1=(decide (p.s1= -1)||(decide (0<=p.s1)&&decide (p.s1<12))):=rfl
 have c2:gQ p.s2=(decide (p.s2= -1)||(decide (0<=p.s2)&&decide (p.s2<12))):=rfl
 unfold er;refine⟨fun hk=>⟨fun hv=>?_,?_⟩,fun hk=>⟨fun _=>h1,fun hb=>?_,fun hb=>⟨rfl,fun hr=>?_,fun hr=>?_⟩⟩⟩
 ·simp only[aaX,aaY]at hv;simp only[aF,bY];omega
 ·rw[aa4 (aa1 hk)]
 all_goals rw[aa3 (aa0 hk),c0,c1,c2]
 ·simp only[Bool.or_eq_true,Bool.not_eq_true',aaY,decide_eq_false_iff_not]at hb;symm
  simp only[Bool.and_eq_false_iff,decide_eq_false_iff_not];omega
 all_goals
  simp only[Bool.or_eq_false_iff,Bool.not_eq_false',aaY,decide_eq_false_iff_not]at hb;obtain⟨⟨⟨b1,b2⟩,b3⟩,b4⟩:=hb;have e1:decide (p.kind=1)=true:=decide_eq_true b1;have e2:decide (1<=p.mode)=true:=decide_eq_true (by omega)
  have e3:decide (p.mode<=3)=true:=decide_eq_true (by omega)
  have e4:decide (bN p.data<=32)=true:=decide_eq_true (by omega)
  have cr:ug p.reg=(decide (0<=p.reg)&&decide (p.reg<12)):=rfl;rw[e1,e2,e3,e4,cr];generalize (decide (0<=p.reg)&&decide (p.reg<12))=r at *
  generalize (decide (0<=p.s0)&&decide (p.s0<12))=a0 at *
  generalize (decide (0<=p.s1)&&decide (p.s1<12))=a1 at *
  generalize (decide (0<=p.s2)&&decide (p.s2<12))=a2 at *
  generalize decide (p.s0= -1)=d0 at *
  generalize decide (p.s1= -1)=d1 at *
  generalize decide (p.s2= -1)=d2 at *
  clear c0 c1 c2 cr;revert hr
  cases r<;>cases a0<;>cases a1<;>cases a2<;>cases d0<;>cases d1<;>cases d2<;>simp
theorem IW:cq Tryz.prog 37 Es:=
 eW (aA Gu (aA dO bW)) (fun _=>rfl) fun a hq hok=>by
  obtain⟨x,n,_⟩:=a;exact aZ (inl:=(fun f=>f==56)) (ann:=(iu [(37,6,MV 4)])) aq (IV (wx x) n hq.1 hq.2) (by kernel_rfl)
abbrev acf(p:iW)(o:Sx.Obj):=p.code=(bR o p).code/\p.data=(bR o p).data/\o.slots.at (4+p.s0).toNat=(bR o p).k0/\o.slots.at (4+p.s1).toNat=(bR o p).k1/\abg p.val=(bR o p).k2
abbrev acg(p:iW)(o:Sx.Obj):=p.code=(bR o p).code/\p.data=(bR o p).data/\void=(bR o p).k0/\o.slots.at (4+p.s1).toNat=(bR o p).k1/\abg p.val=(bR o p).k2
abbrev ach(p:iW)(o:Sx.Obj):=p.code=(bR o p).code/\p.data=(bR o p).data/\o.slots.at (4+p.s0).toNat=(bR o p).k0/\void=(bR o p).k1/\abg p.val=(bR o p).k2
abbrev aci(p:iW)(o:Sx.Obj):=p.code=(bR o p).code/\p.data=(bR o p).data/\void=(bR o p).k0/\void=(bR o p).k1/\abg p.val=(bR o p).k2
theorem Sz (o:Sx.Obj) (p:iW) (h0:gQ p.s0=true) (h1:gQ p.s1=true) (h2:gQ p.s2=true):
 abb (aba (decide (p.s0<0)) (abb (aba (decide (p.s1<0)) (abb (aba (decide (p.s2<0)) (aba p.num (aci p o) (p.code=(bR o p).code/\p.data=(bR o p).data/\void=(bR o p).k0/\void=(bR o p).k1/\void=(bR o p).k2)) (abd (4+p.s2)/\(0<=4+p.s2/\4+p.s2< ↑16)/\aba p.num (aci p o) (p.code=(bR o p).code/\p.data=(bR o p).data/\void=(bR o p).k0/\void=(bR o p).k1/\o.slots.at (4+p.s2).toNat=(bR o p).k2)))) (abd (4+p.s1)/\(0<=4+p.s1/\4+p.s1< ↑16)/\abb (aba (decide (p.s2<0)) (aba p.num (acg p o) (p.code=(bR o p).code/\p.data=(bR o p).data/\void=(bR o p).k0/\o.slots.at (4+p.s1).toNat=(bR o p).k1/\void=(bR o p).k2)) (abd (4+p.s2)/\(0<=4+p.s2/\4+p.s2< ↑16)/\aba p.num (acg p o) (p.code=(bR o p).code/\p.data=(bR o p).data/\void=(bR o p).k0/\o.slots.at (4+p.s1).toNat=(bR o p).k1/\o.slots.at (4+p.s2).toNat=(bR o p).k2)))))) (abd (4+p.s0)/\(0<=4+p.s0/\4+p.s0< ↑16)/\abb (aba (decide (p.s1<0)) (abb (aba (decide (p.s2<0)) (aba p.num (ach p o) (p.code=(bR o p).code/\p.data=(bR o p).data/\o.slots.at (4+p.s0).toNat=(bR o p).k0/\void=(bR o p).k1/\void=(bR o p).k2)) (abd (4+p.s2)/\(0<=4+p.s2/\4+p.s2< ↑16)/\aba p.num (ach p o) (p.code=(bR o p).code/\p.data=(bR o p).data/\o.slots.at (4+p.s0).toNat=(bR o p).k0/\void=(bR o p).k1/\o.slots.at (4+p.s2).toNat=(bR o p).k2)))) (abd (4+p.s1)/\(0<=4+p.s1/\4+p.s1< ↑16)/\abb (aba (decide (p.s2<0)) (aba p.num (acf p o) (p.code=(bR o p).code/\p.data=(bR o p).data/\o.slots.at (4+p.s0).toNat=(bR o p).k0/\o.slots.at (4+p.s1).toNat=(bR o p).k1/\void=(bR o p).k2)) (abd (4+p.s2)/\(0<=4+p.s2/\4+p.s2< ↑16)/\aba p.num (acf p o) (p.code=(bR o p).code/\p.data=(bR o p).data/\o.slots.at (4+p.s0).toNat=(bR o p).k0/\o.slots.at (4+p.s1).toNat=(bR o p).k1/\o.slots.at (4+p.s2).toNat=(bR o p).k2))))))):=by
 delta aba abg aci ach acg acf abd abb
 have key:∀s,gQ s=true->s<0\/(¬s<0/\aF IntKind.i64 (4+s)/\(0<=4+s/\4+s<16)):=fun s hs=>by
  unfold gQ ug at hs;simp only[Bool.or_eq_true,aaX,aaY]at hs;simp only[aF,bY];omega
 have hq:cJ p.val=Key.mk 1 void.oid void.count void.call void.rights p.val:=rfl;unfold bR oi;rw[hq]
 rcases key p.s0 h0 with a0|⟨a0,f0,g0,i0⟩<;>rcases key p.s1 h1 with a1|⟨a1,f1,g1,i1⟩<;>rcases key p.s2 h2 with a2|⟨a2,f2,g2,i2⟩<;>cases hn:p.num<;>simp only[*,decide_true,decide_false,if_true,if_false,true_and,and_true,and_self,Bool.false_eq_true,Bool.true_eq_false,false_implies,true_implies,implies_true,reduceCtorEq]<;>(repeat' apply And.intro)<;>omega
theorem R5:cq Tryz.prog 59 X2:=
 eW (aA Pk F8) (fun _=>rfl) fun a hq hok=>by
  obtain⟨o,x,_⟩:=a;exact aZ (inl:=(fun f=>f==89)) (ann:=(iu [(59,4,MV 4)])) aq (Sz o (wx x) hq.1 hq.2.1 hq.2.2) (by kernel_rfl)
abbrev acj(L:List Sx.Obj)(n:Int)(p:iW):=4=(aT L n p).out/\aX L p=(aT L n p).proc/\0=(aT L n p).err/\(aG L n (cR L p) (bL L p)).code=(aT L n p).ans.code/\(aG L n (cR L p) (bL L p)).data=(aT L n p).ans.data/\(aG L n (cR L p) (bL L p)).k0=(aT L n p).ans.k0/\(aG L n (cR L p) (bL L p)).k1=(aT L n p).ans.k1/\(aG L n (cR L p) (bL L p)).k2=(aT L n p).ans.k2/\cX L n (cR L p) (bL L p)=(aT L n p).wants
abbrev ack(p:iW)(L:List Sx.Obj):=p.proc.tmod (bD (ai (bZ L)))+bD (ai (bZ L))
theorem Rh (L:List Sx.Obj) (n:Int) (p:iW) (hq:Yd L n p/\er p n=true/\p.kind=1):
 abb (iq L/\(true=false->False)/\(true=true->aba (decide (bD (ai (bZ L))=0)) (n=n/\(1=(aT L n p).out/\0=(aT L n p).proc/\0=(aT L n p).err/\0=(aT L n p).ans.code/\abJ=(aT L n p).ans.data/\void=(aT L n p).ans.k0/\void=(aT L n p).ans.k1/\void=(aT L n p).ans.k2/\false=(aT L n p).wants)/\L=dM L n p) ((ny (bD (ai (bZ L)))/\abd (p.proc.tmod (bD (ai (bZ L)))))/\abd (ack p L)/\(ny (bD (ai (bZ L)))/\abd ((ack p L).tmod (bD (ai (bZ L)))))/\(0<=(ack p L).tmod (bD (ai (bZ L)))/\(ack p L).tmod (bD (ai (bZ L)))< ↑(ai (bZ L)))/\((ack p L).tmod (bD (ai (bZ L)))).toNat<ai (bZ L)/\abd (4+p.reg)/\(0<=4+p.reg/\4+p.reg< ↑16)/\(gQ p.s0=true/\gQ p.s1=true/\gQ p.s2=true)/\aba (decide ((cR L p).kind=6)||decide ((cR L p).kind=7)) (abb (aw (bL L p).data/\(ar L/\aw (bL L p).data)/\aba (!decide (b6 L (aX L p) (cR L p) p.mode (bL L p)=0)) (n=n/\(3=(aT L n p).out/\aX L p=(aT L n p).proc/\b6 L (aX L p) (cR L p) p.mode (bL L p)=(aT L n p).err/\0=(aT L n p).ans.code/\abJ=(aT L n p).ans.data/\void=(aT L n p).ans.k0/\void=(aT L n p).ans.k1/\void=(aT L n p).ans.k2/\false=(aT L n p).wants)/\fe L (aX L p) (cR L p) p.mode (bL L p)=dM L n p) (n=n/\(2=(aT L n p).out/\aX L p=(aT L n p).proc/\0=(aT L n p).err/\0=(aT L n p).ans.code/\abJ=(aT L n p).ans.data/\void=(aT L n p).ans.k0/\void=(aT L n p).ans.k1/\void=(aT L n p).ans.k2/\false=(aT L n p).wants)/\fe L (aX L p) (cR L p) p.mode (bL L p)=dM L n p))) (abb (aw (bL L p).data/\(ar L/\aw (bL L p).data)/\aba (dP (iC L n p) (aX L p)&&decide (iE (iC L n p) (aX L p)=1)) (aba (decide (p.mode=1)) (abb (aw (aG L n (cR L p) (bL L p)).data/\(ar (iC L n p)/\aw (aG L n (cR L p) (bL L p)).data)/\n=n/\(acj L n p)/\gr (iC L n p) (aX L p) (aG L n (cR L p) (bL L p))=dM L n p)) (aba (decide (p.mode=3)) (abb (ar (iC L n p)/\n=n/\(acj L n p)/\dg (iC L n p) (aX L p) 0=dM L n p)) (n=n/\(acj L n p)/\iC L n p=dM L n p))) (n=n/\(acj L n p)/\iC L n p=dM L n p)))))):=by
 delta aba abJ ack acj abd abb
 obtain⟨⟨hL,hs,hn⟩,hr,hk⟩:=hq;obtain⟨hm,⟨r0,r1⟩,hsd⟩:=BH hr hk;have nk2:¬p.kind=2:=by omega
 have hnn:bD (ai (bZ L))=(ai (bZ L):Int):=rfl;refine⟨rfl,Bj hL,fun h=>by simp at h,fun _=>⟨fun h=>?_,fun h=>?_⟩⟩
 ·have h0:ai (bZ L)=0:=by have:=aa1 h;rw[hnn]at this;omega
  have e1:aT L n p=⟨1,0,0,cY,false⟩:=by unfold aT;rw[aa4 hr,aa3 nk2,aa4 h0]
  have e2:dM L n p=L:=by unfold dM;rw[aa3 (fun h=>h.2.2 h0)]
  rw[e1,e2];exact⟨rfl,(by(repeat' apply And.intro)<;>rfl),rfl⟩
 have h0:¬ai (bZ L)=0:=by have:=aa0 h;rw[hnn]at this;omega
 obtain⟨f1,f2,f3,f4⟩:=wQ (p:=p) hL h0
 have eD:aT L n p=if rB L p=true then(if b6 L (aX L p) (cR L p) p.mode (bL L p)=0 then⟨2,aX L p,0,cY,false⟩else⟨3,aX L p,b6 L (aX L p) (cR L p) p.mode (bL L p),cY,false⟩)
   else⟨4,aX L p,0,aG L n (cR L p) (bL L p),cX L n (cR L p) (bL L p)⟩:=by unfold aT;rw[aa4 hr,aa3 nk2,aa3 h0]
 have eL:dM L n p=if rB L p=true then fe L (aX L p) (cR L p) p.mode (bL L p)else xc L n p:=by unfold dM;rw[aa4 ⟨hr,nk2,h0⟩]
 have h1:ar (iC L n p):=FR hL;rw[hnn];refine⟨⟨f2,by simp only[aF,bY];omega⟩,by simp only[aF,bY];omega,⟨f2,by simp only[aF,bY];omega⟩,f4,by omega,by simp only[aF,bY];omega,⟨by omega,by omega⟩,hsd,fun hc=>?_,fun hc=>?_⟩
 ·have hC:rB L p=true:=hc;rw[eD,eL,aa4 hC,aa4 hC];refine⟨rfl,hs,⟨hL,hs⟩,fun he=>?_,fun he=>?_⟩
  ·have he:¬b6 L (aX L p) (cR L p) p.mode (bL L p)=0:=by simpa using he
   rw[aa3 he];exact⟨rfl,(by(repeat' apply And.intro)<;>rfl),rfl⟩
  ·have he:b6 L (aX L p) (cR L p) p.mode (bL L p)=0:=by simpa using he
   rw[aa4 he];exact⟨rfl,(by(repeat' apply And.intro)<;>rfl),rfl⟩
 ·have hC:¬rB L p=true:=by
   have:rB L p=false:=hc;rw[this];simp
  rw[eD,eL,aa3 hC,aa3 hC]
  have e2:xc L n p=if dP (iC L n p) (aX L p)=true/\iE (iC L n p) (aX L p)=1 then
    if p.mode=1 then gr (iC L n p) (aX L p) (aG L n (cR L p) (bL L p))else if p.mode=3 then dg (iC L n p) (aX L p) 0 else iC L n p
   else iC L n p:=rfl
  refine⟨rfl,hs,⟨hL,hs⟩,fun hb=>⟨fun h1'=>?_,fun h1'=>⟨fun h3=>?_,fun h3=>?_⟩⟩,fun hb=>?_⟩
  all_goals simp only[aaX,Bool.and_eq_false_iff,aaY,decide_eq_false_iff_not]at hb
  ·rw[e2,aa4 hb,aa4 (aa1 h1')];exact⟨rfl,Cv,⟨h1,Cv⟩,rfl,(by(repeat' apply And.intro)<;>rfl),rfl⟩
  ·rw[e2,aa4 hb,aa3 (aa0 h1'),aa4 (aa1 h3)];exact⟨rfl,h1,rfl,(by(repeat' apply And.intro)<;>rfl),rfl⟩
  ·rw[e2,aa4 hb,aa3 (aa0 h1'),aa3 (aa0 h3)];exact⟨rfl,(by(repeat' apply And.intro)<;>rfl),rfl⟩
  ·rw[e2,aa3 (fun h=>by rcases hb with hb|hb;rw[h.1]at hb;simp at hb;exact hb h.2)]
   exact⟨rfl,(by(repeat' apply And.intro)<;>rfl),rfl⟩
theorem S8:kJ Tryz.prog 38 V1:=Lw (fun _ _ _=>rfl) fun L n p hq=>bj (inl:=bx) (ann:=aQ) (ae R5 (ae gd (ae ia (ae rH aq)))) (aB Xc (aB Yu (aB Zb (aB WL (aB NM aD))))) (Rh L n p hq) (by kernel_rfl)
abbrev acm(L:List Sx.Obj)(p:iW)(n:Int):=true=true/\((ar L/\aw p.data/\gN n)/\er p n=true/\p.kind=1)/\n=jh n p/\((aT L n p).out=(aT L n p).out/\(aT L n p).proc=(aT L n p).proc/\(aT L n p).err=(aT L n p).err/\(aT L n p).ans.code=(aT L n p).ans.code/\(aT L n p).ans.data=(aT L n p).ans.data/\(aT L n p).ans.k0=(aT L n p).ans.k0/\(aT L n p).ans.k1=(aT L n p).ans.k1/\(aT L n p).ans.k2=(aT L n p).ans.k2/\(aT L n p).wants=(aT L n p).wants/\0=oq n p)/\dM L n p=dM L n p
abbrev acn(n:Int)(p:iW)(L:List Sx.Obj):=true=true/\aF IntKind.i64 (n+p.val)/\n+p.val=jh n p/\(5=(aT L n p).out/\0=(aT L n p).proc/\0=(aT L n p).err/\0=(aT L n p).ans.code/\abJ=(aT L n p).ans.data/\void=(aT L n p).ans.k0/\void=(aT L n p).ans.k1/\void=(aT L n p).ans.k2/\false=(aT L n p).wants/\0=oq n p)/\L=dM L n p
theorem Uz (L:List Sx.Obj) (n:Int) (p:iW) (hq:Yd L n p):
 true=true/\(aw p.data/\gN n)/\aba (!er p n) (n=jh n p/\(0=(aT L n p).out/\0=(aT L n p).proc/\0=(aT L n p).err/\0=(aT L n p).ans.code/\abJ=(aT L n p).ans.data/\void=(aT L n p).ans.k0/\void=(aT L n p).ans.k1/\void=(aT L n p).ans.k2/\false=(aT L n p).wants/\2=oq n p)/\L=dM L n p) ((aba (decide (p.kind=1)) (acm L p n) (aba (decide (p.kind=2)) (acn n p L) False))/\aba (decide (p.kind=2)) (acn n p L) (aba (decide (p.kind=1)) (acm L p n) False)):=by
 delta aba abJ acn acm
 obtain⟨hL,hs,hn⟩:=hq
 have ht:er p n=true->p.kind=2->aF IntKind.i64 (n+p.val):=fun hr hk=>by
  unfold er at hr;rw[aa4 hk]at hr;simp only[aaX,aaY]at hr;unfold gN at hn;simp only[aF,bY];omega
 refine⟨rfl,⟨hs,hn⟩,fun hr=>?_,fun hr=>?_⟩
 ·have hr:er p n=false:=by simpa using hr
  have e1:jh n p=n:=by unfold jh;rw[aa3 (by simp[hr])]
  have e2:aT L n p=ZN:=by unfold aT;rw[aa3 (by simp[hr])]
  have e3:oq n p=2:=by unfold oq;rw[aa3 (by simp[hr])]
  have e4:dM L n p=L:=by unfold dM;rw[aa3 (by simp[hr])]
  rw[e1,e2,e3,e4];(repeat' apply And.intro)<;>rfl
 have hr:er p n=true:=by simpa using hr
 have e3:oq n p=0:=by unfold oq;rw[aa4 hr]
 have one:∀h1:p.kind=1,jh n p=n:=fun h1=>by unfold jh;rw[aa3 (by omega)]
 have two:∀h2:p.kind=2,jh n p=n+p.val/\aT L n p=⟨5,0,0,cY,false⟩/\dM L n p=L:=fun h2=>by
  refine⟨?_,?_,?_⟩
  ·unfold jh;rw[aa4 ⟨hr,h2⟩]
  ·unfold aT;rw[aa4 hr,aa4 h2]
  ·unfold dM;rw[aa3 (fun h=>h.2.1 h2)]
 have bad:¬p.kind=1->¬p.kind=2->False:=fun h1 h2=>by
  unfold er at hr;rw[aa3 h2]at hr;simp[h1]at hr
 refine⟨⟨fun h1=>?_,fun h1=>⟨fun h2=>?_,fun h2=>?_⟩⟩,⟨fun h2=>?_,fun h2=>⟨fun h1=>?_,fun h1=>?_⟩⟩⟩
 ·have h1:=aa1 h1;refine⟨rfl,⟨⟨hL,hs,hn⟩,hr,h1⟩,(one h1).symm,?_,rfl⟩;(repeat' apply And.intro)<;>first|rfl|exact e3.symm
 ·have h2:=aa1 h2;obtain⟨a,b,c⟩:=two h2;rw[a,b,c,e3];exact⟨rfl,ht hr h2,rfl,(by(repeat' apply And.intro)<;>rfl),rfl⟩
 ·exact(bad (aa0 h1) (aa0 h2)).elim
 ·have h2:=aa1 h2;obtain⟨a,b,c⟩:=two h2;rw[a,b,c,e3];exact⟨rfl,ht hr h2,rfl,(by(repeat' apply And.intro)<;>rfl),rfl⟩
 ·have h1:=aa1 h1;refine⟨rfl,⟨⟨hL,hs,hn⟩,hr,h1⟩,(one h1).symm,?_,rfl⟩;(repeat' apply And.intro)<;>first|rfl|exact e3.symm
 ·exact(bad (aa0 h1) (aa0 h2)).elim
theorem HE:kJ Tryz.prog 19 VB:=Lw (fun _ _ _=>rfl) fun L n p hq=>bj (inl:=(fun f=>f==32||f==39)) (ann:=aQ) (ae IW aq) (aB S8 aD) (Uz L n p hq) (by kernel_rfl)
abbrev aco:=iW.mk 1 0 0 1 1 abJ (-1) (-1) (-1) false 0
theorem Pm:
 abb (abb ((jA 6=false->abb False)/\(jA 6=true->abb (abb (abb (abb (abb (abb ((ar (xJ 6)/\aw abJ/\gN 0)/\(decide (oq 0 aco=0)&&decide ((aT (xJ 6) 0 aco).out=4)&&yf (aT (xJ 6) 0 aco).ans.k0 (Key.mk 2 2 1 void.call void.rights void.value))=true))))))))):=by
 delta abJ aco abb
 have st:aw (ByteArray.mk (Array.mk [])):=by unfold aw;decide
 have h1:ar (xJ 6):=by unfold ar;kernel_rfl
 refine⟨rfl,rfl,fun h=>absurd h (by decide),fun _=>⟨rfl,rfl,rfl,rfl,rfl,rfl,⟨h1,st,by unfold gN;omega⟩,?_⟩⟩
 kernel_rfl
theorem MO:cq Tryz.prog 11 TN:=XP rfl (bj (inl:=(fun f=>f==12||f==29)) (ann:=aQ) aq (aB OE (aB dz (aB HE aD))) Pm (by kernel_rfl))
theorem XQ (x:List iW) (hx:wI x):
 aba (decide (40<bD (ai x))) (true=qB (lG x)) ((∃g,xW x g/\0=g/\ai x=ai x/\xw x=xw x)/\∀(g:Int),xW x g->aba (decide (g<bD (ai x))) ((0<=g/\g< ↑(ai x))/\g.toNat<ai x/\abd (bN (aj x g.toNat ng).data)/\aba (decide (100<bN (aj x g.toNat ng).data)) (true=qB (lG x)) (abd (g+1)/\∃g',xW x g'/\(bD (ai x)-g').toNat<(bD (ai x)-g).toNat/\g+1=g'/\ai x=ai x/\xw x=xw x)) (false=qB (lG x))):=by
 delta aba abd
 refine⟨fun h=>?_,fun h=>⟨⟨0,⟨by omega,by omega,rfl⟩,rfl,rfl,rfl⟩,fun g hg=>⟨fun hlt=>?_,fun hge=>?_⟩⟩⟩
 ·unfold qB lG;simp only;rw[h];rfl
 ·obtain⟨g0,g1,g2⟩:=hg;have hlt:g<(ai x:Int):=aa1 hlt;have hs:=hx g.toNat (by omega)
  have h40:¬40<(ai x:Int):=aa0 h;have e:opD (Kn (aj x g.toNat ng))=bN (aj x g.toNat ng).data:=rfl;refine⟨⟨g0,hlt⟩,by omega,by unfold aw at hs;simp only[aF,bY,bN];omega,fun h1=>?_,fun h1=>⟨by simp only[aF,bY];omega,g+1,⟨by omega,by omega,?_⟩,by unfold bD;omega,rfl,rfl,rfl⟩⟩
  ·have h1:=aa1 h1;unfold qB lG;simp only;rw[DY (F:=fun i=>Kn (aj x i ng)) (j:=g.toNat) (by omega) (by rw[e];exact h1) (ai x) (by omega),Bool.or_true]
  ·have h1:=aa0 h1;rw[show(g+1).toNat=g.toNat+1 by omega]
   exact Jr g2 (by rw[e];exact h1)
 ·obtain⟨g0,g1,g2⟩:=hg;have hge:¬g<(ai x:Int):=aa0 hge;rw[show g.toNat=ai x by omega]at g2
  unfold qB lG;simp only;rw[h,g2];rfl
theorem Xw:cq Tryz.prog 10 aav:=
 eW (aA Wo bW) (fun _=>rfl) fun a hq hok=>by
  obtain⟨_,_⟩:=a;obtain⟨x,rfl,hx⟩:=hq;exact aZ (inl:=bx) (ann:=(iu [(10,4,Va [0] (fun g=> [(3,.it .i64 g)]) (xW x) (bD (ai x)))])) aq (XQ x hx) (by kernel_rfl)
theorem NF (L:List Sx.Obj) (k:Key) (i:Int):
 aba (decide (aC L k 2 false=0)&&(decide (i<0)||decide (15<i))) (void=aJ L k i/\4=bV L k i) (aba (!decide (aC L k 2 false=0)) (void=aJ L k i/\aC L k 2 false=bV L k i) (om L k i/\dh L k i=aJ L k i/\0=bV L k i)):=by
 delta aba
 refine⟨fun h=>?_,fun h=>⟨fun h'=>?_,fun h'=>?_⟩⟩
 ·simp only[aaX,Bool.or_eq_true,aaY]at h;obtain⟨e1,e2⟩:=LS h.1 h.2;rw[e1,e2];exact⟨rfl,rfl⟩
 ·have h':aC L k 2 false≠0:=by simpa using h'
  obtain⟨e1,e2⟩:=Nx (i:=i) h';rw[e1,e2];exact⟨rfl,rfl⟩
 ·have h':aC L k 2 false=0:=by simpa using h'
  have hr:¬(i<0\/15<i):=by rw[h']at h;simpa using h
  obtain⟨_,b2,b3,_⟩:=ef (gw h').1;obtain⟨e1,e2⟩:=TY h' hr;rw[e1,e2];exact⟨⟨by omega,by omega,b2,b3⟩,rfl,rfl⟩
theorem Fi:cq Tryz.prog 108 Tk:=
 eW (aA jc (aA iF (aA dO bW))) (fun _=>rfl) fun a hq hok=>by
  obtain⟨L,k,i,_⟩:=a;exact aZ (inl:=bx) (ann:=aQ) (ae pE (ae yr aq)) (NF L k i) (by kernel_rfl)
theorem Nq (L:List Sx.Obj) (k:Key) (i:Int) (v:Key) (hL:ar L):
 aba (decide (aC L k 2 true=0)&&(decide (i<0)||decide (15<i))) (iI L k i v=false/\void=cU L k i v/\4=bk L k i v) (aba (decide (aC L k 2 true=0)&& !bK L v) (iI L k i v=false/\void=cU L k i v/\2=bk L k i v) (aba (!decide (aC L k 2 true=0)) (iI L k i v=false/\void=cU L k i v/\aC L k 2 true=bk L k i v) (om L k i/\(0<=k.oid/\k.oid< ↑(ai L))/\k.oid.toNat<ai L/\(0<=i/\i< ↑16)/\dL L k.oid/\iI L k i v=true/\(dh L k i=cU L k i v/\0=bk L k i v)/\cz L k.oid.toNat (Obj.mk (aj L k.oid.toNat free).kind (aj L k.oid.toNat free).count (aj L k.oid.toNat free).calls ((aj L k.oid.toNat free).slots.put i.toNat (ah L v)) (aj L k.oid.toNat free).bytes)=cA L k i v))):=by
 delta aba
 unfold iI;refine⟨fun h=>?_,fun h=>⟨fun h'=>?_,fun h'=>⟨fun h''=>?_,fun h''=>?_⟩⟩⟩
 ·simp only[aaX,Bool.or_eq_true,aaY]at h;obtain⟨e1,e2,e3⟩:=Qc (v:=v) h.1 h.2;rw[e1,e2];exact⟨rfl,rfl,rfl⟩
 ·simp only[aaX,Bool.not_eq_true',aaY]at h';have hr:¬(i<0\/15<i):=by rw[h'.1]at h;simpa using h
  obtain⟨e1,e2,e3⟩:=M6 h'.1 hr h'.2;rw[e1,e2];exact⟨rfl,rfl,rfl⟩
 ·have h'':aC L k 2 true≠0:=by simpa using h''
  obtain⟨e1,e2,e3⟩:=Ng (i:=i) (v:=v) h'';rw[e1,e2];exact⟨by simpa using h'',rfl,rfl⟩
 ·have h'':aC L k 2 true=0:=by simpa using h''
  have hr:¬(i<0\/15<i):=by rw[h'']at h;simpa using h
  have hm:bK L v=true:=by rw[h'']at h';simpa using h'
  obtain⟨e1,e2,e3⟩:=SZ h'' hr hm;obtain⟨r1,r2,r3,r4⟩:=uA hL (gw h'').1;rw[e1,e2,e3];exact⟨⟨by omega,by omega,r2,r3⟩,⟨r2,r3⟩,r4,⟨by omega,by omega⟩,r1,rfl,⟨rfl,rfl⟩,rfl⟩
theorem K6 (L:List Sx.Obj) (k:Key) (i:Int) (v:Key) (hL:ar L):an Tryz.prog 110 [.sa 0,.key k,.it .i64 i,.key v] [.ro (.arr none 163 (.ob L))] (xY (iI L k i v) (cA L k i v) [.key (cU L k i v),.it .i64 (bk L k i v)]) (fun _ _=>False):=
 bj (inl:=bx) (ann:=aQ) (ae pE (ae yr (ae yW (ae pd (ae jy aq))))) aD (Nq L k i v hL) (by kernel_rfl)
theorem EH:kJ Tryz.prog 110 UB:=
 iJ (m:=fun x=>XR.cn x 0) (fL Tr (fun _=>rfl)) (fun _=>rfl) (fun _ _=>rfl) fun L x hq=>K6 L x.1 x.2.1 x.2.2.1 hq
theorem Ov (L:List Sx.Obj) (k:Key) (hL:ar L):
 aba (!decide (aC L k 2 true=0)) (mw L k=false/\aC L k 2 true=aC L k 2 true) ((0<=k.oid/\k.oid< ↑(ai L))/\k.oid.toNat<ai L/\dL L k.oid/\mw L k=true/\0=aC L k 2 true/\cz L k.oid.toNat (Obj.mk (aj L k.oid.toNat free).kind (aj L k.oid.toNat free).count (aj L k.oid.toNat free).calls gU (aj L k.oid.toNat free).bytes)=fG L k):=by
 delta aba
 unfold mw;refine⟨fun h=>?_,fun h=>?_⟩
 ·have h:aC L k 2 true≠0:=by simpa using h
  exact⟨by simpa using h,rfl⟩
 ·have h:aC L k 2 true=0:=by simpa using h
  obtain⟨r1,r2,r3,r4⟩:=uA hL (gw h).1;exact⟨⟨r2,r3⟩,r4,r1,by simpa using h,h.symm,by unfold fG;rw[aa4 h];rfl⟩
theorem Mc (L:List Sx.Obj) (k:Key) (hL:ar L):an Tryz.prog 111 [.sa 0,.key k] [.ro (.arr none 163 (.ob L))] (xY (mw L k) (fG L k) [.it .i64 (aC L k 2 true)]) (fun _ _=>False):=
 bj (inl:=bx) (ann:=aQ) (ae pE (ae jy aq)) aD (Ov L k hL) (by kernel_rfl)
theorem OR:kJ Tryz.prog 111 SD:=
 iJ (m:=fun x=>kB.cn x 0) (fL E5 (fun _=>rfl)) (fun _=>rfl) (fun _ _=>rfl) fun L x hq=>Mc L x.1 hq
abbrev abL(L:List Sx.Obj)(t:Key)(f:Key)(g:Int):=ev (aj L t.oid.toNat free) (dF L t f g)
theorem OG (L:List Sx.Obj) (t f:Key) (hL:ar L):
 aba (decide (aC L t 2 true=0)) (aba (!decide (aC L f 2 false=0)) (kK L t f=false/\aC L f 2 false=bS L t f) ((0<=t.oid/\t.oid< ↑(ai L))/\t.oid.toNat<ai L/\(∃g,lE g/\t=t/\f=f/\Value.slice none 0 0=Value.slice none 0 0/\aC L f 2 false=aC L f 2 false/\0=g/\L=L/\t=t/\f=f/\aj L t.oid.toNat free=ev (aj L t.oid.toNat free) (dF L t f g))/\∀(g:Int),lE g->aba (decide (g<16)) (om L f g/\(0<=g/\g< ↑16)/\abd (g+1)/\∃ g',lE g'/\oW g'<oW g/\t=t/\f=f/\Value.slice none 0 0=Value.slice none 0 0/\aC L f 2 false=aC L f 2 false/\g+1=g'/\L=L/\t=t/\f=f/\Obj.mk (abL L t f g).kind (abL L t f g).count (abL L t f g).calls ((abL L t f g).slots.put g.toNat (dh L f g)) (abL L t f g).bytes=ev (aj L t.oid.toNat free) (dF L t f g')) (dL L t.oid/\kK L t f=true/\0=bS L t f/\cz L t.oid.toNat (abL L t f g)=eQ L t f))) (aba (!decide (aC L t 2 true=0)) (kK L t f=false/\aC L t 2 true=bS L t f) ((0<=t.oid/\t.oid< ↑(ai L))/\t.oid.toNat<ai L/\(∃g,lE g/\t=t/\f=f/\Value.slice none 0 0=Value.slice none 0 0/\aC L t 2 true=aC L t 2 true/\0=g/\L=L/\t=t/\f=f/\aj L t.oid.toNat free=ev (aj L t.oid.toNat free) (dF L t f g))/\∀(g:Int),lE g->aba (decide (g<16)) (om L f g/\(0<=g/\g< ↑16)/\abd (g+1)/\∃g',lE g'/\oW g'<oW g/\t=t/\f=f/\Value.slice none 0 0=Value.slice none 0 0/\aC L t 2 true=aC L t 2 true/\g+1=g'/\L=L/\t=t/\f=f/\Obj.mk (abL L t f g).kind (abL L t f g).count (abL L t f g).calls ((abL L t f g).slots.put g.toNat (dh L f g)) (abL L t f g).bytes=ev (aj L t.oid.toNat free) (dF L t f g')) (dL L t.oid/\kK L t f=true/\0=bS L t f/\cz L t.oid.toNat (abL L t f g)=eQ L t f))):=by
 delta aba abL abd
 unfold kK;have no:∀e,bS L t f=e->e≠0->decide (bS L t f=0)=false/\e=bS L t f:=fun e h h0=>⟨by rw[h];simpa using h0,h.symm⟩
 refine⟨fun h=>⟨fun h'=>?_,fun h'=>?_⟩,fun h=>⟨fun h'=>?_,fun h'=>?_⟩⟩
 ·have h:=aa1 h;have h':aC L f 2 false≠0:=by simpa using h'
  exact no _ (by unfold bS;rw[aa4 h]) h'
 ·have h:=aa1 h;have h':aC L f 2 false=0:=by simpa using h'
  have hE:bS L t f=0:=by unfold bS;rw[aa4 h];exact h'
  obtain⟨r1,r2,r3,r4⟩:=uA hL (gw h).1;obtain⟨_,s2,s3,_⟩:=uA hL (gw h').1;have hk:=(ef (gw h).1).2.2.2.1;have ho:=(ef (gw h').1).2.2.2.1;refine⟨⟨r2,r3⟩,r4,⟨0,⟨by omega,by omega⟩,?_⟩,fun g hg=>⟨fun hlt=>?_,fun hge=>?_⟩⟩
  ·have hz:=Fb (f:=f) hk;rw[hk]at hz;repeat' apply And.intro
   all_goals first|rfl|exact hz
  ·obtain⟨g0,g1⟩:=hg;have hlt:=aa1 hlt;have hs:=Eo (t:=t) g0 ho (aj L t.oid.toNat free) gU;rw[ho]at hs;refine⟨⟨g0,by omega,s2,s3⟩,⟨g0,by omega⟩,by simp only[aF,bY];omega,g+1,⟨by omega,by omega⟩,by unfold oW;omega,?_⟩
   repeat' apply And.intro
   all_goals first|rfl|exact hs
  ·obtain⟨g0,g1⟩:=hg;have hge:=aa0 hge;have:g=16:=by omega
   subst this;exact⟨r1,by simpa using hE,hE.symm,by unfold eQ;rw[hE,aa4 rfl];rfl⟩
 ·have h:=aa0 h;exact no _ (by unfold bS;rw[aa3 h]) h
 ·rw[h]at h';simp at h'
theorem PW (L:List Sx.Obj) (t f:Key) (hL:ar L):an Tryz.prog 112 [.sa 0,.key t,.key f] [.ro (.arr none 163 (.ob L))] (xY (kK L t f) (eQ L t f) [.it .i64 (bS L t f)]) (fun _ _=>False):=
 bj (inl:=bx) (ann:=(iu [(112,8,YB [0,1,2,3,4,5,6,7,8,9] (fun g=> [(10,.it .i64 g)]) 9 (fun g=> .blk tO (.ob (ev (aj L (pH t.oid) free) (dF L t f g)))) lE oW)])) (ae pE (ae yr (ae jy aq))) aD (OG L t f hL) (by kernel_rfl)
theorem LB:kJ Tryz.prog 112 QP:=
 iJ (m:=fun x=>O2.cn x 0) (fL wh (fun _=>rfl)) (fun _=>rfl) (fun _ _=>rfl) fun L x hq=>PW L x.1 x.2.1 hq
theorem Jf (L:List Sx.Obj) (k:Key) (i n:Int) (hL:ar L):
 aba (decide (aW L k false=0)&& !cB i n) (abJ=dY L k i n/\4=cy L k i n) (aba (!decide (aW L k false=0)) (abJ=dY L k i n/\aW L k false=cy L k i n) ((0<=k.oid/\k.oid< ↑(ai L))/\aF IntKind.i64 (i+n)/\B8 i (i+n) 64/\k.oid.toNat<ai L/\xC (aj L k.oid.toNat free).bytes i.toNat (i+n).toNat=dY L k i n/\0=cy L k i n)):=by
 delta aba abJ
 refine⟨fun h=>?_,fun h=>⟨fun h'=>?_,fun h'=>?_⟩⟩
 ·rw[aaX,aaY]at h;obtain⟨e1,e2⟩:=yI h.1 h.2;rw[<-e1,<-e2];exact⟨rfl,rfl⟩
 ·have h':aW L k false≠0:=by simpa using h'
  obtain⟨e1,e2⟩:=rz (i:=i) (n:=n) rfl h';rw[<-e1,<-e2];exact⟨rfl,rfl⟩
 ·have h':aW L k false=0:=by simpa using h'
  have hi:(!cB i n)=false:=by rw[h']at h;simpa using h
  obtain⟨r1,r2,r3,r4⟩:=pc hL (m5 h').1;obtain⟨e1,e2,e3,e4⟩:=yt h' hi;exact⟨⟨r2,r3⟩,e1,e2,r4,e3,e4⟩
theorem J0:cq Tryz.prog 114 K8:=
 eW (aA jc (aA iF (aA dO (aA dO bW)))) (fun _=>rfl) fun a hq hok=>by
  obtain⟨L,k,i,n,_⟩:=a;exact aZ (inl:=bx) (ann:=aQ) (ae vH (ae tY aq)) (Jf L k i n hq) (by kernel_rfl)
theorem O4 (L:List Sx.Obj) (k:Key) (hL:ar L):
 aba (!decide (aW L k true=0)) (mr L k=false/\aW L k true=aW L k true) ((0<=k.oid/\k.oid< ↑(ai L))/\k.oid.toNat<ai L/\dL L k.oid/\mr L k=true/\0=aW L k true/\cz L k.oid.toNat (Obj.mk (aj L k.oid.toNat free).kind (aj L k.oid.toNat free).count (aj L k.oid.toNat free).calls (aj L k.oid.toNat free).slots fa)=fl L k):=by
 delta aba
 unfold mr;refine⟨fun h=>?_,fun h=>?_⟩
 ·have h:aW L k true≠0:=by simpa using h
  exact⟨by simpa using h,rfl⟩
 ·have h:aW L k true=0:=by simpa using h
  obtain⟨r1,r2,r3,r4⟩:=pc hL (m5 h).1;exact⟨⟨r2,r3⟩,r4,r1,by simpa using h,h.symm,by unfold fl;rw[aa4 h];rfl⟩
theorem KR (L:List Sx.Obj) (k:Key) (hL:ar L):an Tryz.prog 116 [.sa 0,.key k] [.ro (.arr none 163 (.ob L))] (xY (mr L k) (fl L k) [.it .i64 (aW L k true)]) (fun _ _=>False):=
 bj (inl:=bx) (ann:=aQ) (ae vH (ae jy aq)) aD (O4 L k hL) (by kernel_rfl)
theorem QA:kJ Tryz.prog 116 TA:=
 iJ (m:=fun x=>kB.cn x 0) (fL E5 (fun _=>rfl)) (fun _=>rfl) (fun _ _=>rfl) fun L x hq=>KR L x.1 hq
abbrev abM(t:Key)(L:List Sx.Obj)(f:Key):=(0<=t.oid/\t.oid< ↑(ai L))/\t.oid.toNat<ai L/\(0<=f.oid/\f.oid< ↑(ai L))/\f.oid.toNat<ai L/\dL L t.oid/\mJ L t f=true/\0=cS L t f/\cz L t.oid.toNat (Obj.mk (aj L t.oid.toNat free).kind (aj L t.oid.toNat free).count (aj L t.oid.toNat free).calls (aj L t.oid.toNat free).slots (aj L f.oid.toNat free).bytes)=fA L t f
theorem Ua (L:List Sx.Obj) (t f:Key) (hL:ar L):
 aba (decide (aW L t true=0)) (aba (!decide (aW L f false=0)) (mJ L t f=false/\aW L f false=cS L t f) (abM t L f)) (aba (!decide (aW L t true=0)) (mJ L t f=false/\aW L t true=cS L t f) (abM t L f)):=by
 delta aba abM
 unfold mJ;refine⟨fun h=>⟨fun h'=>?_,fun h'=>?_⟩,fun h=>⟨fun h'=>?_,fun h'=>?_⟩⟩
 ·have h:=aa1 h;have h':aW L f false≠0:=by simpa using h'
  obtain⟨e1,e2⟩:=Ip h rfl h';rw[<-e1];exact⟨by simpa using h',rfl⟩
 ·have h:=aa1 h;have h':aW L f false=0:=by simpa using h'
  have hE:cS L t f=0:=by unfold cS;rw[aa4 h];exact h'
  obtain⟨r1,r2,r3,r4⟩:=pc hL (m5 h).1;obtain⟨_,s2,s3,s4⟩:=pc hL (m5 h').1;exact⟨⟨r2,r3⟩,r4,⟨s2,s3⟩,s4,r1,by simpa using hE,hE.symm,by unfold fA;rw[hE,aa4 rfl];rfl⟩
 ·have h:=aa0 h;obtain⟨e1,e2⟩:=wm (f:=f) rfl h;rw[<-e1];exact⟨by simpa using h,rfl⟩
 ·rw[h]at h';simp at h'
theorem UA (L:List Sx.Obj) (t f:Key) (hL:ar L):an Tryz.prog 117 [.sa 0,.key t,.key f] [.ro (.arr none 163 (.ob L))] (xY (mJ L t f) (fA L t f) [.it .i64 (cS L t f)]) (fun _ _=>False):=
 bj (inl:=bx) (ann:=aQ) (ae vH (ae jy aq)) aD (Ua L t f hL) (by kernel_rfl)
theorem S6:kJ Tryz.prog 117 VS:=
 iJ (m:=fun x=>O2.cn x 0) (fL wh (fun _=>rfl)) (fun _=>rfl) (fun _ _=>rfl) fun L x hq=>UA L x.1 x.2.1 hq
theorem Od (d:Int) (hq:ym d):
 (0<=d/\d< ↑11)/\aj [0,1,6,5,6,7,0,0,3,1,1] d.toNat 0=c9 d:=by
 obtain⟨h0,h1⟩:=hq;refine⟨⟨h0,by omega⟩,?_⟩
 have:d=0\/d=1\/d=2\/d=3\/d=4\/d=5\/d=6\/d=7\/d=8\/d=9\/d=10:=by omega
 rcases this with rfl|rfl|rfl|rfl|rfl|rfl|rfl|rfl|rfl|rfl|rfl<;>rfl
theorem KI:cq Tryz.prog 80 SU:=
 eW (aA dO bW) (fun _=>rfl) fun a hq hok=>by
  obtain⟨d,_⟩:=a;exact aZ (inl:=bx) (ann:=aQ) aq (Od d hq) (by kernel_rfl)
abbrev abN(a:Int)(b:Int):=aba (decide (a=4)) (decide (b=4)=cW a b) (aba (decide (a=5)) ((decide (1<=b)&&decide (b<=3)||decide (5<=b)&&decide (b<=7))=cW a b) (false=cW a b))
theorem Qr (a b:Int):
 aba (decide (a=2)) (aba (decide (a=2)) ((decide (b=1)||decide (b=2)||decide (b=5))=cW a b) (abN a b)) (aba (decide (a=3)) ((decide (b=1)||decide (b=2)||decide (b=5))=cW a b) (abN a b)):=by
 delta aba abN
 unfold cW;grind
theorem Lp:cq Tryz.prog 81 R6:=
 nJ (gi .i64) (gi .i64) (fun _ _=>rfl) fun a b ha hb=>aZ (inl:=bx) (ann:=aQ) aq (Qr a b) (by kernel_rfl)
theorem N6 (L:List Sx.Obj) (k:Key) (m:br) (i:Int) (hq:mF L k m i):
 aba (decide (m.code=1)) (abb (kg L k m=false/\0=(cj L k m).code/\abJ=(cj L k m).data/\aJ L k i=(cj L k m).k0/\void=(cj L k m).k1/\void=(cj L k m).k2/\bV L k i=(eo L k m).fst)) (aba (decide (m.code=2)) (abb (ar L/\(iI L k i m.k0=false->abb (kg L k m=false/\0=(cj L k m).code/\abJ=(cj L k m).data/\cU L k i m.k0=(cj L k m).k0/\void=(cj L k m).k1/\void=(cj L k m).k2/\bk L k i m.k0=(eo L k m).fst))/\(iI L k i m.k0=true->abb (kg L k m=true/\(0=(cj L k m).code/\abJ=(cj L k m).data/\cU L k i m.k0=(cj L k m).k0/\void=(cj L k m).k1/\void=(cj L k m).k2/\bk L k i m.k0=(eo L k m).fst)/\cA L k i m.k0=(eo L k m).snd.snd)))) (aba (decide (m.code=3)) (abb (ar L/\(mw L k=false->kg L k m=false/\0=(cj L k m).code/\abJ=(cj L k m).data/\void=(cj L k m).k0/\void=(cj L k m).k1/\void=(cj L k m).k2/\aC L k 2 true=(eo L k m).fst)/\(mw L k=true->kg L k m=true/\(0=(cj L k m).code/\abJ=(cj L k m).data/\void=(cj L k m).k0/\void=(cj L k m).k1/\void=(cj L k m).k2/\aC L k 2 true=(eo L k m).fst)/\fG L k=(eo L k m).snd.snd))) (aba (decide (m.code=4)) (abb (ar L/\(kK L k m.k0=false->kg L k m=false/\0=(cj L k m).code/\abJ=(cj L k m).data/\void=(cj L k m).k0/\void=(cj L k m).k1/\void=(cj L k m).k2/\bS L k m.k0=(eo L k m).fst)/\(kK L k m.k0=true->kg L k m=true/\(0=(cj L k m).code/\abJ=(cj L k m).data/\void=(cj L k m).k0/\void=(cj L k m).k1/\void=(cj L k m).k2/\bS L k m.k0=(eo L k m).fst)/\eQ L k m.k0=(eo L k m).snd.snd))) (aba (decide (m.code=5)) (aba (decide (i<0)||decide (7<i)) (kg L k m=false/\0=(cj L k m).code/\abJ=(cj L k m).data/\void=(cj L k m).k0/\void=(cj L k m).k1/\void=(cj L k m).k2/\2=(eo L k m).fst) (iH k i/\abb (kg L k m=false/\0=(cj L k m).code/\abJ=(cj L k m).data/\jx k i=(cj L k m).k0/\void=(cj L k m).k1/\void=(cj L k m).k2/\0=(eo L k m).fst))) (aba (!decide (k.rights=0)) (kg L k m=false/\0=(cj L k m).code/\abJ=(cj L k m).data/\void=(cj L k m).k0/\void=(cj L k m).k1/\void=(cj L k m).k2/\191=(eo L k m).fst) (abb (kg L k m=false/\0=(cj L k m).code/\abJ=(cj L k m).data/\abE 5 k void.value=(cj L k m).k0/\void=(cj L k m).k1/\void=(cj L k m).k2/\0=(eo L k m).fst))))))):=by
 delta aba abJ abE abb
 obtain⟨hL,hs,hk,rfl⟩:=hq;have hlq:iH k (aS m)↔(0<=aS m/\aS m<=7):=by unfold iH;simp[hk]
 have h8:=PH (m:=m);have hin:=Di (m:=m);have hr:aF IntKind.i64 (64-aS m):=by unfold aF bY;omega
 have hr4:aF IntKind.i64 (aS m+4):=by unfold aF bY;omega
 repeat' (first|with_reducible assumption|with_reducible rfl|with_reducible apply And.intro|with_reducible intro _)
 all_goals(first| (simp_all[kg,cj,eo,eY,fq,gk,dZ,cJ,cY,void];done)| (simp_all[kg,cj,eo,eY,fq,gk,dZ,cJ,cY,void];omega)| (by_cases hz:0<=m.k2.value/\m.k2.value<=7<;>first| (simp_all[kg,cj,eo,eY,fq,gk,dZ,cJ,cY,void];done)| (simp_all[kg,cj,eo,eY,fq,gk,dZ,cJ,cY,void];omega)))
theorem PQ (L:List Sx.Obj) (k:Key) (m:br) (i:Int) (hq:mF L k m i):an Tryz.prog 82 [.sa 0,.key k,jG m,.it .i64 i] [.ro (.arr none 163 (.ob L))] (xY (kg L k m) ((eo L k m).2.2) [jG (cj L k m),.it .i64 (eo L k m).1]) (fun _ _=>False):=
 bj (inl:=(fun f=>f==109||f==79||f==86||f==31)) (ann:=aQ) (ae Fi (ae Dz aq)) (aB EH (aB OR (aB LB aD))) (N6 L k m i hq) (by kernel_rfl)
theorem Mk:kJ Tryz.prog 82 RE:=
 iJ (m:=fun x=>CV.cn x 0) (fL ye (fun _=>rfl)) (fun _=>rfl) (fun _ _=>rfl) fun L x hq=>PQ L x.1 x.2.1 x.2.2.1 hq
theorem LF (L:List Sx.Obj) (k:Key) (m:br) (i:Int) (hq:mF L k m i):
 aba (decide (m.code=1)) (aF IntKind.i64 (64-i)/\ar L/\kV L k m=false/\0=(cT L k m).code/\dY L k i (imax 0 (lP 32 (64-i)))=(cT L k m).data/\void=(cT L k m).k0/\void=(cT L k m).k1/\void=(cT L k m).k2/\cy L k i (imax 0 (lP 32 (64-i)))=(ep L k m).fst) (aba (decide (m.code=2)) (abb ((ar L/\aw m.data)/\(ki L k i m.data=false->kV L k m=false/\0=(cT L k m).code/\abJ=(cT L k m).data/\void=(cT L k m).k0/\void=(cT L k m).k1/\void=(cT L k m).k2/\cN L k i m.data=(ep L k m).fst)/\(ki L k i m.data=true->kV L k m=true/\(0=(cT L k m).code/\abJ=(cT L k m).data/\void=(cT L k m).k0/\void=(cT L k m).k1/\void=(cT L k m).k2/\cN L k i m.data=(ep L k m).fst)/\eX L k i m.data=(ep L k m).snd.snd))) (aba (decide (m.code=3)) (abb (ar L/\(mr L k=false->kV L k m=false/\0=(cT L k m).code/\abJ=(cT L k m).data/\void=(cT L k m).k0/\void=(cT L k m).k1/\void=(cT L k m).k2/\aW L k true=(ep L k m).fst)/\(mr L k=true->kV L k m=true/\(0=(cT L k m).code/\abJ=(cT L k m).data/\void=(cT L k m).k0/\void=(cT L k m).k1/\void=(cT L k m).k2/\aW L k true=(ep L k m).fst)/\fl L k=(ep L k m).snd.snd))) (aba (decide (m.code=4)) (abb (ar L/\(mJ L k m.k0=false->kV L k m=false/\0=(cT L k m).code/\abJ=(cT L k m).data/\void=(cT L k m).k0/\void=(cT L k m).k1/\void=(cT L k m).k2/\cS L k m.k0=(ep L k m).fst)/\(mJ L k m.k0=true->kV L k m=true/\(0=(cT L k m).code/\abJ=(cT L k m).data/\void=(cT L k m).k0/\void=(cT L k m).k1/\void=(cT L k m).k2/\cS L k m.k0=(ep L k m).fst)/\fA L k m.k0=(ep L k m).snd.snd))) (aba (decide (i<0)||decide (7<i)) (kV L k m=false/\0=(cT L k m).code/\abJ=(cT L k m).data/\void=(cT L k m).k0/\void=(cT L k m).k1/\void=(cT L k m).k2/\2=(ep L k m).fst) (iH k i/\abb (kV L k m=false/\0=(cT L k m).code/\abJ=(cT L k m).data/\jx k i=(cT L k m).k0/\void=(cT L k m).k1/\void=(cT L k m).k2/\0=(ep L k m).fst)))))):=by
 delta aba abJ abb
 obtain⟨hL,hs,hk,rfl⟩:=hq;have hlq:iH k (aS m)↔(0<=aS m/\aS m<=7):=by unfold iH;simp[hk]
 have h8:=PH (m:=m);have hin:=Di (m:=m);have hr:aF IntKind.i64 (64-aS m):=by unfold aF bY;omega
 have hr4:aF IntKind.i64 (aS m+4):=by unfold aF bY;omega
 repeat' (first|with_reducible assumption|with_reducible rfl|with_reducible apply And.intro|with_reducible intro _)
 all_goals(first| (simp_all[kV,cT,ep,qu,eY,fq,gk,dZ,cJ,cY,void];done)| (simp_all[kV,cT,ep,qu,eY,fq,gk,dZ,cJ,cY,void];omega)| (by_cases hz:0<=m.k2.value/\m.k2.value<=7<;>first| (simp_all[kV,cT,ep,qu,eY,fq,gk,dZ,cJ,cY,void];done)| (simp_all[kV,cT,ep,qu,eY,fq,gk,dZ,cJ,cY,void];omega)))
theorem PL (L:List Sx.Obj) (k:Key) (m:br) (i:Int) (hq:mF L k m i):an Tryz.prog 83 [.sa 0,.key k,jG m,.it .i64 i] [.ro (.arr none 163 (.ob L))] (xY (kV L k m) ((ep L k m).2.2) [jG (cT L k m),.it .i64 (ep L k m).1]) (fun _ _=>False):=
 bj (inl:=(fun f=>f==109||f==79||f==86||f==31)) (ann:=aQ) (ae J0 (ae Dz aq)) (aB L7 (aB QA (aB S6 aD))) (LF L k m i hq) (by kernel_rfl)
theorem Lq:kJ Tryz.prog 83 SH:=
 iJ (m:=fun x=>CV.cn x 0) (fL ye (fun _=>rfl)) (fun _=>rfl) (fun _ _=>rfl) fun L x hq=>PL L x.1 x.2.1 x.2.2.1 hq
abbrev abO(L:List Sx.Obj)(k:Key)(m:br):=true=true/\ar L/\(gF L k m.code=false->true=true/\gJ L k m=false/\0=(bh L k m).code/\abJ=(bh L k m).data/\dc L k m.code=(bh L k m).k0/\void=(bh L k m).k1/\void=(bh L k m).k2/\cx L k m.code=(dA L k m).fst)/\(gF L k m.code=true->true=true/\gJ L k m=true/\(0=(bh L k m).code/\abJ=(bh L k m).data/\dc L k m.code=(bh L k m).k0/\void=(bh L k m).k1/\void=(bh L k m).k2/\cx L k m.code=(dA L k m).fst)/\ft L k m.code=(dA L k m).snd.snd)
abbrev abP(L:List Sx.Obj)(k:Key)(i:Int)(m:br):=true=true/\ar L/\(kZ L k i=false->true=true/\gJ L k m=false/\0=(bh L k m).code/\abJ=(bh L k m).data/\cc L k i=(bh L k m).k0/\void=(bh L k m).k1/\void=(bh L k m).k2/\b7 L k i=(dA L k m).fst)/\(kZ L k i=true->true=true/\gJ L k m=true/\(0=(bh L k m).code/\abJ=(bh L k m).data/\cc L k i=(bh L k m).k0/\void=(bh L k m).k1/\void=(bh L k m).k2/\b7 L k i=(dA L k m).fst)/\bF L k i=(dA L k m).snd.snd)
abbrev abQ(L:List Sx.Obj)(k:Key)(m:br):=true=true/\ar L/\(jM L k m.k0=false->gJ L k m=false/\0=(bh L k m).code/\abJ=(bh L k m).data/\void=(bh L k m).k0/\void=(bh L k m).k1/\void=(bh L k m).k2/\cC L k m.k0=(dA L k m).fst)/\(jM L k m.k0=true->gJ L k m=true/\(0=(bh L k m).code/\abJ=(bh L k m).data/\void=(bh L k m).k0/\void=(bh L k m).k1/\void=(bh L k m).k2/\cC L k m.k0=(dA L k m).fst)/\gB L k m.k0=(dA L k m).snd.snd)
abbrev abR(L:List Sx.Obj)(k:Key)(m:br):=true=true/\aba (jz L k m.k0) (true=true/\true=true/\gJ L k m=false/\0=(bh L k m).code/\abJ=(bh L k m).data/\void=(bh L k m).k0/\void=(bh L k m).k1/\abg 1=(bh L k m).k2/\aN L k=(dA L k m).fst) (true=true/\true=true/\gJ L k m=false/\0=(bh L k m).code/\abJ=(bh L k m).data/\void=(bh L k m).k0/\void=(bh L k m).k1/\abg 0=(bh L k m).k2/\aN L k=(dA L k m).fst)
abbrev abS(L:List Sx.Obj)(k:Key)(m:br):=kR L k=false->true=true/\true=true/\gJ L k m=false/\0=(bh L k m).code/\abJ=(bh L k m).data/\void=(bh L k m).k0/\void=(bh L k m).k1/\abg (fD L k)=(bh L k m).k2/\aN L k=(dA L k m).fst
abbrev abT(L:List Sx.Obj)(k:Key)(m:br):=0=(bh L k m).code/\abJ=(bh L k m).data/\void=(bh L k m).k0/\void=(bh L k m).k1/\abg (fD L k)=(bh L k m).k2/\aN L k=(dA L k m).fst
theorem I6 (L:List Sx.Obj) (k:Key) (m:br) (i:Int) (hq:mF L k m i):
 aba (decide (m.code=1)) (aba (decide (m.code=1)) (abO L k m) (aba (decide (m.code=3)) (abQ L k m) (aba (decide (m.code=4)) (abP L k i m) (aba (decide (m.code=5)) (abR L k m) (abb (ar L/\(abS L k m)/\(kR L k=true->abb (abb (gJ L k m=true/\(abT L k m)/\g9 L k=(dA L k m).snd.snd))))))))) (aba (decide (m.code=2)) (abO L k m) (aba (decide (m.code=3)) (abQ L k m) (aba (decide (m.code=4)) (abP L k i m) (aba (decide (m.code=5)) (abR L k m) (abb (ar L/\(abS L k m)/\(kR L k=true->abb (abb (gJ L k m=true/\(abT L k m)/\g9 L k=(dA L k m).snd.snd))))))))):=by
 delta aba abJ abg abT abS abR abQ abP abO abb
 obtain⟨hL,hs,hk,rfl⟩:=hq;have hlq:iH k (aS m)↔(0<=aS m/\aS m<=7):=by unfold iH;simp[hk]
 have h8:=PH (m:=m);have hin:=Di (m:=m);have hr:aF IntKind.i64 (64-aS m):=by unfold aF bY;omega
 have hr4:aF IntKind.i64 (aS m+4):=by unfold aF bY;omega
 repeat' (first|with_reducible assumption|with_reducible rfl|with_reducible apply And.intro|with_reducible intro _)
 all_goals(first| (simp_all[gJ,bh,dA,eY,fq,gk,dZ,cJ,cY,void];done)| (simp_all[gJ,bh,dA,eY,fq,gk,dZ,cJ,cY,void];omega)| (by_cases hz:0<=m.k2.value/\m.k2.value<=7<;>first| (simp_all[gJ,bh,dA,eY,fq,gk,dZ,cJ,cY,void];done)| (simp_all[gJ,bh,dA,eY,fq,gk,dZ,cJ,cY,void];omega)))
theorem I2 (L:List Sx.Obj) (k:Key) (m:br) (i:Int) (hq:mF L k m i):an Tryz.prog 84 [.sa 0,.key k,jG m,.it .i64 i] [.ro (.arr none 163 (.ob L))] (xY (gJ L k m) ((dA L k m).2.2) [jG (bh L k m),.it .i64 (dA L k m).1]) (fun _ _=>False):=
 bj (inl:=(fun f=>f==109||f==79||f==86||f==31)) (ann:=aQ) (ae Pc aq) (aB Ou (aB Ts (aB Jm (aB OX aD)))) (I6 L k m i hq) (by kernel_rfl)
theorem Jg:kJ Tryz.prog 84 LU:=
 iJ (m:=fun x=>CV.cn x 0) (fL ye (fun _=>rfl)) (fun _=>rfl) (fun _ _=>rfl) fun L x hq=>I2 L x.1 x.2.1 x.2.2.1 hq
abbrev abU(L:List Sx.Obj)(k:Key):=aJ L (abE 2 k void.value) 0
abbrev abV(k:Key):=abE 2 k void.value
abbrev abW(L:List Sx.Obj)(k:Key)(m:br):=decide (cg L (abU L k) m.k2.value (bN m.data)=0)&& !decide (bU L (abU L k) m.k2.value (bN m.data) true=0)
theorem Pr (L:List Sx.Obj) (k:Key) (m:br) (i:Int) (hq:mF L k m i):
 aba ((decide (m.code=1)||decide (m.code=2))&&(decide (i<0)||decide (11<i))) (ij L k m=false/\0=(bH L k m).code/\abJ=(bH L k m).data/\void=(bH L k m).k0/\void=(bH L k m).k1/\void=(bH L k m).k2/\4=(dr L k m).fst) (aba (decide (m.code=1)) (abd (i+4)/\abb (ij L k m=false/\0=(bH L k m).code/\abJ=(bH L k m).data/\aJ L (abV k) (i+4)=(bH L k m).k0/\void=(bH L k m).k1/\void=(bH L k m).k2/\bV L (abV k) (i+4)=(dr L k m).fst)) (aba (decide (m.code=2)) (abd (i+4)/\abb (ar L/\(iI L (abV k) (i+4) m.k0=false->abb (ij L k m=false/\0=(bH L k m).code/\abJ=(bH L k m).data/\cU L (abV k) (i+4) m.k0=(bH L k m).k0/\void=(bH L k m).k1/\void=(bH L k m).k2/\bk L (abV k) (i+4) m.k0=(dr L k m).fst))/\(iI L (abV k) (i+4) m.k0=true->abb (ij L k m=true/\(0=(bH L k m).code/\abJ=(bH L k m).data/\cU L (abV k) (i+4) m.k0=(bH L k m).k0/\void=(bH L k m).k1/\void=(bH L k m).k2/\bk L (abV k) (i+4) m.k0=(dr L k m).fst)/\cA L (abV k) (i+4) m.k0=(dr L k m).snd.snd)))) (aba (decide (m.code=3)) (abb (ij L k m=false/\0=(bH L k m).code/\abJ=(bH L k m).data/\abE 6 k m.k2.value=(bH L k m).k0/\void=(bH L k m).k1/\void=(bH L k m).k2/\0=(dr L k m).fst)) (aba (decide (m.code=4)) (abb (abb (ij L k m=false/\0=(bH L k m).code/\abJ=(bH L k m).data/\void=(bH L k m).k0/\void=(bH L k m).k1/\abg (bz L k.oid)=(bH L k m).k2/\0=(dr L k m).fst))) (aba (decide (m.code=5)) (abb (ar L/\(kq L k.oid i=false->ij L k m=false/\0=(bH L k m).code/\abJ=(bH L k m).data/\void=(bH L k m).k0/\void=(bH L k m).k1/\void=(bH L k m).k2/\en L k.oid i=(dr L k m).fst)/\(kq L k.oid i=true->ij L k m=true/\(0=(bH L k m).code/\abJ=(bH L k m).data/\void=(bH L k m).k0/\void=(bH L k m).k1/\void=(bH L k m).k2/\en L k.oid i=(dr L k m).fst)/\dg L k.oid i=(dr L k m).snd.snd))) (aba (decide (m.code=6)) (ar L/\aba (decide (cg L (abU L k) m.k2.value 32=0)&& !decide (bU L (abU L k) m.k2.value 32 false=0)) (abd (1000+bU L (abU L k) m.k2.value 32 false)/\ij L k m=false/\0=(bH L k m).code/\jU L (abU L k) m.k2.value 32=(bH L k m).data/\void=(bH L k m).k0/\void=(bH L k m).k1/\void=(bH L k m).k2/\1000+bU L (abU L k) m.k2.value 32 false=(dr L k m).fst) (ij L k m=false/\0=(bH L k m).code/\jU L (abU L k) m.k2.value 32=(bH L k m).data/\void=(bH L k m).k0/\void=(bH L k m).k1/\void=(bH L k m).k2/\cg L (abU L k) m.k2.value 32=(dr L k m).fst)) (abb ((ar L/\aw m.data)/\(lW L (abU L k) m.k2.value (bN m.data) true=false->aba (abW L k m) (abd (1000+bU L (abU L k) m.k2.value (bN m.data) true)/\ij L k m=false/\0=(bH L k m).code/\abJ=(bH L k m).data/\void=(bH L k m).k0/\void=(bH L k m).k1/\void=(bH L k m).k2/\1000+bU L (abU L k) m.k2.value (bN m.data) true=(dr L k m).fst) (ij L k m=false/\0=(bH L k m).code/\abJ=(bH L k m).data/\void=(bH L k m).k0/\void=(bH L k m).k1/\void=(bH L k m).k2/\cg L (abU L k) m.k2.value (bN m.data)=(dr L k m).fst))/\(lW L (abU L k) m.k2.value (bN m.data) true=true->aba (abW L k m) (abd (1000+bU L (abU L k) m.k2.value (bN m.data) true)/\ij L k m=true/\(0=(bH L k m).code/\abJ=(bH L k m).data/\void=(bH L k m).k0/\void=(bH L k m).k1/\void=(bH L k m).k2/\1000+bU L (abU L k) m.k2.value (bN m.data) true=(dr L k m).fst)/\kz L (abU L k) m.k2.value m.data=(dr L k m).snd.snd) (ij L k m=true/\(0=(bH L k m).code/\abJ=(bH L k m).data/\void=(bH L k m).k0/\void=(bH L k m).k1/\void=(bH L k m).k2/\cg L (abU L k) m.k2.value (bN m.data)=(dr L k m).fst)/\kz L (abU L k) m.k2.value m.data=(dr L k m).snd.snd)))))))))):=by
 delta aba abJ abg abE abW abV abU abd abb
 obtain⟨hL,hs,hk,rfl⟩:=hq;have hlq:iH k (aS m)↔(0<=aS m/\aS m<=7):=by unfold iH;simp[hk]
 have hin:=Di (m:=m);have hr:aF IntKind.i64 (64-aS m):=by unfold aF bY;omega
 have hr4:aF IntKind.i64 (aS m+4):=by unfold aF bY;omega
 have hw:Key.mk 2 k.oid k.count void.call void.rights void.value=fj k:=rfl;have hro:aJ L (fj k) 0=fK L k:=rfl;have f1:=Hb (L:=L) (k:=fK L k) (a:=m.k2.value) (n:=32) (w:=false);have f2:=Hb (L:=L) (k:=fK L k) (a:=m.k2.value) (n:=bN m.data) (w:=true);have g1:aF IntKind.i64 (1000+bU L (fK L k) m.k2.value 32 false):=by unfold aF bY;omega
 have g2:aF IntKind.i64 (1000+bU L (fK L k) m.k2.value (bN m.data) true):=by unfold aF bY;omega
 rw[hw,hro];refine⟨fun h=>?_,fun h=>⟨fun h1=>?_,fun h1=>⟨fun h2=>?_,fun h2=>?_⟩⟩⟩
 ·simp only[aaX,Bool.or_eq_true,aaY]at h;obtain⟨h1|h1,h2⟩:=h
  ·simp[ij,bH,dr,h1,h2,cY]
  ·simp[ij,bH,dr,h1,h2,cY]
 ·have h1:=aa1 h1;have hz:¬(aS m<0\/11<aS m):=by rw[h1]at h;simpa using h
  have e1:dr L k m=(bV L (fj k) (aS m+4),eY (aJ L (fj k) (aS m+4)),L):=by unfold dr;rw[aa4 h1,aa3 hz]
  have e2:bH L k m=eY (aJ L (fj k) (aS m+4)):=by unfold bH;rw[aa3 (fun hh=>hz hh.2),e1]
  have e3:ij L k m=false:=by unfold ij;rw[aa4 h1]
  rw[e1,e2,e3];exact⟨hr4,rfl,rfl,rfl,rfl,rfl,rfl,rfl,rfl⟩
 ·have h1:=aa0 h1;have h2:=aa1 h2;have hz:¬(aS m<0\/11<aS m):=by rw[h2]at h;simpa using h
  have e1:dr L k m=(bk L (fj k) (aS m+4) m.k0,eY (cU L (fj k) (aS m+4) m.k0),cA L (fj k) (aS m+4) m.k0):=by unfold dr;rw[aa3 h1,aa4 h2,aa3 hz,aa3 hz]
  have e2:bH L k m=eY (cU L (fj k) (aS m+4) m.k0):=by unfold bH;rw[aa3 (fun hh=>hz hh.2),e1]
  have e3:ij L k m=iI L (fj k) (aS m+4) m.k0:=by unfold ij;rw[aa3 h1,aa4 h2,aa3 hz]
  rw[e1,e2,e3];exact⟨hr4,rfl,hL,fun h=>⟨rfl,h,rfl,rfl,rfl,rfl,rfl,rfl⟩,fun h=>⟨rfl,h,⟨rfl,rfl,rfl,rfl,rfl,rfl⟩,rfl⟩⟩
 have h1:=aa0 h1;have h2:=aa0 h2;clear h;repeat' (first|with_reducible assumption|with_reducible rfl|with_reducible apply And.intro|with_reducible intro _)
 all_goals(first| (simp_all[ij,bH,dr,eY,fq,gk,dZ,cJ,cY,void];done)| (simp_all[ij,bH,dr,eY,fq,gk,dZ,cJ,cY,void];omega))
theorem Ky (L:List Sx.Obj) (k:Key) (m:br) (i:Int) (hq:mF L k m i):an Tryz.prog 85 [.sa 0,.key k,jG m,.it .i64 i] [.ro (.arr none 163 (.ob L))] (xY (ij L k m) ((dr L k m).2.2) [jG (bH L k m),.it .i64 (dr L k m).1]) (fun _ _=>False):=
 bj (inl:=(fun f=>f==109||f==79||f==86||f==31)) (ann:=aQ) (ae Fi (ae vr (ae WK aq))) (aB EH (aB Io (aB Xu aD))) (Pr L k m i hq) (by kernel_rfl)
theorem Mm:kJ Tryz.prog 85 Uw:=
 iJ (m:=fun x=>CV.cn x 0) (fL ye (fun _=>rfl)) (fun _=>rfl) (fun _ _=>rfl) fun L x hq=>Ky L x.1 x.2.1 x.2.2.1 hq
abbrev abX(L:List Sx.Obj)(k:Key):=(ah L k).kind=10
abbrev abY(L:List Sx.Obj)(k:Key)(m:br):=cj L (ah L k) (aH L m)
abbrev abZ(L:List Sx.Obj)(k:Key)(m:br):=cT L (ah L k) (aH L m)
abbrev aca(L:List Sx.Obj)(k:Key)(m:br):=bh L (ah L k) (aH L m)
abbrev acb(L:List Sx.Obj)(k:Key)(m:br):=bH L (ah L k) (aH L m)
theorem WH (L:List Sx.Obj) (n:Int) (k:Key) (m:br) (hL:ar L) (hs:aw m.data):
 aba (decide (bD (ai L)=0)) (fx L n k m=false/\0=(aG L n k m).code/\abJ=(aG L n k m).data/\void=(aG L n k m).k0/\void=(aG L n k m).k1/\void=(aG L n k m).k2/\false=cX L n k m/\1=cK L n k m) (((!(decide (n<0)|| !bK L k))=true->aw m.data)/\aba (decide (n<0)|| !bK L k|| !fk L m) (fx L n k m=false/\0=(aG L n k m).code/\abJ=(aG L n k m).data/\void=(aG L n k m).k0/\void=(aG L n k m).k1/\void=(aG L n k m).k2/\false=cX L n k m/\2=cK L n k m) (aba (decide ((ah L k).kind=6)||decide ((ah L k).kind=7)) (fx L n k m=false/\0=(aG L n k m).code/\abJ=(aG L n k m).data/\void=(aG L n k m).k0/\void=(aG L n k m).k1/\void=(aG L n k m).k2/\false=cX L n k m/\241=cK L n k m) (aba (decide ((ah L k).kind=0)) (abb (fx L n k m=false/\190=(aG L n k m).code/\abJ=(aG L n k m).data/\void=(aG L n k m).k0/\void=(aG L n k m).k1/\void=(aG L n k m).k2/\false=cX L n k m/\0=cK L n k m)) (aba (decide ((aH L m).code=0)) (abb (abb (fx L n k m=false/\0=(aG L n k m).code/\abJ=(aG L n k m).data/\void=(aG L n k m).k0/\void=(aG L n k m).k1/\abg (ah L k).kind=(aG L n k m).k2/\false=cX L n k m/\0=cK L n k m))) (((!decide ((aH L m).code<1))=true->ym (ah L k).kind)/\aba (decide ((aH L m).code<1)||decide (c9 (ah L k).kind<(aH L m).code)||cW (ah L k).kind (aH L m).code&& !decide ((aH L m).k2.kind=1)) (abb (fx L n k m=false/\240=(aG L n k m).code/\abJ=(aG L n k m).data/\void=(aG L n k m).k0/\void=(aG L n k m).k1/\void=(aG L n k m).k2/\false=cX L n k m/\0=cK L n k m)) ((aba (decide (0<=(aH L m).k2.value)&&decide ((aH L m).k2.value<=2147483647)) (∃g: Unit,xe L n k m/\n=n/\(ah L k).kind=(ah L k).kind/\(aH L m).k2.value=aS (aH L m)/\L=L/\ah L k=ah L k/\(aH L m).code=(aH L m).code/\(aH L m).data=(aH L m).data/\(aH L m).k0=(aH L m).k0/\(aH L m).k1=(aH L m).k1/\(aH L m).k2=(aH L m).k2/\abJ=abJ/\void=void/\void=void/\void=void) (∃g:Unit,xe L n k m/\n=n/\(ah L k).kind=(ah L k).kind/\-1=aS (aH L m)/\L=L/\ah L k=ah L k/\(aH L m).code=(aH L m).code/\(aH L m).data=(aH L m).data/\(aH L m).k0=(aH L m).k0/\(aH L m).k1=(aH L m).k1/\(aH L m).k2=(aH L m).k2/\abJ=abJ/\void=void/\void=void/\void=void))/\∀(g:Unit),xe L n k m->aba (decide ((ah L k).kind=1)) (abb (abb (fx L n k m=false/\0=(aG L n k m).code/\abJ=(aG L n k m).data/\void=(aG L n k m).k0/\void=(aG L n k m).k1/\abg (ah L k).value=(aG L n k m).k2/\decide (abX L k)=cX L n k m/\0=cK L n k m))) (aba (decide ((ah L k).kind=2)) (abb (mF L (ah L k) (aH L m) (aS (aH L m))/\(kg L (ah L k) (aH L m)=false->aba (!decide ((eo L (ah L k) (aH L m)).fst=0)) (abb (fx L n k m=false/\(eo L (ah L k) (aH L m)).fst=(aG L n k m).code/\abJ=(aG L n k m).data/\void=(aG L n k m).k0/\void=(aG L n k m).k1/\void=(aG L n k m).k2/\decide (abX L k)=cX L n k m/\0=cK L n k m)) (fx L n k m=false/\(abY L k m).code=(aG L n k m).code/\(abY L k m).data=(aG L n k m).data/\(abY L k m).k0=(aG L n k m).k0/\(abY L k m).k1=(aG L n k m).k1/\(abY L k m).k2=(aG L n k m).k2/\decide (abX L k)=cX L n k m/\0=cK L n k m))/\(kg L (ah L k) (aH L m)=true->aba (!decide ((eo L (ah L k) (aH L m)).fst=0)) (abb (fx L n k m=true/\((eo L (ah L k) (aH L m)).fst=(aG L n k m).code/\abJ=(aG L n k m).data/\void=(aG L n k m).k0/\void=(aG L n k m).k1/\void=(aG L n k m).k2/\decide (abX L k)=cX L n k m/\0=cK L n k m)/\(eo L (ah L k) (aH L m)).snd.snd=gY L n k m)) (fx L n k m=true/\((abY L k m).code=(aG L n k m).code/\(abY L k m).data=(aG L n k m).data/\(abY L k m).k0=(aG L n k m).k0/\(abY L k m).k1=(aG L n k m).k1/\(abY L k m).k2=(aG L n k m).k2/\decide (abX L k)=cX L n k m/\0=cK L n k m)/\(eo L (ah L k) (aH L m)).snd.snd=gY L n k m)))) (aba (decide ((ah L k).kind=3)) (abb (mF L (ah L k) (aH L m) (aS (aH L m))/\(kV L (ah L k) (aH L m)=false->aba (!decide ((ep L (ah L k) (aH L m)).fst=0)) (abb (fx L n k m=false/\(ep L (ah L k) (aH L m)).fst=(aG L n k m).code/\abJ=(aG L n k m).data/\void=(aG L n k m).k0/\void=(aG L n k m).k1/\void=(aG L n k m).k2/\decide (abX L k)=cX L n k m/\0=cK L n k m)) (fx L n k m=false/\(abZ L k m).code=(aG L n k m).code/\(abZ L k m).data=(aG L n k m).data/\(abZ L k m).k0=(aG L n k m).k0/\(abZ L k m).k1=(aG L n k m).k1/\(abZ L k m).k2=(aG L n k m).k2/\decide (abX L k)=cX L n k m/\0=cK L n k m))/\(kV L (ah L k) (aH L m)=true->aba (!decide ((ep L (ah L k) (aH L m)).fst=0)) (abb (fx L n k m=true/\((ep L (ah L k) (aH L m)).fst=(aG L n k m).code/\abJ=(aG L n k m).data/\void=(aG L n k m).k0/\void=(aG L n k m).k1/\void=(aG L n k m).k2/\decide (abX L k)=cX L n k m/\0=cK L n k m)/\(ep L (ah L k) (aH L m)).snd.snd=gY L n k m)) (fx L n k m=true/\((abZ L k m).code=(aG L n k m).code/\(abZ L k m).data=(aG L n k m).data/\(abZ L k m).k0=(aG L n k m).k0/\(abZ L k m).k1=(aG L n k m).k1/\(abZ L k m).k2=(aG L n k m).k2/\decide (abX L k)=cX L n k m/\0=cK L n k m)/\(ep L (ah L k) (aH L m)).snd.snd=gY L n k m)))) (aba (decide ((ah L k).kind=4)) (abb (mF L (ah L k) (aH L m) (aS (aH L m))/\(gJ L (ah L k) (aH L m)=false->aba (!decide ((dA L (ah L k) (aH L m)).fst=0)) (abb (fx L n k m=false/\(dA L (ah L k) (aH L m)).fst=(aG L n k m).code/\abJ=(aG L n k m).data/\void=(aG L n k m).k0/\void=(aG L n k m).k1/\void=(aG L n k m).k2/\decide (abX L k)=cX L n k m/\0=cK L n k m)) (fx L n k m=false/\(aca L k m).code=(aG L n k m).code/\(aca L k m).data=(aG L n k m).data/\(aca L k m).k0=(aG L n k m).k0/\(aca L k m).k1=(aG L n k m).k1/\(aca L k m).k2=(aG L n k m).k2/\decide (abX L k)=cX L n k m/\0=cK L n k m))/\(gJ L (ah L k) (aH L m)=true->aba (!decide ((dA L (ah L k) (aH L m)).fst=0)) (abb (fx L n k m=true/\((dA L (ah L k) (aH L m)).fst=(aG L n k m).code/\abJ=(aG L n k m).data/\void=(aG L n k m).k0/\void=(aG L n k m).k1/\void=(aG L n k m).k2/\decide (abX L k)=cX L n k m/\0=cK L n k m)/\(dA L (ah L k) (aH L m)).snd.snd=gY L n k m)) (fx L n k m=true/\((aca L k m).code=(aG L n k m).code/\(aca L k m).data=(aG L n k m).data/\(aca L k m).k0=(aG L n k m).k0/\(aca L k m).k1=(aG L n k m).k1/\(aca L k m).k2=(aG L n k m).k2/\decide (abX L k)=cX L n k m/\0=cK L n k m)/\(dA L (ah L k) (aH L m)).snd.snd=gY L n k m)))) (aba (decide ((ah L k).kind=5)) (abb (mF L (ah L k) (aH L m) (aS (aH L m))/\(ij L (ah L k) (aH L m)=false->aba (!decide ((dr L (ah L k) (aH L m)).fst=0)) (abb (fx L n k m=false/\(dr L (ah L k) (aH L m)).fst=(aG L n k m).code/\abJ=(aG L n k m).data/\void=(aG L n k m).k0/\void=(aG L n k m).k1/\void=(aG L n k m).k2/\decide (abX L k)=cX L n k m/\0=cK L n k m)) (fx L n k m=false/\(acb L k m).code=(aG L n k m).code/\(acb L k m).data=(aG L n k m).data/\(acb L k m).k0=(aG L n k m).k0/\(acb L k m).k1=(aG L n k m).k1/\(acb L k m).k2=(aG L n k m).k2/\decide (abX L k)=cX L n k m/\0=cK L n k m))/\(ij L (ah L k) (aH L m)=true->aba (!decide ((dr L (ah L k) (aH L m)).fst=0)) (abb (fx L n k m=true/\((dr L (ah L k) (aH L m)).fst=(aG L n k m).code/\abJ=(aG L n k m).data/\void=(aG L n k m).k0/\void=(aG L n k m).k1/\void=(aG L n k m).k2/\decide (abX L k)=cX L n k m/\0=cK L n k m)/\(dr L (ah L k) (aH L m)).snd.snd=gY L n k m)) (fx L n k m=true/\((acb L k m).code=(aG L n k m).code/\(acb L k m).data=(aG L n k m).data/\(acb L k m).k0=(aG L n k m).k0/\(acb L k m).k1=(aG L n k m).k1/\(acb L k m).k2=(aG L n k m).k2/\decide (abX L k)=cX L n k m/\0=cK L n k m)/\(dr L (ah L k) (aH L m)).snd.snd=gY L n k m)))) (aba (decide ((ah L k).kind=8)) (aba (decide ((aH L m).code=1)) (abb (abb (fx L n k m=false/\0=(aG L n k m).code/\abJ=(aG L n k m).data/\void=(aG L n k m).k0/\void=(aG L n k m).k1/\abg (aH L m).k0.kind=(aG L n k m).k2/\decide (abX L k)=cX L n k m/\0=cK L n k m))) (aba (decide ((aH L m).code=2)) (abb (aba (kU (aH L m).k0 (aH L m).k1) (abb (abb (fx L n k m=false/\0=(aG L n k m).code/\abJ=(aG L n k m).data/\void=(aG L n k m).k0/\void=(aG L n k m).k1/\abg 1=(aG L n k m).k2/\decide (abX L k)=cX L n k m/\0=cK L n k m))) (abb (abb (fx L n k m=false/\0=(aG L n k m).code/\abJ=(aG L n k m).data/\void=(aG L n k m).k0/\void=(aG L n k m).k1/\abg 0=(aG L n k m).k2/\decide (abX L k)=cX L n k m/\0=cK L n k m))))) (abb (abb (fx L n k m=false/\0=(aG L n k m).code/\abJ=(aG L n k m).data/\void=(aG L n k m).k0/\void=(aG L n k m).k1/\abg (aH L m).k0.rights=(aG L n k m).k2/\decide (abX L k)=cX L n k m/\0=cK L n k m))))) (aba (decide ((ah L k).kind=9)) (abb (abb (fx L n k m=false/\0=(aG L n k m).code/\abJ=(aG L n k m).data/\void=(aG L n k m).k0/\void=(aG L n k m).k1/\abg n=(aG L n k m).k2/\decide (abX L k)=cX L n k m/\0=cK L n k m))) (fx L n k m=false/\0=(aG L n k m).code/\abJ=(aG L n k m).data/\void=(aG L n k m).k0/\void=(aG L n k m).k1/\void=(aG L n k m).k2/\decide (abX L k)=cX L n k m/\0=cK L n k m))))))))))))):=by
 delta aba abJ abg acb aca abZ abY abX abb
 have hd:(aH L m).data=m.data:=rfl;have hcd:(aH L m).code=m.code:=rfl;have hsz:bD (ai L)=0↔ai L=0:=by simp[bD]
 refine⟨fun h=>?_,fun h=>⟨fun _=>hs,fun h2=>?_,fun h2=>⟨fun h3=>?_,fun h3=>⟨fun h4=>?_,fun h4=>⟨fun h5=>?_,fun h5=>⟨fun _=>?_,fun h6=>?_,fun h6=>?_⟩⟩⟩⟩⟩⟩
 ·obtain⟨a,b,c,d⟩:=Md (n:=n) (k:=k) (m:=m) (L:=L) (e:=1) (by unfold cK;rw[aa4 (hsz.1 (aa1 h))]) (by omega)
  rw[a,b,c];exact⟨rfl,rfl,rfl,rfl,rfl,rfl,rfl,d⟩
 all_goals have h0:¬ai L=0:=fun e=>aa0 h (hsz.2 e)
 ·have hf:qp L n k m=false:=Sv h2;obtain⟨a,b,c,d⟩:=Md (n:=n) (k:=k) (m:=m) (L:=L) (e:=2) (by unfold cK;rw[aa3 h0,aa4 hf]) (by omega)
  rw[a,b,c];exact⟨rfl,rfl,rfl,rfl,rfl,rfl,rfl,d⟩
 all_goals have hf:¬qp L n k m=false:=LL h2
 ·have h3:(ah L k).kind=6\/(ah L k).kind=7:=by simpa using h3
  obtain⟨a,b,c,d⟩:=Md (n:=n) (k:=k) (m:=m) (L:=L) (e:=241) (by unfold cK;rw[aa3 h0,aa3 hf,aa4 h3]) (by omega)
  rw[a,b,c];exact⟨rfl,rfl,rfl,rfl,rfl,rfl,rfl,d⟩
 all_goals have h3:¬((ah L k).kind=6\/(ah L k).kind=7):=by simpa using h3
 all_goals have hE:cK L n k m=0:=by unfold cK;rw[aa3 h0,aa3 hf,aa3 h3]
 ·have h4:=aa1 h4;obtain⟨a,b,c,d,e⟩:=Db (c:=false) (r:=(190,cY,L)) hE (by unfold dG;rw[aa4 h4]) (by unfold vE;rw[aa4 h4])
  rw[a,b,d,h4];exact⟨rfl,rfl,rfl,rfl,rfl,rfl,rfl,rfl,e⟩
 all_goals have h4:=aa0 h4
 ·have h5:=aa1 h5;obtain⟨a,b,c,d,e⟩:=Db (c:=false) (r:=(0,fq (ah L k).kind,L)) hE (by unfold dG;rw[aa3 h4,aa4 h5]) (by unfold vE;rw[aa3 h4,aa4 h5])
  rw[hcd]at h5;rw[a,b,d,h5];refine⟨rfl,rfl,rfl,rfl,rfl,rfl,rfl,rfl,?_,e⟩;simp
 all_goals have h5:=aa0 h5
 ·unfold ym;have:=tC (L:=L) (k:=k);unfold aV at this;simp only[aaX,aaY]at this;omega
 ·have h6':(aH L m).code<1\/c9 (ah L k).kind<(aH L m).code\/(cW (ah L k).kind (aH L m).code=true/\(aH L m).k2.kind≠1):=by
   simp only[Bool.or_eq_true,aaX,aaY,Bool.not_eq_true',decide_eq_false_iff_not]at h6;rcases h6 with(h6|h6)|h6
   ·exact .inl h6
   ·exact .inr (.inl h6)
   ·exact .inr (.inr h6)
  obtain⟨a,b,c,d,e⟩:=Db (c:=false) (r:=(240,cY,L)) hE (by unfold dG;rw[aa3 h4,aa3 h5,aa4 h6']) (by unfold vE;rw[aa3 h4,aa3 h5,aa4 h6'])
  have hw:(decide ((ah L k).kind=10)&&decide (m.code=1))=false:=by
   by_cases hk:(ah L k).kind=10
   ·have h1:c9 (ah L k).kind=1:=by rw[hk];rfl
    have h2:cW (ah L k).kind (aH L m).code=false:=by rw[hk];rfl
    rw[h2,h1,hcd]at h6';have:¬m.code=1:=fun hm=>by rw[hm]at h6';simp at h6'
    simp[this]
   ·simp[hk]
  rw[a,b,d,hw];exact⟨rfl,rfl,rfl,rfl,rfl,rfl,rfl,rfl,e⟩
 have h6':¬((aH L m).code<1\/c9 (ah L k).kind<(aH L m).code\/(cW (ah L k).kind (aH L m).code=true/\(aH L m).k2.kind≠1)):=fun hh=>by
  simp only[Bool.or_eq_false_iff,Bool.and_eq_false_iff,decide_eq_false_iff_not,Bool.not_eq_false',aaY]at h6;obtain⟨⟨h6a,h6b⟩,h6c⟩:=h6;rcases hh with hh|hh|hh
  ·exact h6a hh
  ·exact h6b hh
  ·rcases h6c with h6c|h6c
   ·rw[h6c]at hh;simp at hh
   ·exact hh.2 h6c
 have hZ:xe L n k m:=⟨⟨hL,hs⟩,hE,h4,h5,h6'⟩;refine⟨⟨fun h7=>⟨(),hZ,?_⟩,fun h7=>⟨(),hZ,?_⟩⟩,fun _ _=>?_⟩
 ·have h7:0<=(aH L m).k2.value/\(aH L m).k2.value<=2147483647:=by simpa using h7
  have:(aH L m).k2.value=aS (aH L m):=by unfold aS;rw[aa4 h7]
  exact⟨rfl,rfl,this,rfl,rfl,rfl,rfl,rfl,rfl,rfl,rfl,rfl,rfl,rfl⟩
 ·have h7:¬(0<=(aH L m).k2.value/\(aH L m).k2.value<=2147483647):=by simpa using h7
  have: -1=aS (aH L m):=by unfold aS;rw[aa3 h7]
  exact⟨rfl,rfl,this,rfl,rfl,rfl,rfl,rfl,rfl,rfl,rfl,rfl,rfl,rfl⟩
 obtain⟨e1,e2,e3,e4,e5⟩:=Rw hZ rfl rfl;have hro:mF L (ah L k) (aH L m) (aS (aH L m)):=⟨hL,hs,tC,rfl⟩;clear hZ h6' h6 h5 h4 hE h3 hf h0 h2 h hsz hcd hd hL hs;rw[e1,e2,e3,e4,<-e5];clear e1 e2 e3 e4 e5;generalize ah L k=k' at *
 generalize aH L m=m' at *
 repeat' (first|with_reducible assumption|with_reducible rfl|with_reducible apply And.intro|with_reducible intro _)
 all_goals(first| (simp_all[tq,eJ,Na,KK,Qm,bh,gf,fq,dZ,cJ,cY,void];done)| (simp_all[tq,eJ,Na,KK,Qm,bh,gf,fq,dZ,cJ,cY,void];omega))
theorem W4 (L:List Sx.Obj) (n:Int) (k:Key) (m:br) (hL:ar L) (hs:aw m.data):an Tryz.prog 52 [.sa 0,.it .i64 n,.key k,jG m] [.ro (.arr none 163 (.ob L))] (xY (fx L n k m) (gY L n k m) [jG (aG L n k m),.bo (cX L n k m),.it .i64 (cK L n k m)]) (fun _ _=>False):=
 bj (inl:=(fun f=>f==109||f==79||f==86||f==31||f==78)) (ann:=(iu [(52,2000019,QJ [0,1,6,7,9,12] (fun(_:Unit)=> [(13,.it .i64 (aS (aH L m)))]) (fun _=> []) (fun _=> []) (fun _=>xe L n k m))])) (ae yW (ae Cy (ae CS (ae pd (ae Sn (ae KI (ae Lp aq))))))) (aB Mk (aB Lq (aB Jg (aB Mm aD)))) (WH L n k m hL hs) (by kernel_rfl)
theorem Wb:kJ Tryz.prog 52 ZF:=
 iJ (m:=fun x=>Ox.cn x 0) (fL HP (fun _=>rfl)) (fun _=>rfl) (fun _ _=>rfl) fun L x hq=>W4 L x.1 x.2.1 x.2.2.1 hq.1 hq.2
end Go.Proofs.YtlblcfaclmpekaaGreat
namespace Go.Sx
theorem TX {L:List Obj} {i:Int} {m:br} (hL:ar L):ar (gr L i m):=by
 unfold gr;split
 ·rename_i hE
  have hm:fk L m=true/\bz L i=1:=by
   unfold fY at hE;split at hE
   ·omega
   ·split at hE
    ·omega
    ·split at hE
     ·omega
     ·rename_i h1 h2;exact⟨by simpa using h1,by omega⟩
  obtain⟨a,b,c,d⟩:=oO (qy.1.1 (by omega:0<=bz L i))
  obtain⟨f0,f1,f2⟩:=CU (by have:=gy hL;omega:0<L.length) m
  exact lF hL (FG (dq hL i.toNat (by omega)) d f0 f1 f2 (yT (by omega)))
 ·exact hL
theorem WV {L:List Obj} {n:Int} {p:iW} (hL:ar L):ar (dM L n p):=by
 unfold dM;split
 ·split
  ·exact Wd hL
  ·unfold xc;have h1:ar (iC L n p):=FR hL;split
   ·split
    ·exact TX h1
    ·split
     ·exact FT h1
     ·exact h1
   ·exact h1
 ·exact hL
theorem Xy {n:Int} {p:iW} (hn:gN n):gN (jh n p):=by
 unfold jh;split
 ·rename_i h;obtain⟨hr,hk⟩:=h;unfold er at hr;rw[aa4 hk]at hr;simp only[aaX,aaY]at hr;unfold gN at hn⊢;omega
 ·exact hn
def BJ (l:TL) (L:List Obj) (n:Int):Prop:=ar L/\gN n/\∃x:List iW,l=lG x/\wI x/\ai x<=40
def lR (p:iW):Prop:=True
def p5 (L:List Obj) (p:iW) (g:Int):Prop:=0<=g/\g<(ai (bZ L):Int)/\aj (bZ L) g.toNat 0=aX L p
def UZ (o:Obj) (p:iW):br:=⟨p.code,p.data,oi o p.s0,oi o p.s1,oi o p.s2⟩
def mh (L:List Obj) (p:iW):br:=UZ (aL L (aX L p)) p
def xU (L:List Obj) (p:iW):Key:=ah L ((aj L (aX L p).toNat free).slots.at (4+p.reg).toNat)
def stM (L:List Obj) (n:Int) (p:iW):br:=aG L n (xU L p) (bL L p)
def XD (L:List Obj) (n:Int) (p:iW):List Obj:=gY L n (xU L p) (bL L p)
def I3 (L:List Obj) (p:iW) (s:Int):Key:=(aj L (aX L p).toNat free).slots.at (4+s).toNat
def Vh (L:List Obj) (p:iW) (s:Int) (r:Prop):Prop:=aF .i64 (4+s)/\(0<=aX L p/\aX L p< ↑(ai L))/\(0<=4+s/\4+s< ↑16)/\(aX L p).toNat<ai L/\r
def xz (L:List Obj) (n:Int) (p:iW) (r:Prop):Prop:=L=L/\n=n/\p.kind=p.kind/\p.proc=p.proc/\p.reg=p.reg/\p.mode=p.mode/\p.code=p.code/\p.data=p.data/\p.s0=p.s0/\p.s1=p.s1/\p.s2=p.s2/\p.num=p.num/\p.val=p.val/\Value.slice none 0 0=Value.slice none 0 0/\ByteArray.mk (Array.mk [])=ByteArray.mk (Array.mk [])/\void=void/\void=void/\void=void/\false=false/\bZ L=bZ L/\r
def H3 (L:List Obj) (n:Int) (p:iW):Prop:=L=L/\n=n/\p.kind=p.kind/\p.proc=p.proc/\p.reg=p.reg/\p.mode=p.mode/\p.code=p.code/\p.data=p.data/\p.s0=p.s0/\p.s1=p.s1/\p.s2=p.s2/\p.num=p.num/\p.val=p.val/\Value.slice none 0 0=Value.slice none 0 0/\ByteArray.mk (Array.mk [])=ByteArray.mk (Array.mk [])/\void=void/\void=void/\void=void/\false=false/\bZ L=bZ L
theorem Cp {L:List Obj} {n:Int} {p:iW}:H3 L n p:=⟨rfl,rfl,rfl,rfl,rfl,rfl,rfl,rfl,rfl,rfl,rfl,rfl,rfl,rfl,rfl,rfl,rfl,rfl,rfl,rfl⟩
theorem Gs {L:List Obj} {n:Int} {p:iW} {r:Prop} (h:r):xz L n p r:=⟨rfl,rfl,rfl,rfl,rfl,rfl,rfl,rfl,rfl,rfl,rfl,rfl,rfl,rfl,rfl,rfl,rfl,rfl,rfl,rfl,h⟩
def QD (L:List Obj) (n:Int) (p:iW) (x o i e:Int) (m:br) (w:Bool):Prop:=x=jh n p/\o=(aT L n p).out/\i=(aT L n p).proc/\e=(aT L n p).err/\m.code=(aT L n p).ans.code/\m.data=(aT L n p).ans.data/\m.k0=(aT L n p).ans.k0/\m.k1=(aT L n p).ans.k1/\m.k2=(aT L n p).ans.k2/\w=(aT L n p).wants
theorem xn {L:List Obj} {n x o i e:Int} {p:iW} {m:br} {w:Bool} (h1:jh n p=x) (h2:aT L n p=⟨o,i,e,m,w⟩):QD L n p x o i e m w:=by
 unfold QD;rw[h1,h2];(repeat' apply And.intro)<;>rfl
theorem C7 {L:List Obj} {p:iW} {s:Int} (h0:0<=aX L p) (h1:aX L p<(ai L:Int)) (hs:gQ s=true):(decide (0<=s)=true->(∀r,r->Vh L p s r)/\I3 L p s=oi (aL L (aX L p)) s)/\(decide (0<=s)=false->void=oi (aL L (aX L p)) s):=by
 refine⟨fun h=>?_,fun h=>?_⟩
 ·have h:=aa1 h
  have hb:s<12:=by
   unfold gQ ug at hs;simp only[Bool.or_eq_true,aaX,aaY]at hs;omega
  refine⟨fun r hr=>⟨by simp only[aF,bY];omega,⟨h0,h1⟩,by omega,by omega,hr⟩,?_⟩
  unfold oi;rw[aa3 (by omega),fH h0 h1]
  rfl
 ·have h:=aa0 h;unfold oi;rw[aa4 (by omega)]
theorem Hy (L:List Obj):∀(k:Nat),∀x∈dJ L (k:Int),0<=x/\x<(k:Int)
 |0,x,h=>by rw[show((0:Nat):Int)=0 from rfl,vU]at h;simp at h
 |k+1,x,h=>by
  rw[show((k+1:Nat):Int)=(k:Int)+1 by omega,wC L (by omega)]at h
  have ih:=Hy L k x;split at h
  ·unfold jl at h;rcases List.mem_append.1 h with h|h
   ·have:=ih h;omega
   ·simp only[List.mem_singleton]at h;omega
  ·have:=ih h;omega
theorem WG {L:List Obj} {p:iW} (hL:ar L) (h0:¬ai (bZ L)=0):0<=aX L p/\aX L p<(ai L:Int):=by
 obtain⟨_,_,_,f4⟩:=wQ (p:=p) hL h0
 have hlt:((p.proc.tmod (ai (bZ L):Int)+(ai (bZ L):Int)).tmod (ai (bZ L):Int)).toNat<(bZ L).length:=by
  have:ai (bZ L)=(bZ L).length:=rfl;omega
 have hm:aX L p∈bZ L:=by
  unfold aX aj;rw[aa2,List.getElem?_eq_getElem hlt];exact List.getElem_mem _
 exact Hy L (ai L) _ hm
theorem XO {L:List Obj} {p:iW} (hL:ar L) (h0:¬ai (bZ L)=0):(p.proc.tmod (ai (bZ L):Int)<0->p5 L p (p.proc.tmod (ai (bZ L):Int)+(ai (bZ L):Int)))/\(¬p.proc.tmod (ai (bZ L):Int)<0->p5 L p (p.proc.tmod (ai (bZ L):Int))):=by
 have hN:(0:Int)<(ai (bZ L):Int):=by omega
 have hb:=Int.tmod_lt_of_pos p.proc hN;have hb2:=Int.lt_tmod_of_pos p.proc hN;unfold p5 aX;generalize p.proc.tmod (ai (bZ L):Int)=x at *
 refine⟨fun h=>⟨by omega,by omega,?_⟩,fun h=>⟨by omega,by omega,?_⟩⟩
 ·rw[Int.tmod_eq_of_lt (by omega) (by omega)]
 ·rw[Int.tmod_eq_emod_of_nonneg (by omega),Int.add_emod_right,Int.emod_eq_of_lt (by omega) hb]
theorem Xg {L:List Obj} {n:Int} {p:iW} {A:List Obj} (hA:iC L n p=A):xc L n p=if bz A (aX L p)=1 then(if p.mode=1 then gr A (aX L p) (aG L n (cR L p) (bL L p))else if p.mode=3 then dg A (aX L p) 0 else A)else A:=by
 unfold xc;rw[hA]
 have:(dP A (aX L p)=true/\iE A (aX L p)=1)↔bz A (aX L p)=1:=by
  unfold iE bz;split<;>simp_all
 simp only[this]
def Hf (L:List Obj) (n:Int) (p:iW) (A:List Obj) (E D:Prop):Prop:=((decide (bz A (aX L p)=1)&&decide (p.mode=1))=true->true=true/\(ar A/\aw (stM L n p).data)/\(o7 A (aX L p) (stM L n p)=false->((decide (bz A (aX L p)=1)&&decide (p.mode=3))=true->true=true/\ar A/\(kq A (aX L p) 0=false->D/\E)/\(kq A (aX L p) 0=true->D/\dg A (aX L p) 0=dM L n p))/\((decide (bz A (aX L p)=1)&&decide (p.mode=3))=false->D/\E))/\(o7 A (aX L p) (stM L n p)=true->((decide (bz (gr A (aX L p) (stM L n p)) (aX L p)=1)&&decide (p.mode=3))=true->true=true/\ar (gr A (aX L p) (stM L n p))/\(kq (gr A (aX L p) (stM L n p)) (aX L p) 0=false->D/\gr A (aX L p) (stM L n p)=dM L n p)/\(kq (gr A (aX L p) (stM L n p)) (aX L p) 0=true->D/\dg (gr A (aX L p) (stM L n p)) (aX L p) 0=dM L n p))/\((decide (bz (gr A (aX L p) (stM L n p)) (aX L p)=1)&&decide (p.mode=3))=false->D/\gr A (aX L p) (stM L n p)=dM L n p)))/\((decide (bz A (aX L p)=1)&&decide (p.mode=1))=false->((decide (bz A (aX L p)=1)&&decide (p.mode=3))=true->true=true/\ar A/\(kq A (aX L p) 0=false->D/\E)/\(kq A (aX L p) 0=true->D/\dg A (aX L p) 0=dM L n p))/\((decide (bz A (aX L p)=1)&&decide (p.mode=3))=false->D/\E))
theorem IG {L:List Obj} {n:Int} {p:iW} {A:List Obj} {E D:Prop} (hA:iC L n p=A) (hE:dM L n p=A->E) (hl:dM L n p=xc L n p) (hM:aG L n (cR L p) (bL L p)=stM L n p) (hL:ar A) (d:D):Hf L n p A E D:=by
 rw[Xg hA,hM]at hl;have hs:aw (stM L n p).data:=by rw[<-hM];exact Cv
 simp only[Hf,aaX,Bool.and_eq_false_iff,aaY,decide_eq_false_iff_not];refine⟨fun⟨h1,h2⟩=>?_,fun h=>⟨fun⟨h1,h3⟩=>?_,fun h3=>⟨d,hE ?_⟩⟩⟩
 ·rw[aa4 h1,aa4 h2]at hl;have h3:¬p.mode=3:=by omega
  refine⟨trivial,⟨hL,hs⟩,fun hc=>⟨fun hh=>absurd hh.2 h3,fun _=>⟨d,hE (hl.trans (X5 hc))⟩⟩,fun hc=>⟨fun hh=>absurd hh.2 h3,fun _=>⟨d,hl.symm⟩⟩⟩
 ·rw[aa4 h1,aa3 (by omega),aa4 h3]at hl
  exact⟨trivial,hL,fun hc=>⟨d,hE (hl.trans (G8 hc))⟩,fun hc=>⟨d,hl.symm⟩⟩
 ·by_cases h1:bz A (aX L p)=1
  ·rw[aa4 h1,aa3 (by omega),aa3 (by omega)]at hl
   exact hl
  ·rw[aa3 h1]at hl;exact hl
def kRs (L M:List Obj) (n:Int) (D:V) (v:V) (r:List aK):Prop:=
 match v with
 | .tp l=>match l with
   | [a,d]=>match a with
     | .ag m=>match m with
       | [b,y]=>match b with
         | .sa p=>if p==0 then oD (.tp [.it .i64 n,D]) (.tp [y,d]) r/\M=L else if Nat.ble 1 p then match ay r p with
           | .arr own z t=>match own with
             |some e=>match t with
              | .ob N=>if z==163&&e==tO then oD (.tp [.it .i64 n,D]) (.tp [y,d]) r/\N=M else False
              |_=>False
             |none=>False
           |_=>False
           else False
         |_=>False
       |_=>False
     |_=>False
   |_=>False
 |_=>False
theorem TH {L M:List Obj} {n:Int} {D v:V} {r:List aK} (h:kRs L M n D v r):∃p y d,v= .tp [.ag [.sa p,y],d]/\oD (.tp [.it .i64 n,D]) (.tp [y,d]) r/\((p=0/\M=L)\/(1<=p/\ay r p= .arr (some tO) 163 (.ob M))):=by
 unfold kRs at h;split at h
 case h_2=>exact h.elim
 split at h
 case h_2=>exact h.elim
 split at h
 case h_2=>exact h.elim
 split at h
 case h_2=>exact h.elim
 rename_i d _ _ _ y;split at h
 case h_2=>exact h.elim
 rename_i p;split at h
 ·rename_i e;exact⟨p,y,d,rfl,h.1,.inl ⟨aaZ.1 e,h.2⟩⟩
 ·split at h
  case isFalse=>exact h.elim
  rename_i hp;split at h
  case h_2=>exact h.elim
  rename_i hrp;split at h
  case h_2=>exact h.elim
  split at h
  case h_2=>exact h.elim
  split at h
  case isFalse=>exact h.elim
  rename_i hc;simp only[aaX,aaZ]at hc;obtain⟨rfl,rfl⟩:=hc;obtain⟨h1,rfl⟩:=h;exact⟨p,y,d,rfl,h1,.inr ⟨by simpa using hp,hrp⟩⟩
def CC:ke:=fun args res K=>
 match args with
 |a::l=>match um JQ l with
  |some x=>match a with
   | .ag m=>match m with
     | [b,y]=>match b with
       | .sa j=>match y with
         | .it k n=>match k with
           | .i64=>match cG res j with
             | .arr _ z t=>if z==163 then match t with
               | .ob M=>(Yd M n (wx x.1)/\er (wx x.1) n=true)/\(dM M n (wx x.1)=M->K (.tp [.ag [.sa j,.it .i64 (jh n (wx x.1))],YH (aT M n (wx x.1))]) res)/\
                 K (.tp [.ag [.sa res.length,.it .i64 (jh n (wx x.1))],YH (aT M n (wx x.1))]) (res++ [.arr (some tO) 163 (.ob (dM M n (wx x.1)))])
               |_=>False
               else False
             |_=>False
           |_=>False
         |_=>False
       |_=>False
     |_=>False
   |_=>False
  |none=>False
 |_=>False
theorem E2 {κ:Nat->Option Nat} {p j:Nat} {n:Int} {y d F:V} {r:List aK} (hκ:κ p=some j) (hF:kf F=true) (hb:oD (.tp [.it .i64 n,F]) (.tp [y,d]) r):jR κ (.tp [.ag [.sa p,y],d]) (.tp [.ag [.sa j,.it .i64 n],F]):=by
 intro ρ2 ρ3 N N' h1 h2 hv;obtain⟨⟨⟨hp,hy,_⟩,_⟩,hd,_⟩:=hv;obtain⟨e1,e2,_⟩:=dE hb ρ2 N;obtain⟨a1,a2,a3,a4,a5,a6⟩:=h1 p j hκ;have hFN:fM N [.it .i64 n,F]:=e2 ⟨hy,hd,trivial⟩;have hF0:fM (fun _=>False) [V.it .i64 n,F]:=mi _ (by simp[lf,kf,hF]) hFN
 have e3:bB ρ3 [.it .i64 n,F]=bB ρ2 [.it .i64 n,F]:=fS (N:=fun _=>False) (fun _ h=>h.elim) _ hF0
 have hN':fM N' [V.it .i64 n,F]:=mi _ (by simp[lf,kf,hF]) hFN
 have e1:den ρ2 y= .int .i64 n/\den ρ2 d=den ρ2 F:=by simpa[den,bB]using e1
 have e3:den ρ3 F=den ρ2 F:=by simpa[bB,den]using e3
 refine⟨?_,⟨⟨h2 p j hκ hp,hN'.1,trivial⟩,trivial,trivial,trivial⟩,hN'.2⟩;simp only[den,bB,bp,e1.1,e1.2,e3,a2,a4,a5]
theorem X9 {P:Program} {f:Nat} (hcl:∀L n p,Yd L n p->er p n=true->an P f [.ag [.sa 0,.it .i64 n],Kn p] [.ro (.arr none 163 (.ob L))] (kRs L (dM L n p) (jh n p) (YH (aT L n p))) (fun _ _=>False)):kJ P f CC:=by
 intro args res K KP h;unfold CC at h;split at h
 case h_2=>exact h.elim
 split at h
 case h_2=>exact h.elim
 rename_i x hx;refine an.args (fc.jH (fL F8 (fun _=>rfl) _ _ hx)) ?_
 split at h
 case h_2=>exact h.elim
 split at h
 case h_2=>exact h.elim
 split at h
 case h_2=>exact h.elim
 rename_i j;split at h
 case h_2=>exact h.elim
 rename_i n;split at h
 case h_2=>exact h.elim
 split at h
 case h_2=>exact h.elim
 rename_i own z t hj;split at h
 case isFalse=>exact h.elim
 rename_i hz;have hz:=aaZ.1 hz;subst hz;split at h
 case h_2=>exact h.elim
 rename_i M;obtain⟨⟨hQ,hR⟩,h0,h1⟩:=h;have hkj:=dU hj (by simp)
 have hjl:=aO hkj;have hres:eV (k7 0 (dB [(j,false)])) res [(j,false)]= [.ro (.arr own 163 (.ob M))]:=by simp[eV,hj,gm]
 refine an.frame (pl:= [(j,false)]) (args0:= [.ag [.sa 0,.it .i64 n],Kn (wx x.1)]) (K0:=kRs M (dM M n (wx x.1)) (jh n (wx x.1)) (YH (aT M n (wx x.1)))) (KP0:=fun _ _=>False) (by simp[eH,cD.2 hkj]) (by simpa[iD,dB,nL]using hjl) ?_ ?_ (fun v r hv=>?_) (fun _ _ h=>h.elim)
 ·exact lY (by simp[fU,eO,k7,idxOf,dB]) (jt _ rfl)
 ·rw[hres];exact an.UY (hcl M n (wx x.1) hQ hR)
 ·obtain⟨p,y,d,rfl,hb,hv⟩:=TH hv;rcases hv with⟨rfl,hc⟩|⟨hp,hrp⟩
  ·have hm:merge [(j,false)] [] r res=res:=by simp[merge,eZ,fZ]
   refine⟨[],_,rfl,by simp[jP],rfl,E2 (j:=j) (by simp[back,uN]) rfl hb,by rw[hm];exact h0 hc⟩
  ·have hpl:p<r.length:=aO (by rw[hrp];simp)
   have hm:merge [(j,false)] [p] r res=res++ [.arr (some tO) 163 (.ob (dM M n (wx x.1)))]:=by simp[merge,eZ,hrp,gm,fZ]
   refine⟨[p],_,by simpa[iD,nL]using⟨hp,hpl⟩,by simp[jP],by simp[nf,hrp,jI],E2 (j:=res.length) ?_ rfl hb,by rw[hm];exact h1⟩
   unfold back;rw[r7 _ _ (by simpa using hp)]
   simp[idxOf]
def rdM (res:List aK) (a:V):Option (Nat×Nat×Int×List Obj):=
 match a with
 | .lp b off=>match cG res b with
   | .blk t c=>match K4 c with
     |some q=>match cG res q.1 with
      | .store ts e L=>if off==0&&t==si&&ts==tS&&e==eS then some (b,q.1,q.2,L)else none
      |_=>none
     |none=>none
   |_=>none
 |_=>none
theorem LD {res:List aK} {a:V} {b s:Nat} {n:Int} {L:List Obj} (h:rdM res a=some (b,s,n,L)):a= .lp b 0/\(cG res b= .blk si (n8 s n)\/cG res b= .blk si (.ag [.lp s 0,.ci .i64 n]))/\cG res s= .store tS eS L:=by
 unfold rdM at h;split at h
 case h_2=>simp at h
 split at h
 case h_2=>simp at h
 rename_i hb;split at h
 case h_2=>simp at h
 rename_i q hq;split at h
 case h_2=>simp at h
 rename_i hs;split at h
 case isFalse=>simp at h
 rename_i hc;simp only[aaX,aaZ]at hc;obtain⟨⟨⟨rfl,rfl⟩,rfl⟩,rfl⟩:=hc;simp only[aaV,aaW]at h;obtain⟨rfl,rfl,rfl,rfl⟩:=h;obtain⟨y,rfl,hy⟩:=wN (s:=q.1) (n:=q.2) hq;refine⟨rfl,?_,hs⟩;rw[hb];cases y<;>simp[rI,toInt]at hy
 all_goals(obtain⟨rfl,hn⟩:=hy;subst hn;first|exact .inl rfl|exact .inr rfl)
def ctM (Q:List Obj->Option Prop) (x:Int->Nat->V) (new:List Obj->List aK):Ct:=fun res nid args=>match args with
 | [a]=>match rdM res a with
   |some r=>some (Q r.2.2.2,x r.2.2.1 nid,new r.2.2.2)
   |none=>none
 |_=>none
theorem Qg {P:Program} {f:Nat} {π:List Nat} {Q:List Obj->Option Prop} {x:Int->Nat->V} {new:List Obj->List aK} (hnd:π.Nodup) (hy:∀L,YE (new L)=true)
  (h:∀n L,dX (Q L)->an P f [.lp 0 0] [.ro (.blk si (n8 1 n)),.ro (.store tS eS L)] (fun v r=>w8 π (x n) (fun _=>new L) v r) (fun _ _=>False)):cq P f (ctM Q x new):=by
 intro J fps res K w0 F0 w nid args q y new' hH hargs hg hq hfr;unfold ctM at hg;split at hg
 case h_2=>simp at hg
 split at hg<;>simp only[aaV,aaW,reduceCtorEq]at hg
 rename_i r hr;obtain⟨b,s,n,L⟩:=r;obtain⟨rfl,rfl,rfl⟩:=hg;obtain⟨rfl,hb,hs⟩:=LD hr;refine⟨?_,fun k hk=>uI (hy L) k hk⟩
 have hne:b≠s:=fun e=>by rcases hb with hb|hb<;>rw[e,hs]at hb<;>simp at hb
 have hfr:∀b,b<w0.heap.size->¬F0 b->w.heap[b]? =w0.heap[b]? /\¬(fun _:Nat=>False) b:=fun b hb hF=>⟨hH.same b hb hF,fun h=>h⟩
 have hv:Env.via (fun p=>if p=b then some 0 else if p=s then some 1 else none) J (J.pull fun i=>if i=0 then b else s):=qN fun p i hp=>by
  split at hp<;>(try split at hp)<;>simp only[aaV,reduceCtorEq]at hp<;>subst hp<;>simp[*]
 have hkn:∀i,known [.ro (.blk si (n8 1 n)),.ro (.store tS eS L)] i↔i=0\/i=1:=fun i=>by
  match i with
  |0=>simp[known,ay]
  |1=>simp[known,ay]
  |i+2=>simp[known,ay]
 have hrep:bq (J.pull fun i=>if i=0 then b else s) (fun _ _=>False) [.ro (.blk si (n8 1 n)),.ro (.store tS eS L)] (known [.ro (.blk si (n8 1 n)),.ro (.store tS eS L)]) w (fun _=>False) w:=by
  refine⟨fun i hi=>hi,Nat.le_refl _,rfl,rfl,rfl,fun i hi=>?_,fun i b hi h=>h.elim,fun i j b hi hj hne h=>h.elim,fun i b hi h=>h.elim,fun _ _ _=>rfl⟩
  have gen:∀p j r,cG res p=r->r≠ .yet->(fun p=>if p=b then some 0 else if p=s then some 1 else none) p=some j->∃fp:Nat->Prop,(gm (fun p=>if p=b then some 0 else if p=s then some 1 else none) r).holds (known [.ro (.blk si (n8 1 n)),.ro (.store tS eS L)]) (J.pull fun i=>if i=0 then b else s) j fp w (fun _=>False) w/\∀b,fp b->b<w.heap.size/\¬(fun _=>False) b:=by
   intro p j r hr hy hp;obtain⟨fp,g1,g2⟩:=(pA.look hr hy).2 J fps K w0 F0 w hH;refine⟨fp,iO hv (fun p i hp _=>?_) hp _ _ _ (aK.tk hH.old hfr _ _ g1),fun c hc=>⟨?_,fun h=>h⟩⟩
   ·rw[hkn];split at hp<;>(try split at hp)<;>simp only[aaV,reduceCtorEq]at hp<;>subst hp<;>simp
   ·rcases g2 c hc with⟨j,hj,hf⟩|⟨hl,_⟩
    ·exact hH.lt j c hj hf
    ·exact Nat.lt_of_lt_of_le hl hH.old
  rcases(hkn i).1 hi with rfl|rfl
  ·rcases hb with hb|hb<;>obtain⟨fp,h1,h2⟩:=gen b 0 _ hb (by simp) (by simp)<;>simp only[gm,n8,fU,eO,if_true,aa3 (Ne.symm hne)]at h1<;>exact⟨fp,h1,h2⟩
  ·obtain⟨fp,h1,h2⟩:=gen s 1 _ hs (by simp) (by simp[Ne.symm hne])
   exact⟨fp,h1,h2⟩
 have hd:bB J [.lp b 0]=bB (J.pull fun i=>if i=0 then b else s) [.lp 0 0]:=by simp[bB,den,Env.pull]
 rw[hd];refine(h n L hq _ _ _ _ _ hrep ⟨(hkn 0).2 (.inl rfl),trivial⟩).mono fun e w' ⟨v,ρ1,fps1,r,g1,g2,g3,g4⟩=>?_
 rcases g4 with⟨rfl,hN⟩|⟨_,hF⟩
 ·exact⟨_,rfl,tE (new:=fun _=>new L) hnd g1 g3 hN⟩
 ·exact hF.elim
def YY:Ct:=ctM (fun _=>none) (fun n _=> .it .i64 n) fun _=> []
def YU:Ct:=ctM (fun L=>some (ai L<=1000/\bn L=false)) (fun _ nid=> .lp nid 0) fun L=> [.store tS eS L]
abbrev tG:Nat:=31
def aam (c:Nat) (U:St):Option (List Nat):=
 match ay U.res c with
 | .blk _ v=>match asV v with
   |some p=>some [p.1]
   |none=>none
 |_=>none
def aaJ (jH:List Nat) (i c k:Nat) (inv:Int×Int×List Obj->Prop) (μ:Int×Int×List Obj->Nat):dv:=
 {γ:=Int×Int×List Obj,head:=fun U g=> {U with slots:=Ib jH [(i,.it .i64 g.1)] 0 U.slots,res:=II [(0,.blk si (n8 1 g.2.1)),(1,.store tS eS g.2.2),(c,.blk tG (.ag [.sa k,.it .i64 g.2.1]))] U.res++ [.arr none 163 (.ob g.2.2)]},
  inv:=inv,μ:=μ,pre:= [.ab c],ext:=aam c}
def oh (m:Nat) (g:Int×Int×List Obj):Prop:=0<=g.1/\g.1<=(m:Int)/\gN g.2.1/\ar g.2.2
def oI (m:Nat) (g:Int×Int×List Obj):Nat:=m-g.1.toNat
def Dj (x:List iW) (g:Int×Int×List Obj):List Obj:=dM g.snd.snd g.snd.fst (aj x g.fst.toNat ng)
def Kp (x:List iW) (g:Int×Int×List Obj):Int:=jh g.snd.fst (aj x g.fst.toNat ng)
def YT (x:List iW) (g:Int×Int×List Obj):Dn:=aT g.snd.snd g.snd.fst (aj x g.fst.toNat ng)
def UT (x:List iW) (g:Int×Int×List Obj):Int:=oq g.snd.fst (aj x g.fst.toNat ng)
def Vk (x:List iW) (g:Int×Int×List Obj):Bool:=er (aj x g.fst.toNat ng) g.snd.fst
def dnS (d:Dn):Bool:=(decide (d.out=d.out)&&(decide (d.proc=d.proc)&&(decide (d.err=d.err)&&(decide (d.ans.code=d.ans.code)&&(AB d.ans.data d.ans.data&&(yf d.ans.k0 d.ans.k0&&(yf d.ans.k1 d.ans.k1&&(yf d.ans.k2 d.ans.k2&&true))&&true))&&(d.wants==d.wants&&true)))))
def dnZ (d:Dn):Bool:=(decide (d.out=0)&&(decide (d.proc=0)&&(decide (d.err=0)&&(decide (d.ans.code=0)&&(AB d.ans.data (ByteArray.mk (Array.mk []))&&(yf d.ans.k0 void&&(yf d.ans.k1 void&&(yf d.ans.k2 void&&true))&&true))&&(d.wants==false&&true)))))
def Vi (x:List iW) (g:Int×Int×List Obj):Bool:=(!decide (UT x g=0)|| !dnS (YT x g)|| !decide (Kp x g=Kp x g))
theorem ZU (d:Dn):dnS d=true:=by simp[dnS,ko,jr]
theorem Zu:dnZ ZN=true:=by simp[dnZ,ZN,cY,ko,jr]
theorem rnX {x:List iW} {L:List Obj} {n:Int} (hq:BJ (lG x) L n):wI x/\ai x<=40:=by
 obtain⟨_,_,x',hx',hxs,hxl⟩:=hq;have e1:ai x=ai x':=congrArg TL.len hx';refine⟨fun i hi=>?_,by omega⟩
 have e2:(lG x).get i=(lG x').get i:=by rw[hx']
 have e3:Kn (aj x i ng)=Kn (aj x' i ng):=e2
 have e4:(aj x i ng).data=(aj x' i ng).data:=by
  simp only[Kn,V.ag.injEq,List.cons.injEq,V.st.injEq]at e3;exact e3.2.2.2.2.2.1
 rw[e4];exact hxs i (by omega)
theorem Zf {x:List iW} {g:Int×Int×List Obj} (h:Vk x g=false):Kp x g=g.snd.fst/\Dj x g=g.snd.snd/\YT x g=ZN/\UT x g=2:=by
 unfold Vk at h;refine⟨?_,?_,?_,?_⟩
 ·unfold Kp jh;rw[aa3 (by simp[h])]
 ·unfold Dj dM;rw[aa3 (by simp[h])]
 ·unfold YT aT;rw[aa3 (by simp[h])]
 ·unfold UT oq;rw[aa3 (by simp[h])]
theorem W3 {x:List iW} {g:Int×Int×List Obj} (h:Vk x g=true):UT x g=0/\Vi x g=false:=by
 have e:UT x g=0:=by unfold Vk at h;unfold UT oq;rw[aa4 h]
 refine⟨e,?_⟩;unfold Vi;rw[e,ZU];simp
theorem SE {m:Nat} {g:Int×Int×List Obj} (hg:oh m g) (hlt:g.fst<(m:Int)) (n:Int) (M:List Obj) (hn:gN n) (hM:ar M):oh m (g.fst+1,n,M)/\oI m (g.fst+1,n,M)<oI m g:=by
 obtain⟨g0,g1,_,_⟩:=hg;exact⟨⟨by simp only;omega,by simp only;omega,hn,hM⟩,by unfold oI;simp only;omega⟩
theorem Hp {L:List Obj} (hL:ar L):ai L<=1000/\bn L=false:=by
 have h:=gy hL;refine⟨by unfold ai;omega,?_⟩
 cases hc:bn L with
 |false=>rfl
 |true=>rw[wj]at hc;subst hc;simp at h
def kPl (v:V) (r:List aK):Prop:=
 match ay r 1 with
 | .store t e L=>if t==tS&&e==eS then match ay r 0 with
   | .blk t c=>match mcX c with
     |some n=>if t==si then oD (.bo true) v r else False
     |none=>False
   |_=>False
   else False
 |_=>False
theorem Uj {v:V} {r:List aK} (h:kPl v r):∃n M,xj (.bo true) v r/\ay r 0= .blk si (n8 1 n)/\ay r 1= .store tS eS M:=by
 unfold kPl at h;split at h
 case h_2=>exact h.elim
 rename_i hr;split at h
 case isFalse=>exact h.elim
 rename_i hc;simp only[aaX,aaZ]at hc;obtain⟨rfl,rfl⟩:=hc;split at h
 case h_2=>exact h.elim
 rename_i h0;split at h
 case h_2=>exact h.elim
 rename_i n hn;split at h
 case isFalse=>exact h.elim
 rename_i ht;have ht:=aaZ.1 ht;subst ht;exact⟨n,_,dE h,by rw[h0,ER hn],hr⟩
def plX (y:V):Option (Nat×Int):=
 match y with
 | .ag m=>match m with
   | [x,z]=>match x with
     | .sa j=>match rI .i64 z with
       |some n=>some (j,n)
       |none=>none
     |_=>none
   |_=>none
 |_=>none
theorem OJ {y:V} {j:Nat} {n:Int} (h:plX y=some (j,n)):∃z,y= .ag [.sa j,z]/\rI .i64 z=some n:=by
 unfold plX at h;split at h
 case h_2=>simp at h
 split at h
 case h_2=>simp at h
 split at h
 case h_2=>simp at h
 split at h
 case h_2=>simp at h
 rename_i hn;simp only[aaV,aaW]at h;obtain⟨rfl,rfl⟩:=h;exact⟨_,rfl,hn⟩
def Cw:ke:=fun args res K=>
 match args with
 | [a,y,c]=>match a with
   | .lp b off=>if off==0 then match c with
     | .sa k=>match plX y with
       |some (j,m)=>match ay res b with
        | .blk t y=>match K4 y with
          |some (s,n)=>match ay res s with
           | .store ts e L=>match cG res k with
             | .arr _ esz l=>match cG res j with
               | .arr _ ez g=>match g with
                 | .ob M=>if t==si&&ts==tS&&e==eS&&esz==11&&ez==163 then(BJ l L n/\L=M/\n=m)/\
                   ∀n' M',K (.bo true) (bO (bO res b (.blk si (n8 s n'))) s (.store tS eS M'))else False
                 |_=>False
               |_=>False
             |_=>False
           |_=>False
          |none=>False
        |_=>False
       |none=>False
     |_=>False
     else False
   |_=>False
 |_=>False
theorem an.XL {P:Program} {f:Nat} {args:List V} {K KP:V->List aK->Prop} {own own':Option Nat} {e e':Nat} {l l':TL} {a b:aK} (h:an P f args [a,b,.ro (.arr none e l),.ro (.arr none e' l')] K KP):an P f args [a,b,.ro (.arr own e l),.ro (.arr own' e' l')] K KP:=by
 have hK:known [a,b,.ro (.arr own e l),.ro (.arr own' e' l')]=known [a,b,.ro (.arr none e l),.ro (.arr none e' l')]:=by
  funext i
  match i with
  |0=>rfl
  |1=>rfl
  |2=>simp[known,ay]
  |3=>simp[known,ay]
  |n+4=>rfl
 refine h.tx fun J fps w0 F0 w hH=>⟨J,fps,hH.weaken fun i hi=>⟨by rw[hK];exact hi,fun fp hh=>?_⟩,Env.bE.refl _ _,fun i hi=>by rw[<-hK];exact hi⟩
 rw[hK]at hh;match i with
 |0=>exact hh
 |1=>exact hh
 |2=>
  obtain⟨fp',g1,g2⟩:=hh;exact⟨fp',uP g1,g2⟩
 |3=>
  obtain⟨fp',g1,g2⟩:=hh;exact⟨fp',uP g1,g2⟩
 |n+4=>exact hh
theorem V0 {P:Program} {f:Nat} (h:∀(x:List iW) (L:List Obj) (n:Int),BJ (lG x) L n->an P f [.lp 0 0,.ag [.sa 2,.it .i64 n],.sa 3] [.blk si (n8 1 n),.store tS eS L,.ro (.arr none 163 (.ob L)),.ro (.arr none 11 (lG x))]
  kPl (fun _ _=>False)):kJ P f Cw:=by
 intro args res K KP hh;unfold Cw at hh;split at hh
 case h_2=>exact hh.elim
 split at hh
 case h_2=>exact hh.elim
 rename_i b off;split at hh
 case isFalse=>exact hh.elim
 rename_i ho;have ho:=aaZ.1 ho;subst ho;split at hh
 case h_2=>exact hh.elim
 rename_i k;split at hh
 case h_2=>exact hh.elim
 rename_i j m hy;split at hh
 case h_2=>exact hh.elim
 rename_i t c hb;split at hh
 case h_2=>exact hh.elim
 rename_i s n hc;split at hh
 case h_2=>exact hh.elim
 rename_i ts e L hs;split at hh
 case h_2=>exact hh.elim
 rename_i own esz l hk;split at hh
 case h_2=>exact hh.elim
 rename_i own' ez g hj;split at hh
 case h_2=>exact hh.elim
 rename_i M;split at hh
 case isFalse=>exact hh.elim
 rename_i ht;simp only[aaX,aaZ]at ht;obtain⟨⟨⟨⟨rfl,rfl⟩,rfl⟩,rfl⟩,rfl⟩:=ht;obtain⟨⟨hq,rfl,rfl⟩,hK⟩:=hh;obtain⟨x,rfl,_⟩:=id hq.2.2;obtain⟨y,rfl,hy'⟩:=wN hc;obtain⟨z,rfl,hz⟩:=OJ hy;have hkb:known res b:=by unfold known;rw[hb];simp
 have hlb:=aO hkb;have hne:b≠s:=fun e=>by rw[e,hs]at hb;simp at hb
 have hnk:b≠k:=fun e=>by unfold cG at hk;rw[<-e,hb]at hk;simp at hk
 have hsk:s≠k:=fun e=>by unfold cG at hk;rw[<-e,hs]at hk;simp at hk
 have hnj:b≠j:=fun e=>by unfold cG at hj;rw[<-e,hb]at hj;simp at hj
 have hsj:s≠j:=fun e=>by unfold cG at hj;rw[<-e,hs]at hj;simp at hj
 have hjk:j≠k:=fun e=>by rw[e,hk]at hj;simp at hj
 refine an.mcN hb hy' ?_;refine an.args (args':= [.lp b 0,.ag [.sa j,.it .i64 n],.sa k]) (fc.jH fun J K hk=>?_) ?_
 ·obtain⟨r1,r2⟩:=gi .i64 z n hz;obtain⟨⟨⟨k1,k2,_⟩,_⟩,k3⟩:=hk;refine⟨?_,⟨⟨⟨k1,fQ (r2 K k2),trivial⟩,trivial,trivial,trivial⟩,k3⟩⟩;have e1:=r1 J;simp only[bB,den,bp]at e1⊢;rw[e1]
 have hl1:(bO res b (.blk si (n8 s n))).length=res.length:=cE _ _ _;have hb1:ay (bO res b (.blk si (n8 s n))) b= .blk si (n8 s n):=by rw[bJ _ _ _ _ hlb,aa4 rfl]
 have hs1:ay (bO res b (.blk si (n8 s n))) s= .store tS eS L:=by rw[bJ _ _ _ _ hlb,aa3 (Ne.symm hne)];exact hs
 have hk1:cG (bO res b (.blk si (n8 s n))) k= .arr own 11 (lG x):=by unfold cG at hk⊢;rw[bJ _ _ _ _ hlb,aa3 (Ne.symm hnk)];exact hk
 have hj1:cG (bO res b (.blk si (n8 s n))) j= .arr own' 163 (.ob L):=by unfold cG at hj⊢;rw[bJ _ _ _ _ hlb,aa3 (Ne.symm hnj)];exact hj
 have hrr:∀n',bO res b (.blk si (n8 s n'))=bO (bO res b (.blk si (n8 s n))) b (.blk si (n8 s n')):=fun n'=>by rw[kH,kH,kH,List.set_set]
 have hK:∀n' M',K (.bo true) (bO (bO (bO res b (.blk si (n8 s n))) b (.blk si (n8 s n'))) s (.store tS eS M')):=fun n' M'=>by rw[<-hrr];exact hK n' M'
 generalize bO res b (.blk si (n8 s n))=res at *
 have kb:known res b:=by unfold known;rw[hb1];simp
 have ks:known res s:=by unfold known;rw[hs1];simp
 have kk':=dU hk1 (by simp)
 have kj':=dU hj1 (by simp)
 have lb:=aO kb;have ls:=aO ks;have lk:=aO kk';have lj:=aO kj'
 have hres:eV (k7 0 (dB [(b,true),(s,true),(j,false),(k,false)])) res [(b,true),(s,true),(j,false),(k,false)]= [.blk si (n8 1 n),.store tS eS L,.ro (.arr own' 163 (.ob L)),.ro (.arr own 11 (lG x))]:=by
  simp[eV,hb1,hs1,hk1,hj1,gm,n8,fU,eO,k7,idxOf,dB,hne,Ne.symm hne,hnk,Ne.symm hnk,hsk,Ne.symm hsk,hnj,Ne.symm hnj,hsj,Ne.symm hsj,hjk,Ne.symm hjk]
 refine an.frame (pl:= [(b,true),(s,true),(j,false),(k,false)]) (args0:= [.lp 0 0,.ag [.sa 2,.it .i64 n],.sa 3]) (K0:=kPl) (KP0:=fun _ _=>False)
  (by simp[eH,cD.2 kb,cD.2 ks,cD.2 kk',cD.2 kj']) (by simp[iD,dB,nL,lb,ls,lk,lj,hne,Ne.symm hne,hnk,Ne.symm hnk,hsk,Ne.symm hsk,hnj,Ne.symm hnj,hsj,Ne.symm hsj,hjk,Ne.symm hjk]) ?_ ?_ (fun v r hv=>?_) (fun _ _ h=>h.elim)
 ·simp[eO,fU,k7,idxOf,dB,hnk,Ne.symm hnk,hsk,Ne.symm hsk,hnj,Ne.symm hnj,hsj,Ne.symm hsj,hjk,Ne.symm hjk]
 ·rw[hres];exact an.XL (h x L n hq)
 ·obtain⟨n',M',h1,h2,h3⟩:=Uj hv
  have hm:merge [(b,true),(s,true),(j,false),(k,false)] [] r res=bO (bO res b (.blk si (n8 s n'))) s (.store tS eS M'):=by
   simp[merge,eZ,h2,h3,gm,fZ,n8,fU,eO,back,uN]
  exact⟨[],.bo true,rfl,by simp[jP,h2,h3,jI],rfl,jR.kf h1 rfl,by rw[hm];exact hK n' M'⟩
end Go.Sx
namespace Go.Proofs.YtlblcfaclmpekaaGreat
open Go.Sx
theorem Jq (p:iW) (n:Int) (hs:aw p.data) (hn:gN n):
 aba (decide (p.kind=2)) (((decide (0<=p.val)&&decide (p.val<=1099511627776))=true->abd (n+p.val))/\(decide (0<=p.val)&&decide (p.val<=1099511627776)&&decide (n+p.val<=4611686018427387904))=er p n) (((decide (p.kind=1)&&decide (1<=p.mode)&&decide (p.mode<=3))=true->abd (bN p.data))/\(decide (p.kind=1)&&decide (1<=p.mode)&&decide (p.mode<=3)&&decide (bN p.data<=32)&&decide (0<=p.reg)&&decide (p.reg<=11)&&decide (-1<=p.s0)&&decide (p.s0<=11)&&decide (-1<=p.s1)&&decide (p.s1<=11)&&decide (-1<=p.s2)&&decide (p.s2<=11))=er p n):=by
 delta aba abd
 unfold er;refine⟨fun hk=>⟨fun hv=>?_,?_⟩,fun hk=>⟨fun _=>?_,?_⟩⟩
 ·simp only[aaX,aaY]at hv;unfold gN at hn;simp only[aF,bY];omega
 ·rw[aa4 (aa1 hk)];congr 1;exact decide_eq_decide.2 (by omega)
 ·unfold aw at hs;simp only[aF,bY,bN];omega
 ·rw[aa3 (aa0 hk)];unfold gQ ug;rw[Bool.eq_iff_iff];simp only[aaX,Bool.or_eq_true,aaY];omega
theorem IU:cq Tryz.prog 34 Es:=
 eW (aA Gu (aA dO bW)) (fun _=>rfl) fun a hq hok=>by
  obtain⟨x,n,_⟩:=a;exact aZ (inl:=bx) (ann:=(iu [(34,5,MV 4)])) aq (Jq (wx x) n hq.1 hq.2) (by kernel_rfl)
theorem NT (L:List Sx.Obj) (n:Int) (p:iW) (hq:Yd L n p) (hr:er p n=true):
 aba (decide (p.kind=2)) (abd (n+p.val)/\QD L n p (n+p.val) (5) (0) (0) cY (false)/\dM L n p=L) (abb (iq L/\(true=false->False)/\(true=true->aba (decide (bD (ai (bZ L))=0)) (QD L n p (n) (1) (0) (0) cY (false)/\dM L n p=L) ((ny (bD (ai (bZ L)))/\abd (p.proc.tmod (bD (ai (bZ L)))))/\(aba (decide (p.proc.tmod (bD (ai (bZ L)))<0)) (abd (p.proc.tmod (bD (ai (bZ L)))+bD (ai (bZ L)))/\∃g,p5 L p g/\p.proc.tmod (bD (ai (bZ L)))+bD (ai (bZ L))=g/\H3 L n p) (∃g,p5 L p g/\p.proc.tmod (bD (ai (bZ L)))=g/\H3 L n p))/\∀(g:Int),p5 L p g->((0<=g/\g< ↑(ai (bZ L)))/\g.toNat<ai (bZ L)/\∃g_1:Unit,lR p/\aj (bZ L) g.toNat 0=aX L p/\H3 L n p)/\∀(g:Unit),lR p->(aba (decide (0<=p.s0)) (Vh L p p.s0 ((decide (0<=p.s1)=true->Vh L p p.s1 ((decide (0<=p.s2)=true->Vh L p p.s2 (∃g:Unit,lR p/\aX L p=aX L p/\xz L n p (p.code=(mh L p).code/\p.data=(mh L p).data/\I3 L p p.s0=(mh L p).k0/\I3 L p p.s1=(mh L p).k1/\I3 L p p.s2=(mh L p).k2)))/\(decide (0<=p.s2)=false->∃g:Unit,lR p/\aX L p=aX L p/\xz L n p (p.code=(mh L p).code/\p.data=(mh L p).data/\I3 L p p.s0=(mh L p).k0/\I3 L p p.s1=(mh L p).k1/\void=(mh L p).k2))))/\(decide (0<=p.s1)=false->(decide (0<=p.s2)=true->Vh L p p.s2 (∃g:Unit,lR p/\aX L p=aX L p/\xz L n p (p.code=(mh L p).code/\p.data=(mh L p).data/\I3 L p p.s0=(mh L p).k0/\void=(mh L p).k1/\I3 L p p.s2=(mh L p).k2)))/\(decide (0<=p.s2)=false->∃g:Unit,lR p/\aX L p=aX L p/\xz L n p (p.code=(mh L p).code/\p.data=(mh L p).data/\I3 L p p.s0=(mh L p).k0/\void=(mh L p).k1/\void=(mh L p).k2))))) (aba (decide (0<=p.s1)) (Vh L p p.s1 ((decide (0<=p.s2)=true->Vh L p p.s2 (∃g:Unit,lR p/\aX L p=aX L p/\xz L n p (p.code=(mh L p).code/\p.data=(mh L p).data/\void=(mh L p).k0/\I3 L p p.s1=(mh L p).k1/\I3 L p p.s2=(mh L p).k2)))/\(decide (0<=p.s2)=false->∃g:Unit,lR p/\aX L p=aX L p/\xz L n p (p.code=(mh L p).code/\p.data=(mh L p).data/\void=(mh L p).k0/\I3 L p p.s1=(mh L p).k1/\void=(mh L p).k2)))) (aba (decide (0<=p.s2)) (Vh L p p.s2 (∃g:Unit,lR p/\aX L p=aX L p/\xz L n p (p.code=(mh L p).code/\p.data=(mh L p).data/\void=(mh L p).k0/\void=(mh L p).k1/\I3 L p p.s2=(mh L p).k2))) (∃g:Unit,lR p/\aX L p=aX L p/\xz L n p (p.code=(mh L p).code/\p.data=(mh L p).data/\void=(mh L p).k0/\void=(mh L p).k1/\void=(mh L p).k2)))))/\∀(g:Unit),lR p->(aba p.num (abb (∃g:Unit,lR p/\aX L p=aX L p/\xz L n p ((mh L p).code=(bL L p).code/\(mh L p).data=(bL L p).data/\(mh L p).k0=(bL L p).k0/\(mh L p).k1=(bL L p).k1/\abg p.val=(bL L p).k2))) (∃g:Unit,lR p/\aX L p=aX L p/\xz L n p ((mh L p).code=(bL L p).code/\(mh L p).data=(bL L p).data/\(mh L p).k0=(bL L p).k0/\(mh L p).k1=(bL L p).k1/\(mh L p).k2=(bL L p).k2)))/\∀(g:Unit),lR p->abd (4+p.reg)/\(0<=aX L p/\aX L p< ↑(ai L))/\(0<=4+p.reg/\4+p.reg< ↑16)/\(aX L p).toNat<ai L/\aba (decide ((xU L p).kind=6)||decide ((xU L p).kind=7)) (abb ((ar L/\aw (bL L p).data)/\(lM L (aX L p) (xU L p) p.mode (bL L p)=false->aba (!decide (b6 L (aX L p) (xU L p) p.mode (bL L p)=0)) (QD L n p (n) (3) (aX L p) (b6 L (aX L p) (xU L p) p.mode (bL L p)) cY (false)/\dM L n p=L) (QD L n p (n) (2) (aX L p) (0) cY (false)/\dM L n p=L))/\(lM L (aX L p) (xU L p) p.mode (bL L p)=true->aba (!decide (b6 L (aX L p) (xU L p) p.mode (bL L p)=0)) (QD L n p (n) (3) (aX L p) (b6 L (aX L p) (xU L p) p.mode (bL L p)) cY (false)/\fe L (aX L p) (xU L p) p.mode (bL L p)=dM L n p) (QD L n p (n) (2) (aX L p) (0) cY (false)/\fe L (aX L p) (xU L p) p.mode (bL L p)=dM L n p)))) (abb ((ar L/\aw (bL L p).data)/\(fx L n (xU L p) (bL L p)=false->Hf L n p L (dM L n p=L) (QD L n p (n) (4) (aX L p) (0) (stM L n p) (cX L n (xU L p) (bL L p))))/\(fx L n (xU L p) (bL L p)=true->Hf L n p (XD L n p) (XD L n p=dM L n p) (QD L n p (n) (4) (aX L p) (0) (stM L n p) (cX L n (xU L p) (bL L p)))))))))):=by
 delta aba abg abd abb
 obtain⟨hL,hs,hn⟩:=hq;have hnn:bD (ai (bZ L))=(ai (bZ L):Int):=rfl;refine⟨fun h2=>?_,fun h2=>⟨rfl,Bj hL,fun h=>by simp at h,fun _=>⟨fun h0=>?_,fun h0=>?_⟩⟩⟩
 ·have h2:=aa1 h2
  have ht:aF IntKind.i64 (n+p.val):=by
   unfold er at hr;rw[aa4 h2]at hr;simp only[aaX,aaY]at hr;unfold gN at hn;simp only[aF,bY];omega
  exact⟨ht,xn (by unfold jh;rw[aa4 ⟨hr,h2⟩]) (by unfold aT;rw[aa4 hr,aa4 h2]),by unfold dM;rw[aa3 (fun h=>h.2.1 h2)]⟩
 all_goals
  have h2:=aa0 h2
  have hk:p.kind=1:=by
   unfold er at hr;rw[aa3 h2]at hr;simp only[aaX,aaY]at hr;omega
  have eN:jh n p=n:=by unfold jh;rw[aa3 (fun h=>h2 h.2)]
 ·have h0:ai (bZ L)=0:=by have:=aa1 h0;rw[hnn]at this;omega
  exact⟨xn eN (by unfold aT;rw[aa4 hr,aa3 h2,aa4 h0]),by unfold dM;rw[aa3 (fun h=>h.2.2 h0)]⟩
 have h0:¬ai (bZ L)=0:=by have:=aa0 h0;rw[hnn]at this;omega
 obtain⟨hm,⟨r0,r1⟩,s0,s1,s2⟩:=BH hr hk;obtain⟨f1,f2,f3,_⟩:=wQ (p:=p) hL h0;obtain⟨i0,i1⟩:=WG (p:=p) hL h0;obtain⟨a0,a1⟩:=XO (p:=p) hL h0;have eK:cR L p=xU L p:=by unfold cR xU;rw[fH i0 i1]
 have eM:aG L n (cR L p) (bL L p)=stM L n p:=by rw[eK];rfl
 have eA:iC L n p=XD L n p:=by unfold iC;rw[eK];rfl
 have eC:rB L p=(decide ((xU L p).kind=6)||decide ((xU L p).kind=7)):=by unfold rB;rw[eK]
 have eL:dM L n p=if rB L p=true then fe L (aX L p) (cR L p) p.mode (bL L p)else xc L n p:=by unfold dM;rw[aa4 ⟨hr,h2,h0⟩]
 have eD:aT L n p=if rB L p=true then(if b6 L (aX L p) (cR L p) p.mode (bL L p)=0 then⟨2,aX L p,0,cY,false⟩else⟨3,aX L p,b6 L (aX L p) (cR L p) p.mode (bL L p),cY,false⟩)
   else⟨4,aX L p,0,aG L n (cR L p) (bL L p),cX L n (cR L p) (bL L p)⟩:=by unfold aT;rw[aa4 hr,aa3 h2,aa3 h0]
 rw[eC]at eL eD;rw[eM]at eD;rw[eK]at eD eL;rw[hnn];obtain⟨u0,v0⟩:=C7 i0 i1 s0;obtain⟨u1,v1⟩:=C7 i0 i1 s1;obtain⟨u2,v2⟩:=C7 i0 i1 s2
 have leaf:∀k0 k1 k2,k0=oi (aL L (aX L p)) p.s0->k1=oi (aL L (aX L p)) p.s1->k2=oi (aL L (aX L p)) p.s2->∃g:Unit,lR p/\aX L p=aX L p/\xz L n p (p.code=(mh L p).code/\p.data=(mh L p).data/\k0=(mh L p).k0/\k1=(mh L p).k1/\k2=(mh L p).k2):=
  fun _ _ _ e0 e1 e2=>⟨(),trivial,rfl,Gs ⟨rfl,rfl,e0,e1,e2⟩⟩
 have hw:∀e,aF IntKind.i64 e↔(-9223372036854775808<=e/\e<=9223372036854775807):=fun e=>Iff.rfl
 refine⟨⟨f2,by rw[hw];omega⟩,⟨fun h=>⟨by rw[hw];omega,_,a0 (aa1 h),rfl,Cp⟩,fun h=>⟨_,a1 (aa0 h),rfl,Cp⟩⟩,fun g hg=>⟨⟨⟨hg.1,hg.2.1⟩,by have:=hg.2.1;have:=hg.1;omega,(),trivial,hg.2.2,Cp⟩,fun _ _=>⟨?_,fun _ _=>⟨⟨fun hN=>⟨rfl,(),trivial,rfl,Gs ⟨rfl,rfl,rfl,rfl,?_⟩⟩,fun hN=>⟨(),trivial,rfl,Gs ⟨rfl,rfl,rfl,rfl,?_⟩⟩⟩,fun _ _=>⟨by rw[hw];omega,⟨i0,i1⟩,by omega,by omega,fun hC=>⟨rfl,⟨hL,hs⟩,?_,?_⟩,fun hC=>⟨rfl,⟨hL,hs⟩,?_,?_⟩⟩⟩⟩⟩⟩
 ·exact⟨fun h0=>(u0 h0).1 _ ⟨fun h1=>(u1 h1).1 _ ⟨fun h2=>(u2 h2).1 _ (leaf _ _ _ (u0 h0).2 (u1 h1).2 (u2 h2).2),fun h2=>leaf _ _ _ (u0 h0).2 (u1 h1).2 (v2 h2)⟩,fun h1=>⟨fun h2=>(u2 h2).1 _ (leaf _ _ _ (u0 h0).2 (v1 h1) (u2 h2).2),fun h2=>leaf _ _ _ (u0 h0).2 (v1 h1) (v2 h2)⟩⟩,
   fun h0=>⟨fun h1=>(u1 h1).1 _ ⟨fun h2=>(u2 h2).1 _ (leaf _ _ _ (v0 h0) (u1 h1).2 (u2 h2).2),fun h2=>leaf _ _ _ (v0 h0) (u1 h1).2 (v2 h2)⟩,fun h1=>⟨fun h2=>(u2 h2).1 _ (leaf _ _ _ (v0 h0) (v1 h1) (u2 h2).2),fun h2=>leaf _ _ _ (v0 h0) (v1 h1) (v2 h2)⟩⟩⟩
 ·show _=if p.num=true then cJ p.val else _
  rw[aa4 hN];rfl
 ·show _=if p.num=true then cJ p.val else _
  rw[aa3 (by simp[hN])];rfl
 ·rw[aa4 hC]at eL eD;refine fun hc=>⟨fun he=>⟨xn eN ?_,eL.trans (NO hc)⟩,fun he=>⟨xn eN ?_,eL.trans (NO hc)⟩⟩
  ·rw[eD,aa3 (by simpa using he)]
  ·rw[eD,aa4 (by simpa using he)]
 ·rw[aa4 hC]at eL eD;refine fun hc=>⟨fun he=>⟨xn eN ?_,eL.symm⟩,fun he=>⟨xn eN ?_,eL.symm⟩⟩
  ·rw[eD,aa3 (by simpa using he)]
  ·rw[eD,aa4 (by simpa using he)]
 ·rw[aa3 (by rw[hC];simp)]at eL eD
  exact fun hc=>IG (eA.trans (V6 hc)) id eL eM hL (xn eN eD)
 ·rw[aa3 (by rw[hC];simp)]at eL eD
  exact fun hc=>IG eA Eq.symm eL eM (FR hL) (xn eN eD)
theorem K2:kJ Tryz.prog 35 CC:=X9 fun L n p hq hr=>bj (inl:=(fun f=>f==31)) (ann:=(iu [(35,13,MV 4),(35,2000010,QJ [2,3,4,5,6] (fun(g:Int)=> [(7,.it .i64 g)]) (fun _=> []) (fun _=> []) (p5 L p)),(35,2000011,QJ [2,3,4,5] (fun(_:Unit)=> [(8,.it .i64 (aX L p))]) (fun _=> []) (fun _=> []) (fun _=>lR p)),(35,2000017,QJ [2,3,4,5,8,9] (fun(_:Unit)=> []) (fun _=> [(9,.blk 47 (jG (UZ (aL L (aX L p)) p)))]) (fun _=> []) (fun _=>lR p)),(35,2000019,QJ [2,3,4,5,8,9] (fun(_:Unit)=> []) (fun _=> [(9,.blk 47 (jG (bL L p)))]) (fun _=> []) (fun _=>lR p))])) (ae vr (ae pd aq)) (aB TG (aB SM (aB Wb (aB Us (aB Io aD))))) (NT L n p hq hr) (by kernel_rfl)
theorem MR (M:List Sx.Obj):
 abb (abb (abb (∀(r0:Loop),(∃g,qh [] M g/\ak []=ak []/\0=g/\M=M/\false=false/\0=g/\Value.pointer none=Value.pointer none/\Value.pointer none=Value.pointer none/\r0=r0)/\∀(g:Int),qh [] M g->aba (decide (g<ak [])) False (decide (g=bD (ai M))=gP [] M)))):=by
 delta aba abb
 refine⟨rfl,rfl,rfl,fun r0=>⟨⟨0,⟨by omega,by unfold ai;omega,by omega,fun j hj=>by omega⟩,by(repeat' apply And.intro)<;>rfl⟩,fun g hg=>⟨fun hlt=>?_,fun _=>BK hg (by simp only[ai,List.length_nil];exact hg.1)⟩⟩⟩
 have h0:g<0:=aa1 hlt;exact absurd hg.1 (by omega)
theorem Nn (M:List Sx.Obj):an Tryz.prog 15 [jJ,.sa 0] [.ro (.arr none 163 (.ob M))] (oD (.bo (gP [] M))) (fun _ _=>False):=aZ (inl:=(fun f=>f==24)) (ann:=(iu [(6000+44,1,YI [0,1,5] (fun g=> [(6,.it .i64 g)]) 3 (fun g=> .blk 3 (.it .i64 g)) (qh [] M) 0)])) (ae bC aq) (MR M) (by kernel_rfl)
theorem Mh (L M:List Sx.Obj) (hL:L.length<=9223372036854775807):
 abb (abb (abb (∀(r0:Loop),(∃g,qh L M g/\ak L=ak L/\0=g/\M=M/\L=L/\false=false/\0=g/\r0=r0)/\∀(g:Int),qh L M g->aba (decide (g<ak L)) ((0<=g/\g< ↑(ai L))/\g.toNat<ai L/\g.toNat<ai L/\r0=r0/\r0=r0/\((!(!decide (g=g)||decide (bD (ai M)<=g)))=true->0<=g/\g< ↑(ai M))/\((!(!decide (g=g)||decide (bD (ai M)<=g)))=true->g.toNat<ai M)/\aba (!decide (g=g)||decide (bD (ai M)<=g)|| !C0 (aj L g.toNat free) (aj M g.toNat free)) (r0=r0/\false=gP L M) (abd (g+1)/\r0=r0/\abd (g+1)/\∃g',qh L M g'/\(bD (ai L)-g').toNat<(bD (ai L)-g).toNat/\ak L=ak L/\g+1=g'/\M=M/\L=L/\false=false/\g+1=g'/\r0=r0)) (decide (g=bD (ai M))=gP L M)))):=by
 delta aba abd abb
 refine⟨rfl,rfl,rfl,fun r0=>⟨⟨0,⟨by omega,by unfold ai;omega,by omega,fun j hj=>by omega⟩,by(repeat' apply And.intro)<;>rfl⟩,fun g hg=>⟨fun hlt=>?_,fun hge=>?_⟩⟩⟩
 ·have hg':=hg;obtain⟨g0,g1,g2,g3⟩:=hg;have hlt:g<ak L:=aa1 hlt;have hle:=mz L;have hlm:=mz M;have hq:ak L=(L.length:Int):=rfl;rw[hq]at hlt;have hz:∀b:Bool,(!decide (g=g)||b)=b:=by simp
  rw[hz];refine⟨⟨g0,by omega⟩,by omega,by omega,rfl,rfl,fun h=>?_,fun h=>?_,fun h=>⟨rfl,?_⟩,fun h=>?_⟩
  ·have h:¬(bD (ai M)<=g):=by simpa using h
   rw[iw]at h;exact⟨g0,by omega⟩
  ·have h:¬(bD (ai M)<=g):=by simpa using h
   rw[iw]at h;omega
  ·unfold gP;symm
   rw[decide_eq_false_iff_not];rintro rfl
   rw[Bool.or_eq_true,aaY,iw]at h;rcases h with h|h
   ·omega
   ·simp[C0]at h
  ·rw[Bool.or_eq_false_iff,decide_eq_false_iff_not,iw]at h;obtain⟨h1,h2⟩:=h;have h2:aj L g.toNat free=aj M g.toNat free:=by simpa[C0]using h2
   have hr:aF IntKind.i64 (g+1):=by simp only[aF,bY];omega
   refine⟨hr,rfl,hr,g+1,⟨by omega,by omega,by omega,fun j hj=>?_⟩,by rw[iw];omega,by(repeat' apply And.intro)<;>rfl⟩
   by_cases e:(j:Int)<g
   ·exact g3 j e
   ·rw[show j=g.toNat by omega];exact h2
 ·have hge:¬g<ak L:=aa0 hge;exact BK hg (by unfold ak at hge;omega)
theorem HH:cq Tryz.prog 15 X4:=
 Td (fun _ _=>rfl) (fun M _ _=>Nn M) (fun L M _ hL _ _=>aZ (inl:=(fun f=>f==24)) (ann:=(iu [(6000+44,1,YI [0,1,5] (fun g=> [(6,.it .i64 g)]) 6 (fun g=> .blk 3 (.it .i64 g)) (qh L M) (bD (ai L)))])) (ae bC aq) (Mh L M hL) (by kernel_rfl))
theorem RX (l:List Sx.Obj):
 aba (decide (20<bD (ai l))|| !fN l) (nr l=false/\Value.pointer none=Value.pointer none) (true=true/\(fN l=false->nr l=false/\Value.pointer none=Value.pointer none)/\(fN l=true->nr l=true/\∀(nid:Nat),some (V.lp nid 0)=some (V.lp nid 0)/\some [aK.store 102 106 l]=some [aK.store 102 106 l])):=by
 delta aba
 refine⟨fun h=>⟨?_,rfl⟩,fun h=>⟨rfl,fun hr=>⟨?_,rfl⟩,fun hr=>⟨?_,fun nid=>⟨rfl,rfl⟩⟩⟩⟩
 ·unfold nr;unfold bD at h;rw[Bool.or_eq_true,aaY,Bool.not_eq_true']at h;rcases h with h|h
  ·rw[decide_eq_false (by omega)];rfl
  ·rw[h];simp
 ·unfold nr;rw[hr];simp
 ·unfold nr;unfold bD at h;rw[hr]at h⊢;rw[Bool.and_true,aaY];simp at h;omega
theorem R2:kJ Tryz.prog 22 Yk:=
 Ao (aA jc bW) (fun _=>rfl) (fun _=>by simp) fun a _ hok=>by
  obtain⟨l,_⟩:=a;exact bj (inl:=bx) (ann:=aQ) (ae LJ aq) (aB Zq aD) (RX l) (by kernel_rfl)
theorem Yt (n:Int) (L:List Sx.Obj):
 true=true/\∀(nid:Nat),some (V.it IntKind.i64 n)=some (V.it IntKind.i64 n)/\some ([]:List aK)=some []:=by
 exact⟨rfl,fun _=>⟨rfl,rfl⟩⟩
theorem Wf:cq Tryz.prog 14 YY:=Qg (π:= []) (by simp) (fun _=>rfl) fun n L _=>aZ (inl:=(fun f=>f==32)) (ann:=aQ) aq (Yt n L) (by kernel_rfl)
theorem V8 (n:Int) (L:List Sx.Obj) (hq:ai L<=1000/\bn L=false):
 true=true/\true=true/\(ai L).le 1000/\aba (bn L) (∀(nid:Nat),some (V.nl (Value.pointer none))=some (V.lp nid 0)/\none=some [aK.store tS eS L]) (∀(nid: Nat),some (V.lp nid 0)=some (V.lp nid 0)/\some [aK.store tS eS L]=some [aK.store tS eS L]):=by
 delta aba
 exact⟨rfl,rfl,hq.1,fun h=>by rw[hq.2]at h;simp at h,fun _ _=>⟨rfl,rfl⟩⟩
theorem Yb:cq Tryz.prog 16 YU:=Qg (π:= [2]) (by simp) (fun _=>rfl) fun n L hq=>bj (inl:=(fun f=>f==32)) (ann:=aQ) aq (aB uo aD) (V8 n L hq) (by kernel_rfl)
theorem Oc (x:List iW) (L:List Sx.Obj) (n:Int) (hq:BJ (lG x) L n):
 (∃g,oh (ai x) g/\0=g.fst/\n=g.snd.fst/\L=g.snd.snd/\L=L/\ai x=ai x/\(xw x=xw x)/\n=g.snd.fst/\L=g.snd.snd)/\∀(g:Int×Int×List Sx.Obj),oh (ai x) g->aba (decide (g.fst<bD (ai x))) ((0<=g.fst/\g.fst< ↑(ai x))/\g.fst.toNat<ai x/\true=true/\(ar g.snd.snd/\aw (aj x g.fst.toNat ng).data/\gN g.snd.fst)/\(0<=g.fst/\g.fst< ↑(ai x))/\g.fst.toNat<ai x/\(aw (aj x g.fst.toNat ng).data/\gN g.snd.fst)/\aba (!Vk x g) (aba (!dnZ (YT x g)|| !decide (UT x g=2)) (false=true) (abd (g.fst+1)/\∃g',oh (ai x) g'/\oI (ai x) g'<oI (ai x) g/\g.fst+1=g'.fst/\Kp x g=g'.snd.fst/\Dj x g=g'.snd.snd/\L=L/\ai x=ai x/\(xw x=xw x)/\g.snd.fst=g'.snd.fst/\g.snd.snd=g'.snd.snd)) ((0<=g.fst/\g.fst< ↑(ai x))/\g.fst.toNat<ai x/\true=true/\((ar g.snd.snd/\aw (aj x g.fst.toNat ng).data/\gN g.snd.fst)/\Vk x g=true)/\(Dj x g=g.snd.snd->((!Vi x g)=true/\(ai (Dj x g)).le 1000/\bn (Dj x g)=false)/\aba (Vi x g|| !gP (Dj x g) g.snd.snd) (false=true) (abd (g.fst+1)/\∃g',oh (ai x) g'/\oI (ai x) g'<oI (ai x) g/\g.fst+1=g'.fst/\Kp x g=g'.snd.fst/\Dj x g=g'.snd.snd/\L=L/\ai x=ai x/\(xw x=xw x)/\Kp x g=g'.snd.fst/\g.snd.snd=g'.snd.snd))/\((!Vi x g)=true/\(ai (Dj x g)).le 1000/\bn (Dj x g)=false)/\aba (Vi x g|| !gP (Dj x g) (Dj x g)) (false=true) (abd (g.fst+1)/\∃g',oh (ai x) g'/\oI (ai x) g'<oI (ai x) g/\g.fst+1=g'.fst/\Kp x g=g'.snd.fst/\Dj x g=g'.snd.snd/\L=L/\ai x=ai x/\(xw x=xw x)/\Kp x g=g'.snd.fst/\Dj x g=g'.snd.snd))) (true=true):=by
 delta aba abd
 obtain⟨hxs,hxl⟩:=rnX hq;refine⟨⟨(0,n,L),⟨Int.le_refl _,by simp only;omega,hq.2.1,hq.1⟩,rfl,rfl,rfl,rfl,rfl,rfl,rfl,rfl⟩,fun g hg=>⟨fun hlt=>?_,fun _=>rfl⟩⟩
 have hlt:g.fst<(ai x:Int):=aa1 hlt;obtain⟨g0,g1,g2,g3⟩:=id hg;have hi:g.fst.toNat<ai x:=by omega
 have hS:=hxs g.fst.toNat hi;have hw:aF .i64 (g.fst+1):=by simp only[aF,bY];omega
 have st:=SE hg hlt;refine⟨⟨g0,hlt⟩,hi,rfl,⟨g3,hS,g2⟩,⟨g0,hlt⟩,hi,⟨hS,g2⟩,fun hR=>?_,fun hR=>?_⟩
 ·obtain⟨e1,e2,e3,e4⟩:=Zf (x:=x) (g:=g) (by simpa using hR)
  refine⟨fun h=>?_,fun _=>⟨hw,(g.fst+1,g.snd.fst,g.snd.snd),(st _ _ g2 g3).1,(st _ _ g2 g3).2,rfl,e1,e2,rfl,rfl,rfl,rfl,rfl⟩⟩
  rw[e3,e4,Zu]at h;simp at h
 ·have hR:Vk x g=true:=by simpa using hR
  obtain⟨e4,hc⟩:=W3 hR;have k1:ar (Dj x g):=WV g3;have k2:gN (Kp x g):=Xy g2;have hb:=Hp k1;rw[hc];refine⟨⟨g0,hlt⟩,hi,rfl,⟨⟨g3,hS,g2⟩,hR⟩,fun hE=>⟨⟨rfl,hb⟩,fun h=>?_,fun _=>⟨hw,(g.fst+1,Kp x g,g.snd.snd),(st _ _ k2 g3).1,(st _ _ k2 g3).2,rfl,rfl,hE,rfl,rfl,rfl,rfl,rfl⟩⟩,⟨rfl,hb⟩,fun h=>?_,fun _=>⟨hw,(g.fst+1,Kp x g,Dj x g),(st _ _ k2 k1).1,(st _ _ k2 k1).2,rfl,rfl,rfl,rfl,rfl,rfl,rfl,rfl⟩⟩
  ·rw[hE,hU]at h;simp at h
  ·rw[hU]at h;simp at h
theorem Qh:kJ Tryz.prog 17 Cw:=V0 fun x L n hq=>bj (inl:=bx) (ann:=(iu [(17,2,aaJ [0,2,4] 7 4 5 (oh (ai x)) (oI (ai x)))])) (ae HH (ae IU (ae Wf (ae Yb aq)))) (aB HE (aB K2 aD)) (Oc x L n hq) (by kernel_rfl)
abbrev acp(l:List Sx.Obj)(n:Int):=decide (bD (ai l)<4)||decide (n<0)||decide (4611686018427387904<n)
theorem Wl (l:List Sx.Obj) (n:Int) (x:List iW) (hx:wI x):
 abb (True/\(nr l=false->true=true)/\(nr l=true->L8 (lG x)/\aba (qB (lG x)) (true=true) (abb (aba (decide (ak l=0)) (aba (acp l n) (false=true) (false=true)) (aba (decide (ak l<4)||decide (n<0)||decide (4611686018427387904<n)) (aba (acp l n) (true=true) (false=true)) (abb ((ai l).le 1000/\aba (bn l) (aba (acp l n) (false=true) (abb (abb (aba (gP [] l) (abb False) (false=true))))) (aba (acp l n) (false=true) (abb (abb (abb ((ai l).le 1000/\aba (bn l) (aba (gP [] l) (abb ((BJ (lG x) l n/\l=l/\n=n)/\∀ (n':Int) (M':List Sx.Obj),(true&&gP l l&&true)=true)) (false=true)) (aba (gP l l) (abb ((BJ (lG x) l n/\l=l/\n=n)/\∀(n':Int) (M':List Sx.Obj),(true&&gP l l&&true)=true)) (false=true)))))))))))))):=by
 delta aba acp abb
 refine⟨rfl,trivial,fun _=>rfl,fun hm=>⟨⟨x,rfl,hx⟩,fun _=>rfl,fun hfar=>⟨rfl,fun h=>?_,fun _=>?_⟩⟩⟩
 all_goals have hl:=(Ub hm).1
 all_goals have hl2:=gy hl
 ·have h:=aa1 h;unfold ak ai at h;omega
 have hlen40:¬40<(ai x:Int):=X7 hfar;obtain⟨few,sn⟩:=Hp hl;have hz:ak l=bD (ai l):=rfl;rw[hz,sn];refine⟨fun h=>⟨fun _=>rfl,fun h'=>by rw[h]at h';simp at h'⟩,fun h=>⟨rfl,few,fun h'=>by simp at h',fun _=>⟨fun h'=>by rw[h]at h';simp at h',fun _=>⟨rfl,rfl,rfl,few,fun h'=>by simp at h',fun _=>⟨fun _=>⟨rfl,⟨⟨hl,?_,x,rfl,hx,by omega⟩,rfl,rfl⟩,fun _ _=>by rw[hU];rfl⟩,fun h'=>by rw[hU]at h';simp at h'⟩⟩⟩⟩⟩
 simp only[Bool.or_eq_false_iff,decide_eq_false_iff_not]at h;unfold gN;omega
theorem Wa (l:List Sx.Obj) (n:Int) (x:List iW) (hx:wI x):an Tryz.prog 6 [.sa 0,.it .i64 n,.sa 1] [.ro (.arr none 163 (.ob l)),.ro (.arr none 11 (lG x))] (oD (.bo true)) (fun _ _=>False):=
 bj (inl:=(fun f=>f==32||f==16||f==14||f==18)) (ann:=aQ) (ae MO (ae Xw (ae bC (ae HH aq)))) (aB R2 (aB uo (aB Qh aD))) (Wl l n x hx) (by kernel_rfl)
end Go.Proofs.YtlblcfaclmpekaaGreat
namespace Go.Sx
open Go.ChangeShapes Go.WideShapes
def Kd.ofR:Kd->Value->Prop
 | .b,v=>∃x,v= .bool x
 | .s,v=>∃x:ByteArray,v= .string x/\x.size<=maxLen
 | .i k,v=>∃n,v= .int k n/\bY k n
def sL:List Kd->List Value->Prop
 | [],[]=>True
 |k::ks,v::vs=>k.ofR v/\sL ks vs
 |_,_=>False
theorem sL.length:∀{ks:List Kd} {vs:List Value},sL ks vs->vs.length=ks.length
 | [],[],_=>rfl
 |_::_,_::_,h=>by simp[sL.length h.2]
 | [],_::_,h=>h.elim
 |_::_,[],h=>h.elim
theorem sL.split:∀{a b:List Kd} {vs:List Value},sL (a++b) vs->sL a (vs.take a.length)/\sL b (vs.drop a.length)
 | [],b,vs,h=>by simpa[sL]using h
 |k::a,b,[],h=>h.elim
 |k::a,b,v::vs,h=>by
  obtain⟨h1,h2⟩:=sL.split (a:=a) h.2;exact⟨by simpa[sL]using⟨h.1,h1⟩,by simpa using h2⟩
theorem sL.join:∀{a b:List Kd} {vs us:List Value},sL a vs->sL b us->sL (a++b) (vs++us)
 | [],_,[],_,_,h=>by simpa using h
 |k::a,_,v::vs,_,h,h'=>⟨h.1,sL.join h.2 h'⟩
 | [],_,_::_,_,h,_=>h.elim
 |_::_,_,[],_,h,_=>h.elim
theorem PV {k:IntKind} {n:Int} (h:(Lit.int k n).wf=true):bY k n:=by
 cases k<;>simp[Lit.wf,IntKind.min,IntKind.max,IntKind.signed,IntKind.bits]at h<;>simp only[bY]<;>omega
theorem z8 {α:Type} {l:List α} {c n:Nat} (h:(l.take c).length=n):l.take c=l.take n:=by
 rw[List.length_take]at h;rcases Nat.le_total c l.length with hc|hc
 ·rw[Nat.min_eq_left hc]at h;rw[h]
 ·rw[Nat.min_eq_right hc]at h;rw[List.take_of_length_le hc,List.take_of_length_le (by omega)]
section
variable {H:Type} {enc:TypeId×Value->H} {P:Program} {w:World} {base:Nat} {sp:Nat->Bool} {held:Bool}
theorem rU {t n:Nat} (h:oZ P t=some n):P.cellsOf t=n:=by
 unfold oZ at h;unfold Program.cellsOf;rw[h];rfl
theorem xu {m f:Nat} (ih:∀t ks,fw P f t=some ks->∀cs x,DataW.trod enc P w base sp held m t cs=some x->sL ks cs) (cs:List Value):∀(fs:List Field) (off:Nat) (ks:List Kd),mb (fw P f) off fs=some ks->
  (∀g∈fs,∃x,DataW.trod enc P w base sp held m g.type ((cs.drop g.offset).take (P.cellsOf g.type))=some x)->sL ks ((cs.drop off).take ks.length)
 | [],off,ks,h,_=>by
   simp only[mb,aaV]at h;subst h;simp[sL]
 |g::fs,off,ks,h,hx=>by
  simp only[mb]at h;split at h
  ·rename_i hc;simp only[aaX,bne_iff_ne,ne_eq,aaZ]at hc;obtain⟨hn,ho⟩:=hc;cases hg:fw P f g.type with
   |none=>simp[hg]at h
   |some k1=>
    simp only[hg]at h;cases hr:mb (fw P f) (off+k1.length) fs with
    |none=>simp[hr]at h
    |some k2=>
     simp only[hr,Option.map_some,aaV]at h;subst h;obtain⟨x,hx1⟩:=hx g (by simp)
     have t1:=ih _ _ hg _ _ hx1;have hl:=t1.length;rw[z8 hl,ho]at t1;have t2:=xu ih cs fs (off+k1.length) k2 hr fun g' hg'=>hx g' (by simp[hg'])
     have:(cs.drop off).take (k1++k2).length=(cs.drop off).take k1.length++(cs.drop (off+k1.length)).take k2.length:=by
      rw[List.length_append,List.take_add,List.drop_drop]
     rw[this];exact t1.join t2
  ·simp at h
theorem wb:∀(f:Nat) (t:TypeId) (ks:List Kd),fw P f t=some ks->∀(fuel:Nat) (cs:List Value) (x:DataW H×List MemPlace),DataW.trod enc P w base sp held fuel t cs=some x->sL ks cs
 |0,_,_,h,_,_,_,_=>by simp[fw]at h
 |f+1,t,ks,h,fuel,cs,x,hx=>by
  simp only[fw]at h;split at h
  ·rename_i hu;simp only[aaV]at h;subst h;obtain⟨b,rfl,_⟩:=DataW.trod_bool hu hx;exact⟨⟨b,rfl⟩,trivial⟩
  ·rename_i hu;simp only[aaV]at h;subst h;obtain⟨b,rfl,_,hb⟩:=DataW.trod_string hu hx;exact⟨⟨b,rfl,hb⟩,trivial⟩
  ·rename_i k hu;simp only[aaV]at h;subst h;obtain⟨n,rfl,_,hw⟩:=DataW.trod_int hu hx;exact⟨⟨n,rfl,PV hw⟩,trivial⟩
  ·rename_i fs hu;split at h
   ·simp at h
   ·split at h
    ·simp at h
    ·rename_i ks' hfs;split at h
     ·rename_i hs;have hs:=aaZ.1 hs;simp only[aaV]at h;subst h;obtain⟨xs,n,rfl,_,hl,hxl,hall⟩:=DataW.trod_struct hu hx
      have:=xu (fun t ks h cs x hx=>wb f t ks h n cs x hx) cs fs.toList 0 ks' hfs fun g hg=>by
       obtain⟨i,hi,hgi⟩:=List.getElem_of_mem hg;have hfi:fs[i]? =some g:=by rw[<-Array.getElem?_toList,List.getElem?_eq_getElem hi,hgi]
       have:=hall i g hfi;rw[List.getElem?_eq_getElem (by rw[hxl];simpa using hi)]at this
       exact⟨_,this⟩
      rw[rU hs]at hl;rw[List.drop_zero,<-hl,List.take_length]at this;exact this
     ·simp at h
  ·rename_i n e hu;split at h
   ·simp at h
   ·rename_i k1 he;split at h
    ·rename_i hs;simp only[aaX,aaZ]at hs;simp only[aaV]at h;subst h;obtain⟨xs,m,rfl,_,hl,hxl,hall⟩:=DataW.trod_array hu hx;rw[rU hs.2]at hl;rw[rU hs.1]at hall
     have key:∀j,j<=n->sL (List.replicate j k1).flatten (cs.take (j*k1.length)):=by
      intro j;induction j with
      |zero=>intro _;simp[sL]
      |succ j ihj=>
       intro hj;have h1:=ihj (by omega)
       have h2:=hall j (by omega)
       rw[List.getElem?_eq_getElem (by omega)]at h2
       have h3:=wb f e k1 he m _ _ h2;rw[List.replicate_succ',List.flatten_append,Nat.succ_mul,List.take_add];simpa using h1.join h3
     have:=key n (Nat.le_refl _);rwa [<-hl,List.take_length]at this
    ·simp at h
  ·simp at h
end
theorem CE {k:Kd}:∀{n:Nat} {vs:List Value},sL (List.replicate n k) vs↔vs.length=n/\∀v∈vs,k.ofR v
 |0,[]=>by simp[sL]
 |0,_::_=>by simp[sL]
 |n+1,[]=>by simp[sL,List.replicate_succ]
 |n+1,v::vs=>by
  rw[List.replicate_succ];simp only[sL,CE (n:=n),List.length_cons,List.mem_cons,forall_eq_or_imp];constructor
  ·rintro⟨a,b,c⟩;exact⟨by omega,a,c⟩
  ·rintro⟨a,b,c⟩;exact⟨b,by omega,c⟩
theorem AY:∀(m:Nat) (cs:List Value),sL (List.replicate (m*6) (.i .i64)) cs->∃ks:List Key,ks.length=m/\(∀k∈ks,k.wf)/\cs=ks.flatMap ea
 |0,cs,h=>by
  rw[CE]at h;have:cs= []:=List.length_eq_zero_iff.1 (by omega)
  exact⟨[],rfl,by simp,by simp[this]⟩
 |m+1,cs,h=>by
  rw[show(m+1)*6=6+m*6 by omega,<-List.replicate_append_replicate]at h
  obtain⟨h1,h2⟩:=h.split;simp only[List.length_replicate]at h1 h2;obtain⟨ks,i1,i2,i3⟩:=AY m _ h2;match cs,h1,i3 with
  |a::b::c::d::e::f::rest,h1,i3=>
   obtain⟨⟨n1,rfl,r1⟩,⟨n2,rfl,r2⟩,⟨n3,rfl,r3⟩,⟨n4,rfl,r4⟩,⟨n5,rfl,r5⟩,⟨n6,rfl,r6⟩,_⟩:=h1;refine⟨⟨n1,n2,n3,n4,n5,n6⟩::ks,by simp[i1],fun k hk=>?_,?_⟩
   ·rcases List.mem_cons.1 hk with rfl|hk
    ·exact⟨r1,r2,r3,r4,r5,r6⟩
    ·exact i2 k hk
   ·simp only[List.drop_succ_cons,List.drop_zero]at i3;simp[ea,i64,i3]
  | [],h1,_=>exact h1.elim
  | [_],h1,_=>exact h1.2.elim
  | [_,_],h1,_=>exact h1.2.2.elim
  | [_,_,_],h1,_=>exact h1.2.2.2.elim
  | [_,_,_,_],h1,_=>exact h1.2.2.2.2.elim
  | [_,_,_,_,_],h1,_=>exact h1.2.2.2.2.2.elim
theorem FV {cs:List Value} (h:sL (List.replicate 96 (.i .i64)) cs):∃s:cL,s.wf/\cs=gj s:=by
 obtain⟨ks,h1,h2,h3⟩:=AY 16 cs h;refine⟨⟨ks.toArray,by simp[h1]⟩,fun i hi=>?_,?_⟩
 ·have:(cL.at ⟨ks.toArray,by simp[h1]⟩ i)=ks[i]'(by omega):=by simp[cL.at,h1,hi]
  rw[this];exact h2 _ (List.getElem_mem _)
 ·have hr:List.range ks.length=List.range 16:=by rw[h1]
  rw[h3,Go.Deep.flatMap_by_index ks void,hr];unfold gj;refine Go.Deep.flatMap_congr_range fun i hi=>?_
  simp[cL.at,aa2]
theorem GB {cs:List Value} (h:sL (List.replicate 64 (.i .u8)) cs):∃s:Bytes,cs=cZ s:=by
 rw[CE]at h;obtain⟨h1,h2⟩:=h
 have key:∀l:List Value,(∀v∈l,(Kd.i .u8).ofR v)->∃bs:List UInt8,l=bs.map fun b=>Value.int .u8 (b.toNat:Int):=by
  intro l;induction l with
  |nil=>intro _;exact⟨[],rfl⟩
  |cons v l ih=>
   intro hl;obtain⟨n,rfl,hn⟩:=hl v (by simp)
   obtain⟨bs,rfl⟩:=ih fun u hu=>hl u (by simp[hu])
   simp only[bY]at hn;refine⟨UInt8.ofNat n.toNat::bs,?_⟩
   have:(UInt8.ofNat n.toNat).toNat=n.toNat:=by
    rw[UInt8.toNat_ofNat'];omega
   simp only[List.map_cons,this,List.cons.injEq,Value.int.injEq,true_and,and_true];omega
 obtain⟨bs,rfl⟩:=key cs h2;simp only[List.length_map]at h1;refine⟨⟨bs.toArray,by simp[h1]⟩,?_⟩
 have hr:List.range bs.length=List.range 64:=by rw[h1]
 rw[Go.Deep.map_by_index bs 0,hr];unfold cZ;refine List.map_congr_left fun i hi=>?_
 simp[Bytes.at,aa2]
theorem TS {cs:List Value} (h:sL QH cs):∃o:Obj,o.wf/\cs=eF o:=by
 have e:QH=List.replicate 3 (.i .i64)++(List.replicate 96 (.i .i64)++List.replicate 64 (.i .u8)):=rfl;rw[e]at h;obtain⟨h1,h2⟩:=h.split;obtain⟨h3,h4⟩:=h2.split;simp only[List.length_replicate]at h1 h3 h4;obtain⟨s,hs,e1⟩:=FV h3;obtain⟨b,e2⟩:=GB h4;match cs,h1,e1,e2 with
 |x::y::z::rest,h1,e1,e2=>
  obtain⟨⟨n1,rfl,r1⟩,⟨n2,rfl,r2⟩,⟨n3,rfl,r3⟩,_⟩:=h1;refine⟨⟨n1,n2,n3,s,b⟩,⟨r1,r2,r3,hs⟩,?_⟩;simp only[List.drop_succ_cons,List.drop_zero]at e1 e2;simp only[eF,i64,List.cons.injEq,true_and];rw[<-e1,<-e2,List.take_append_drop]
 | [],h1,_,_=>exact h1.elim
 | [_],h1,_,_=>exact h1.2.elim
 | [_,_],h1,_,_=>exact h1.2.2.elim
open Go.RowKit (Below)
section
variable {H:Type} {enc:TypeId×Value->H} {P:Program}
theorem JP {f:Nat} {vs:List V} {res:List aK} (h:an P f vs res (oD (.bo true)) (fun _ _=>False)) {J:Env} {W:World} (hH:bq J (fun _ _=>False) res (known res) W (fun _=>False) W) (hok:fM (known res) vs):
  Calls P f (bB J vs).toArray W fun e W'=>e= .returned (.bool true)/\Below W.heap.size W W':=
 (Yc (h J _ W _ W hH hok)).mono fun e W' ⟨x,ρ',fps',res',g1,g2,g3,g4⟩=>by
  rcases g4 with⟨rfl,hK⟩|⟨_,hK⟩
  ·obtain⟨e1,_,_⟩:=dE hK ρ' (known res');refine⟨by rw[e1];rfl,g1.os,g1.tape,g1.output,g1.old,fun b hb=>g1.same b hb (fun h=>h)⟩
  ·exact hK.elim
theorem s8 {W W':World} (hB:Below W.heap.size W W') (hl:laidOutB P=true):∀{ts:List TypeId} {vs:List Value} {ds:List (DataW H)} {p:List MemPlace},
  (∀t∈ts,P.readableRec t=true/\t<P.types.size)->DataW.TrodAll enc P W 0 (fun _=>true) true ts vs ds p->(∀q∈p,q.block<W.heap.size)->∀sp:Nat->Bool,(∀q∈p,sp q.block=true)->DataW.TrodAll enc P W' 0 sp true ts vs ds p
 | [],vs,ds,p,_,h,_,sp,_=>by
   obtain⟨rfl,rfl,rfl⟩:=trodAll_nil h;exact trodAll_mk0
 |t::ts,vs,ds,p,hr,h,hlt,sp,hsp=>by
  obtain⟨v,vs',d,ds',p1,q1,rfl,rfl,rfl,⟨n,h1⟩,h2⟩:=trodAll_cons h;obtain⟨r1,r2⟩:=hr t (by simp)
  refine trodAll_cons_mk ⟨n,?_⟩ (s8 hB hl (fun t ht=>hr t (by simp[ht])) h2 (fun q hq=>hlt q (List.mem_append_right _ hq)) sp fun q hq=>hsp q (List.mem_append_right _ hq))
  exact DataW.trod_stays (kids_book hl r1) (book_sized r1) (fun h=>by cases h) ⟨r2,book_self t⟩ h1 (fun q hq=>hB.same (hlt q (List.mem_append_left _ hq))) fun q hq=>hsp q (List.mem_append_left _ hq)
theorem NW {f:Func} {s:ChangeSpec} {apart fresh handsOn again:Bool} {W W':World} {args:Array Value} {ds gs:List (DataW H)} {before:List MemPlace} {tb:TypeId}
  (hW:DataW.Whole enc P f.params.toList s.vars apart W args.toList ds gs before) (hvars:s.vars= []) (hB:Below W.heap.size W W') (hl:laidOutB P=true)
  (hr:∀t∈f.params.toList,P.readableRec t=true/\t<P.types.size) (hrt:f.resultTypes= #[tb]) (htb:P.underlying tb=some .bool)
  (hs:(s.fn H (ds++gs)).results= [.lit (.bool true)]/\(s.fn H (ds++gs)).args=ds/\(s.fn H (ds++gs)).vars= []):s.post enc P f apart fresh handsOn again W args (.bool true) W':=by
 have hW':=hW;have hlt:=hW.lt;obtain⟨pa,pv,hA,hV,hps,hz,hn⟩:=hW;rw[hvars]at hV;obtain⟨rfl,rfl⟩:=trodVars_none hV;rw[List.append_nil]at hps;subst hps;have hag:∀sp:Nat->Bool,(∀q∈before,sp q.block=true)->DataW.TrodAll enc P W' 0 sp true f.params.toList args.toList ds before:=fun sp hsp=>s8 hB hl hr hA hlt sp hsp
 have hres:∀(b:Nat) (sp:Nat->Bool) (hd:Bool),DataW.TrodAll enc P W' b sp hd f.resultTypes.toList ((Value.bool true).resultList f.resultTypes.size) [.lit (.bool true)] []:=fun b sp hd=>by
  rw[hrt];exact trodAll_mk1 (RowKit.shut_bool htb true)
 have hok:∀(j:Nat) (t:TypeId) (r:Value),f.resultTypes[j]? =some t->((Value.bool true).resultList f.resultTypes.size)[j]? =some r->Value.okWide P W' .any 0 t r:=RowKit.ok_one hrt rfl (RowKit.okWide_bool_mk htb true);refine⟨ds,[],before,[],before,[],hW',by rw[hs.1];exact hres _ _ _,?_,?_,hB.frame _,fun _=>⟨hok,?_⟩⟩
 ·rw[hs.2.1];exact hag _ fun q hq=>by simpa using hlt q hq
 ·rw[hvars,hs.2.2];rfl
 ·refine⟨[.lit (.bool true)]++ds,[],before,⟨[]++before,[],trodAll_append (hag _ fun _ _=>rfl) (hres _ _ _),by rw[hvars];rfl,by simp,fun b off hp=>?_,hn⟩,fun p hp _=>hp⟩
  have:=hz b off hp;rw[hB.frozen (p:=⟨b,off,none⟩) (hlt _ hp)];exact this
def xb (w:World) (v:Value) (esz:Nat) (l:TL):Prop:=
 (∀j,j<l.len->ok (fun _=>False) (l.get j)/\cV (l.get j)=false/\fg (l.get j)=esz)/\l.len<=9223372036854775807/\
 ∃(sa:Option Addr) (cap:Nat),v= .slice sa l.len cap/\(0<l.len->∃a,sa=some a/\a.spot=none/\a.block<w.heap.size/\∀j,j<l.len->∀k,k<esz->w.cell? ⟨a.block,a.off+(j*esz+k),none⟩=(cells Env.zero (l.get j))[k]?)
def ZZ:Value->Option Addr
 | .slice a _ _=>a
 |_=>none
def slN:Value->Nat
 | .slice _ n _=>n
 |_=>0
def slC:Value->Nat
 | .slice _ _ c=>c
 |_=>0
def tT (A:List (Value×Nat×TL)):Env:=
 {num:=fun _=>0,cap:=fun i=>slC (A.getD i (.slice none 0 0,0,.bo [])).1,adr:=fun i=>(ZZ (A.getD i (.slice none 0 0,0,.bo [])).1).getD ⟨0,0,none⟩,sa:=fun i=>ZZ (A.getD i (.slice none 0 0,0,.bo [])).1,
  sn:=fun i=>slN (A.getD i (.slice none 0 0,0,.bo [])).1,ob:=fun _ _=>0}
def mN:List (Value×Nat×TL)->List aK
 | []=> []
 |a::l=> .arr none a.2.1 a.2.2::mN l
theorem qn:∀(A:List (Value×Nat×TL)) (i:Nat),ay (mN A) i=match A[i]? with|some a=> .arr none a.2.1 a.2.2|none=> .yet
 | [],i=>by simp[mN,ay]
 |a::l,0=>by simp[mN,ay]
 |a::l,i+1=>by simp[mN,ay,qn l i]
theorem oU:∀A:List (Value×Nat×TL),(mN A).length=A.length
 | []=>rfl
 |a::l=>by simp[mN,oU l]
theorem Ku {A:List (Value×Nat×TL)} {W:World} (h:∀a∈A,xb W a.1 a.2.1 a.2.2):bq (tT A) (fun _ _=>False) (mN A) (known (mN A)) W (fun _=>False) W:=by
 refine⟨fun i hi=>hi,Nat.le_refl _,rfl,rfl,rfl,fun i hi=>?_,fun i b _ h=>h.elim,fun i j b _ _ _ h=>h.elim,fun i b _ h=>h.elim,fun _ _ _=>rfl⟩
 have hlt:=aO hi;rw[oU]at hlt;have hA:A[i]? =some A[i]:=List.getElem?_eq_getElem hlt;have hh:=h A[i] (List.getElem_mem hlt);generalize A[i]=a at hA hh
 rw[qn,hA];simp only;obtain⟨h1,h2,sa,cap,h3,h4⟩:=hh;have hd:A.getD i (.slice none 0 0,0,.bo [])=a:=by rw[aa2,hA];rfl
 have e1:(tT A).sa i=sa:=by show ZZ (A.getD i _).1=sa;rw[hd,h3];rfl
 have e2:(tT A).sn i=a.2.2.len:=by show slN (A.getD i _).1=_;rw[hd,h3];rfl
 have e3:(tT A).adr i=sa.getD ⟨0,0,none⟩:=by show(ZZ (A.getD i _).1).getD _=_;rw[hd,h3];rfl
 refine⟨h1,e2,h2,fun x hx=>?_,fun hl=>?_,fun hl=>?_,.inl ⟨rfl,fun hl=>?_,fun j hj k hk=>?_⟩⟩
 ·rw[e1]at hx;rw[e3,hx];rfl
 ·obtain⟨x,rfl,_⟩:=h4 hl;rw[e1];rfl
 ·obtain⟨x,rfl,g,_⟩:=h4 hl;rw[e3];exact g
 ·obtain⟨x,rfl,_,g,_⟩:=h4 hl;exact⟨fun h=>h,by rw[e3];exact g⟩
 ·obtain⟨x,rfl,_,_,g⟩:=h4 (by omega)
  have:=g j hj k hk;rw[e3];simp only[Option.getD_some];rw[this,dV (N:=fun _=>False) (J:=Env.zero) (ρ':=tT A) (fun _ h=>h.elim) _ (h1 j hj).1]
theorem Hq {A:List (Value×Nat×TL)} {W:World} (h:∀a∈A,xb W a.1 a.2.1 a.2.2) {i:Nat} {a:Value×Nat×TL} (hi:A[i]? =some a):den (tT A) (.sa i)=a.1/\known (mN A) i:=by
 obtain⟨h1,h2,sa,cap,h3,h4⟩:=h a (List.mem_of_getElem? hi);have hd:A.getD i (.slice none 0 0,0,.bo [])=a:=by rw[aa2,hi];rfl
 refine⟨?_,by unfold known;rw[qn,hi];simp⟩
 show Value.slice (ZZ (A.getD i _).1) (slN (A.getD i _).1) (slC (A.getD i _).1)=a.1
 rw[hd,h3];rfl
theorem wT {α:Type} {p:Nat->α->Prop}:∀n:Nat,(∀i,i<n->∃y,p i y)->∃l:List α,l.length=n/\∀(i:Nat) (y:α),l[i]? =some y->p i y
 |0,_=>⟨[],rfl,by simp⟩
 |n+1,h=>by
  obtain⟨l,h1,h2⟩:=wT n fun i hi=>h i (by omega)
  obtain⟨y,hy⟩:=h n (by omega)
  refine⟨l++ [y],by simp[h1],fun i z hz=>?_⟩
  by_cases hi:i<n
  ·rw[List.getElem?_append_left (by omega)]at hz
   exact h2 i z hz
  ·rw[List.getElem?_append_right (by omega)]at hz
   have:i-l.length=0:=by
    have:=(List.getElem?_eq_some_iff.1 hz).1;simp at this;omega
   rw[this]at hz;simp at hz;subst hz;rw[show i=n by omega];exact hy
theorem GS {α:Type} {W:World} {t e esz:TypeId} {v:Value} {d:DataW H} {ps:List MemPlace} (ht:P.underlying t=some (.slice e)) (hc:P.cellsOf e=esz) (hz:0<esz)
  (hval:∃a0 ln cp,v= .slice a0 ln cp) (hd:DataW.Trod enc P W 0 (fun _=>true) true t v d ps) (mk:α->V) (wf:α->Prop) (tl:List α->TL) (d0:α) (htl:∀l:List α,(tl l).len=l.length/\∀i,(tl l).get i=mk (aj l i d0))
  (hmk:∀y,wf y->ok (fun _=>False) (mk y)/\cV (mk y)=false/\fg (mk y)=esz) (hop:∀n cs x,DataW.trod enc P W 0 (fun _=>true) true n e cs=some x->∃y,wf y/\cs=cells Env.zero (mk y)):
  ∃l:List α,(∀y∈l,wf y)/\xb W v esz (tl l):=by
 obtain⟨a0,ln,cp,rfl⟩:=hval;obtain⟨fuel,hf⟩:=hd;rcases Go.Deep.open_slice ht hf with⟨hcs,_⟩|⟨a,len,cap,m,n,D,Pl,hcs,_,hlc,hcm,hm,_,hx⟩
 ·simp[Value.cells]at hcs;obtain⟨rfl,rfl,rfl⟩:=hcs;obtain⟨e1,e2⟩:=htl [];have e1:(tl []).len=0:=e1;exact⟨[],by simp,fun j hj=>by omega,by omega,none,0,by rw[e1],fun h=>by omega⟩
 ·simp[Value.cells]at hcs;obtain⟨rfl,rfl,rfl⟩:=hcs;simp only[if_true]at hm;subst hm
  have hx':∀i,i<ln->∃y,wf y/\∀k,k<esz->W.cell? ((a.add (i*esz)).add k)=(cells Env.zero (mk y))[k]? :=fun i hi=>by
   obtain⟨cs,g1,g2⟩:=hx i (by omega)
   rw[hc]at g1;obtain⟨y,y1,y2⟩:=hop n cs _ g2;obtain⟨_,_,g3⟩:=World.cells?_some g1;exact⟨y,y1,fun k hk=>by rw[g3 k hk,y2]⟩
  obtain⟨l,l1,l2⟩:=wT ln hx';obtain⟨e1,e2⟩:=htl l
  have hget:∀j,j<ln->l[j]? =some (aj l j d0):=fun j hj=>by
   unfold aj;rw[aa2,List.getElem?_eq_getElem (by omega)];rfl
  have hcell0:∀j,j<ln->∀k,k<esz->W.cell? ((a.add (j*esz)).add k)=(cells Env.zero ((tl l).get j))[k]? :=fun j hj k hk=>by
   rw[e2];exact(l2 j _ (hget j hj)).2 k hk
  refine⟨l,fun y hy=>?_,fun j hj=>?_,?_,some a,m,by rw[e1,l1],fun hl=>?_⟩
  ·obtain⟨i,hi,rfl⟩:=List.getElem_of_mem hy;exact(l2 i _ (List.getElem?_eq_getElem hi)).1
  ·rw[e2];exact hmk _ (l2 j _ (hget j (by rw[e1,l1]at hj;exact hj))).1
  ·have:m<=9223372036854775807:=by simpa[maxLen]using hcm
   omega
  ·have hln:0<ln:=by rw[e1,l1]at hl;exact hl
   have h0:=hcell0 0 hln 0 hz
   have hsome:∃u,(cells Env.zero ((tl l).get 0))[0]? =some u:=by
    have hk:=hmk _ (l2 0 _ (hget 0 hln)).1;rw[<-e2]at hk;have:=bg Env.zero _ hk.1;exact⟨_,List.getElem?_eq_getElem (by rw[this,hk.2.2];exact hz)⟩
   obtain⟨u,hu⟩:=hsome;rw[hu]at h0;simp only[Nat.zero_mul,Addr.add,if_true]at h0
   have hspot:a.spot=none:=by
    unfold World.cell? at h0;split at h0
    ·split at h0
     ·simp at h0
     ·rename_i hs;simpa using hs
    ·simp at h0
   refine⟨a,rfl,hspot,World.block_lt_of_cell? W a h0,fun j hj k hk=>?_⟩
   have:=hcell0 j (by rw[e1,l1]at hj;exact hj) k hk
   rw[<-this];congr 1
   obtain⟨b,o,s⟩:=a;simp only at hspot;subst hspot;rw[add_lit,add_lit];show(⟨b,o+(j*esz+k),none⟩:Addr)=⟨b,o+j*esz+k,none⟩
   rw[Nat.add_assoc]
theorem J1 {α:Type} {W:World} {t e esz:TypeId} {base:Nat} {v:Value} {d:DataW H} {ps:List MemPlace} (ht:P.underlying t=some (.slice e)) (hc:P.cellsOf e=esz) (hz:0<esz)
  (hval:Value.okWide P W .any base t v) (hd:DataW.Trod enc P W 0 (fun _=>true) true t v d ps) (mk:α->V) (wf:α->Prop) (tl:List α->TL) (d0:α) (htl:∀l:List α,(tl l).len=l.length/\∀i,(tl l).get i=mk (aj l i d0))
  (hmk:∀y,wf y->ok (fun _=>False) (mk y)/\cV (mk y)=false/\fg (mk y)=esz) (hop:∀n cs x,DataW.trod enc P W 0 (fun _=>true) true n e cs=some x->∃y,wf y/\cs=cells Env.zero (mk y)):
  ∃l:List α,(∀y∈l,wf y)/\xb W v esz (tl l):=
 GS ht hc hz (okWide_slice ht hval) hd mk wf tl d0 htl hmk hop
end
end Go.Sx
namespace Go.Proofs.YtlblcfaclmpekaaGreat
open Go.Sx Go.ChangeShapes Go.WideShapes
theorem aaU:ownKnob Tryz.prog.godebug=none:=by kernel_rfl
theorem ZD:laidOutB Tryz.prog=true:=by kernel_rfl
section
variable {H:Type} {enc:TypeId×Value->H} {W:World} {base:Nat} {v:Value} {d:DataW H} {ps:List MemPlace}
end
def QC {α:Type} (ks:List Kd) (W:α->Prop) (m:α->V):Prop:=
 (∀cs,sL ks cs->∃x,W x/\cs=cells Env.zero (m x))/\∀x,W x->ok (fun _=>False) (m x)/\cV (m x)=false/\fg (m x)=ks.length
def Tb {α:Type} (ks:List Kd) (W:α->Prop) (m:α->List V):Prop:=
 (∀cs,sL ks cs->∃x,W x/\cs=bp Env.zero (m x))/\∀x,W x->fM (fun _=>False) (m x)/\ti (m x)/\FZ (m x)=ks.length
theorem Fl:Tb [] (fun _:Unit=>True) (fun _=> []):=by
 refine⟨fun cs h=>?_,fun _ _=>⟨trivial,trivial,rfl⟩⟩
 cases cs with
 |nil=>exact⟨(),trivial,rfl⟩
 |cons a l=>exact h.elim
theorem hJ {α β:Type} {ks1 ks2:List Kd} {W1:α->Prop} {W2:β->Prop} {m1:α->V} {m2:β->List V} (h1:QC ks1 W1 m1) (h2:Tb ks2 W2 m2):Tb (ks1++ks2) (fun x:α×β=>W1 x.1/\W2 x.2) (fun x=>m1 x.1::m2 x.2):=by
 refine⟨fun cs h=>?_,fun x hx=>?_⟩
 ·obtain⟨g1,g2⟩:=sL.split h;obtain⟨a,a1,a2⟩:=h1.1 _ g1;obtain⟨b,b1,b2⟩:=h2.1 _ g2;refine⟨(a,b),⟨a1,b1⟩,?_⟩;have e:bp Env.zero (m1 a::m2 b)=cells Env.zero (m1 a)++bp Env.zero (m2 b):=rfl;show cs=bp Env.zero (m1 a::m2 b)
  rw[e,<-a2,<-b2,List.take_append_drop]
 ·obtain⟨a1,a2,a3⟩:=h1.2 x.1 hx.1;obtain⟨b1,b2,b3⟩:=h2.2 x.2 hx.2;refine⟨⟨a1,b1⟩,⟨?_,b2⟩,?_⟩
  ·cases hm:m1 x.1<;>rw[hm]at a2<;>first|trivial|simp[cV]at a2
  ·show fg (m1 x.1)+FZ (m2 x.2)=_
   rw[a3,b3,List.length_append]
theorem NU {α:Type} {ks:List Kd} {W:α->Prop} {m:α->List V} (h:Tb ks W m):QC ks W (fun x=> .ag (m x)):=
 ⟨fun cs hc=>by
  obtain⟨x,h1,h2⟩:=h.1 cs hc;exact⟨x,h1,by rw[h2];simp[cells,den,Value.cells]⟩,fun x hx=>⟨⟨(h.2 x hx).1,(h.2 x hx).2.1⟩,rfl,(h.2 x hx).2.2⟩⟩
theorem TI {α β:Type} {ks:List Kd} {W:α->Prop} {m:α->V} {m':β->V} (h:QC ks W m) (f:α->β) (g:β->α) (hm:∀y,m' y=m (g y)) (hfg:∀x,g (f x)=x):QC ks (fun y=>W (g y)) m':=by
 refine⟨fun cs hc=>?_,fun y hy=>?_⟩
 ·obtain⟨x,h1,h2⟩:=h.1 cs hc;exact⟨f x,by show W (g (f x));rw[hfg];exact h1,by rw[hm,hfg];exact h2⟩
 ·rw[hm];exact h.2 _ hy
theorem uu (k:IntKind):QC [.i k] (bY k) (V.it k):=by
 refine⟨fun cs h=>?_,fun x hx=>⟨hx,rfl,rfl⟩⟩
 match cs,h with
 | [],h=>exact h.elim
 | [a],h=>obtain⟨⟨n,rfl,hn⟩,_⟩:=h;exact⟨n,hn,rfl⟩
 |_::_::_,h=>exact h.2.elim
theorem ZW:QC [.b] (fun _=>True) V.bo:=by
 refine⟨fun cs h=>?_,fun x hx=>⟨trivial,rfl,rfl⟩⟩
 match cs,h with
 | [],h=>exact h.elim
 | [a],h=>obtain⟨⟨n,rfl⟩,_⟩:=h;exact⟨n,trivial,rfl⟩
 |_::_::_,h=>exact h.2.elim
theorem aab:QC [.s] (fun s:ByteArray=>(s.size:Int)<=9223372036854775807) V.st:=by
 refine⟨fun cs h=>?_,fun x hx=>⟨trivial,rfl,rfl⟩⟩
 match cs,h with
 | [],h=>exact h.elim
 | [a],h=>
   obtain⟨⟨n,rfl,hn⟩,_⟩:=h;refine⟨n,?_,rfl⟩;simp only[maxLen]at hn;omega
 |_::_::_,h=>exact h.2.elim
theorem XV:QC QH Obj.wf V.ob:=⟨fun cs h=>TS h,fun x hx=>⟨hx,rfl,rfl⟩⟩
section
variable {H:Type} {enc:TypeId×Value->H} {W:World} {base:Nat} {v:Value} {d:DataW H} {ps:List MemPlace}
theorem Bz {α:Type} {t e:TypeId} {ks:List Kd} {wf:α->Prop} {m:α->V} (tl:List α->TL) (d0:α) (ht:Tryz.prog.underlying t=some (.slice e)) (hf:fw Tryz.prog 8 e=some ks) (hc:Tryz.prog.cellsOf e=ks.length) (hz:0<ks.length) (ho:QC ks wf m)
  (htl:∀l:List α,(tl l).len=l.length/\∀i,(tl l).get i=m (aj l i d0)) (hval:Value.okWide Tryz.prog W .any base t v) (hd:DataW.Trod enc Tryz.prog W 0 (fun _=>true) true t v d ps):
  ∃l:List α,(∀o∈l,wf o)/\xb W v ks.length (tl l):=
 J1 (esz:=ks.length) ht hc hz hval hd m wf tl d0 htl (fun y hy=>ho.2 y hy) fun n cs x hx=>ho.1 _ (wb 8 _ _ hf n cs x hx)
theorem RZ {t:TypeId} {k:IntKind} (ht:Tryz.prog.underlying t=some (.int k)) (hval:Value.okWide Tryz.prog W .any base t v) (hd:DataW.Trod enc Tryz.prog W 0 (fun _=>true) true t v d ps):∃n:Int,bY k n/\v= .int k n:=by
 obtain⟨n,h1,_,_,h2⟩:=open_int ht hval hd;exact⟨n,PV h2,h1⟩
end
theorem QR {α:Type} {l:List α} {p:α->Prop} (h:∀o∈l,p o) (d:α) (i:Nat) (hi:i<ai l):p (aj l i d):=by
 have hi:i<l.length:=hi;unfold aj;rw[aa2,List.getElem?_eq_getElem hi];exact h _ (List.getElem_mem hi)
theorem RJ {J:Env} {res:List aK} {W:World} (h:bq J (fun _ _=>False) res (known res) W (fun _=>False) W) (hk:∀i,i<res.length->known res i):bq J (fun _ _=>False) (nN res) (known (nN res)) W (fun _=>False) W:=by
 have hg:∀i,ay (nN res) i=if i<res.length then .ro (ay res i)else .yet:=fun i=>by
  rw[m9,m9];unfold nN;by_cases hi:i<res.length
  ·simp[aa2,hi]
  ·simp[aa2,hi]
 have hkn:∀i,known (nN res) i↔i<res.length:=fun i=>by
  unfold known;rw[hg];split<;>simp_all
 refine⟨fun i hi=>hi,Nat.le_refl _,rfl,rfl,rfl,fun i hi=>?_,fun i b _ h=>h.elim,fun i j b _ _ _ h=>h.elim,fun i b _ h=>h.elim,fun _ _ _=>rfl⟩
 have hlt:=(hkn i).1 hi;rw[hg,aa4 hlt];exact⟨fun _=>False,aK.oG _ (h.holds i (hk i hlt)) fun j hj=>(hkn j).2 (aO hj),fun b hb=>hb.elim⟩
theorem Jn {A:List (Value×Nat×TL)}:∀i,i<(mN A).length->known (mN A) i:=fun i hi=>by
 rw[oU]at hi;unfold known;rw[qn,List.getElem?_eq_getElem hi];simp
theorem Fz {l:List aK} {i:Nat} {r:aK} (h:ay l i= .ro r):known l i:=by
 unfold known;rw[h];simp
def kI:List Kd:= [.i .i64]
def aaS:List Kd:=kI++(kI++(kI++ []))
def kOp:List Kd:=kI++(kI++(kI++(kI++(kI++([.s]++(aaS++([.b]++(kI++ []))))))))
def aaF (x:iW):Prop:=bY .i64 x.kind/\bY .i64 x.proc/\bY .i64 x.reg/\bY .i64 x.mode/\bY .i64 x.code/\aw x.data/\(bY .i64 x.s0/\bY .i64 x.s1/\bY .i64 x.s2/\True)/\True/\bY .i64 x.val/\True
theorem Zx:QC kOp aaF Kn:=
 TI (NU (hJ (uu .i64) (hJ (uu .i64) (hJ (uu .i64) (hJ (uu .i64) (hJ (uu .i64) (hJ aab (hJ (NU (hJ (uu .i64) (hJ (uu .i64) (hJ (uu .i64) Fl)))) (hJ ZW (hJ (uu .i64) Fl))))))))))
  (fun x=>(⟨x.1,x.2.1,x.2.2.1,x.2.2.2.1,x.2.2.2.2.1,x.2.2.2.2.2.1,x.2.2.2.2.2.2.1.1,x.2.2.2.2.2.2.1.2.1,x.2.2.2.2.2.2.1.2.2.1,x.2.2.2.2.2.2.2.1,x.2.2.2.2.2.2.2.2.1⟩:iW))
  (fun y:iW=>(y.kind,y.proc,y.reg,y.mode,y.code,y.data,(y.s0,y.s1,y.s2,()),y.num,y.val,())) (fun _=>rfl) (fun _=>rfl)
end Go.Proofs.YtlblcfaclmpekaaGreat
namespace Go.Proofs.YtlblcfaclmpekaaGreat.machineOf
open Go.Sx Go.ChangeShapes Go.WideShapes Go.RowKit
theorem contract (H:Type) (enc:TypeId×Value->H) (W:World) (base:Nat) (args:Array Value) (ds gs:List (DataW H)) (before:List MemPlace)
  (hval:∀(j:Nat) t v,Tryz.f6.params[j]? =some t->args[j]? =some v->Value.okWide Tryz.prog W .any base t v)
  (hW:DataW.Whole enc Tryz.prog Tryz.f6.params.toList Rows.machineOfSpec.vars false W args.toList ds gs before):
  Calls Tryz.prog 6 args W fun e W'=>∃v,e= .returned v/\Rows.machineOfSpec.post enc Tryz.prog Tryz.f6 false true false false W args v W':=by
 have hW':=hW;obtain⟨p,q,hA0,hV,rfl,hfz,hnd⟩:=hW;have hA:DataW.TrodAll enc Tryz.prog W 0 (fun _=>true) true Tryz.f6.params.toList args.toList ds p:=hA0
 rw[Tryz.params6]at hA hval;obtain⟨v0,vs0,d0,ds0,p0,q0,hargs,rfl,rfl,h0,r0⟩:=trodAll_cons hA;obtain⟨v1,vs1,d1,ds1,p1,q1,rfl,rfl,rfl,h1,r1⟩:=trodAll_cons r0;obtain⟨v2,vs2,d2,ds2,p2,q2,rfl,rfl,rfl,h2,r2⟩:=trodAll_cons r1;obtain⟨rfl,rfl,rfl⟩:=trodAll_nil r2;obtain rfl:args= #[v0,v1,v2]:=by cases args;simp_all
 obtain⟨rfl,rfl⟩:=trodVars_none hV;obtain⟨a0,w0,s0⟩:=Bz TL.ob free Tryz.underlying29 (by kernel_rfl:fw Tryz.prog 8 74=some QH) (by kernel_rfl) (by decide) XV (fun l=>⟨rfl,fun i=>rfl⟩) (hval 0 29 v0 rfl rfl) h0
 have s0:xb W v0 163 (.ob a0):=s0;obtain⟨a1,w1,rfl⟩:=RZ Tryz.underlying2 (hval 1 2 v1 rfl rfl) h1;obtain⟨a2,w2,s2⟩:=Bz lG ng Tryz.underlying22 (by kernel_rfl:fw Tryz.prog 8 56=some kOp) (by kernel_rfl) (by decide) Zx (fun l=>⟨rfl,fun i=>rfl⟩) (hval 2 22 v2 rfl rfl) h2
 have s2:xb W v2 11 (lG a2):=s2
 have hs:∀a∈([(v0,163,.ob a0),(v2,11,lG a2)]:List (Value×Nat×TL)),xb W a.1 a.2.1 a.2.2:=by
  simp only[List.mem_cons,List.not_mem_nil,or_false,forall_eq_or_imp,forall_eq];exact⟨s0,s2⟩
 have k0:=Hq hs (i:=0) (a:=(v0,163,.ob a0)) rfl;have k2:=Hq hs (i:=1) (a:=(v2,11,lG a2)) rfl;have hc:=JP (Wa a0 a1 a2 (fun i hi=>(QR w2 ng i hi).2.2.2.2.2.1)) (RJ (Ku hs) Jn) ⟨Fz rfl,w1,Fz rfl,trivial⟩
 have e:(bB (tT [(v0,163,.ob a0),(v2,11,lG a2)]) [.sa 0,.it .i64 a1,.sa 1]).toArray= #[v0,.int .i64 a1,v2]:=by
  simp only[bB,k0.1,k2.1];rfl
 rw[e]at hc;exact hc.mono fun e W' ⟨he,hB⟩=>⟨_,he,NW hW' rfl hB ZD (by rw[Tryz.params6];simp only[List.mem_cons,List.not_mem_nil,or_false,forall_eq_or_imp,forall_eq];exact⟨⟨by kernel_rfl,by decide+kernel⟩,⟨by kernel_rfl,by decide+kernel⟩,⟨by kernel_rfl,by decide+kernel⟩⟩) (by kernel_rfl) Tryz.underlying4 ⟨rfl,rfl,rfl⟩⟩
set_option maxRecDepth 100000 in
theorem lifted (os:Os) (started:os.Started) (H:Type) (enc:TypeId×Value->H):
  ReturnsInHanded {} Tryz.checked os 6 .any (Rows.machineOfSpec.pre6 enc Tryz.prog Tryz.f6 Rows.machineOfRow.domain false) (Rows.machineOfSpec.post enc Tryz.prog Tryz.f6 false true false false):=by
 refine returnsInHanded_of_change (C:=Tryz.checked) aaU started (by kernel_rfl) Tryz.func6
  (ChangeSpec.witness6 (enc:=enc) (C:=Tryz.checked) false ⟨#[], #[.slice none 0 0,.int .i64 0,.slice none 0 0],[]⟩ 8 (by kernel_rfl) (by kernel_rfl) (by kernel_rfl) (by kernel_rfl)) ?_
 intro W base args ds gs before hval hW _ _;exact contract H enc W base args ds gs before hval hW
theorem over:Rows.machineOfRow.holds Tryz.pinned (OpenSpec.ofChange Rows.machineOfSpec):=
 OpenClaim.holds_of_wide 6 Tryz.f6 rfl rfl rfl rfl rfl rfl rfl ⟨rfl,rfl,rfl,rfl,rfl⟩ rfl rfl rfl rfl rfl (by kernel_rfl) Tryz.func6 (by kernel_rfl)
  (aa1 (by kernel_rfl)) (by unfold Func.isWrapper;first| (rw[aa4 (by decide+kernel)];kernel_rfl)| (rw[aa3 (by decide+kernel)];exact⟨rfl,rfl⟩))
  (fun os started H enc _=>lifted os started H enc)
theorem proved:Rows.MachineOfSaid:=
 over
#print axioms proved
end Go.Proofs.YtlblcfaclmpekaaGreat.machineOf
