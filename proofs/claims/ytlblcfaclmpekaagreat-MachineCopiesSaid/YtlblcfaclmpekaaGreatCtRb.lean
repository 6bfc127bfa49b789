import Derived.Test.YtlblcfaclmpekaaGreatCtQe
import Derived.Test.YtlblcfaclmpekaaGreatCtRa
import Derived.Test.YtlblcfaclmpekaaGreatCtRo
import Derived.Test.YtlblcfaclmpekaaGreatCV
set_option linter.unusedSimpArgs false
set_option linter.unusedVariables false
namespace Go.Proofs.YtlblcfaclmpekaaGreat
open Go.Sx
set_option maxRecDepth 100000
theorem KF (L:List Sx.Obj) (n:Int) (k:Key) (m:bk) (hL:aw L) (hs:az m.data):
 true=true/\true=true/\true=true/\true=true/\true=true/\(bk.mk 0 eB void void (Key.mk 1 void.oid void.count void.call void.rights k.value),L)=aH L n (kk 1 k) (mm 1 m):=by
 simp+decide [aH,dn,dE,dt,ej,iz,gV,ib,fX,dG,cT,fx,fR,fl,gU,c8,void,ee,eB,bf,eY,eN,eX,kk,mm,hL,hs];try grind
theorem Lt (L:List Sx.Obj) (n:Int) (k:Key) (m:bk) (hL:aw L) (hs:az m.data):ak Tryz.prog 102 [.lp 0 0] [.ro (.blk m6 (gp (.ci .i64 1) m n (.ci .i64 1) k)),.store tS eS L] (kO (aH L n ((kk 1 k)) ((mm 1 m)))) (fun _ _=>False):=
 aN (inl:=(fun f=>f==131||f==142||f==152||f==146||f==202||f==185||f==227||f==177||f==148||f==174||f==173||f==132||f==144||f==184||f==188||f==143)) (ann:=aV) (ae cg ay) aB (dB bB) (KF L n k m hL hs) (by kernel_rfl)
theorem JT (L:List Sx.Obj) (n:Int) (k:Key) (m:bk) (hL:aw L) (hs:az m.data):
 true=true/\true=true/\true=true/\true=true/\true=true/\true=true/\((!decide (m.k2.kind=1))=true->(bk.mk 240 eB void void void,L)=aH L n (kk 2 k) (mm 1 m))/\((!decide
  (m.k2.kind=1))=false->((decide (m.k2.value<0)||decide (2147483647<m.k2.value))=true->true=true/\true=true/\true=true/\((!decide (cH L (kk 2 k) (-1)=0))=true->(bk.mk
  (cH L (kk 2 k) (-1)) eB void void void,L)=aH L n (kk 2 k) (mm 1 m))/\((!decide (cH L (kk 2 k) (-1)=0))=false->(bk.mk 0 eB (aK L (kk 2 k) (-1)) void void,L)=aH L n (kk 2
  k) (mm 1 m)))/\((decide (m.k2.value<0)||decide (2147483647<m.k2.value))=false->true=true/\true=true/\true=true/\((!decide (cH L (kk 2 k) m.k2.value=0))=true->(bk.mk
  (cH L (kk 2 k) m.k2.value) eB void void void,L)=aH L n (kk 2 k) (mm 1 m))/\((!decide (cH L (kk 2 k) m.k2.value=0))=false->(bk.mk 0 eB (aK L (kk 2 k) m.k2.value) void void,L)
  =aH L n (kk 2 k) (mm 1 m)))):=by
 simp+decide [aH,dn,dE,dt,ej,iz,gV,ib,fX,dG,cT,fx,fR,fl,gU,c8,void,ee,eB,bf,eY,eN,eX,kk,mm,hL,hs];try grind
theorem KX (L:List Sx.Obj) (n:Int) (k:Key) (m:bk) (hL:aw L) (hs:az m.data):ak Tryz.prog 102 [.lp 0 0] [.ro (.blk m6 (gp (.ci .i64 1) m n (.ci .i64 2) k)),.store tS eS L] (kO (aH L n ((kk 2 k)) ((mm 1 m)))) (fun _ _=>False):=
 aN (inl:=(fun f=>f==131||f==142||f==152||f==146||f==202||f==185||f==227||f==177||f==148||f==174||f==173||f==132||f==144||f==184||f==188||f==145)) (ann:=aV) (ae pZ (ae cg ay)) aB (dB bB) (JT L n k m hL hs) (by kernel_rfl)
theorem Im (L:List Sx.Obj) (n:Int) (k:Key) (m:bk) (hL:aw L) (hs:az m.data):
 true=true/\true=true/\true=true/\true=true/\true=true/\true=true/\((!decide (m.k2.kind=1))=true->(bk.mk 240 eB void void void,L)=aH L n (kk 2 k) (mm 2 m))/\((!decide
  (m.k2.kind=1))=false->((decide (m.k2.value<0)||decide (2147483647<m.k2.value))=true->true=true/\aw L/\true=true/\true=true/\true=true/\((!decide (bE L (kk 2 k) (-1)
  m.k0=0))=true->(bk.mk (bE L (kk 2 k) (-1) m.k0) eB void void void,dN L (kk 2 k) (-1) m.k0)=aH L n (kk 2 k) (mm 2 m))/\((!decide (bE L (kk 2 k) (-1) m.k0=0))=false->
  (bk.mk 0 eB (eu L (kk 2 k) (-1) m.k0) void void,dN L (kk 2 k) (-1) m.k0)=aH L n (kk 2 k) (mm 2 m)))/\((decide (m.k2.value<0)||decide (2147483647<m.k2.value))=false->true=
  true/\aw L/\true=true/\true=true/\true=true/\((!decide (bE L (kk 2 k) m.k2.value m.k0=0))=true->(bk.mk (bE L (kk 2 k) m.k2.value m.k0) eB void void void,dN L (kk 2
  k) m.k2.value m.k0)=aH L n (kk 2 k) (mm 2 m))/\((!decide (bE L (kk 2 k) m.k2.value m.k0=0))=false->(bk.mk 0 eB (eu L (kk 2 k) m.k2.value m.k0) void void,dN L (kk 2 k)
  m.k2.value m.k0)=aH L n (kk 2 k) (mm 2 m)))):=by
 simp+decide [aH,dn,dE,dt,ej,iz,gV,ib,fX,dG,cT,fx,fR,fl,gU,c8,void,ee,eB,bf,eY,eN,eX,kk,mm,hL,hs];try grind
theorem KS (L:List Sx.Obj) (n:Int) (k:Key) (m:bk) (hL:aw L) (hs:az m.data):ak Tryz.prog 102 [.lp 0 0] [.ro (.blk m6 (gp (.ci .i64 2) m n (.ci .i64 2) k)),.store tS eS L] (kO (aH L n ((kk 2 k)) ((mm 2 m)))) (fun _ _=>False):=
 aN (inl:=(fun f=>f==131||f==142||f==152||f==146||f==202||f==185||f==227||f==177||f==148||f==174||f==173||f==132||f==144||f==184||f==188||f==149)) (ann:=aV) (ae cg ay) (aF E3 aB) (dB bB) (Im L n k m hL hs) (by kernel_rfl)
theorem ID (L:List Sx.Obj) (n:Int) (k:Key) (m:bk) (hL:aw L) (hs:az m.data):
 true=true/\true=true/\true=true/\true=true/\aw L/\true=true/\true=true/\((!decide (aS L (kk 2 k) 2 true=0))=true->(bk.mk (aS L (kk 2 k) 2 true) eB void void void,
  ga L (kk 2 k))=aH L n (kk 2 k) (mm 3 m))/\((!decide (aS L (kk 2 k) 2 true=0))=false->(bk.mk 0 eB void void void,ga L (kk 2 k))=aH L n (kk 2 k) (mm 3 m)):=by
 simp+decide [aH,dn,dE,dt,ej,iz,gV,ib,fX,dG,cT,fx,fR,fl,gU,c8,void,ee,eB,bf,eY,eN,eX,kk,mm,hL,hs];try grind
theorem IY (L:List Sx.Obj) (n:Int) (k:Key) (m:bk) (hL:aw L) (hs:az m.data):ak Tryz.prog 102 [.lp 0 0] [.ro (.blk m6 (gp (.ci .i64 3) m n (.ci .i64 2) k)),.store tS eS L] (kO (aH L n ((kk 2 k)) ((mm 3 m)))) (fun _ _=>False):=
 aN (inl:=(fun f=>f==131||f==142||f==152||f==146||f==202||f==185||f==227||f==177||f==148||f==174||f==173||f==132||f==144||f==184||f==188||f==151)) (ann:=aV) (ae cg ay) (aF LP aB) (dB bB) (ID L n k m hL hs) (by kernel_rfl)
theorem Kk (L:List Sx.Obj) (n:Int) (k:Key) (m:bk) (hL:aw L) (hs:az m.data):
 true=true/\true=true/\true=true/\true=true/\aw L/\true=true/\true=true/\((!decide (cc L (kk 2 k) m.k0=0))=true->(bk.mk (cc L (kk 2 k) m.k0) eB void void void,
  fz L (kk 2 k) m.k0)=aH L n (kk 2 k) (mm 4 m))/\((!decide (cc L (kk 2 k) m.k0=0))=false->(bk.mk 0 eB void void void,fz L (kk 2 k) m.k0)=aH L n (kk 2 k) (mm 4 m)):=by
 simp+decide [aH,dn,dE,dt,ej,iz,gV,ib,fX,dG,cT,fx,fR,fl,gU,c8,void,ee,eB,bf,eY,eN,eX,kk,mm,hL,hs];try grind
theorem Le (L:List Sx.Obj) (n:Int) (k:Key) (m:bk) (hL:aw L) (hs:az m.data):ak Tryz.prog 102 [.lp 0 0] [.ro (.blk m6 (gp (.ci .i64 4) m n (.ci .i64 2) k)),.store tS eS L] (kO (aH L n ((kk 2 k)) ((mm 4 m)))) (fun _ _=>False):=
 aN (inl:=(fun f=>f==131||f==142||f==152||f==146||f==202||f==185||f==227||f==177||f==148||f==174||f==173||f==132||f==144||f==184||f==188||f==154)) (ann:=aV) (ae cg ay) (aF M9 aB) (dB bB) (Kk L n k m hL hs) (by kernel_rfl)
theorem Kc (L:List Sx.Obj) (n:Int) (k:Key) (m:bk) (hL:aw L) (hs:az m.data) (hk:aW (kk 2 k)=true):
 true=true/\true=true/\true=true/\true=true/\true=true/\((!decide (m.k2.kind=1))=true->(bk.mk 240 eB void void void,L)=aH L n (kk 2 k) (mm 5 m))/\((!decide (m.k2.kind=1))=
  false->true=true/\((!(decide (0<=m.k2.value)&&decide (m.k2.value<=7)))=true->(bk.mk 2 eB void void void,L)=aH L n (kk 2 k) (mm 5 m))/\((!(decide (0<=m.k2.value)&&decide
  (m.k2.value<=7)))=false->u4 (kk 2 k) m.k2.value/\true=true/\true=true/\true=true/\(bk.mk 0 eB (nN (kk 2 k) m.k2.value) void void,L)=aH L n (kk 2 k) (mm 5 m))):=by
 have hX:aH L n (kk 2 k) (mm 5 m)=if m.k2.kind=1 then(if 0<=m.k2.value/\m.k2.value<=7 then(fx (nN (kk 2 k) m.k2.value),L)else(fl 2,L))else(fl 240,L):=by
  by_cases h1:m.k2.kind=1
  ·by_cases h2:0<=m.k2.value/\m.k2.value<=7
   ·simp+decide [aH,dn,dE,dt,ej,iz,gV,ib,fX,dG,cT,fx,fR,fl,gU,c8,void,ee,eB,bf,eY,eN,eX,kk,mm,h1,h2]
   ·simp+decide [aH,dn,dE,dt,ej,iz,gV,ib,fX,dG,cT,fx,fR,fl,gU,c8,void,ee,eB,bf,eY,eN,eX,kk,mm,h1,h2]
  ·simp+decide [aH,dn,dE,dt,ej,iz,gV,ib,fX,dG,cT,fx,fR,fl,gU,c8,void,ee,eB,bf,eY,eN,eX,kk,mm,h1]
 rw[hX];refine⟨rfl,rfl,rfl,rfl,rfl,fun h=>?_,fun h=>⟨rfl,fun h'=>?_,fun h'=>⟨⟨hk,?_⟩,rfl,rfl,rfl,?_⟩⟩⟩
 ·have h:¬m.k2.kind=1:=by simpa using h
  rw[VQ h];rfl
 ·have h:m.k2.kind=1:=by simpa using h
  have h':¬(0<=m.k2.value/\m.k2.value<=7):=fun hh=>by simp[hh.1,hh.2]at h'
  rw[VR h,VQ h'];rfl
 ·simpa using h'
 ·have h:m.k2.kind=1:=by simpa using h
  have h':0<=m.k2.value/\m.k2.value<=7:=by simpa using h'
  rw[VR h,VR h'];rfl
theorem HT (L:List Sx.Obj) (n:Int) (k:Key) (m:bk) (hL:aw L) (hs:az m.data) (hk:aW (kk 2 k)=true):ak Tryz.prog 102 [.lp 0 0] [.ro (.blk m6 (gp (.ci .i64 5) m n (.ci .i64 2) k)),.store tS eS L] (kO (aH L n ((kk 2 k)) ((mm 5 m)))) (fun _ _=>False):=
 aN (inl:=(fun f=>f==131||f==142||f==152||f==146||f==202||f==185||f==227||f==177||f==148||f==174||f==173||f==132||f==144||f==184||f==188||f==156)) (ann:=aV) (ae BZ (ae cg ay)) aB (dB bB) (Kc L n k m hL hs hk) (by kernel_rfl)
theorem Kr (L:List Sx.Obj) (n:Int) (k:Key) (m:bk) (hL:aw L) (hs:az m.data):
 true=true/\true=true/\true=true/\true=true/\((!decide (k.rights=0))=true->(bk.mk 191 eB void void void,L)=aH L n (kk 2 k) (mm 6 m))/\((!decide (k.rights=0))=false->true=
  true/\true=true/\true=true/\(bk.mk 0 eB (Key.mk 5 k.oid k.count void.call void.rights void.value) void void,L)=aH L n (kk 2 k) (mm 6 m)):=by
 simp+decide [aH,dn,dE,dt,ej,iz,gV,ib,fX,dG,cT,fx,fR,fl,gU,c8,void,ee,eB,bf,eY,eN,eX,kk,mm,hL,hs];try grind
theorem JK (L:List Sx.Obj) (n:Int) (k:Key) (m:bk) (hL:aw L) (hs:az m.data):ak Tryz.prog 102 [.lp 0 0] [.ro (.blk m6 (gp (.ci .i64 6) m n (.ci .i64 2) k)),.store tS eS L] (kO (aH L n ((kk 2 k)) ((mm 6 m)))) (fun _ _=>False):=
 aN (inl:=(fun f=>f==131||f==142||f==152||f==146||f==202||f==185||f==227||f==177||f==148||f==174||f==173||f==132||f==144||f==184||f==188||f==157)) (ann:=aV) (ae cg ay) aB (dB bB) (Kr L n k m hL hs) (by kernel_rfl)
theorem Lm (L:List Sx.Obj) (n:Int) (k:Key) (m:bk) (hL:aw L) (hs:az m.data):
 true=true/\true=true/\true=true/\true=true/\true=true/\true=true/\((!decide (m.k2.kind=1))=true->(bk.mk 240 eB void void void,L)=aH L n (kk 3 k) (mm 1 m))/\((!decide
  (m.k2.kind=1))=false->((decide (m.k2.value<0)||decide (2147483647<m.k2.value))=true->true=true/\true=true/\true=true/\((!decide (b6 L (kk 3 k) (-1) (imax 0 (qx 32
  (Int.ofNat (64+Nat.succ 0))))=0))=true->(bk.mk (b6 L (kk 3 k) (-1) (imax 0 (qx 32 (Int.ofNat (64+Nat.succ 0))))) eB void void void,L)=aH L n (kk 3 k) (mm 1 m))/\((!decide
  (b6 L (kk 3 k) (-1) (imax 0 (qx 32 (Int.ofNat (64+Nat.succ 0))))=0))=false->(bk.mk 0 (dV L (kk 3 k) (-1) (imax 0 (qx 32 (Int.ofNat (64+Nat.succ 0))))) void void void,L)=
  aH L n (kk 3 k) (mm 1 m)))/\((decide (m.k2.value<0)||decide (2147483647<m.k2.value))=false->aP IntKind.i64 (64-m.k2.value)/\true=true/\true=true/\true=true/\((!decide
  (b6 L (kk 3 k) m.k2.value (imax 0 (qx 32 (64-m.k2.value)))=0))=true->(bk.mk (b6 L (kk 3 k) m.k2.value (imax 0 (qx 32 (64-m.k2.value)))) eB void void void,L)=aH L n (kk 3
  k) (mm 1 m))/\((!decide (b6 L (kk 3 k) m.k2.value (imax 0 (qx 32 (64-m.k2.value)))=0))=false->(bk.mk 0 (dV L (kk 3 k) m.k2.value (imax 0 (qx 32 (64-m.k2.value)))) void void
  void,L)=aH L n (kk 3 k) (mm 1 m)))):=by
 have hX:aH L n (kk 3 k) (mm 1 m)=if m.k2.kind=1 then(if b6 L (kk 3 k) (bf m) (uE (bf m))=0 then(gU (dV L (kk 3 k) (bf m) (uE (bf m))),L)else(fl (b6 L (kk 3 k) (bf m) (uE (bf m))),L))else(fl 240,L):=by
  by_cases h1:m.k2.kind=1
  ·by_cases h2:b6 L (kk 3 k) (bf m) (uE (bf m))=0
   ·simp+decide [aH,dn,dE,dt,ej,gV,cT,show(kk 3 k).kind=3 from rfl,show(mm 1 m).code=1 from rfl,show(mm 1 m).k2=m.k2 from rfl,show bf (mm 1 m)=bf m from rfl,h1,h2]
   ·simp+decide [aH,dn,dE,dt,ej,gV,cT,show(kk 3 k).kind=3 from rfl,show(mm 1 m).code=1 from rfl,show(mm 1 m).k2=m.k2 from rfl,show bf (mm 1 m)=bf m from rfl,h1,h2]
  ·simp+decide [aH,dn,dE,dt,cT,dG,show(kk 3 k).kind=3 from rfl,show(mm 1 m).code=1 from rfl,show(mm 1 m).k2=m.k2 from rfl,h1,ee,fl]
 rw[hX];have e1:∀s,bk.mk 0 s void void void=gU s:=fun _=>rfl
 have e2:∀c,bk.mk c eB void void void=fl c:=fun _=>rfl
 simp only[e1,e2];by_cases h1:m.k2.kind=1
 ·by_cases h2:0<=m.k2.value/\m.k2.value<=2147483647
  ·have hN:bf m=m.k2.value:=by unfold bf;rw[VR h2]
   have hR:uE m.k2.value=imax 0 (qx 32 (64-m.k2.value)):=rfl;have hr:aP .i64 (64-m.k2.value):=by simp only[aP,cj];omega
   rw[hN,hR];simp[h1,h2,hr];grind
  ·have hN:bf m= -1:=by unfold bf;rw[VQ h2]
   have hR:uE (-1)=imax 0 (qx 32 65):=rfl;rw[hN,hR];simp[h1];grind
 ·simp[h1]
theorem I7 (L:List Sx.Obj) (n:Int) (k:Key) (m:bk) (hL:aw L) (hs:az m.data):ak Tryz.prog 102 [.lp 0 0] [.ro (.blk m6 (gp (.ci .i64 1) m n (.ci .i64 3) k)),.store tS eS L] (kO (aH L n ((kk 3 k)) ((mm 1 m)))) (fun _ _=>False):=
 aN (inl:=(fun f=>f==131||f==142||f==152||f==146||f==202||f==185||f==227||f==177||f==148||f==174||f==173||f==132||f==144||f==184||f==188||f==158)) (ann:=aV) (ae nC (ae cg ay)) aB (dB bB) (Lm L n k m hL hs) (by kernel_rfl)
theorem Hu (L:List Sx.Obj) (n:Int) (k:Key) (m:bk) (hL:aw L) (hs:az m.data):
 true=true/\true=true/\true=true/\true=true/\true=true/\true=true/\((!decide (m.k2.kind=1))=true->(bk.mk 240 eB void void void,L)=aH L n (kk 3 k) (mm 2 m))/\((!decide
  (m.k2.kind=1))=false->((decide (m.k2.value<0)||decide (2147483647<m.k2.value))=true->true=true/\(aw L/\az m.data)/\true=true/\true=true/\((!decide (cZ L (kk 3 k)
  (-1) m.data=0))=true->(bk.mk (cZ L (kk 3 k) (-1) m.data) eB void void void,fb L (kk 3 k) (-1) m.data)=aH L n (kk 3 k) (mm 2 m))/\((!decide (cZ L (kk 3 k) (-1) m.data=0))=
  false->(bk.mk 0 eB void void void,fb L (kk 3 k) (-1) m.data)=aH L n (kk 3 k) (mm 2 m)))/\((decide (m.k2.value<0)||decide (2147483647<m.k2.value))=false->true=true/\(aw L/\
  az m.data)/\true=true/\true=true/\((!decide (cZ L (kk 3 k) m.k2.value m.data=0))=true->(bk.mk (cZ L (kk 3 k) m.k2.value m.data) eB void void void,fb L (kk 3 k) m.k2.value
  m.data)=aH L n (kk 3 k) (mm 2 m))/\((!decide (cZ L (kk 3 k) m.k2.value m.data=0))=false->(bk.mk 0 eB void void void,fb L (kk 3 k) m.k2.value m.data)=aH L n (kk 3 k) (mm 2
  m)))):=by
 simp+decide [aH,dn,dE,dt,ej,iz,gV,ib,fX,dG,cT,fx,fR,fl,gU,c8,void,ee,eB,bf,eY,eN,eX,kk,mm,hL,hs];try grind
theorem GY (L:List Sx.Obj) (n:Int) (k:Key) (m:bk) (hL:aw L) (hs:az m.data):ak Tryz.prog 102 [.lp 0 0] [.ro (.blk m6 (gp (.ci .i64 2) m n (.ci .i64 3) k)),.store tS eS L] (kO (aH L n ((kk 3 k)) ((mm 2 m)))) (fun _ _=>False):=
 aN (inl:=(fun f=>f==131||f==142||f==152||f==146||f==202||f==185||f==227||f==177||f==148||f==174||f==173||f==132||f==144||f==184||f==188||f==159)) (ann:=aV) (ae cg ay) (aF zM aB) (dB bB) (Hu L n k m hL hs) (by kernel_rfl)
theorem H6 (L:List Sx.Obj) (n:Int) (k:Key) (m:bk) (hL:aw L) (hs:az m.data):
 true=true/\true=true/\true=true/\true=true/\aw L/\true=true/\true=true/\((!decide (bC L (kk 3 k) true=0))=true->(bk.mk (bC L (kk 3 k) true) eB void void void,
  fM L (kk 3 k))=aH L n (kk 3 k) (mm 3 m))/\((!decide (bC L (kk 3 k) true=0))=false->(bk.mk 0 eB void void void,fM L (kk 3 k))=aH L n (kk 3 k) (mm 3 m)):=by
 simp+decide [aH,dn,dE,dt,ej,iz,gV,ib,fX,dG,cT,fx,fR,fl,gU,c8,void,ee,eB,bf,eY,eN,eX,kk,mm,hL,hs];try grind
theorem JJ (L:List Sx.Obj) (n:Int) (k:Key) (m:bk) (hL:aw L) (hs:az m.data):ak Tryz.prog 102 [.lp 0 0] [.ro (.blk m6 (gp (.ci .i64 3) m n (.ci .i64 3) k)),.store tS eS L] (kO (aH L n ((kk 3 k)) ((mm 3 m)))) (fun _ _=>False):=
 aN (inl:=(fun f=>f==131||f==142||f==152||f==146||f==202||f==185||f==227||f==177||f==148||f==174||f==173||f==132||f==144||f==184||f==188||f==161)) (ann:=aV) (ae cg ay) (aF Ml aB) (dB bB) (H6 L n k m hL hs) (by kernel_rfl)
theorem K4 (L:List Sx.Obj) (n:Int) (k:Key) (m:bk) (hL:aw L) (hs:az m.data):
 true=true/\true=true/\true=true/\true=true/\aw L/\true=true/\true=true/\((!decide (cV L (kk 3 k) m.k0=0))=true->(bk.mk (cV L (kk 3 k) m.k0) eB void void void,fS
  L (kk 3 k) m.k0)=aH L n (kk 3 k) (mm 4 m))/\((!decide (cV L (kk 3 k) m.k0=0))=false->(bk.mk 0 eB void void void,fS L (kk 3 k) m.k0)=aH L n (kk 3 k) (mm 4 m)):=by
 simp+decide [aH,dn,dE,dt,ej,iz,gV,ib,fX,dG,cT,fx,fR,fl,gU,c8,void,ee,eB,bf,eY,eN,eX,kk,mm,hL,hs];try grind
theorem KC (L:List Sx.Obj) (n:Int) (k:Key) (m:bk) (hL:aw L) (hs:az m.data):ak Tryz.prog 102 [.lp 0 0] [.ro (.blk m6 (gp (.ci .i64 4) m n (.ci .i64 3) k)),.store tS eS L] (kO (aH L n ((kk 3 k)) ((mm 4 m)))) (fun _ _=>False):=
 aN (inl:=(fun f=>f==131||f==142||f==152||f==146||f==202||f==185||f==227||f==177||f==148||f==174||f==173||f==132||f==144||f==184||f==188||f==163)) (ann:=aV) (ae cg ay) (aF Rr aB) (dB bB) (K4 L n k m hL hs) (by kernel_rfl)
theorem Il (L:List Sx.Obj) (n:Int) (k:Key) (m:bk) (hL:aw L) (hs:az m.data) (hk:aW (kk 3 k)=true):
 true=true/\true=true/\true=true/\true=true/\true=true/\((!decide (m.k2.kind=1))=true->(bk.mk 240 eB void void void,L)=aH L n (kk 3 k) (mm 5 m))/\((!decide (m.k2.kind=1))=
  false->true=true/\((!(decide (0<=m.k2.value)&&decide (m.k2.value<=7)))=true->(bk.mk 2 eB void void void,L)=aH L n (kk 3 k) (mm 5 m))/\((!(decide (0<=m.k2.value)&&decide
  (m.k2.value<=7)))=false->u4 (kk 3 k) m.k2.value/\true=true/\true=true/\true=true/\(bk.mk 0 eB (nN (kk 3 k) m.k2.value) void void,L)=aH L n (kk 3 k) (mm 5 m))):=by
 have hX:aH L n (kk 3 k) (mm 5 m)=if m.k2.kind=1 then(if 0<=m.k2.value/\m.k2.value<=7 then(fx (nN (kk 3 k) m.k2.value),L)else(fl 2,L))else(fl 240,L):=by
  by_cases h1:m.k2.kind=1
  ·by_cases h2:0<=m.k2.value/\m.k2.value<=7
   ·simp+decide [aH,dn,dE,dt,ej,iz,gV,ib,fX,dG,cT,fx,fR,fl,gU,c8,void,ee,eB,bf,eY,eN,eX,kk,mm,h1,h2]
   ·simp+decide [aH,dn,dE,dt,ej,iz,gV,ib,fX,dG,cT,fx,fR,fl,gU,c8,void,ee,eB,bf,eY,eN,eX,kk,mm,h1,h2]
  ·simp+decide [aH,dn,dE,dt,ej,iz,gV,ib,fX,dG,cT,fx,fR,fl,gU,c8,void,ee,eB,bf,eY,eN,eX,kk,mm,h1]
 rw[hX];refine⟨rfl,rfl,rfl,rfl,rfl,fun h=>?_,fun h=>⟨rfl,fun h'=>?_,fun h'=>⟨⟨hk,?_⟩,rfl,rfl,rfl,?_⟩⟩⟩
 ·have h:¬m.k2.kind=1:=by simpa using h
  rw[VQ h];rfl
 ·have h:m.k2.kind=1:=by simpa using h
  have h':¬(0<=m.k2.value/\m.k2.value<=7):=fun hh=>by simp[hh.1,hh.2]at h'
  rw[VR h,VQ h'];rfl
 ·simpa using h'
 ·have h:m.k2.kind=1:=by simpa using h
  have h':0<=m.k2.value/\m.k2.value<=7:=by simpa using h'
  rw[VR h,VR h'];rfl
theorem Kl (L:List Sx.Obj) (n:Int) (k:Key) (m:bk) (hL:aw L) (hs:az m.data) (hk:aW (kk 3 k)=true):ak Tryz.prog 102 [.lp 0 0] [.ro (.blk m6 (gp (.ci .i64 5) m n (.ci .i64 3) k)),.store tS eS L] (kO (aH L n ((kk 3 k)) ((mm 5 m)))) (fun _ _=>False):=
 aN (inl:=(fun f=>f==131||f==142||f==152||f==146||f==202||f==185||f==227||f==177||f==148||f==174||f==173||f==132||f==144||f==184||f==188||f==156)) (ann:=aV) (ae BZ (ae cg ay)) aB (dB bB) (Il L n k m hL hs hk) (by kernel_rfl)
theorem K9 (L:List Sx.Obj) (n:Int) (k:Key) (m:bk) (hL:aw L) (hs:az m.data):
 true=true/\true=true/\true=true/\true=true/\aw L/\true=true/\true=true/\true=true/\((!decide (du L (kk 4 k) 1=0))=true->(bk.mk (du L (kk 4 k) 1) eB void void
  void,fC L (kk 4 k) 1)=aH L n (kk 4 k) (mm 1 m))/\((!decide (du L (kk 4 k) 1=0))=false->(bk.mk 0 eB (er L (kk 4 k) 1) void void,fC L (kk 4 k) 1)=aH L n (kk 4 k) (mm 1
  m)):=by
 simp+decide [aH,dn,dE,dt,ej,iz,gV,ib,fX,dG,cT,fx,fR,fl,gU,c8,void,ee,eB,bf,eY,eN,eX,kk,mm,hL,hs];try grind
theorem JE (L:List Sx.Obj) (n:Int) (k:Key) (m:bk) (hL:aw L) (hs:az m.data):ak Tryz.prog 102 [.lp 0 0] [.ro (.blk m6 (gp (.ci .i64 1) m n (.ci .i64 4) k)),.store tS eS L] (kO (aH L n ((kk 4 k)) ((mm 1 m)))) (fun _ _=>False):=
 aN (inl:=(fun f=>f==131||f==142||f==152||f==146||f==202||f==185||f==227||f==177||f==148||f==174||f==173||f==132||f==144||f==184||f==188||f==210)) (ann:=aV) (ae cg ay) (aF AF aB) (dB bB) (K9 L n k m hL hs) (by kernel_rfl)
theorem IL (L:List Sx.Obj) (n:Int) (k:Key) (m:bk) (hL:aw L) (hs:az m.data):
 true=true/\true=true/\true=true/\true=true/\aw L/\true=true/\true=true/\true=true/\((!decide (du L (kk 4 k) 2=0))=true->(bk.mk (du L (kk 4 k) 2) eB void void
  void,fC L (kk 4 k) 2)=aH L n (kk 4 k) (mm 2 m))/\((!decide (du L (kk 4 k) 2=0))=false->(bk.mk 0 eB (er L (kk 4 k) 2) void void,fC L (kk 4 k) 2)=aH L n (kk 4 k) (mm 2
  m)):=by
 simp+decide [aH,dn,dE,dt,ej,iz,gV,ib,fX,dG,cT,fx,fR,fl,gU,c8,void,ee,eB,bf,eY,eN,eX,kk,mm,hL,hs];try grind
theorem Lp (L:List Sx.Obj) (n:Int) (k:Key) (m:bk) (hL:aw L) (hs:az m.data):ak Tryz.prog 102 [.lp 0 0] [.ro (.blk m6 (gp (.ci .i64 2) m n (.ci .i64 4) k)),.store tS eS L] (kO (aH L n ((kk 4 k)) ((mm 2 m)))) (fun _ _=>False):=
 aN (inl:=(fun f=>f==131||f==142||f==152||f==146||f==202||f==185||f==227||f==177||f==148||f==174||f==173||f==132||f==144||f==184||f==188||f==210)) (ann:=aV) (ae cg ay) (aF AF aB) (dB bB) (IL L n k m hL hs) (by kernel_rfl)
theorem HO (L:List Sx.Obj) (n:Int) (k:Key) (m:bk) (hL:aw L) (hs:az m.data):
 true=true/\true=true/\true=true/\true=true/\aw L/\true=true/\true=true/\((!decide (dI L (kk 4 k) m.k0=0))=true->(bk.mk (dI L (kk 4 k) m.k0) eB void void void,iX
  L (kk 4 k) m.k0)=aH L n (kk 4 k) (mm 3 m))/\((!decide (dI L (kk 4 k) m.k0=0))=false->(bk.mk 0 eB void void void,iX L (kk 4 k) m.k0)=aH L n (kk 4 k) (mm 3 m)):=by
 simp+decide [aH,dn,dE,dt,ej,iz,gV,ib,fX,dG,cT,fx,fR,fl,gU,c8,void,ee,eB,bf,eY,eN,eX,kk,mm,hL,hs];try grind
theorem Km (L:List Sx.Obj) (n:Int) (k:Key) (m:bk) (hL:aw L) (hs:az m.data):ak Tryz.prog 102 [.lp 0 0] [.ro (.blk m6 (gp (.ci .i64 3) m n (.ci .i64 4) k)),.store tS eS L] (kO (aH L n ((kk 4 k)) ((mm 3 m)))) (fun _ _=>False):=
 aN (inl:=(fun f=>f==131||f==142||f==152||f==146||f==202||f==185||f==227||f==177||f==148||f==174||f==173||f==132||f==144||f==184||f==188||f==166)) (ann:=aV) (ae cg ay) (aF NR aB) (dB bB) (HO L n k m hL hs) (by kernel_rfl)
theorem KO (L:List Sx.Obj) (n:Int) (k:Key) (m:bk) (hL:aw L) (hs:az m.data):
 true=true/\true=true/\true=true/\true=true/\true=true/\true=true/\((!decide (m.k2.kind=1))=true->(bk.mk 240 eB void void void,L)=aH L n (kk 4 k) (mm 4 m))/\((!decide
  (m.k2.kind=1))=false->((decide (m.k2.value<0)||decide (2147483647<m.k2.value))=true->true=true/\aw L/\true=true/\true=true/\true=true/\((!decide (bY L (kk 4 k) (-1)=
  0))=true->(bk.mk (bY L (kk 4 k) (-1)) eB void void void,bn L (kk 4 k) (-1))=aH L n (kk 4 k) (mm 4 m))/\((!decide (bY L (kk 4 k) (-1)=0))=false->(bk.mk 0 eB (b8 L (kk 4 k)
  (-1)) void void,bn L (kk 4 k) (-1))=aH L n (kk 4 k) (mm 4 m)))/\((decide (m.k2.value<0)||decide (2147483647<m.k2.value))=false->true=true/\aw L/\true=true/\true=true/\
  true=true/\((!decide (bY L (kk 4 k) m.k2.value=0))=true->(bk.mk (bY L (kk 4 k) m.k2.value) eB void void void,bn L (kk 4 k) m.k2.value)=aH L n (kk 4 k) (mm 4 m))/\((!decide
  (bY L (kk 4 k) m.k2.value=0))=false->(bk.mk 0 eB (b8 L (kk 4 k) m.k2.value) void void,bn L (kk 4 k) m.k2.value)=aH L n (kk 4 k) (mm 4 m)))):=by
 simp+decide [aH,dn,dE,dt,ej,iz,gV,ib,fX,dG,cT,fx,fR,fl,gU,c8,void,ee,eB,bf,eY,eN,eX,kk,mm,hL,hs];try grind
theorem GX (L:List Sx.Obj) (n:Int) (k:Key) (m:bk) (hL:aw L) (hs:az m.data):ak Tryz.prog 102 [.lp 0 0] [.ro (.blk m6 (gp (.ci .i64 4) m n (.ci .i64 4) k)),.store tS eS L] (kO (aH L n ((kk 4 k)) ((mm 4 m)))) (fun _ _=>False):=
 aN (inl:=(fun f=>f==131||f==142||f==152||f==146||f==202||f==185||f==227||f==177||f==148||f==174||f==173||f==132||f==144||f==184||f==188||f==168)) (ann:=aV) (ae cg ay) (aF FV aB) (dB bB) (KO L n k m hL hs) (by kernel_rfl)
theorem Hx (L:List Sx.Obj) (n:Int) (k:Key) (m:bk) (hL:aw L) (hs:az m.data):
 true=true/\true=true/\true=true/\true=true/\((!decide (bc L (kk 4 k)=0))=true->(bk.mk (bc L (kk 4 k)) eB void void void,L)=aH L n (kk 4 k) (mm 5 m))/\((!decide (bc
  L (kk 4 k)=0))=false->true=true/\(lL L (kk 4 k) m.k0=true->true=true/\true=true/\(bk.mk 0 eB void void (Key.mk 1 void.oid void.count void.call void.rights 1),L)=aH L n (kk 4
  k) (mm 5 m))/\(lL L (kk 4 k) m.k0=false->true=true/\true=true/\(bk.mk 0 eB void void (Key.mk 1 void.oid void.count void.call void.rights 0),L)=aH L n (kk 4 k) (mm 5 m))):=by
 simp+decide [aH,dn,dE,dt,ej,iz,gV,ib,fX,dG,cT,fx,fR,fl,gU,c8,void,ee,eB,bf,eY,eN,eX,kk,mm,hL,hs];try grind
theorem Jr (L:List Sx.Obj) (n:Int) (k:Key) (m:bk) (hL:aw L) (hs:az m.data):ak Tryz.prog 102 [.lp 0 0] [.ro (.blk m6 (gp (.ci .i64 5) m n (.ci .i64 4) k)),.store tS eS L] (kO (aH L n ((kk 4 k)) ((mm 5 m)))) (fun _ _=>False):=
 aN (inl:=(fun f=>f==131||f==142||f==152||f==146||f==202||f==185||f==227||f==177||f==148||f==174||f==173||f==132||f==144||f==184||f==188||f==170)) (ann:=aV) (ae Ks (ae cg ay)) aB (dB bB) (Hx L n k m hL hs) (by kernel_rfl)
theorem HN (L:List Sx.Obj) (n:Int) (k:Key) (m:bk) (hL:aw L) (hs:az m.data):
 true=true/\true=true/\true=true/\true=true/\aw L/\true=true/\((!decide (bc L (kk 4 k)=0))=true->(bk.mk (bc L (kk 4 k)) eB void void void,jW L (kk 4 k))=aH L n
  (kk 4 k) (mm 6 m))/\((!decide (bc L (kk 4 k)=0))=false->true=true/\true=true/\(bk.mk 0 eB void void (Key.mk 1 void.oid void.count void.call void.rights (iF L (kk 4 k))),jW L
  (kk 4 k))=aH L n (kk 4 k) (mm 6 m)):=by
 simp+decide [aH,dn,dE,dt,ej,iz,gV,ib,fX,dG,cT,fx,fR,fl,gU,c8,void,ee,eB,bf,eY,eN,eX,kk,mm,hL,hs];try grind
theorem Js (L:List Sx.Obj) (n:Int) (k:Key) (m:bk) (hL:aw L) (hs:az m.data):ak Tryz.prog 102 [.lp 0 0] [.ro (.blk m6 (gp (.ci .i64 6) m n (.ci .i64 4) k)),.store tS eS L] (kO (aH L n ((kk 4 k)) ((mm 6 m)))) (fun _ _=>False):=
 aN (inl:=(fun f=>f==131||f==142||f==152||f==146||f==202||f==185||f==227||f==177||f==148||f==174||f==173||f==132||f==144||f==184||f==188||f==171)) (ann:=aV) (ae cg ay) (aF Ha aB) (dB bB) (HN L n k m hL hs) (by kernel_rfl)
theorem Kq (L:List Sx.Obj) (n:Int) (k:Key) (m:bk) (hL:aw L) (hs:az m.data):
 true=true/\true=true/\true=true/\true=true/\true=true/\true=true/\true=true/\true=true/\((!decide (m.k2.kind=1))=true->(bk.mk 240 eB void void void,L)=aH L n (kk 5
  k) (mm 1 m))/\((!decide (m.k2.kind=1))=false->((decide (m.k2.value<0)||decide (2147483647<m.k2.value))=true->true=true/\(bk.mk 4 eB void void void,L)=aH L n (kk 5 k) (mm 1 m))
  /\((decide (m.k2.value<0)||decide (2147483647<m.k2.value))=false->true=true/\((!(decide (0<=m.k2.value)&&decide (m.k2.value<12)))=true->(bk.mk 4 eB void void void,L)=aH L n
  (kk 5 k) (mm 1 m))/\((!(decide (0<=m.k2.value)&&decide (m.k2.value<12)))=false->aP IntKind.i64 (m.k2.value+4)/\true=true/\true=true/\true=true/\((!decide (cH L (Key.mk 2
  k.oid k.count void.call void.rights void.value) (m.k2.value+4)=0))=true->(bk.mk (cH L (Key.mk 2 k.oid k.count void.call void.rights void.value) (m.k2.value+4)) eB void void void,L)=
  aH L n (kk 5 k) (mm 1 m))/\((!decide (cH L (Key.mk 2 k.oid k.count void.call void.rights void.value) (m.k2.value+4)=0))=false->(bk.mk 0 eB (aK L (Key.mk 2 k.oid k.count void.call
  void.rights void.value) (m.k2.value+4)) void void,L)=aH L n (kk 5 k) (mm 1 m))))):=by
 have hw:Key.mk 2 k.oid k.count void.call void.rights void.value=eX k:=rfl;have e2:∀c,bk.mk c eB void void void=fl c:=fun _=>rfl
 simp only[hw,e2];have hX:=EE (L:=L) (n:=n) (k:=k) (m:=m) (c:=1) (by omega)
 rw[hX];clear hX;by_cases h1:m.k2.kind=1
 case neg=>simp[h1,show dG 5 1=true by decide,hL,hs]
 have hf:¬(dG 5 1=true/\m.k2.kind≠1):=fun h=>h.2 h1
 rw[VQ hf];have hC:fX L (kk 5 k) (mm 1 m)=(if bf m<0\/11<bf m then 4 else cH L (eX k) (bf m+4),fx (aK L (eX k) (bf m+4)),L):=rfl
 rw[hC];clear hC;have e3:∀a,bk.mk 0 eB a void void=fx a:=fun _=>rfl
 simp only[e3];by_cases h2:0<=m.k2.value/\m.k2.value<=2147483647
 ·have hN:bf m=m.k2.value:=by unfold bf;rw[VR h2]
  have hr:aP .i64 (m.k2.value+4):=by simp only[aP,cj];omega
  rw[hN];by_cases h3:11<m.k2.value
  ·have h4:¬m.k2.value<12:=by omega
   simp[h1,h2,h3,h4,rJ,hr]<;>omega
  ·have h4:m.k2.value<12:=by omega
   have h5:¬(m.k2.value<0\/11<m.k2.value):=by omega
   simp[h1,h2,h4,h5,rJ,hr,hL];grind
 ·have hN:bf m= -1:=by unfold bf;rw[VQ h2]
  rw[hN];simp[h1,rJ]<;>omega
theorem Ib (L:List Sx.Obj) (n:Int) (k:Key) (m:bk) (hL:aw L) (hs:az m.data):ak Tryz.prog 102 [.lp 0 0] [.ro (.blk m6 (gp (.ci .i64 1) m n (.ci .i64 5) k)),.store tS eS L] (kO (aH L n ((kk 5 k)) ((mm 1 m)))) (fun _ _=>False):=
 aN (inl:=(fun f=>f==131||f==142||f==152||f==146||f==202||f==185||f==227||f==177||f==148||f==174||f==173||f==132||f==144||f==184||f==188||f==172)) (ann:=aV) (ae pZ (ae cg ay)) aB (dB bB) (Kq L n k m hL hs) (by kernel_rfl)
theorem Kp (L:List Sx.Obj) (n:Int) (k:Key) (m:bk) (hL:aw L) (hs:az m.data):
 true=true/\true=true/\true=true/\true=true/\true=true/\true=true/\true=true/\true=true/\((!decide (m.k2.kind=1))=true->(bk.mk 240 eB void void void,L)=aH L n (kk 5
  k) (mm 2 m))/\((!decide (m.k2.kind=1))=false->((decide (m.k2.value<0)||decide (2147483647<m.k2.value))=true->true=true/\(bk.mk 4 eB void void void,L)=aH L n (kk 5 k) (mm 2 m))
  /\((decide (m.k2.value<0)||decide (2147483647<m.k2.value))=false->true=true/\((!(decide (0<=m.k2.value)&&decide (m.k2.value<12)))=true->(bk.mk 4 eB void void void,L)=aH L n
  (kk 5 k) (mm 2 m))/\((!(decide (0<=m.k2.value)&&decide (m.k2.value<12)))=false->aP IntKind.i64 (m.k2.value+4)/\true=true/\aw L/\true=true/\true=true/\true=true/\((!decide
  (bE L (Key.mk 2 k.oid k.count void.call void.rights void.value) (m.k2.value+4) m.k0=0))=true->(bk.mk (bE L (Key.mk 2 k.oid k.count void.call void.rights void.value) (m.k2.value+4)
  m.k0) eB void void void,dN L (Key.mk 2 k.oid k.count void.call void.rights void.value) (m.k2.value+4) m.k0)=aH L n (kk 5 k) (mm 2 m))/\((!decide (bE L (Key.mk 2 k.oid k.count
  void.call void.rights void.value) (m.k2.value+4) m.k0=0))=false->(bk.mk 0 eB (eu L (Key.mk 2 k.oid k.count void.call void.rights void.value) (m.k2.value+4) m.k0) void void,dN L
  (Key.mk 2 k.oid k.count void.call void.rights void.value) (m.k2.value+4) m.k0)=aH L n (kk 5 k) (mm 2 m))))):=by
 have hw:Key.mk 2 k.oid k.count void.call void.rights void.value=eX k:=rfl;have e2:∀c,bk.mk c eB void void void=fl c:=fun _=>rfl
 simp only[hw,e2];have hX:=EE (L:=L) (n:=n) (k:=k) (m:=m) (c:=2) (by omega)
 rw[hX];clear hX;by_cases h1:m.k2.kind=1
 case neg=>simp[h1,show dG 5 2=true by decide,hL,hs]
 have hf:¬(dG 5 2=true/\m.k2.kind≠1):=fun h=>h.2 h1
 rw[VQ hf];have hC:fX L (kk 5 k) (mm 2 m)=(if bf m<0\/11<bf m then 4 else bE L (eX k) (bf m+4) m.k0,fx (eu L (eX k) (bf m+4) m.k0),if bf m<0\/11<bf m then L else dN L (eX k) (bf m+4) m.k0):=rfl
 rw[hC];clear hC;have e3:∀a,bk.mk 0 eB a void void=fx a:=fun _=>rfl
 simp only[e3];by_cases h2:0<=m.k2.value/\m.k2.value<=2147483647
 ·have hN:bf m=m.k2.value:=by unfold bf;rw[VR h2]
  have hr:aP .i64 (m.k2.value+4):=by simp only[aP,cj];omega
  rw[hN];by_cases h3:11<m.k2.value
  ·have h4:¬m.k2.value<12:=by omega
   simp[h1,h2,h3,h4,rJ,hr]<;>omega
  ·have h4:m.k2.value<12:=by omega
   have h5:¬(m.k2.value<0\/11<m.k2.value):=by omega
   simp[h1,h2,h4,h5,rJ,hr,hL];grind
 ·have hN:bf m= -1:=by unfold bf;rw[VQ h2]
  rw[hN];simp[h1,rJ]<;>omega
theorem Jq (L:List Sx.Obj) (n:Int) (k:Key) (m:bk) (hL:aw L) (hs:az m.data):ak Tryz.prog 102 [.lp 0 0] [.ro (.blk m6 (gp (.ci .i64 2) m n (.ci .i64 5) k)),.store tS eS L] (kO (aH L n ((kk 5 k)) ((mm 2 m)))) (fun _ _=>False):=
 aN (inl:=(fun f=>f==131||f==142||f==152||f==146||f==202||f==185||f==227||f==177||f==148||f==174||f==173||f==132||f==144||f==184||f==188||f==175)) (ann:=aV) (ae cg ay) (aF E3 aB) (dB bB) (Kp L n k m hL hs) (by kernel_rfl)
theorem Iv (L:List Sx.Obj) (n:Int) (k:Key) (m:bk) (hL:aw L) (hs:az m.data):
 true=true/\true=true/\true=true/\true=true/\true=true/\((!decide (m.k2.kind=1))=true->(bk.mk 240 eB void void void,L)=aH L n (kk 5 k) (mm 3 m))/\((!decide (m.k2.kind=1))=
  false->true=true/\true=true/\true=true/\(bk.mk 0 eB (Key.mk 6 k.oid k.count void.call void.rights m.k2.value) void void,L)=aH L n (kk 5 k) (mm 3 m)):=by
 simp+decide [aH,dn,dE,dt,ej,iz,gV,ib,fX,dG,cT,fx,fR,fl,gU,c8,void,ee,eB,bf,eY,eN,eX,kk,mm,hL,hs];try grind
theorem HA (L:List Sx.Obj) (n:Int) (k:Key) (m:bk) (hL:aw L) (hs:az m.data):ak Tryz.prog 102 [.lp 0 0] [.ro (.blk m6 (gp (.ci .i64 3) m n (.ci .i64 5) k)),.store tS eS L] (kO (aH L n ((kk 5 k)) ((mm 3 m)))) (fun _ _=>False):=
 aN (inl:=(fun f=>f==131||f==142||f==152||f==146||f==202||f==185||f==227||f==177||f==148||f==174||f==173||f==132||f==144||f==184||f==188||f==176)) (ann:=aV) (ae cg ay) aB (dB bB) (Iv L n k m hL hs) (by kernel_rfl)
theorem Jl (L:List Sx.Obj) (n:Int) (k:Key) (m:bk) (hL:aw L) (hs:az m.data):
 true=true/\true=true/\true=true/\((!de L k.oid)=true->true=true/\true=true/\(bk.mk 0 eB void void (Key.mk 1 void.oid void.count void.call void.rights (-1)),L)=aH L n (kk 5
  k) (mm 4 m))/\((!de L k.oid)=false->true=true/\true=true/\(bk.mk 0 eB void void (Key.mk 1 void.oid void.count void.call void.rights (gz L k.oid)),L)=aH L n (kk 5 k) (mm 4 m)):=by
 simp+decide [aH,dn,dE,dt,ej,iz,gV,ib,fX,dG,cT,fx,fR,fl,gU,c8,void,ee,eB,bf,eY,eN,eX,kk,mm,hL,hs];unfold gz bW;grind
theorem H7 (L:List Sx.Obj) (n:Int) (k:Key) (m:bk) (hL:aw L) (hs:az m.data):ak Tryz.prog 102 [.lp 0 0] [.ro (.blk m6 (gp (.ci .i64 4) m n (.ci .i64 5) k)),.store tS eS L] (kO (aH L n ((kk 5 k)) ((mm 4 m)))) (fun _ _=>False):=
 aN (inl:=(fun f=>f==131||f==142||f==152||f==146||f==202||f==185||f==227||f==177||f==148||f==174||f==173||f==132||f==144||f==184||f==188||f==178)) (ann:=aV) (ae pR (ae cg ay)) aB (dB bB) (Jl L n k m hL hs) (by kernel_rfl)
theorem J1 (L:List Sx.Obj) (n:Int) (k:Key) (m:bk) (hL:aw L) (hs:az m.data):
 true=true/\true=true/\true=true/\true=true/\true=true/\true=true/\((!decide (m.k2.kind=1))=true->(bk.mk 240 eB void void void,L)=aH L n (kk 5 k) (mm 5 m))/\((!decide
  (m.k2.kind=1))=false->((decide (m.k2.value<0)||decide (2147483647<m.k2.value))=true->true=true/\aw L/\true=true/\true=true/\((!decide (ey L k.oid (-1)=0))=true->
  (bk.mk (ey L k.oid (-1)) eB void void void,ie L k.oid (-1))=aH L n (kk 5 k) (mm 5 m))/\((!decide (ey L k.oid (-1)=0))=false->(bk.mk 0 eB void void void,ie L k.oid (-1))=
  aH L n (kk 5 k) (mm 5 m)))/\((decide (m.k2.value<0)||decide (2147483647<m.k2.value))=false->true=true/\aw L/\true=true/\true=true/\((!decide (ey L k.oid m.k2.value=0))=
  true->(bk.mk (ey L k.oid m.k2.value) eB void void void,ie L k.oid m.k2.value)=aH L n (kk 5 k) (mm 5 m))/\((!decide (ey L k.oid m.k2.value=0))=false->(bk.mk 0 eB void void void,
  ie L k.oid m.k2.value)=aH L n (kk 5 k) (mm 5 m)))):=by
 simp+decide [aH,dn,dE,dt,ej,iz,gV,ib,fX,dG,cT,fx,fR,fl,gU,c8,void,ee,eB,bf,eY,eN,eX,kk,mm,hL,hs];try grind
theorem HP (L:List Sx.Obj) (n:Int) (k:Key) (m:bk) (hL:aw L) (hs:az m.data):ak Tryz.prog 102 [.lp 0 0] [.ro (.blk m6 (gp (.ci .i64 5) m n (.ci .i64 5) k)),.store tS eS L] (kO (aH L n ((kk 5 k)) ((mm 5 m)))) (fun _ _=>False):=
 aN (inl:=(fun f=>f==131||f==142||f==152||f==146||f==202||f==185||f==227||f==177||f==148||f==174||f==173||f==132||f==144||f==184||f==188||f==179)) (ann:=aV) (ae cg ay) (aF G2 aB) (dB bB) (J1 L n k m hL hs) (by kernel_rfl)
theorem It (L:List Sx.Obj) (n:Int) (k:Key) (m:bk) (hL:aw L) (hs:az m.data):
 true=true/\true=true/\true=true/\true=true/\true=true/\true=true/\((!decide (m.k2.kind=1))=true->(bk.mk 240 eB void void void,L)=aH L n (kk 5 k) (mm 6 m))/\((!decide
  (m.k2.kind=1))=false->true=true/\true=true/\((!decide (cB L (aK L (Key.mk 2 k.oid k.count void.call void.rights void.value) 0) m.k2.value 32=0))=true->(bk.mk (cB L (aK L
  (Key.mk 2 k.oid k.count void.call void.rights void.value) 0) m.k2.value 32) eB void void void,L)=aH L n (kk 5 k) (mm 6 m))/\((!decide (cB L (aK L (Key.mk 2 k.oid k.count void.call
  void.rights void.value) 0) m.k2.value 32=0))=false->((!decide (cq L (aK L (Key.mk 2 k.oid k.count void.call void.rights void.value) 0) m.k2.value 32 false=0))=true->aP IntKind.i64
  (1000+cq L (aK L (Key.mk 2 k.oid k.count void.call void.rights void.value) 0) m.k2.value 32 false)/\(bk.mk (1000+cq L (aK L (Key.mk 2 k.oid k.count void.call void.rights void.value)
  0) m.k2.value 32 false) eB void void void,L)=aH L n (kk 5 k) (mm 6 m))/\((!decide (cq L (aK L (Key.mk 2 k.oid k.count void.call void.rights void.value) 0) m.k2.value 32 false=0))=false
  ->true=true/\true=true/\true=true/\(bk.mk 0 (mH L (aK L (Key.mk 2 k.oid k.count void.call void.rights void.value) 0) m.k2.value 32) void void void,L)=aH L n (kk 5 k) (mm 6 m)))):=by
 have hw:Key.mk 2 k.oid k.count void.call void.rights void.value=eX k:=rfl;have e2:∀c,bk.mk c eB void void void=fl c:=fun _=>rfl
 simp only[hw,e2];have hX:=EE (L:=L) (n:=n) (k:=k) (m:=m) (c:=6) (by omega)
 rw[hX];clear hX;by_cases h1:m.k2.kind=1
 case neg=>simp[h1,show dG 5 6=true by decide,hL,hs]
 have hf:¬(dG 5 6=true/\m.k2.kind≠1):=fun h=>h.2 h1
 rw[VQ hf];have hC:fX L (kk 5 k) (mm 6 m)=(if cB L (eN L k) m.k2.value 32=0 then(if cq L (eN L k) m.k2.value 32 false=0 then 0 else 1000+cq L (eN L k) m.k2.value 32 false)else cB L (eN L k) m.k2.value 32,gU (mH L (eN L k) m.k2.value 32),L):=rfl
 rw[hC];clear hC;have e3:∀s,bk.mk 0 s void void void=gU s:=fun _=>rfl
 have e4:fl 0=ee:=rfl;have hi:=Pd (L:=L) (k:=aK L (eX k) 0) (a:=m.k2.value) (n:=32) (w:=false);have hr:aP .i64 (1000+cq L (aK L (eX k) 0) m.k2.value (32) false):=by simp only[aP,cj];omega
 simp only[e3,eN];simp[h1,hr,rJ,hL,hs];grind
theorem IP (L:List Sx.Obj) (n:Int) (k:Key) (m:bk) (hL:aw L) (hs:az m.data):ak Tryz.prog 102 [.lp 0 0] [.ro (.blk m6 (gp (.ci .i64 6) m n (.ci .i64 5) k)),.store tS eS L] (kO (aH L n ((kk 5 k)) ((mm 6 m)))) (fun _ _=>False):=
 aN (inl:=(fun f=>f==131||f==142||f==152||f==146||f==202||f==185||f==227||f==177||f==148||f==174||f==173||f==132||f==144||f==184||f==188||f==180)) (ann:=aV) (ae pZ (ae Tt (ae cg ay))) aB (dB bB) (It L n k m hL hs) (by kernel_rfl)
theorem JH (L:List Sx.Obj) (n:Int) (k:Key) (m:bk) (hL:aw L) (hs:az m.data):
 true=true/\true=true/\true=true/\true=true/\true=true/\true=true/\((!decide (m.k2.kind=1))=true->(bk.mk 240 eB void void void,L)=aH L n (kk 5 k) (mm 7 m))/\((!decide
  (m.k2.kind=1))=false->true=true/\az m.data/\(aw L/\az m.data)/\true=true/\true=true/\((!decide (cB L (aK L (Key.mk 2 k.oid k.count void.call void.rights void.value)
  0) m.k2.value (cC m.data)=0))=true->(bk.mk (cB L (aK L (Key.mk 2 k.oid k.count void.call void.rights void.value) 0) m.k2.value (cC m.data)) eB void void void,np L (aK L (Key.mk 2
  k.oid k.count void.call void.rights void.value) 0) m.k2.value m.data)=aH L n (kk 5 k) (mm 7 m))/\((!decide (cB L (aK L (Key.mk 2 k.oid k.count void.call void.rights void.value) 0)
  m.k2.value (cC m.data)=0))=false->((!decide (cq L (aK L (Key.mk 2 k.oid k.count void.call void.rights void.value) 0) m.k2.value (cC m.data) true=0))=true->aP IntKind.i64 (1000+
  cq L (aK L (Key.mk 2 k.oid k.count void.call void.rights void.value) 0) m.k2.value (cC m.data) true)/\(bk.mk (1000+cq L (aK L (Key.mk 2 k.oid k.count void.call void.rights void.value)
  0) m.k2.value (cC m.data) true) eB void void void,np L (aK L (Key.mk 2 k.oid k.count void.call void.rights void.value) 0) m.k2.value m.data)=aH L n (kk 5 k) (mm 7 m))/\((!decide (cq L
  (aK L (Key.mk 2 k.oid k.count void.call void.rights void.value) 0) m.k2.value (cC m.data) true=0))=false->true=true/\true=true/\(bk.mk 0 eB void void void,np L (aK L (Key.mk 2
  k.oid k.count void.call void.rights void.value) 0) m.k2.value m.data)=aH L n (kk 5 k) (mm 7 m)))):=by
 have hw:Key.mk 2 k.oid k.count void.call void.rights void.value=eX k:=rfl;have e2:∀c,bk.mk c eB void void void=fl c:=fun _=>rfl
 simp only[hw,e2];have hX:=EE (L:=L) (n:=n) (k:=k) (m:=m) (c:=7) (by omega)
 rw[hX];clear hX;by_cases h1:m.k2.kind=1
 case neg=>simp[h1,show dG 5 7=true by decide,hL,hs]
 have hf:¬(dG 5 7=true/\m.k2.kind≠1):=fun h=>h.2 h1
 rw[VQ hf];have hC:fX L (kk 5 k) (mm 7 m)=(if cB L (eN L k) m.k2.value (cC m.data)=0 then(if cq L (eN L k) m.k2.value (cC m.data) true=0 then 0 else 1000+cq L (eN L k) m.k2.value (cC m.data) true)else cB L (eN L k) m.k2.value (cC m.data),ee,np L (eN L k) m.k2.value m.data):=rfl
 rw[hC];clear hC;have e3:∀s,bk.mk 0 s void void void=gU s:=fun _=>rfl
 have e4:fl 0=ee:=rfl;have hi:=Pd (L:=L) (k:=aK L (eX k) 0) (a:=m.k2.value) (n:=cC m.data) (w:=true);have hr:aP .i64 (1000+cq L (aK L (eX k) 0) m.k2.value (cC m.data) true):=by simp only[aP,cj];omega
 simp only[e3,eN];simp[h1,hr,rJ,hL,hs];grind
theorem IE (L:List Sx.Obj) (n:Int) (k:Key) (m:bk) (hL:aw L) (hs:az m.data):ak Tryz.prog 102 [.lp 0 0] [.ro (.blk m6 (gp (.ci .i64 7) m n (.ci .i64 5) k)),.store tS eS L] (kO (aH L n ((kk 5 k)) ((mm 7 m)))) (fun _ _=>False):=
 aN (inl:=(fun f=>f==131||f==142||f==152||f==146||f==202||f==185||f==227||f==177||f==148||f==174||f==173||f==132||f==144||f==184||f==188||f==181)) (ann:=aV) (ae pZ (ae cg ay)) (aF Qn aB) (dB bB) (JH L n k m hL hs) (by kernel_rfl)
theorem Ll (L:List Sx.Obj) (n:Int) (k:Key) (m:bk) (hL:aw L) (hs:az m.data):
 true=true/\true=true/\true=true/\true=true/\true=true/\(bk.mk 0 eB void void (Key.mk 1 void.oid void.count void.call void.rights m.k0.kind),L)=aH L n (kk 8 k) (mm 1 m):=by
 simp+decide [aH,dn,dE,dt,ej,iz,gV,ib,fX,dG,cT,fx,fR,fl,gU,c8,void,ee,eB,bf,eY,eN,eX,kk,mm,hL,hs];try grind
theorem HE (L:List Sx.Obj) (n:Int) (k:Key) (m:bk) (hL:aw L) (hs:az m.data):ak Tryz.prog 102 [.lp 0 0] [.ro (.blk m6 (gp (.ci .i64 1) m n (.ci .i64 8) k)),.store tS eS L] (kO (aH L n ((kk 8 k)) ((mm 1 m)))) (fun _ _=>False):=
 aN (inl:=(fun f=>f==131||f==142||f==152||f==146||f==202||f==185||f==227||f==177||f==148||f==174||f==173||f==132||f==144||f==184||f==188||f==182)) (ann:=aV) (ae cg ay) aB (dB bB) (Ll L n k m hL hs) (by kernel_rfl)
theorem Hb (L:List Sx.Obj) (n:Int) (k:Key) (m:bk) (hL:aw L) (hs:az m.data):
 true=true/\true=true/\true=true/\true=true/\(nF m.k0 m.k1=true->true=true/\true=true/\(bk.mk 0 eB void void (Key.mk 1 void.oid void.count void.call void.rights 1),L)=aH
  L n (kk 8 k) (mm 2 m))/\(nF m.k0 m.k1=false->true=true/\true=true/\(bk.mk 0 eB void void (Key.mk 1 void.oid void.count void.call void.rights 0),L)=aH L n (kk 8 k) (mm 2 m)):=by
 simp+decide [aH,dn,dE,dt,ej,iz,gV,ib,fX,dG,cT,fx,fR,fl,gU,c8,void,ee,eB,bf,eY,eN,eX,kk,mm,hL,hs];try grind
theorem I2 (L:List Sx.Obj) (n:Int) (k:Key) (m:bk) (hL:aw L) (hs:az m.data):ak Tryz.prog 102 [.lp 0 0] [.ro (.blk m6 (gp (.ci .i64 2) m n (.ci .i64 8) k)),.store tS eS L] (kO (aH L n ((kk 8 k)) ((mm 2 m)))) (fun _ _=>False):=
 aN (inl:=(fun f=>f==131||f==142||f==152||f==146||f==202||f==185||f==227||f==177||f==148||f==174||f==173||f==132||f==144||f==184||f==188||f==183)) (ann:=aV) (ae MJ (ae cg ay)) aB (dB bB) (Hb L n k m hL hs) (by kernel_rfl)
theorem HH (L:List Sx.Obj) (n:Int) (k:Key) (m:bk) (hL:aw L) (hs:az m.data):
 true=true/\true=true/\true=true/\true=true/\true=true/\(bk.mk 0 eB void void (Key.mk 1 void.oid void.count void.call void.rights m.k0.rights),L)=aH L n (kk 8 k) (mm 3 m):=by
 simp+decide [aH,dn,dE,dt,ej,iz,gV,ib,fX,dG,cT,fx,fR,fl,gU,c8,void,ee,eB,bf,eY,eN,eX,kk,mm,hL,hs];try grind
theorem JN (L:List Sx.Obj) (n:Int) (k:Key) (m:bk) (hL:aw L) (hs:az m.data):ak Tryz.prog 102 [.lp 0 0] [.ro (.blk m6 (gp (.ci .i64 3) m n (.ci .i64 8) k)),.store tS eS L] (kO (aH L n ((kk 8 k)) ((mm 3 m)))) (fun _ _=>False):=
 aN (inl:=(fun f=>f==131||f==142||f==152||f==146||f==202||f==185||f==227||f==177||f==148||f==174||f==173||f==132||f==144||f==184||f==188||f==187)) (ann:=aV) (ae cg ay) aB (dB bB) (HH L n k m hL hs) (by kernel_rfl)
theorem Ld (L:List Sx.Obj) (n:Int) (k:Key) (m:bk) (hL:aw L) (hs:az m.data):
 true=true/\true=true/\true=true/\true=true/\true=true/\(bk.mk 0 eB void void (Key.mk 1 void.oid void.count void.call void.rights n),L)=aH L n (kk 9 k) (mm 1 m):=by
 simp+decide [aH,dn,dE,dt,ej,iz,gV,ib,fX,dG,cT,fx,fR,fl,gU,c8,void,ee,eB,bf,eY,eN,eX,kk,mm,hL,hs];try grind
theorem G8 (L:List Sx.Obj) (n:Int) (k:Key) (m:bk) (hL:aw L) (hs:az m.data):ak Tryz.prog 102 [.lp 0 0] [.ro (.blk m6 (gp (.ci .i64 1) m n (.ci .i64 9) k)),.store tS eS L] (kO (aH L n ((kk 9 k)) ((mm 1 m)))) (fun _ _=>False):=
 aN (inl:=(fun f=>f==131||f==142||f==152||f==146||f==202||f==185||f==227||f==177||f==148||f==174||f==173||f==132||f==144||f==184||f==188||f==189)) (ann:=aV) (ae cg ay) aB (dB bB) (Ld L n k m hL hs) (by kernel_rfl)
theorem FU (L:List Sx.Obj) (n:Int) (k:Key) (m:bk) (hL:aw L) (hs:az m.data):
 true=true/\true=true/\true=true/\(bk.mk 0 eB void void void,L)=aH L n (kk 10 k) (mm 1 m):=by
 simp+decide [aH,dn,dE,dt,ej,iz,gV,ib,fX,dG,cT,fx,fR,fl,gU,c8,void,ee,eB,bf,eY,eN,eX,kk,mm,hL,hs];try grind
theorem F7 (L:List Sx.Obj) (n:Int) (k:Key) (m:bk) (hL:aw L) (hs:az m.data):ak Tryz.prog 102 [.lp 0 0] [.ro (.blk m6 (gp (.ci .i64 1) m n (.ci .i64 10) k)),.store tS eS L] (kO (aH L n ((kk 10 k)) ((mm 1 m)))) (fun _ _=>False):=
 aN (inl:=(fun f=>f==131||f==142||f==152||f==146||f==202||f==185||f==227||f==177||f==148||f==174||f==173||f==132||f==144||f==184||f==188||f==190)) (ann:=aV) (ae cg ay) aB (dB bB) (FU L n k m hL hs) (by kernel_rfl)
end Go.Proofs.YtlblcfaclmpekaaGreat
