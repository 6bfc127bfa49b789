import Derived.Test.YtghpaegglbbocaaGreatCtRa
import Derived.Test.YtghpaegglbbocaaGreatCtRo
import Derived.Test.YtghpaegglbbocaaGreatCV
set_option linter.unusedSimpArgs false
set_option linter.unusedVariables false
namespace Go.Proofs.YtghpaegglbbocaaGreat
open Go.Sx
set_option maxRecDepth 100000
theorem NK (L:List Sx.Obj) (n:Int) (k:Key) (m:bm) (hL:aq L) (hs:aw m.data):
 true=true/\true=true/\true=true/\true=true/\true=true/\(bm.mk 0 eB void void (Key.mk 1 void.oid void.count void.call void.rights k.value),L)=aM L n (kk 1 k) (mm 1 m):=by
 simp+decide [aM,dH,dM,dq,ee,dQ,dP,cY,cU,cD,cH,ec,e9,fx,fA,cI,void,dg,eB,aO,dD,eZ,ey,kk,mm,hL,hs];try grind
theorem NO (L:List Sx.Obj) (n:Int) (k:Key) (m:bm) (hL:aq L) (hs:aw m.data):ai Tryz.prog 24 [.lp 0 0] [.ro (.blk ny (gF (.ci .i64 1) m n (.ci .i64 1) k)),.store tS eS L] (kO (aM L n ((kk 1 k)) ((mm 1 m)))) (fun _ _=>False):=
 aW (inl:=(fun f=>f==37||f==58||f==68||f==62||f==141||f==102||f==172||f==93||f==64||f==90||f==89||f==38||f==60||f==101||f==105||f==59)) (ann:=aP) (ab cT ak) aC (dU bK) (NK L n k m hL hs) (by kernel_rfl)
theorem MS (L:List Sx.Obj) (n:Int) (k:Key) (m:bm) (hL:aq L) (hs:aw m.data):
 true=true/\true=true/\true=true/\true=true/\true=true/\true=true/\((!decide (m.k2.kind=1))=true->(bm.mk 240 eB void void void,L)=aM L n (kk 2 k) (mm 1 m))/\((!decide
  (m.k2.kind=1))=false->((decide (m.k2.value<0)||decide (2147483647<m.k2.value))=true->true=true/\true=true/\true=true/\((!decide (bJ L (kk 2 k) (-1)=0))=true->(bm.mk
  (bJ L (kk 2 k) (-1)) eB void void void,L)=aM L n (kk 2 k) (mm 1 m))/\((!decide (bJ L (kk 2 k) (-1)=0))=false->(bm.mk 0 eB (aF L (kk 2 k) (-1)) void void,L)=aM L n (kk 2
  k) (mm 1 m)))/\((decide (m.k2.value<0)||decide (2147483647<m.k2.value))=false->true=true/\true=true/\true=true/\((!decide (bJ L (kk 2 k) m.k2.value=0))=true->(bm.mk
  (bJ L (kk 2 k) m.k2.value) eB void void void,L)=aM L n (kk 2 k) (mm 1 m))/\((!decide (bJ L (kk 2 k) m.k2.value=0))=false->(bm.mk 0 eB (aF L (kk 2 k) m.k2.value) void void,L)
  =aM L n (kk 2 k) (mm 1 m)))):=by
 simp+decide [aM,dH,dM,dq,ee,dQ,dP,cY,cU,cD,cH,ec,e9,fx,fA,cI,void,dg,eB,aO,dD,eZ,ey,kk,mm,hL,hs];try grind
theorem MP (L:List Sx.Obj) (n:Int) (k:Key) (m:bm) (hL:aq L) (hs:aw m.data):ai Tryz.prog 24 [.lp 0 0] [.ro (.blk ny (gF (.ci .i64 1) m n (.ci .i64 2) k)),.store tS eS L] (kO (aM L n ((kk 2 k)) ((mm 1 m)))) (fun _ _=>False):=
 aW (inl:=(fun f=>f==37||f==58||f==68||f==62||f==141||f==102||f==172||f==93||f==64||f==90||f==89||f==38||f==60||f==101||f==105||f==61)) (ann:=aP) (ab qW (ab cT ak)) aC (dU bK) (MS L n k m hL hs) (by kernel_rfl)
theorem I6 (L:List Sx.Obj) (n:Int) (k:Key) (m:bm) (hL:aq L) (hs:aw m.data):
 true=true/\true=true/\true=true/\true=true/\true=true/\true=true/\((!decide (m.k2.kind=1))=true->(bm.mk 240 eB void void void,L)=aM L n (kk 2 k) (mm 2 m))/\((!decide
  (m.k2.kind=1))=false->((decide (m.k2.value<0)||decide (2147483647<m.k2.value))=true->true=true/\aq L/\true=true/\true=true/\true=true/\((!decide (bc L (kk 2 k) (-1)
  m.k0=0))=true->(bm.mk (bc L (kk 2 k) (-1) m.k0) eB void void void,b7 L (kk 2 k) (-1) m.k0)=aM L n (kk 2 k) (mm 2 m))/\((!decide (bc L (kk 2 k) (-1) m.k0=0))=false->
  (bm.mk 0 eB (cA L (kk 2 k) (-1) m.k0) void void,b7 L (kk 2 k) (-1) m.k0)=aM L n (kk 2 k) (mm 2 m)))/\((decide (m.k2.value<0)||decide (2147483647<m.k2.value))=false->true=
  true/\aq L/\true=true/\true=true/\true=true/\((!decide (bc L (kk 2 k) m.k2.value m.k0=0))=true->(bm.mk (bc L (kk 2 k) m.k2.value m.k0) eB void void void,b7 L (kk 2
  k) m.k2.value m.k0)=aM L n (kk 2 k) (mm 2 m))/\((!decide (bc L (kk 2 k) m.k2.value m.k0=0))=false->(bm.mk 0 eB (cA L (kk 2 k) m.k2.value m.k0) void void,b7 L (kk 2 k)
  m.k2.value m.k0)=aM L n (kk 2 k) (mm 2 m)))):=by
 simp+decide [aM,dH,dM,dq,ee,dQ,dP,cY,cU,cD,cH,ec,e9,fx,fA,cI,void,dg,eB,aO,dD,eZ,ey,kk,mm,hL,hs];try grind
theorem JQ (L:List Sx.Obj) (n:Int) (k:Key) (m:bm) (hL:aq L) (hs:aw m.data):ai Tryz.prog 24 [.lp 0 0] [.ro (.blk ny (gF (.ci .i64 2) m n (.ci .i64 2) k)),.store tS eS L] (kO (aM L n ((kk 2 k)) ((mm 2 m)))) (fun _ _=>False):=
 aW (inl:=(fun f=>f==37||f==58||f==68||f==62||f==141||f==102||f==172||f==93||f==64||f==90||f==89||f==38||f==60||f==101||f==105||f==65)) (ann:=aP) (ab cT ak) (aD Fe aC) (dU bK) (I6 L n k m hL hs) (by kernel_rfl)
theorem M5 (L:List Sx.Obj) (n:Int) (k:Key) (m:bm) (hL:aq L) (hs:aw m.data):
 true=true/\true=true/\true=true/\true=true/\aq L/\true=true/\true=true/\((!decide (ay L (kk 2 k) 2 true=0))=true->(bm.mk (ay L (kk 2 k) 2 true) eB void void void,
  eT L (kk 2 k))=aM L n (kk 2 k) (mm 3 m))/\((!decide (ay L (kk 2 k) 2 true=0))=false->(bm.mk 0 eB void void void,eT L (kk 2 k))=aM L n (kk 2 k) (mm 3 m)):=by
 simp+decide [aM,dH,dM,dq,ee,dQ,dP,cY,cU,cD,cH,ec,e9,fx,fA,cI,void,dg,eB,aO,dD,eZ,ey,kk,mm,hL,hs];try grind
theorem J2 (L:List Sx.Obj) (n:Int) (k:Key) (m:bm) (hL:aq L) (hs:aw m.data):ai Tryz.prog 24 [.lp 0 0] [.ro (.blk ny (gF (.ci .i64 3) m n (.ci .i64 2) k)),.store tS eS L] (kO (aM L n ((kk 2 k)) ((mm 3 m)))) (fun _ _=>False):=
 aW (inl:=(fun f=>f==37||f==58||f==68||f==62||f==141||f==102||f==172||f==93||f==64||f==90||f==89||f==38||f==60||f==101||f==105||f==67)) (ann:=aP) (ab cT ak) (aD Ry aC) (dU bK) (M5 L n k m hL hs) (by kernel_rfl)
theorem IH (L:List Sx.Obj) (n:Int) (k:Key) (m:bm) (hL:aq L) (hs:aw m.data):
 true=true/\true=true/\true=true/\true=true/\aq L/\true=true/\true=true/\((!decide (bG L (kk 2 k) m.k0=0))=true->(bm.mk (bG L (kk 2 k) m.k0) eB void void void,
  dZ L (kk 2 k) m.k0)=aM L n (kk 2 k) (mm 4 m))/\((!decide (bG L (kk 2 k) m.k0=0))=false->(bm.mk 0 eB void void void,dZ L (kk 2 k) m.k0)=aM L n (kk 2 k) (mm 4 m)):=by
 simp+decide [aM,dH,dM,dq,ee,dQ,dP,cY,cU,cD,cH,ec,e9,fx,fA,cI,void,dg,eB,aO,dD,eZ,ey,kk,mm,hL,hs];try grind
theorem MJ (L:List Sx.Obj) (n:Int) (k:Key) (m:bm) (hL:aq L) (hs:aw m.data):ai Tryz.prog 24 [.lp 0 0] [.ro (.blk ny (gF (.ci .i64 4) m n (.ci .i64 2) k)),.store tS eS L] (kO (aM L n ((kk 2 k)) ((mm 4 m)))) (fun _ _=>False):=
 aW (inl:=(fun f=>f==37||f==58||f==68||f==62||f==141||f==102||f==172||f==93||f==64||f==90||f==89||f==38||f==60||f==101||f==105||f==70)) (ann:=aP) (ab cT ak) (aD Qu aC) (dU bK) (IH L n k m hL hs) (by kernel_rfl)
theorem JP (L:List Sx.Obj) (n:Int) (k:Key) (m:bm) (hL:aq L) (hs:aw m.data) (hk:aT (kk 2 k)=true):
 true=true/\true=true/\true=true/\true=true/\true=true/\((!decide (m.k2.kind=1))=true->(bm.mk 240 eB void void void,L)=aM L n (kk 2 k) (mm 5 m))/\((!decide (m.k2.kind=1))=
  false->true=true/\((!(decide (0<=m.k2.value)&&decide (m.k2.value<=7)))=true->(bm.mk 2 eB void void void,L)=aM L n (kk 2 k) (mm 5 m))/\((!(decide (0<=m.k2.value)&&decide
  (m.k2.value<=7)))=false->gz (kk 2 k) m.k2.value/\true=true/\true=true/\true=true/\(bm.mk 0 eB (iB (kk 2 k) m.k2.value) void void,L)=aM L n (kk 2 k) (mm 5 m))):=by
 have hX:aM L n (kk 2 k) (mm 5 m)=if m.k2.kind=1 then(if 0<=m.k2.value/\m.k2.value<=7 then(ec (iB (kk 2 k) m.k2.value),L)else(fx 2,L))else(fx 240,L):=by
  by_cases h1:m.k2.kind=1
  ·by_cases h2:0<=m.k2.value/\m.k2.value<=7
   ·simp+decide [aM,dH,dM,dq,ee,dQ,dP,cY,cU,cD,cH,ec,e9,fx,fA,cI,void,dg,eB,aO,dD,eZ,ey,kk,mm,h1,h2]
   ·simp+decide [aM,dH,dM,dq,ee,dQ,dP,cY,cU,cD,cH,ec,e9,fx,fA,cI,void,dg,eB,aO,dD,eZ,ey,kk,mm,h1,h2]
  ·simp+decide [aM,dH,dM,dq,ee,dQ,dP,cY,cU,cD,cH,ec,e9,fx,fA,cI,void,dg,eB,aO,dD,eZ,ey,kk,mm,h1]
 rw[hX];refine⟨rfl,rfl,rfl,rfl,rfl,fun h=>?_,fun h=>⟨rfl,fun h'=>?_,fun h'=>⟨⟨hk,?_⟩,rfl,rfl,rfl,?_⟩⟩⟩
 ·have h:¬m.k2.kind=1:=by simpa using h
  rw[Yu h];rfl
 ·have h:m.k2.kind=1:=by simpa using h
  have h':¬(0<=m.k2.value/\m.k2.value<=7):=fun hh=>by simp[hh.1,hh.2]at h'
  rw[Yv h,Yu h'];rfl
 ·simpa using h'
 ·have h:m.k2.kind=1:=by simpa using h
  have h':0<=m.k2.value/\m.k2.value<=7:=by simpa using h'
  rw[Yv h,Yv h'];rfl
theorem Ko (L:List Sx.Obj) (n:Int) (k:Key) (m:bm) (hL:aq L) (hs:aw m.data) (hk:aT (kk 2 k)=true):ai Tryz.prog 24 [.lp 0 0] [.ro (.blk ny (gF (.ci .i64 5) m n (.ci .i64 2) k)),.store tS eS L] (kO (aM L n ((kk 2 k)) ((mm 5 m)))) (fun _ _=>False):=
 aW (inl:=(fun f=>f==37||f==58||f==68||f==62||f==141||f==102||f==172||f==93||f==64||f==90||f==89||f==38||f==60||f==101||f==105||f==72)) (ann:=aP) (ab CL (ab cT ak)) aC (dU bK) (JP L n k m hL hs hk) (by kernel_rfl)
theorem Ln (L:List Sx.Obj) (n:Int) (k:Key) (m:bm) (hL:aq L) (hs:aw m.data):
 true=true/\true=true/\true=true/\true=true/\((!decide (k.rights=0))=true->(bm.mk 191 eB void void void,L)=aM L n (kk 2 k) (mm 6 m))/\((!decide (k.rights=0))=false->true=
  true/\true=true/\true=true/\(bm.mk 0 eB (Key.mk 5 k.oid k.count void.call void.rights void.value) void void,L)=aM L n (kk 2 k) (mm 6 m)):=by
 simp+decide [aM,dH,dM,dq,ee,dQ,dP,cY,cU,cD,cH,ec,e9,fx,fA,cI,void,dg,eB,aO,dD,eZ,ey,kk,mm,hL,hs];try grind
theorem JG (L:List Sx.Obj) (n:Int) (k:Key) (m:bm) (hL:aq L) (hs:aw m.data):ai Tryz.prog 24 [.lp 0 0] [.ro (.blk ny (gF (.ci .i64 6) m n (.ci .i64 2) k)),.store tS eS L] (kO (aM L n ((kk 2 k)) ((mm 6 m)))) (fun _ _=>False):=
 aW (inl:=(fun f=>f==37||f==58||f==68||f==62||f==141||f==102||f==172||f==93||f==64||f==90||f==89||f==38||f==60||f==101||f==105||f==73)) (ann:=aP) (ab cT ak) aC (dU bK) (Ln L n k m hL hs) (by kernel_rfl)
theorem KZ (L:List Sx.Obj) (n:Int) (k:Key) (m:bm) (hL:aq L) (hs:aw m.data):
 true=true/\true=true/\true=true/\true=true/\true=true/\true=true/\((!decide (m.k2.kind=1))=true->(bm.mk 240 eB void void void,L)=aM L n (kk 3 k) (mm 1 m))/\((!decide
  (m.k2.kind=1))=false->((decide (m.k2.value<0)||decide (2147483647<m.k2.value))=true->true=true/\true=true/\true=true/\((!decide (b6 L (kk 3 k) (-1) (imax 0 (kL 32
  (Int.ofNat (64+Nat.succ 0))))=0))=true->(bm.mk (b6 L (kk 3 k) (-1) (imax 0 (kL 32 (Int.ofNat (64+Nat.succ 0))))) eB void void void,L)=aM L n (kk 3 k) (mm 1 m))/\((!decide
  (b6 L (kk 3 k) (-1) (imax 0 (kL 32 (Int.ofNat (64+Nat.succ 0))))=0))=false->(bm.mk 0 (dR L (kk 3 k) (-1) (imax 0 (kL 32 (Int.ofNat (64+Nat.succ 0))))) void void void,L)=
  aM L n (kk 3 k) (mm 1 m)))/\((decide (m.k2.value<0)||decide (2147483647<m.k2.value))=false->aG IntKind.i64 (64-m.k2.value)/\true=true/\true=true/\true=true/\((!decide
  (b6 L (kk 3 k) m.k2.value (imax 0 (kL 32 (64-m.k2.value)))=0))=true->(bm.mk (b6 L (kk 3 k) m.k2.value (imax 0 (kL 32 (64-m.k2.value)))) eB void void void,L)=aM L n (kk 3
  k) (mm 1 m))/\((!decide (b6 L (kk 3 k) m.k2.value (imax 0 (kL 32 (64-m.k2.value)))=0))=false->(bm.mk 0 (dR L (kk 3 k) m.k2.value (imax 0 (kL 32 (64-m.k2.value)))) void void
  void,L)=aM L n (kk 3 k) (mm 1 m)))):=by
 have hX:aM L n (kk 3 k) (mm 1 m)=if m.k2.kind=1 then(if b6 L (kk 3 k) (aO m) (pw (aO m))=0 then(fA (dR L (kk 3 k) (aO m) (pw (aO m))),L)else(fx (b6 L (kk 3 k) (aO m) (pw (aO m))),L))else(fx 240,L):=by
  by_cases h1:m.k2.kind=1
  ·by_cases h2:b6 L (kk 3 k) (aO m) (pw (aO m))=0
   ·simp+decide [aM,dH,dM,dq,ee,dP,cH,show(kk 3 k).kind=3 from rfl,show(mm 1 m).code=1 from rfl,show(mm 1 m).k2=m.k2 from rfl,show aO (mm 1 m)=aO m from rfl,h1,h2]
   ·simp+decide [aM,dH,dM,dq,ee,dP,cH,show(kk 3 k).kind=3 from rfl,show(mm 1 m).code=1 from rfl,show(mm 1 m).k2=m.k2 from rfl,show aO (mm 1 m)=aO m from rfl,h1,h2]
  ·simp+decide [aM,dH,dM,dq,cH,cD,show(kk 3 k).kind=3 from rfl,show(mm 1 m).code=1 from rfl,show(mm 1 m).k2=m.k2 from rfl,h1,dg,fx]
 rw[hX];have e1:∀s,bm.mk 0 s void void void=fA s:=fun _=>rfl
 have e2:∀c,bm.mk c eB void void void=fx c:=fun _=>rfl
 simp only[e1,e2];by_cases h1:m.k2.kind=1
 ·by_cases h2:0<=m.k2.value/\m.k2.value<=2147483647
  ·have hN:aO m=m.k2.value:=by unfold aO;rw[Yv h2]
   have hR:pw m.k2.value=imax 0 (kL 32 (64-m.k2.value)):=rfl;have hr:aG .i64 (64-m.k2.value):=by simp only[aG,bY];omega
   rw[hN,hR];simp[h1,h2,hr];grind
  ·have hN:aO m= -1:=by unfold aO;rw[Yu h2]
   have hR:pw (-1)=imax 0 (kL 32 65):=rfl;rw[hN,hR];simp[h1];grind
 ·simp[h1]
theorem Ml (L:List Sx.Obj) (n:Int) (k:Key) (m:bm) (hL:aq L) (hs:aw m.data):ai Tryz.prog 24 [.lp 0 0] [.ro (.blk ny (gF (.ci .i64 1) m n (.ci .i64 3) k)),.store tS eS L] (kO (aM L n ((kk 3 k)) ((mm 1 m)))) (fun _ _=>False):=
 aW (inl:=(fun f=>f==37||f==58||f==68||f==62||f==141||f==102||f==172||f==93||f==64||f==90||f==89||f==38||f==60||f==101||f==105||f==74)) (ann:=aP) (ab n7 (ab cT ak)) aC (dU bK) (KZ L n k m hL hs) (by kernel_rfl)
theorem KR (L:List Sx.Obj) (n:Int) (k:Key) (m:bm) (hL:aq L) (hs:aw m.data):
 true=true/\true=true/\true=true/\true=true/\true=true/\true=true/\((!decide (m.k2.kind=1))=true->(bm.mk 240 eB void void void,L)=aM L n (kk 3 k) (mm 2 m))/\((!decide
  (m.k2.kind=1))=false->((decide (m.k2.value<0)||decide (2147483647<m.k2.value))=true->true=true/\(aq L/\aw m.data)/\true=true/\true=true/\((!decide (cq L (kk 3 k)
  (-1) m.data=0))=true->(bm.mk (cq L (kk 3 k) (-1) m.data) eB void void void,eg L (kk 3 k) (-1) m.data)=aM L n (kk 3 k) (mm 2 m))/\((!decide (cq L (kk 3 k) (-1) m.data=0))=
  false->(bm.mk 0 eB void void void,eg L (kk 3 k) (-1) m.data)=aM L n (kk 3 k) (mm 2 m)))/\((decide (m.k2.value<0)||decide (2147483647<m.k2.value))=false->true=true/\(aq L/\
  aw m.data)/\true=true/\true=true/\((!decide (cq L (kk 3 k) m.k2.value m.data=0))=true->(bm.mk (cq L (kk 3 k) m.k2.value m.data) eB void void void,eg L (kk 3 k) m.k2.value
  m.data)=aM L n (kk 3 k) (mm 2 m))/\((!decide (cq L (kk 3 k) m.k2.value m.data=0))=false->(bm.mk 0 eB void void void,eg L (kk 3 k) m.k2.value m.data)=aM L n (kk 3 k) (mm 2
  m)))):=by
 simp+decide [aM,dH,dM,dq,ee,dQ,dP,cY,cU,cD,cH,ec,e9,fx,fA,cI,void,dg,eB,aO,dD,eZ,ey,kk,mm,hL,hs];try grind
theorem MM (L:List Sx.Obj) (n:Int) (k:Key) (m:bm) (hL:aq L) (hs:aw m.data):ai Tryz.prog 24 [.lp 0 0] [.ro (.blk ny (gF (.ci .i64 2) m n (.ci .i64 3) k)),.store tS eS L] (kO (aM L n ((kk 3 k)) ((mm 2 m)))) (fun _ _=>False):=
 aW (inl:=(fun f=>f==37||f==58||f==68||f==62||f==141||f==102||f==172||f==93||f==64||f==90||f==89||f==38||f==60||f==101||f==105||f==75)) (ann:=aP) (ab cT ak) (aD AZ aC) (dU bK) (KR L n k m hL hs) (by kernel_rfl)
theorem Ju (L:List Sx.Obj) (n:Int) (k:Key) (m:bm) (hL:aq L) (hs:aw m.data):
 true=true/\true=true/\true=true/\true=true/\aq L/\true=true/\true=true/\((!decide (aS L (kk 3 k) true=0))=true->(bm.mk (aS L (kk 3 k) true) eB void void void,
  eD L (kk 3 k))=aM L n (kk 3 k) (mm 3 m))/\((!decide (aS L (kk 3 k) true=0))=false->(bm.mk 0 eB void void void,eD L (kk 3 k))=aM L n (kk 3 k) (mm 3 m)):=by
 simp+decide [aM,dH,dM,dq,ee,dQ,dP,cY,cU,cD,cH,ec,e9,fx,fA,cI,void,dg,eB,aO,dD,eZ,ey,kk,mm,hL,hs];try grind
theorem Kc (L:List Sx.Obj) (n:Int) (k:Key) (m:bm) (hL:aq L) (hs:aw m.data):ai Tryz.prog 24 [.lp 0 0] [.ro (.blk ny (gF (.ci .i64 3) m n (.ci .i64 3) k)),.store tS eS L] (kO (aM L n ((kk 3 k)) ((mm 3 m)))) (fun _ _=>False):=
 aW (inl:=(fun f=>f==37||f==58||f==68||f==62||f==141||f==102||f==172||f==93||f==64||f==90||f==89||f==38||f==60||f==101||f==105||f==77)) (ann:=aP) (ab cT ak) (aD O0 aC) (dU bK) (Ju L n k m hL hs) (by kernel_rfl)
theorem Mi (L:List Sx.Obj) (n:Int) (k:Key) (m:bm) (hL:aq L) (hs:aw m.data):
 true=true/\true=true/\true=true/\true=true/\aq L/\true=true/\true=true/\((!decide (cx L (kk 3 k) m.k0=0))=true->(bm.mk (cx L (kk 3 k) m.k0) eB void void void,eX
  L (kk 3 k) m.k0)=aM L n (kk 3 k) (mm 4 m))/\((!decide (cx L (kk 3 k) m.k0=0))=false->(bm.mk 0 eB void void void,eX L (kk 3 k) m.k0)=aM L n (kk 3 k) (mm 4 m)):=by
 simp+decide [aM,dH,dM,dq,ee,dQ,dP,cY,cU,cD,cH,ec,e9,fx,fA,cI,void,dg,eB,aO,dD,eZ,ey,kk,mm,hL,hs];try grind
theorem MO (L:List Sx.Obj) (n:Int) (k:Key) (m:bm) (hL:aq L) (hs:aw m.data):ai Tryz.prog 24 [.lp 0 0] [.ro (.blk ny (gF (.ci .i64 4) m n (.ci .i64 3) k)),.store tS eS L] (kO (aM L n ((kk 3 k)) ((mm 4 m)))) (fun _ _=>False):=
 aW (inl:=(fun f=>f==37||f==58||f==68||f==62||f==141||f==102||f==172||f==93||f==64||f==90||f==89||f==38||f==60||f==101||f==105||f==79)) (ann:=aP) (ab cT ak) (aD SV aC) (dU bK) (Mi L n k m hL hs) (by kernel_rfl)
theorem Jb (L:List Sx.Obj) (n:Int) (k:Key) (m:bm) (hL:aq L) (hs:aw m.data) (hk:aT (kk 3 k)=true):
 true=true/\true=true/\true=true/\true=true/\true=true/\((!decide (m.k2.kind=1))=true->(bm.mk 240 eB void void void,L)=aM L n (kk 3 k) (mm 5 m))/\((!decide (m.k2.kind=1))=
  false->true=true/\((!(decide (0<=m.k2.value)&&decide (m.k2.value<=7)))=true->(bm.mk 2 eB void void void,L)=aM L n (kk 3 k) (mm 5 m))/\((!(decide (0<=m.k2.value)&&decide
  (m.k2.value<=7)))=false->gz (kk 3 k) m.k2.value/\true=true/\true=true/\true=true/\(bm.mk 0 eB (iB (kk 3 k) m.k2.value) void void,L)=aM L n (kk 3 k) (mm 5 m))):=by
 have hX:aM L n (kk 3 k) (mm 5 m)=if m.k2.kind=1 then(if 0<=m.k2.value/\m.k2.value<=7 then(ec (iB (kk 3 k) m.k2.value),L)else(fx 2,L))else(fx 240,L):=by
  by_cases h1:m.k2.kind=1
  ·by_cases h2:0<=m.k2.value/\m.k2.value<=7
   ·simp+decide [aM,dH,dM,dq,ee,dQ,dP,cY,cU,cD,cH,ec,e9,fx,fA,cI,void,dg,eB,aO,dD,eZ,ey,kk,mm,h1,h2]
   ·simp+decide [aM,dH,dM,dq,ee,dQ,dP,cY,cU,cD,cH,ec,e9,fx,fA,cI,void,dg,eB,aO,dD,eZ,ey,kk,mm,h1,h2]
  ·simp+decide [aM,dH,dM,dq,ee,dQ,dP,cY,cU,cD,cH,ec,e9,fx,fA,cI,void,dg,eB,aO,dD,eZ,ey,kk,mm,h1]
 rw[hX];refine⟨rfl,rfl,rfl,rfl,rfl,fun h=>?_,fun h=>⟨rfl,fun h'=>?_,fun h'=>⟨⟨hk,?_⟩,rfl,rfl,rfl,?_⟩⟩⟩
 ·have h:¬m.k2.kind=1:=by simpa using h
  rw[Yu h];rfl
 ·have h:m.k2.kind=1:=by simpa using h
  have h':¬(0<=m.k2.value/\m.k2.value<=7):=fun hh=>by simp[hh.1,hh.2]at h'
  rw[Yv h,Yu h'];rfl
 ·simpa using h'
 ·have h:m.k2.kind=1:=by simpa using h
  have h':0<=m.k2.value/\m.k2.value<=7:=by simpa using h'
  rw[Yv h,Yv h'];rfl
theorem MK (L:List Sx.Obj) (n:Int) (k:Key) (m:bm) (hL:aq L) (hs:aw m.data) (hk:aT (kk 3 k)=true):ai Tryz.prog 24 [.lp 0 0] [.ro (.blk ny (gF (.ci .i64 5) m n (.ci .i64 3) k)),.store tS eS L] (kO (aM L n ((kk 3 k)) ((mm 5 m)))) (fun _ _=>False):=
 aW (inl:=(fun f=>f==37||f==58||f==68||f==62||f==141||f==102||f==172||f==93||f==64||f==90||f==89||f==38||f==60||f==101||f==105||f==72)) (ann:=aP) (ab CL (ab cT ak)) aC (dU bK) (Jb L n k m hL hs hk) (by kernel_rfl)
theorem KK (L:List Sx.Obj) (n:Int) (k:Key) (m:bm) (hL:aq L) (hs:aw m.data):
 true=true/\true=true/\true=true/\true=true/\aq L/\true=true/\true=true/\true=true/\((!decide (bX L (kk 4 k) 1=0))=true->(bm.mk (bX L (kk 4 k) 1) eB void void
  void,eI L (kk 4 k) 1)=aM L n (kk 4 k) (mm 1 m))/\((!decide (bX L (kk 4 k) 1=0))=false->(bm.mk 0 eB (cN L (kk 4 k) 1) void void,eI L (kk 4 k) 1)=aM L n (kk 4 k) (mm 1
  m)):=by
 simp+decide [aM,dH,dM,dq,ee,dQ,dP,cY,cU,cD,cH,ec,e9,fx,fA,cI,void,dg,eB,aO,dD,eZ,ey,kk,mm,hL,hs];try grind
theorem Nx (L:List Sx.Obj) (n:Int) (k:Key) (m:bm) (hL:aq L) (hs:aw m.data):ai Tryz.prog 24 [.lp 0 0] [.ro (.blk ny (gF (.ci .i64 1) m n (.ci .i64 4) k)),.store tS eS L] (kO (aM L n ((kk 4 k)) ((mm 1 m)))) (fun _ _=>False):=
 aW (inl:=(fun f=>f==37||f==58||f==68||f==62||f==141||f==102||f==172||f==93||f==64||f==90||f==89||f==38||f==60||f==101||f==105||f==149)) (ann:=aP) (ab cT ak) (aD C6 aC) (dU bK) (KK L n k m hL hs) (by kernel_rfl)
theorem MC (L:List Sx.Obj) (n:Int) (k:Key) (m:bm) (hL:aq L) (hs:aw m.data):
 true=true/\true=true/\true=true/\true=true/\aq L/\true=true/\true=true/\true=true/\((!decide (bX L (kk 4 k) 2=0))=true->(bm.mk (bX L (kk 4 k) 2) eB void void
  void,eI L (kk 4 k) 2)=aM L n (kk 4 k) (mm 2 m))/\((!decide (bX L (kk 4 k) 2=0))=false->(bm.mk 0 eB (cN L (kk 4 k) 2) void void,eI L (kk 4 k) 2)=aM L n (kk 4 k) (mm 2
  m)):=by
 simp+decide [aM,dH,dM,dq,ee,dQ,dP,cY,cU,cD,cH,ec,e9,fx,fA,cI,void,dg,eB,aO,dD,eZ,ey,kk,mm,hL,hs];try grind
theorem Mf (L:List Sx.Obj) (n:Int) (k:Key) (m:bm) (hL:aq L) (hs:aw m.data):ai Tryz.prog 24 [.lp 0 0] [.ro (.blk ny (gF (.ci .i64 2) m n (.ci .i64 4) k)),.store tS eS L] (kO (aM L n ((kk 4 k)) ((mm 2 m)))) (fun _ _=>False):=
 aW (inl:=(fun f=>f==37||f==58||f==68||f==62||f==141||f==102||f==172||f==93||f==64||f==90||f==89||f==38||f==60||f==101||f==105||f==149)) (ann:=aP) (ab cT ak) (aD C6 aC) (dU bK) (MC L n k m hL hs) (by kernel_rfl)
theorem Kl (L:List Sx.Obj) (n:Int) (k:Key) (m:bm) (hL:aq L) (hs:aw m.data):
 true=true/\true=true/\true=true/\true=true/\aq L/\true=true/\true=true/\((!decide (b8 L (kk 4 k) m.k0=0))=true->(bm.mk (b8 L (kk 4 k) m.k0) eB void void void,fM
  L (kk 4 k) m.k0)=aM L n (kk 4 k) (mm 3 m))/\((!decide (b8 L (kk 4 k) m.k0=0))=false->(bm.mk 0 eB void void void,fM L (kk 4 k) m.k0)=aM L n (kk 4 k) (mm 3 m)):=by
 simp+decide [aM,dH,dM,dq,ee,dQ,dP,cY,cU,cD,cH,ec,e9,fx,fA,cI,void,dg,eB,aO,dD,eZ,ey,kk,mm,hL,hs];try grind
theorem Ja (L:List Sx.Obj) (n:Int) (k:Key) (m:bm) (hL:aq L) (hs:aw m.data):ai Tryz.prog 24 [.lp 0 0] [.ro (.blk ny (gF (.ci .i64 3) m n (.ci .i64 4) k)),.store tS eS L] (kO (aM L n ((kk 4 k)) ((mm 3 m)))) (fun _ _=>False):=
 aW (inl:=(fun f=>f==37||f==58||f==68||f==62||f==141||f==102||f==172||f==93||f==64||f==90||f==89||f==38||f==60||f==101||f==105||f==82)) (ann:=aP) (ab cT ak) (aD N0 aC) (dU bK) (Kl L n k m hL hs) (by kernel_rfl)
theorem Iy (L:List Sx.Obj) (n:Int) (k:Key) (m:bm) (hL:aq L) (hs:aw m.data):
 true=true/\true=true/\true=true/\true=true/\true=true/\true=true/\((!decide (m.k2.kind=1))=true->(bm.mk 240 eB void void void,L)=aM L n (kk 4 k) (mm 4 m))/\((!decide
  (m.k2.kind=1))=false->((decide (m.k2.value<0)||decide (2147483647<m.k2.value))=true->true=true/\aq L/\true=true/\true=true/\true=true/\((!decide (bM L (kk 4 k) (-1)=
  0))=true->(bm.mk (bM L (kk 4 k) (-1)) eB void void void,bu L (kk 4 k) (-1))=aM L n (kk 4 k) (mm 4 m))/\((!decide (bM L (kk 4 k) (-1)=0))=false->(bm.mk 0 eB (bO L (kk 4 k)
  (-1)) void void,bu L (kk 4 k) (-1))=aM L n (kk 4 k) (mm 4 m)))/\((decide (m.k2.value<0)||decide (2147483647<m.k2.value))=false->true=true/\aq L/\true=true/\true=true/\
  true=true/\((!decide (bM L (kk 4 k) m.k2.value=0))=true->(bm.mk (bM L (kk 4 k) m.k2.value) eB void void void,bu L (kk 4 k) m.k2.value)=aM L n (kk 4 k) (mm 4 m))/\((!decide
  (bM L (kk 4 k) m.k2.value=0))=false->(bm.mk 0 eB (bO L (kk 4 k) m.k2.value) void void,bu L (kk 4 k) m.k2.value)=aM L n (kk 4 k) (mm 4 m)))):=by
 simp+decide [aM,dH,dM,dq,ee,dQ,dP,cY,cU,cD,cH,ec,e9,fx,fA,cI,void,dg,eB,aO,dD,eZ,ey,kk,mm,hL,hs];try grind
theorem NL (L:List Sx.Obj) (n:Int) (k:Key) (m:bm) (hL:aq L) (hs:aw m.data):ai Tryz.prog 24 [.lp 0 0] [.ro (.blk ny (gF (.ci .i64 4) m n (.ci .i64 4) k)),.store tS eS L] (kO (aM L n ((kk 4 k)) ((mm 4 m)))) (fun _ _=>False):=
 aW (inl:=(fun f=>f==37||f==58||f==68||f==62||f==141||f==102||f==172||f==93||f==64||f==90||f==89||f==38||f==60||f==101||f==105||f==84)) (ann:=aP) (ab cT ak) (aD Hf aC) (dU bK) (Iy L n k m hL hs) (by kernel_rfl)
theorem Kb (L:List Sx.Obj) (n:Int) (k:Key) (m:bm) (hL:aq L) (hs:aw m.data):
 true=true/\true=true/\true=true/\true=true/\((!decide (aK L (kk 4 k)=0))=true->(bm.mk (aK L (kk 4 k)) eB void void void,L)=aM L n (kk 4 k) (mm 5 m))/\((!decide (aK
  L (kk 4 k)=0))=false->true=true/\(iL L (kk 4 k) m.k0=true->true=true/\true=true/\(bm.mk 0 eB void void (Key.mk 1 void.oid void.count void.call void.rights 1),L)=aM L n (kk 4
  k) (mm 5 m))/\(iL L (kk 4 k) m.k0=false->true=true/\true=true/\(bm.mk 0 eB void void (Key.mk 1 void.oid void.count void.call void.rights 0),L)=aM L n (kk 4 k) (mm 5 m))):=by
 simp+decide [aM,dH,dM,dq,ee,dQ,dP,cY,cU,cD,cH,ec,e9,fx,fA,cI,void,dg,eB,aO,dD,eZ,ey,kk,mm,hL,hs];try grind
theorem LZ (L:List Sx.Obj) (n:Int) (k:Key) (m:bm) (hL:aq L) (hs:aw m.data):ai Tryz.prog 24 [.lp 0 0] [.ro (.blk ny (gF (.ci .i64 5) m n (.ci .i64 4) k)),.store tS eS L] (kO (aM L n ((kk 4 k)) ((mm 5 m)))) (fun _ _=>False):=
 aW (inl:=(fun f=>f==37||f==58||f==68||f==62||f==141||f==102||f==172||f==93||f==64||f==90||f==89||f==38||f==60||f==101||f==105||f==86)) (ann:=aP) (ab Li (ab cT ak)) aC (dU bK) (Kb L n k m hL hs) (by kernel_rfl)
theorem K9 (L:List Sx.Obj) (n:Int) (k:Key) (m:bm) (hL:aq L) (hs:aw m.data):
 true=true/\true=true/\true=true/\true=true/\aq L/\true=true/\((!decide (aK L (kk 4 k)=0))=true->(bm.mk (aK L (kk 4 k)) eB void void void,gf L (kk 4 k))=aM L n
  (kk 4 k) (mm 6 m))/\((!decide (aK L (kk 4 k)=0))=false->true=true/\true=true/\(bm.mk 0 eB void void (Key.mk 1 void.oid void.count void.call void.rights (eJ L (kk 4 k))),gf L
  (kk 4 k))=aM L n (kk 4 k) (mm 6 m)):=by
 simp+decide [aM,dH,dM,dq,ee,dQ,dP,cY,cU,cD,cH,ec,e9,fx,fA,cI,void,dg,eB,aO,dD,eZ,ey,kk,mm,hL,hs];try grind
theorem M4 (L:List Sx.Obj) (n:Int) (k:Key) (m:bm) (hL:aq L) (hs:aw m.data):ai Tryz.prog 24 [.lp 0 0] [.ro (.blk ny (gF (.ci .i64 6) m n (.ci .i64 4) k)),.store tS eS L] (kO (aM L n ((kk 4 k)) ((mm 6 m)))) (fun _ _=>False):=
 aW (inl:=(fun f=>f==37||f==58||f==68||f==62||f==141||f==102||f==172||f==93||f==64||f==90||f==89||f==38||f==60||f==101||f==105||f==87)) (ann:=aP) (ab cT ak) (aD LB aC) (dU bK) (K9 L n k m hL hs) (by kernel_rfl)
theorem K3 (L:List Sx.Obj) (n:Int) (k:Key) (m:bm) (hL:aq L) (hs:aw m.data):
 true=true/\true=true/\true=true/\true=true/\true=true/\true=true/\true=true/\true=true/\((!decide (m.k2.kind=1))=true->(bm.mk 240 eB void void void,L)=aM L n (kk 5
  k) (mm 1 m))/\((!decide (m.k2.kind=1))=false->((decide (m.k2.value<0)||decide (2147483647<m.k2.value))=true->true=true/\(bm.mk 4 eB void void void,L)=aM L n (kk 5 k) (mm 1 m))
  /\((decide (m.k2.value<0)||decide (2147483647<m.k2.value))=false->true=true/\((!(decide (0<=m.k2.value)&&decide (m.k2.value<12)))=true->(bm.mk 4 eB void void void,L)=aM L n
  (kk 5 k) (mm 1 m))/\((!(decide (0<=m.k2.value)&&decide (m.k2.value<12)))=false->aG IntKind.i64 (m.k2.value+4)/\true=true/\true=true/\true=true/\((!decide (bJ L (Key.mk 2
  k.oid k.count void.call void.rights void.value) (m.k2.value+4)=0))=true->(bm.mk (bJ L (Key.mk 2 k.oid k.count void.call void.rights void.value) (m.k2.value+4)) eB void void void,L)=
  aM L n (kk 5 k) (mm 1 m))/\((!decide (bJ L (Key.mk 2 k.oid k.count void.call void.rights void.value) (m.k2.value+4)=0))=false->(bm.mk 0 eB (aF L (Key.mk 2 k.oid k.count void.call
  void.rights void.value) (m.k2.value+4)) void void,L)=aM L n (kk 5 k) (mm 1 m))))):=by
 have hw:Key.mk 2 k.oid k.count void.call void.rights void.value=ey k:=rfl;have e2:∀c,bm.mk c eB void void void=fx c:=fun _=>rfl
 simp only[hw,e2];have hX:=GA (L:=L) (n:=n) (k:=k) (m:=m) (c:=1) (by omega)
 rw[hX];clear hX;by_cases h1:m.k2.kind=1
 case neg=>simp[h1,show cD 5 1=true by decide,hL,hs]
 have hf:¬(cD 5 1=true/\m.k2.kind≠1):=fun h=>h.2 h1
 rw[Yu hf];have hC:cU L (kk 5 k) (mm 1 m)=(if aO m<0\/11<aO m then 4 else bJ L (ey k) (aO m+4),ec (aF L (ey k) (aO m+4)),L):=rfl
 rw[hC];clear hC;have e3:∀a,bm.mk 0 eB a void void=ec a:=fun _=>rfl
 simp only[e3];by_cases h2:0<=m.k2.value/\m.k2.value<=2147483647
 ·have hN:aO m=m.k2.value:=by unfold aO;rw[Yv h2]
  have hr:aG .i64 (m.k2.value+4):=by simp only[aG,bY];omega
  rw[hN];by_cases h3:11<m.k2.value
  ·have h4:¬m.k2.value<12:=by omega
   simp[h1,h2,h3,h4,s9,hr]<;>omega
  ·have h4:m.k2.value<12:=by omega
   have h5:¬(m.k2.value<0\/11<m.k2.value):=by omega
   simp[h1,h2,h4,h5,s9,hr,hL];grind
 ·have hN:aO m= -1:=by unfold aO;rw[Yu h2]
  rw[hN];simp[h1,s9]<;>omega
theorem Il (L:List Sx.Obj) (n:Int) (k:Key) (m:bm) (hL:aq L) (hs:aw m.data):ai Tryz.prog 24 [.lp 0 0] [.ro (.blk ny (gF (.ci .i64 1) m n (.ci .i64 5) k)),.store tS eS L] (kO (aM L n ((kk 5 k)) ((mm 1 m)))) (fun _ _=>False):=
 aW (inl:=(fun f=>f==37||f==58||f==68||f==62||f==141||f==102||f==172||f==93||f==64||f==90||f==89||f==38||f==60||f==101||f==105||f==88)) (ann:=aP) (ab qW (ab cT ak)) aC (dU bK) (K3 L n k m hL hs) (by kernel_rfl)
theorem LW (L:List Sx.Obj) (n:Int) (k:Key) (m:bm) (hL:aq L) (hs:aw m.data):
 true=true/\true=true/\true=true/\true=true/\true=true/\true=true/\true=true/\true=true/\((!decide (m.k2.kind=1))=true->(bm.mk 240 eB void void void,L)=aM L n (kk 5
  k) (mm 2 m))/\((!decide (m.k2.kind=1))=false->((decide (m.k2.value<0)||decide (2147483647<m.k2.value))=true->true=true/\(bm.mk 4 eB void void void,L)=aM L n (kk 5 k) (mm 2 m))
  /\((decide (m.k2.value<0)||decide (2147483647<m.k2.value))=false->true=true/\((!(decide (0<=m.k2.value)&&decide (m.k2.value<12)))=true->(bm.mk 4 eB void void void,L)=aM L n
  (kk 5 k) (mm 2 m))/\((!(decide (0<=m.k2.value)&&decide (m.k2.value<12)))=false->aG IntKind.i64 (m.k2.value+4)/\true=true/\aq L/\true=true/\true=true/\true=true/\((!decide
  (bc L (Key.mk 2 k.oid k.count void.call void.rights void.value) (m.k2.value+4) m.k0=0))=true->(bm.mk (bc L (Key.mk 2 k.oid k.count void.call void.rights void.value) (m.k2.value+4)
  m.k0) eB void void void,b7 L (Key.mk 2 k.oid k.count void.call void.rights void.value) (m.k2.value+4) m.k0)=aM L n (kk 5 k) (mm 2 m))/\((!decide (bc L (Key.mk 2 k.oid k.count
  void.call void.rights void.value) (m.k2.value+4) m.k0=0))=false->(bm.mk 0 eB (cA L (Key.mk 2 k.oid k.count void.call void.rights void.value) (m.k2.value+4) m.k0) void void,b7 L
  (Key.mk 2 k.oid k.count void.call void.rights void.value) (m.k2.value+4) m.k0)=aM L n (kk 5 k) (mm 2 m))))):=by
 have hw:Key.mk 2 k.oid k.count void.call void.rights void.value=ey k:=rfl;have e2:∀c,bm.mk c eB void void void=fx c:=fun _=>rfl
 simp only[hw,e2];have hX:=GA (L:=L) (n:=n) (k:=k) (m:=m) (c:=2) (by omega)
 rw[hX];clear hX;by_cases h1:m.k2.kind=1
 case neg=>simp[h1,show cD 5 2=true by decide,hL,hs]
 have hf:¬(cD 5 2=true/\m.k2.kind≠1):=fun h=>h.2 h1
 rw[Yu hf];have hC:cU L (kk 5 k) (mm 2 m)=(if aO m<0\/11<aO m then 4 else bc L (ey k) (aO m+4) m.k0,ec (cA L (ey k) (aO m+4) m.k0),if aO m<0\/11<aO m then L else b7 L (ey k) (aO m+4) m.k0):=rfl
 rw[hC];clear hC;have e3:∀a,bm.mk 0 eB a void void=ec a:=fun _=>rfl
 simp only[e3];by_cases h2:0<=m.k2.value/\m.k2.value<=2147483647
 ·have hN:aO m=m.k2.value:=by unfold aO;rw[Yv h2]
  have hr:aG .i64 (m.k2.value+4):=by simp only[aG,bY];omega
  rw[hN];by_cases h3:11<m.k2.value
  ·have h4:¬m.k2.value<12:=by omega
   simp[h1,h2,h3,h4,s9,hr]<;>omega
  ·have h4:m.k2.value<12:=by omega
   have h5:¬(m.k2.value<0\/11<m.k2.value):=by omega
   simp[h1,h2,h4,h5,s9,hr,hL];grind
 ·have hN:aO m= -1:=by unfold aO;rw[Yu h2]
  rw[hN];simp[h1,s9]<;>omega
theorem Ke (L:List Sx.Obj) (n:Int) (k:Key) (m:bm) (hL:aq L) (hs:aw m.data):ai Tryz.prog 24 [.lp 0 0] [.ro (.blk ny (gF (.ci .i64 2) m n (.ci .i64 5) k)),.store tS eS L] (kO (aM L n ((kk 5 k)) ((mm 2 m)))) (fun _ _=>False):=
 aW (inl:=(fun f=>f==37||f==58||f==68||f==62||f==141||f==102||f==172||f==93||f==64||f==90||f==89||f==38||f==60||f==101||f==105||f==91)) (ann:=aP) (ab cT ak) (aD Fe aC) (dU bK) (LW L n k m hL hs) (by kernel_rfl)
theorem Mx (L:List Sx.Obj) (n:Int) (k:Key) (m:bm) (hL:aq L) (hs:aw m.data):
 true=true/\true=true/\true=true/\true=true/\true=true/\((!decide (m.k2.kind=1))=true->(bm.mk 240 eB void void void,L)=aM L n (kk 5 k) (mm 3 m))/\((!decide (m.k2.kind=1))=
  false->true=true/\true=true/\true=true/\(bm.mk 0 eB (Key.mk 6 k.oid k.count void.call void.rights m.k2.value) void void,L)=aM L n (kk 5 k) (mm 3 m)):=by
 simp+decide [aM,dH,dM,dq,ee,dQ,dP,cY,cU,cD,cH,ec,e9,fx,fA,cI,void,dg,eB,aO,dD,eZ,ey,kk,mm,hL,hs];try grind
theorem Kq (L:List Sx.Obj) (n:Int) (k:Key) (m:bm) (hL:aq L) (hs:aw m.data):ai Tryz.prog 24 [.lp 0 0] [.ro (.blk ny (gF (.ci .i64 3) m n (.ci .i64 5) k)),.store tS eS L] (kO (aM L n ((kk 5 k)) ((mm 3 m)))) (fun _ _=>False):=
 aW (inl:=(fun f=>f==37||f==58||f==68||f==62||f==141||f==102||f==172||f==93||f==64||f==90||f==89||f==38||f==60||f==101||f==105||f==92)) (ann:=aP) (ab cT ak) aC (dU bK) (Mx L n k m hL hs) (by kernel_rfl)
theorem IE (L:List Sx.Obj) (n:Int) (k:Key) (m:bm) (hL:aq L) (hs:aw m.data):
 true=true/\true=true/\true=true/\((!jr L k.oid)=true->true=true/\true=true/\(bm.mk 0 eB void void (Key.mk 1 void.oid void.count void.call void.rights (-1)),L)=aM L n (kk 5
  k) (mm 4 m))/\((!jr L k.oid)=false->true=true/\true=true/\(bm.mk 0 eB void void (Key.mk 1 void.oid void.count void.call void.rights (pE L k.oid)),L)=aM L n (kk 5 k) (mm 4 m)):=by
 simp+decide [aM,dH,dM,dq,ee,dQ,dP,cY,cU,cD,cH,ec,e9,fx,fA,cI,void,dg,eB,aO,dD,eZ,ey,kk,mm,hL,hs];unfold pE qx;grind
theorem KC (L:List Sx.Obj) (n:Int) (k:Key) (m:bm) (hL:aq L) (hs:aw m.data):ai Tryz.prog 24 [.lp 0 0] [.ro (.blk ny (gF (.ci .i64 4) m n (.ci .i64 5) k)),.store tS eS L] (kO (aM L n ((kk 5 k)) ((mm 4 m)))) (fun _ _=>False):=
 aW (inl:=(fun f=>f==37||f==58||f==68||f==62||f==141||f==102||f==172||f==93||f==64||f==90||f==89||f==38||f==60||f==101||f==105||f==94)) (ann:=aP) (ab UF (ab cT ak)) aC (dU bK) (IE L n k m hL hs) (by kernel_rfl)
theorem Im (L:List Sx.Obj) (n:Int) (k:Key) (m:bm) (hL:aq L) (hs:aw m.data):
 true=true/\true=true/\true=true/\true=true/\true=true/\true=true/\((!decide (m.k2.kind=1))=true->(bm.mk 240 eB void void void,L)=aM L n (kk 5 k) (mm 5 m))/\((!decide
  (m.k2.kind=1))=false->((decide (m.k2.value<0)||decide (2147483647<m.k2.value))=true->true=true/\aq L/\true=true/\true=true/\((!decide (ea L k.oid (-1)=0))=true->
  (bm.mk (ea L k.oid (-1)) eB void void void,iK L k.oid (-1))=aM L n (kk 5 k) (mm 5 m))/\((!decide (ea L k.oid (-1)=0))=false->(bm.mk 0 eB void void void,iK L k.oid (-1))=
  aM L n (kk 5 k) (mm 5 m)))/\((decide (m.k2.value<0)||decide (2147483647<m.k2.value))=false->true=true/\aq L/\true=true/\true=true/\((!decide (ea L k.oid m.k2.value=0))=
  true->(bm.mk (ea L k.oid m.k2.value) eB void void void,iK L k.oid m.k2.value)=aM L n (kk 5 k) (mm 5 m))/\((!decide (ea L k.oid m.k2.value=0))=false->(bm.mk 0 eB void void void,
  iK L k.oid m.k2.value)=aM L n (kk 5 k) (mm 5 m)))):=by
 simp+decide [aM,dH,dM,dq,ee,dQ,dP,cY,cU,cD,cH,ec,e9,fx,fA,cI,void,dg,eB,aO,dD,eZ,ey,kk,mm,hL,hs];try grind
theorem IP (L:List Sx.Obj) (n:Int) (k:Key) (m:bm) (hL:aq L) (hs:aw m.data):ai Tryz.prog 24 [.lp 0 0] [.ro (.blk ny (gF (.ci .i64 5) m n (.ci .i64 5) k)),.store tS eS L] (kO (aM L n ((kk 5 k)) ((mm 5 m)))) (fun _ _=>False):=
 aW (inl:=(fun f=>f==37||f==58||f==68||f==62||f==141||f==102||f==172||f==93||f==64||f==90||f==89||f==38||f==60||f==101||f==105||f==95)) (ann:=aP) (ab cT ak) (aD SI aC) (dU bK) (Im L n k m hL hs) (by kernel_rfl)
theorem KO (L:List Sx.Obj) (n:Int) (k:Key) (m:bm) (hL:aq L) (hs:aw m.data):
 true=true/\true=true/\true=true/\true=true/\true=true/\true=true/\((!decide (m.k2.kind=1))=true->(bm.mk 240 eB void void void,L)=aM L n (kk 5 k) (mm 6 m))/\((!decide
  (m.k2.kind=1))=false->true=true/\true=true/\((!decide (bR L (aF L (Key.mk 2 k.oid k.count void.call void.rights void.value) 0) m.k2.value 32=0))=true->(bm.mk (bR L (aF L
  (Key.mk 2 k.oid k.count void.call void.rights void.value) 0) m.k2.value 32) eB void void void,L)=aM L n (kk 5 k) (mm 6 m))/\((!decide (bR L (aF L (Key.mk 2 k.oid k.count void.call
  void.rights void.value) 0) m.k2.value 32=0))=false->((!decide (bH L (aF L (Key.mk 2 k.oid k.count void.call void.rights void.value) 0) m.k2.value 32 false=0))=true->aG IntKind.i64
  (1000+bH L (aF L (Key.mk 2 k.oid k.count void.call void.rights void.value) 0) m.k2.value 32 false)/\(bm.mk (1000+bH L (aF L (Key.mk 2 k.oid k.count void.call void.rights void.value)
  0) m.k2.value 32 false) eB void void void,L)=aM L n (kk 5 k) (mm 6 m))/\((!decide (bH L (aF L (Key.mk 2 k.oid k.count void.call void.rights void.value) 0) m.k2.value 32 false=0))=false
  ->true=true/\true=true/\true=true/\(bm.mk 0 (jA L (aF L (Key.mk 2 k.oid k.count void.call void.rights void.value) 0) m.k2.value 32) void void void,L)=aM L n (kk 5 k) (mm 6 m)))):=by
 have hw:Key.mk 2 k.oid k.count void.call void.rights void.value=ey k:=rfl;have e2:∀c,bm.mk c eB void void void=fx c:=fun _=>rfl
 simp only[hw,e2];have hX:=GA (L:=L) (n:=n) (k:=k) (m:=m) (c:=6) (by omega)
 rw[hX];clear hX;by_cases h1:m.k2.kind=1
 case neg=>simp[h1,show cD 5 6=true by decide,hL,hs]
 have hf:¬(cD 5 6=true/\m.k2.kind≠1):=fun h=>h.2 h1
 rw[Yu hf];have hC:cU L (kk 5 k) (mm 6 m)=(if bR L (eZ L k) m.k2.value 32=0 then(if bH L (eZ L k) m.k2.value 32 false=0 then 0 else 1000+bH L (eZ L k) m.k2.value 32 false)else bR L (eZ L k) m.k2.value 32,fA (jA L (eZ L k) m.k2.value 32),L):=rfl
 rw[hC];clear hC;have e3:∀s,bm.mk 0 s void void void=fA s:=fun _=>rfl
 have e4:fx 0=dg:=rfl;have hi:=Gm (L:=L) (k:=aF L (ey k) 0) (a:=m.k2.value) (n:=32) (w:=false);have hr:aG .i64 (1000+bH L (aF L (ey k) 0) m.k2.value (32) false):=by simp only[aG,bY];omega
 simp only[e3,eZ];simp[h1,hr,s9,hL,hs];grind
theorem Jn (L:List Sx.Obj) (n:Int) (k:Key) (m:bm) (hL:aq L) (hs:aw m.data):ai Tryz.prog 24 [.lp 0 0] [.ro (.blk ny (gF (.ci .i64 6) m n (.ci .i64 5) k)),.store tS eS L] (kO (aM L n ((kk 5 k)) ((mm 6 m)))) (fun _ _=>False):=
 aW (inl:=(fun f=>f==37||f==58||f==68||f==62||f==141||f==102||f==172||f==93||f==64||f==90||f==89||f==38||f==60||f==101||f==105||f==97)) (ann:=aP) (ab qW (ab VM (ab cT ak))) aC (dU bK) (KO L n k m hL hs) (by kernel_rfl)
theorem LU (L:List Sx.Obj) (n:Int) (k:Key) (m:bm) (hL:aq L) (hs:aw m.data):
 true=true/\true=true/\true=true/\true=true/\true=true/\true=true/\((!decide (m.k2.kind=1))=true->(bm.mk 240 eB void void void,L)=aM L n (kk 5 k) (mm 7 m))/\((!decide
  (m.k2.kind=1))=false->true=true/\aw m.data/\(aq L/\aw m.data)/\true=true/\true=true/\((!decide (bR L (aF L (Key.mk 2 k.oid k.count void.call void.rights void.value)
  0) m.k2.value (bW m.data)=0))=true->(bm.mk (bR L (aF L (Key.mk 2 k.oid k.count void.call void.rights void.value) 0) m.k2.value (bW m.data)) eB void void void,jy L (aF L (Key.mk 2
  k.oid k.count void.call void.rights void.value) 0) m.k2.value m.data)=aM L n (kk 5 k) (mm 7 m))/\((!decide (bR L (aF L (Key.mk 2 k.oid k.count void.call void.rights void.value) 0)
  m.k2.value (bW m.data)=0))=false->((!decide (bH L (aF L (Key.mk 2 k.oid k.count void.call void.rights void.value) 0) m.k2.value (bW m.data) true=0))=true->aG IntKind.i64 (1000+
  bH L (aF L (Key.mk 2 k.oid k.count void.call void.rights void.value) 0) m.k2.value (bW m.data) true)/\(bm.mk (1000+bH L (aF L (Key.mk 2 k.oid k.count void.call void.rights void.value)
  0) m.k2.value (bW m.data) true) eB void void void,jy L (aF L (Key.mk 2 k.oid k.count void.call void.rights void.value) 0) m.k2.value m.data)=aM L n (kk 5 k) (mm 7 m))/\((!decide (bH L
  (aF L (Key.mk 2 k.oid k.count void.call void.rights void.value) 0) m.k2.value (bW m.data) true=0))=false->true=true/\true=true/\(bm.mk 0 eB void void void,jy L (aF L (Key.mk 2
  k.oid k.count void.call void.rights void.value) 0) m.k2.value m.data)=aM L n (kk 5 k) (mm 7 m)))):=by
 have hw:Key.mk 2 k.oid k.count void.call void.rights void.value=ey k:=rfl;have e2:∀c,bm.mk c eB void void void=fx c:=fun _=>rfl
 simp only[hw,e2];have hX:=GA (L:=L) (n:=n) (k:=k) (m:=m) (c:=7) (by omega)
 rw[hX];clear hX;by_cases h1:m.k2.kind=1
 case neg=>simp[h1,show cD 5 7=true by decide,hL,hs]
 have hf:¬(cD 5 7=true/\m.k2.kind≠1):=fun h=>h.2 h1
 rw[Yu hf];have hC:cU L (kk 5 k) (mm 7 m)=(if bR L (eZ L k) m.k2.value (bW m.data)=0 then(if bH L (eZ L k) m.k2.value (bW m.data) true=0 then 0 else 1000+bH L (eZ L k) m.k2.value (bW m.data) true)else bR L (eZ L k) m.k2.value (bW m.data),dg,jy L (eZ L k) m.k2.value m.data):=rfl
 rw[hC];clear hC;have e3:∀s,bm.mk 0 s void void void=fA s:=fun _=>rfl
 have e4:fx 0=dg:=rfl;have hi:=Gm (L:=L) (k:=aF L (ey k) 0) (a:=m.k2.value) (n:=bW m.data) (w:=true);have hr:aG .i64 (1000+bH L (aF L (ey k) 0) m.k2.value (bW m.data) true):=by simp only[aG,bY];omega
 simp only[e3,eZ];simp[h1,hr,s9,hL,hs];grind
theorem Jt (L:List Sx.Obj) (n:Int) (k:Key) (m:bm) (hL:aq L) (hs:aw m.data):ai Tryz.prog 24 [.lp 0 0] [.ro (.blk ny (gF (.ci .i64 7) m n (.ci .i64 5) k)),.store tS eS L] (kO (aM L n ((kk 5 k)) ((mm 7 m)))) (fun _ _=>False):=
 aW (inl:=(fun f=>f==37||f==58||f==68||f==62||f==141||f==102||f==172||f==93||f==64||f==90||f==89||f==38||f==60||f==101||f==105||f==98)) (ann:=aP) (ab qW (ab cT ak)) (aD Uf aC) (dU bK) (LU L n k m hL hs) (by kernel_rfl)
theorem JX (L:List Sx.Obj) (n:Int) (k:Key) (m:bm) (hL:aq L) (hs:aw m.data):
 true=true/\true=true/\true=true/\true=true/\true=true/\(bm.mk 0 eB void void (Key.mk 1 void.oid void.count void.call void.rights m.k0.kind),L)=aM L n (kk 8 k) (mm 1 m):=by
 simp+decide [aM,dH,dM,dq,ee,dQ,dP,cY,cU,cD,cH,ec,e9,fx,fA,cI,void,dg,eB,aO,dD,eZ,ey,kk,mm,hL,hs];try grind
theorem Nc (L:List Sx.Obj) (n:Int) (k:Key) (m:bm) (hL:aq L) (hs:aw m.data):ai Tryz.prog 24 [.lp 0 0] [.ro (.blk ny (gF (.ci .i64 1) m n (.ci .i64 8) k)),.store tS eS L] (kO (aM L n ((kk 8 k)) ((mm 1 m)))) (fun _ _=>False):=
 aW (inl:=(fun f=>f==37||f==58||f==68||f==62||f==141||f==102||f==172||f==93||f==64||f==90||f==89||f==38||f==60||f==101||f==105||f==99)) (ann:=aP) (ab cT ak) aC (dU bK) (JX L n k m hL hs) (by kernel_rfl)
theorem LR (L:List Sx.Obj) (n:Int) (k:Key) (m:bm) (hL:aq L) (hs:aw m.data):
 true=true/\true=true/\true=true/\true=true/\(kq m.k0 m.k1=true->true=true/\true=true/\(bm.mk 0 eB void void (Key.mk 1 void.oid void.count void.call void.rights 1),L)=aM
  L n (kk 8 k) (mm 2 m))/\(kq m.k0 m.k1=false->true=true/\true=true/\(bm.mk 0 eB void void (Key.mk 1 void.oid void.count void.call void.rights 0),L)=aM L n (kk 8 k) (mm 2 m)):=by
 simp+decide [aM,dH,dM,dq,ee,dQ,dP,cY,cU,cD,cH,ec,e9,fx,fA,cI,void,dg,eB,aO,dD,eZ,ey,kk,mm,hL,hs];try grind
theorem Jy (L:List Sx.Obj) (n:Int) (k:Key) (m:bm) (hL:aq L) (hs:aw m.data):ai Tryz.prog 24 [.lp 0 0] [.ro (.blk ny (gF (.ci .i64 2) m n (.ci .i64 8) k)),.store tS eS L] (kO (aM L n ((kk 8 k)) ((mm 2 m)))) (fun _ _=>False):=
 aW (inl:=(fun f=>f==37||f==58||f==68||f==62||f==141||f==102||f==172||f==93||f==64||f==90||f==89||f==38||f==60||f==101||f==105||f==100)) (ann:=aP) (ab PW (ab cT ak)) aC (dU bK) (LR L n k m hL hs) (by kernel_rfl)
theorem Lq (L:List Sx.Obj) (n:Int) (k:Key) (m:bm) (hL:aq L) (hs:aw m.data):
 true=true/\true=true/\true=true/\true=true/\true=true/\(bm.mk 0 eB void void (Key.mk 1 void.oid void.count void.call void.rights m.k0.rights),L)=aM L n (kk 8 k) (mm 3 m):=by
 simp+decide [aM,dH,dM,dq,ee,dQ,dP,cY,cU,cD,cH,ec,e9,fx,fA,cI,void,dg,eB,aO,dD,eZ,ey,kk,mm,hL,hs];try grind
theorem Lr (L:List Sx.Obj) (n:Int) (k:Key) (m:bm) (hL:aq L) (hs:aw m.data):ai Tryz.prog 24 [.lp 0 0] [.ro (.blk ny (gF (.ci .i64 3) m n (.ci .i64 8) k)),.store tS eS L] (kO (aM L n ((kk 8 k)) ((mm 3 m)))) (fun _ _=>False):=
 aW (inl:=(fun f=>f==37||f==58||f==68||f==62||f==141||f==102||f==172||f==93||f==64||f==90||f==89||f==38||f==60||f==101||f==105||f==104)) (ann:=aP) (ab cT ak) aC (dU bK) (Lq L n k m hL hs) (by kernel_rfl)
theorem Nl (L:List Sx.Obj) (n:Int) (k:Key) (m:bm) (hL:aq L) (hs:aw m.data):
 true=true/\true=true/\true=true/\true=true/\true=true/\(bm.mk 0 eB void void (Key.mk 1 void.oid void.count void.call void.rights n),L)=aM L n (kk 9 k) (mm 1 m):=by
 simp+decide [aM,dH,dM,dq,ee,dQ,dP,cY,cU,cD,cH,ec,e9,fx,fA,cI,void,dg,eB,aO,dD,eZ,ey,kk,mm,hL,hs];try grind
theorem Iz (L:List Sx.Obj) (n:Int) (k:Key) (m:bm) (hL:aq L) (hs:aw m.data):ai Tryz.prog 24 [.lp 0 0] [.ro (.blk ny (gF (.ci .i64 1) m n (.ci .i64 9) k)),.store tS eS L] (kO (aM L n ((kk 9 k)) ((mm 1 m)))) (fun _ _=>False):=
 aW (inl:=(fun f=>f==37||f==58||f==68||f==62||f==141||f==102||f==172||f==93||f==64||f==90||f==89||f==38||f==60||f==101||f==105||f==106)) (ann:=aP) (ab cT ak) aC (dU bK) (Nl L n k m hL hs) (by kernel_rfl)
theorem G3 (L:List Sx.Obj) (n:Int) (k:Key) (m:bm) (hL:aq L) (hs:aw m.data):
 true=true/\true=true/\true=true/\(bm.mk 0 eB void void void,L)=aM L n (kk 10 k) (mm 1 m):=by
 simp+decide [aM,dH,dM,dq,ee,dQ,dP,cY,cU,cD,cH,ec,e9,fx,fA,cI,void,dg,eB,aO,dD,eZ,ey,kk,mm,hL,hs];try grind
theorem Hk (L:List Sx.Obj) (n:Int) (k:Key) (m:bm) (hL:aq L) (hs:aw m.data):ai Tryz.prog 24 [.lp 0 0] [.ro (.blk ny (gF (.ci .i64 1) m n (.ci .i64 10) k)),.store tS eS L] (kO (aM L n ((kk 10 k)) ((mm 1 m)))) (fun _ _=>False):=
 aW (inl:=(fun f=>f==37||f==58||f==68||f==62||f==141||f==102||f==172||f==93||f==64||f==90||f==89||f==38||f==60||f==101||f==105||f==107)) (ann:=aP) (ab cT ak) aC (dU bK) (G3 L n k m hL hs) (by kernel_rfl)
end Go.Proofs.YtghpaegglbbocaaGreat
