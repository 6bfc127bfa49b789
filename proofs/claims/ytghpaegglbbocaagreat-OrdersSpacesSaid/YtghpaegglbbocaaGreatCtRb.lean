import Derived.Test.YtghpaegglbbocaaGreatCtRa
import Derived.Test.YtghpaegglbbocaaGreatCtRo
import Derived.Test.YtghpaegglbbocaaGreatCV
set_option linter.unusedSimpArgs false
set_option linter.unusedVariables false
namespace Go.Proofs.YtghpaegglbbocaaGreat
open Go.Sx
set_option maxRecDepth 100000
theorem Jj (L:List Sx.Obj) (n:Int) (k:Key) (m:bm) (hL:aq L) (hs:aA m.data):
 true=true/\true=true/\true=true/\true=true/\true=true/\(bm.mk 0 eB void void (Key.mk 1 void.oid void.count void.call void.rights k.value),L)=aM L n (kk 1 k) (mm 1 m):=by
 simp+decide [aM,dJ,dL,dq,ef,dP,dQ,c8,cT,cC,cF,eh,eW,fu,fB,cG,void,dz,eB,aO,dD,eX,ew,kk,mm,hL,hs];try grind
theorem HN (L:List Sx.Obj) (n:Int) (k:Key) (m:bm) (hL:aq L) (hs:aA m.data):ai Tryz.prog 24 [.lp 0 0] [.ro (.blk nb (gK (.ci .i64 1) m n (.ci .i64 1) k)),.store tS eS L] (kO (aM L n ((kk 1 k)) ((mm 1 m)))) (fun _ _=>False):=
 aV (inl:=(fun f=>f==37||f==58||f==68||f==62||f==141||f==102||f==172||f==93||f==64||f==90||f==89||f==38||f==60||f==101||f==105||f==59)) (ann:=aP) (ae cU an) aC (dT bJ) (Jj L n k m hL hs) (by kernel_rfl)
theorem L5 (L:List Sx.Obj) (n:Int) (k:Key) (m:bm) (hL:aq L) (hs:aA m.data):
 true=true/\true=true/\true=true/\true=true/\true=true/\true=true/\((!decide (m.k2.kind=1))=true->(bm.mk 240 eB void void void,L)=aM L n (kk 2 k) (mm 1 m))/\((!decide
  (m.k2.kind=1))=false->((decide (m.k2.value<0)||decide (2147483647<m.k2.value))=true->true=true/\true=true/\true=true/\((!decide (bI L (kk 2 k) (-1)=0))=true->(bm.mk
  (bI L (kk 2 k) (-1)) eB void void void,L)=aM L n (kk 2 k) (mm 1 m))/\((!decide (bI L (kk 2 k) (-1)=0))=false->(bm.mk 0 eB (aE L (kk 2 k) (-1)) void void,L)=aM L n (kk 2
  k) (mm 1 m)))/\((decide (m.k2.value<0)||decide (2147483647<m.k2.value))=false->true=true/\true=true/\true=true/\((!decide (bI L (kk 2 k) m.k2.value=0))=true->(bm.mk
  (bI L (kk 2 k) m.k2.value) eB void void void,L)=aM L n (kk 2 k) (mm 1 m))/\((!decide (bI L (kk 2 k) m.k2.value=0))=false->(bm.mk 0 eB (aE L (kk 2 k) m.k2.value) void void,L)
  =aM L n (kk 2 k) (mm 1 m)))):=by
 simp+decide [aM,dJ,dL,dq,ef,dP,dQ,c8,cT,cC,cF,eh,eW,fu,fB,cG,void,dz,eB,aO,dD,eX,ew,kk,mm,hL,hs];try grind
theorem L2 (L:List Sx.Obj) (n:Int) (k:Key) (m:bm) (hL:aq L) (hs:aA m.data):ai Tryz.prog 24 [.lp 0 0] [.ro (.blk nb (gK (.ci .i64 1) m n (.ci .i64 2) k)),.store tS eS L] (kO (aM L n ((kk 2 k)) ((mm 1 m)))) (fun _ _=>False):=
 aV (inl:=(fun f=>f==37||f==58||f==68||f==62||f==141||f==102||f==172||f==93||f==64||f==90||f==89||f==38||f==60||f==101||f==105||f==61)) (ann:=aP) (ae qP (ae cU an)) aC (dT bJ) (L5 L n k m hL hs) (by kernel_rfl)
theorem MT (L:List Sx.Obj) (n:Int) (k:Key) (m:bm) (hL:aq L) (hs:aA m.data):
 true=true/\true=true/\true=true/\true=true/\true=true/\true=true/\((!decide (m.k2.kind=1))=true->(bm.mk 240 eB void void void,L)=aM L n (kk 2 k) (mm 2 m))/\((!decide
  (m.k2.kind=1))=false->((decide (m.k2.value<0)||decide (2147483647<m.k2.value))=true->true=true/\aq L/\true=true/\true=true/\true=true/\((!decide (bc L (kk 2 k) (-1)
  m.k0=0))=true->(bm.mk (bc L (kk 2 k) (-1) m.k0) eB void void void,bZ L (kk 2 k) (-1) m.k0)=aM L n (kk 2 k) (mm 2 m))/\((!decide (bc L (kk 2 k) (-1) m.k0=0))=false->
  (bm.mk 0 eB (cA L (kk 2 k) (-1) m.k0) void void,bZ L (kk 2 k) (-1) m.k0)=aM L n (kk 2 k) (mm 2 m)))/\((decide (m.k2.value<0)||decide (2147483647<m.k2.value))=false->true=
  true/\aq L/\true=true/\true=true/\true=true/\((!decide (bc L (kk 2 k) m.k2.value m.k0=0))=true->(bm.mk (bc L (kk 2 k) m.k2.value m.k0) eB void void void,bZ L (kk 2
  k) m.k2.value m.k0)=aM L n (kk 2 k) (mm 2 m))/\((!decide (bc L (kk 2 k) m.k2.value m.k0=0))=false->(bm.mk 0 eB (cA L (kk 2 k) m.k2.value m.k0) void void,bZ L (kk 2 k)
  m.k2.value m.k0)=aM L n (kk 2 k) (mm 2 m)))):=by
 simp+decide [aM,dJ,dL,dq,ef,dP,dQ,c8,cT,cC,cF,eh,eW,fu,fB,cG,void,dz,eB,aO,dD,eX,ew,kk,mm,hL,hs];try grind
theorem Le (L:List Sx.Obj) (n:Int) (k:Key) (m:bm) (hL:aq L) (hs:aA m.data):ai Tryz.prog 24 [.lp 0 0] [.ro (.blk nb (gK (.ci .i64 2) m n (.ci .i64 2) k)),.store tS eS L] (kO (aM L n ((kk 2 k)) ((mm 2 m)))) (fun _ _=>False):=
 aV (inl:=(fun f=>f==37||f==58||f==68||f==62||f==141||f==102||f==172||f==93||f==64||f==90||f==89||f==38||f==60||f==101||f==105||f==65)) (ann:=aP) (ae cU an) (aF EA aC) (dT bJ) (MT L n k m hL hs) (by kernel_rfl)
theorem I9 (L:List Sx.Obj) (n:Int) (k:Key) (m:bm) (hL:aq L) (hs:aA m.data):
 true=true/\true=true/\true=true/\true=true/\aq L/\true=true/\true=true/\((!decide (aw L (kk 2 k) 2 true=0))=true->(bm.mk (aw L (kk 2 k) 2 true) eB void void void,
  eM L (kk 2 k))=aM L n (kk 2 k) (mm 3 m))/\((!decide (aw L (kk 2 k) 2 true=0))=false->(bm.mk 0 eB void void void,eM L (kk 2 k))=aM L n (kk 2 k) (mm 3 m)):=by
 simp+decide [aM,dJ,dL,dq,ef,dP,dQ,c8,cT,cC,cF,eh,eW,fu,fB,cG,void,dz,eB,aO,dD,eX,ew,kk,mm,hL,hs];try grind
theorem Km (L:List Sx.Obj) (n:Int) (k:Key) (m:bm) (hL:aq L) (hs:aA m.data):ai Tryz.prog 24 [.lp 0 0] [.ro (.blk nb (gK (.ci .i64 3) m n (.ci .i64 2) k)),.store tS eS L] (kO (aM L n ((kk 2 k)) ((mm 3 m)))) (fun _ _=>False):=
 aV (inl:=(fun f=>f==37||f==58||f==68||f==62||f==141||f==102||f==172||f==93||f==64||f==90||f==89||f==38||f==60||f==101||f==105||f==67)) (ann:=aP) (ae cU an) (aF Pe aC) (dT bJ) (I9 L n k m hL hs) (by kernel_rfl)
theorem Jq (L:List Sx.Obj) (n:Int) (k:Key) (m:bm) (hL:aq L) (hs:aA m.data):
 true=true/\true=true/\true=true/\true=true/\aq L/\true=true/\true=true/\((!decide (bG L (kk 2 k) m.k0=0))=true->(bm.mk (bG L (kk 2 k) m.k0) eB void void void,
  dZ L (kk 2 k) m.k0)=aM L n (kk 2 k) (mm 4 m))/\((!decide (bG L (kk 2 k) m.k0=0))=false->(bm.mk 0 eB void void void,dZ L (kk 2 k) m.k0)=aM L n (kk 2 k) (mm 4 m)):=by
 simp+decide [aM,dJ,dL,dq,ef,dP,dQ,c8,cT,cC,cF,eh,eW,fu,fB,cG,void,dz,eB,aO,dD,eX,ew,kk,mm,hL,hs];try grind
theorem KQ (L:List Sx.Obj) (n:Int) (k:Key) (m:bm) (hL:aq L) (hs:aA m.data):ai Tryz.prog 24 [.lp 0 0] [.ro (.blk nb (gK (.ci .i64 4) m n (.ci .i64 2) k)),.store tS eS L] (kO (aM L n ((kk 2 k)) ((mm 4 m)))) (fun _ _=>False):=
 aV (inl:=(fun f=>f==37||f==58||f==68||f==62||f==141||f==102||f==172||f==93||f==64||f==90||f==89||f==38||f==60||f==101||f==105||f==70)) (ann:=aP) (ae cU an) (aF Om aC) (dT bJ) (Jq L n k m hL hs) (by kernel_rfl)
theorem JH (L:List Sx.Obj) (n:Int) (k:Key) (m:bm) (hL:aq L) (hs:aA m.data) (hk:aT (kk 2 k)=true):
 true=true/\true=true/\true=true/\true=true/\true=true/\((!decide (m.k2.kind=1))=true->(bm.mk 240 eB void void void,L)=aM L n (kk 2 k) (mm 5 m))/\((!decide (m.k2.kind=1))=
  false->true=true/\((!(decide (0<=m.k2.value)&&decide (m.k2.value<=7)))=true->(bm.mk 2 eB void void void,L)=aM L n (kk 2 k) (mm 5 m))/\((!(decide (0<=m.k2.value)&&decide
  (m.k2.value<=7)))=false->gz (kk 2 k) m.k2.value/\true=true/\true=true/\true=true/\(bm.mk 0 eB (iv (kk 2 k) m.k2.value) void void,L)=aM L n (kk 2 k) (mm 5 m))):=by
 have hX:aM L n (kk 2 k) (mm 5 m)=if m.k2.kind=1 then(if 0<=m.k2.value/\m.k2.value<=7 then(eh (iv (kk 2 k) m.k2.value),L)else(fu 2,L))else(fu 240,L):=by
  by_cases h1:m.k2.kind=1
  ·by_cases h2:0<=m.k2.value/\m.k2.value<=7
   ·simp+decide [aM,dJ,dL,dq,ef,dP,dQ,c8,cT,cC,cF,eh,eW,fu,fB,cG,void,dz,eB,aO,dD,eX,ew,kk,mm,h1,h2]
   ·simp+decide [aM,dJ,dL,dq,ef,dP,dQ,c8,cT,cC,cF,eh,eW,fu,fB,cG,void,dz,eB,aO,dD,eX,ew,kk,mm,h1,h2]
  ·simp+decide [aM,dJ,dL,dq,ef,dP,dQ,c8,cT,cC,cF,eh,eW,fu,fB,cG,void,dz,eB,aO,dD,eX,ew,kk,mm,h1]
 rw[hX];refine⟨rfl,rfl,rfl,rfl,rfl,fun h=>?_,fun h=>⟨rfl,fun h'=>?_,fun h'=>⟨⟨hk,?_⟩,rfl,rfl,rfl,?_⟩⟩⟩
 ·have h:¬m.k2.kind=1:=by simpa using h
  rw[XQ h];rfl
 ·have h:m.k2.kind=1:=by simpa using h
  have h':¬(0<=m.k2.value/\m.k2.value<=7):=fun hh=>by simp[hh.1,hh.2]at h'
  rw[XR h,XQ h'];rfl
 ·simpa using h'
 ·have h:m.k2.kind=1:=by simpa using h
  have h':0<=m.k2.value/\m.k2.value<=7:=by simpa using h'
  rw[XR h,XR h'];rfl
theorem LW (L:List Sx.Obj) (n:Int) (k:Key) (m:bm) (hL:aq L) (hs:aA m.data) (hk:aT (kk 2 k)=true):ai Tryz.prog 24 [.lp 0 0] [.ro (.blk nb (gK (.ci .i64 5) m n (.ci .i64 2) k)),.store tS eS L] (kO (aM L n ((kk 2 k)) ((mm 5 m)))) (fun _ _=>False):=
 aV (inl:=(fun f=>f==37||f==58||f==68||f==62||f==141||f==102||f==172||f==93||f==64||f==90||f==89||f==38||f==60||f==101||f==105||f==72)) (ann:=aP) (ae Cc (ae cU an)) aC (dT bJ) (JH L n k m hL hs hk) (by kernel_rfl)
theorem K6 (L:List Sx.Obj) (n:Int) (k:Key) (m:bm) (hL:aq L) (hs:aA m.data):
 true=true/\true=true/\true=true/\true=true/\((!decide (k.rights=0))=true->(bm.mk 191 eB void void void,L)=aM L n (kk 2 k) (mm 6 m))/\((!decide (k.rights=0))=false->true=
  true/\true=true/\true=true/\(bm.mk 0 eB (Key.mk 5 k.oid k.count void.call void.rights void.value) void void,L)=aM L n (kk 2 k) (mm 6 m)):=by
 simp+decide [aM,dJ,dL,dq,ef,dP,dQ,c8,cT,cC,cF,eh,eW,fu,fB,cG,void,dz,eB,aO,dD,eX,ew,kk,mm,hL,hs];try grind
theorem It (L:List Sx.Obj) (n:Int) (k:Key) (m:bm) (hL:aq L) (hs:aA m.data):ai Tryz.prog 24 [.lp 0 0] [.ro (.blk nb (gK (.ci .i64 6) m n (.ci .i64 2) k)),.store tS eS L] (kO (aM L n ((kk 2 k)) ((mm 6 m)))) (fun _ _=>False):=
 aV (inl:=(fun f=>f==37||f==58||f==68||f==62||f==141||f==102||f==172||f==93||f==64||f==90||f==89||f==38||f==60||f==101||f==105||f==73)) (ann:=aP) (ae cU an) aC (dT bJ) (K6 L n k m hL hs) (by kernel_rfl)
theorem MK (L:List Sx.Obj) (n:Int) (k:Key) (m:bm) (hL:aq L) (hs:aA m.data):
 true=true/\true=true/\true=true/\true=true/\true=true/\true=true/\((!decide (m.k2.kind=1))=true->(bm.mk 240 eB void void void,L)=aM L n (kk 3 k) (mm 1 m))/\((!decide
  (m.k2.kind=1))=false->((decide (m.k2.value<0)||decide (2147483647<m.k2.value))=true->true=true/\true=true/\true=true/\((!decide (bX L (kk 3 k) (-1) (imax 0 (kD 32
  (Int.ofNat (64+Nat.succ 0))))=0))=true->(bm.mk (bX L (kk 3 k) (-1) (imax 0 (kD 32 (Int.ofNat (64+Nat.succ 0))))) eB void void void,L)=aM L n (kk 3 k) (mm 1 m))/\((!decide
  (bX L (kk 3 k) (-1) (imax 0 (kD 32 (Int.ofNat (64+Nat.succ 0))))=0))=false->(bm.mk 0 (dO L (kk 3 k) (-1) (imax 0 (kD 32 (Int.ofNat (64+Nat.succ 0))))) void void void,L)=
  aM L n (kk 3 k) (mm 1 m)))/\((decide (m.k2.value<0)||decide (2147483647<m.k2.value))=false->aI IntKind.i64 (64-m.k2.value)/\true=true/\true=true/\true=true/\((!decide
  (bX L (kk 3 k) m.k2.value (imax 0 (kD 32 (64-m.k2.value)))=0))=true->(bm.mk (bX L (kk 3 k) m.k2.value (imax 0 (kD 32 (64-m.k2.value)))) eB void void void,L)=aM L n (kk 3
  k) (mm 1 m))/\((!decide (bX L (kk 3 k) m.k2.value (imax 0 (kD 32 (64-m.k2.value)))=0))=false->(bm.mk 0 (dO L (kk 3 k) m.k2.value (imax 0 (kD 32 (64-m.k2.value)))) void void
  void,L)=aM L n (kk 3 k) (mm 1 m)))):=by
 have hX:aM L n (kk 3 k) (mm 1 m)=if m.k2.kind=1 then(if bX L (kk 3 k) (aO m) (o0 (aO m))=0 then(fB (dO L (kk 3 k) (aO m) (o0 (aO m))),L)else(fu (bX L (kk 3 k) (aO m) (o0 (aO m))),L))else(fu 240,L):=by
  by_cases h1:m.k2.kind=1
  ·by_cases h2:bX L (kk 3 k) (aO m) (o0 (aO m))=0
   ·simp+decide [aM,dJ,dL,dq,ef,dQ,cF,show(kk 3 k).kind=3 from rfl,show(mm 1 m).code=1 from rfl,show(mm 1 m).k2=m.k2 from rfl,show aO (mm 1 m)=aO m from rfl,h1,h2]
   ·simp+decide [aM,dJ,dL,dq,ef,dQ,cF,show(kk 3 k).kind=3 from rfl,show(mm 1 m).code=1 from rfl,show(mm 1 m).k2=m.k2 from rfl,show aO (mm 1 m)=aO m from rfl,h1,h2]
  ·simp+decide [aM,dJ,dL,dq,cF,cC,show(kk 3 k).kind=3 from rfl,show(mm 1 m).code=1 from rfl,show(mm 1 m).k2=m.k2 from rfl,h1,dz,fu]
 rw[hX];have e1:∀s,bm.mk 0 s void void void=fB s:=fun _=>rfl
 have e2:∀c,bm.mk c eB void void void=fu c:=fun _=>rfl
 simp only[e1,e2];by_cases h1:m.k2.kind=1
 ·by_cases h2:0<=m.k2.value/\m.k2.value<=2147483647
  ·have hN:aO m=m.k2.value:=by unfold aO;rw[XR h2]
   have hR:o0 m.k2.value=imax 0 (kD 32 (64-m.k2.value)):=rfl;have hr:aI .i64 (64-m.k2.value):=by simp only[aI,cg];omega
   rw[hN,hR];simp[h1,h2,hr];grind
  ·have hN:aO m= -1:=by unfold aO;rw[XQ h2]
   have hR:o0 (-1)=imax 0 (kD 32 65):=rfl;rw[hN,hR];simp[h1];grind
 ·simp[h1]
theorem L9 (L:List Sx.Obj) (n:Int) (k:Key) (m:bm) (hL:aq L) (hs:aA m.data):ai Tryz.prog 24 [.lp 0 0] [.ro (.blk nb (gK (.ci .i64 1) m n (.ci .i64 3) k)),.store tS eS L] (kO (aM L n ((kk 3 k)) ((mm 1 m)))) (fun _ _=>False):=
 aV (inl:=(fun f=>f==37||f==58||f==68||f==62||f==141||f==102||f==172||f==93||f==64||f==90||f==89||f==38||f==60||f==101||f==105||f==74)) (ann:=aP) (ae nP (ae cU an)) aC (dT bJ) (MK L n k m hL hs) (by kernel_rfl)
theorem MJ (L:List Sx.Obj) (n:Int) (k:Key) (m:bm) (hL:aq L) (hs:aA m.data):
 true=true/\true=true/\true=true/\true=true/\true=true/\true=true/\((!decide (m.k2.kind=1))=true->(bm.mk 240 eB void void void,L)=aM L n (kk 3 k) (mm 2 m))/\((!decide
  (m.k2.kind=1))=false->((decide (m.k2.value<0)||decide (2147483647<m.k2.value))=true->true=true/\(aq L/\aA m.data)/\true=true/\true=true/\((!decide (cm L (kk 3 k)
  (-1) m.data=0))=true->(bm.mk (cm L (kk 3 k) (-1) m.data) eB void void void,ea L (kk 3 k) (-1) m.data)=aM L n (kk 3 k) (mm 2 m))/\((!decide (cm L (kk 3 k) (-1) m.data=0))=
  false->(bm.mk 0 eB void void void,ea L (kk 3 k) (-1) m.data)=aM L n (kk 3 k) (mm 2 m)))/\((decide (m.k2.value<0)||decide (2147483647<m.k2.value))=false->true=true/\(aq L/\
  aA m.data)/\true=true/\true=true/\((!decide (cm L (kk 3 k) m.k2.value m.data=0))=true->(bm.mk (cm L (kk 3 k) m.k2.value m.data) eB void void void,ea L (kk 3 k) m.k2.value
  m.data)=aM L n (kk 3 k) (mm 2 m))/\((!decide (cm L (kk 3 k) m.k2.value m.data=0))=false->(bm.mk 0 eB void void void,ea L (kk 3 k) m.k2.value m.data)=aM L n (kk 3 k) (mm 2
  m)))):=by
 simp+decide [aM,dJ,dL,dq,ef,dP,dQ,c8,cT,cC,cF,eh,eW,fu,fB,cG,void,dz,eB,aO,dD,eX,ew,kk,mm,hL,hs];try grind
theorem LY (L:List Sx.Obj) (n:Int) (k:Key) (m:bm) (hL:aq L) (hs:aA m.data):ai Tryz.prog 24 [.lp 0 0] [.ro (.blk nb (gK (.ci .i64 2) m n (.ci .i64 3) k)),.store tS eS L] (kO (aM L n ((kk 3 k)) ((mm 2 m)))) (fun _ _=>False):=
 aV (inl:=(fun f=>f==37||f==58||f==68||f==62||f==141||f==102||f==172||f==93||f==64||f==90||f==89||f==38||f==60||f==101||f==105||f==75)) (ann:=aP) (ae cU an) (aF Ak aC) (dT bJ) (MJ L n k m hL hs) (by kernel_rfl)
theorem Ib (L:List Sx.Obj) (n:Int) (k:Key) (m:bm) (hL:aq L) (hs:aA m.data):
 true=true/\true=true/\true=true/\true=true/\aq L/\true=true/\true=true/\((!decide (aS L (kk 3 k) true=0))=true->(bm.mk (aS L (kk 3 k) true) eB void void void,
  eC L (kk 3 k))=aM L n (kk 3 k) (mm 3 m))/\((!decide (aS L (kk 3 k) true=0))=false->(bm.mk 0 eB void void void,eC L (kk 3 k))=aM L n (kk 3 k) (mm 3 m)):=by
 simp+decide [aM,dJ,dL,dq,ef,dP,dQ,c8,cT,cC,cF,eh,eW,fu,fB,cG,void,dz,eB,aO,dD,eX,ew,kk,mm,hL,hs];try grind
theorem Iu (L:List Sx.Obj) (n:Int) (k:Key) (m:bm) (hL:aq L) (hs:aA m.data):ai Tryz.prog 24 [.lp 0 0] [.ro (.blk nb (gK (.ci .i64 3) m n (.ci .i64 3) k)),.store tS eS L] (kO (aM L n ((kk 3 k)) ((mm 3 m)))) (fun _ _=>False):=
 aV (inl:=(fun f=>f==37||f==58||f==68||f==62||f==141||f==102||f==172||f==93||f==64||f==90||f==89||f==38||f==60||f==101||f==105||f==77)) (ann:=aP) (ae cU an) (aF NO aC) (dT bJ) (Ib L n k m hL hs) (by kernel_rfl)
theorem IU (L:List Sx.Obj) (n:Int) (k:Key) (m:bm) (hL:aq L) (hs:aA m.data):
 true=true/\true=true/\true=true/\true=true/\aq L/\true=true/\true=true/\((!decide (cy L (kk 3 k) m.k0=0))=true->(bm.mk (cy L (kk 3 k) m.k0) eB void void void,eQ
  L (kk 3 k) m.k0)=aM L n (kk 3 k) (mm 4 m))/\((!decide (cy L (kk 3 k) m.k0=0))=false->(bm.mk 0 eB void void void,eQ L (kk 3 k) m.k0)=aM L n (kk 3 k) (mm 4 m)):=by
 simp+decide [aM,dJ,dL,dq,ef,dP,dQ,c8,cT,cC,cF,eh,eW,fu,fB,cG,void,dz,eB,aO,dD,eX,ew,kk,mm,hL,hs];try grind
theorem M6 (L:List Sx.Obj) (n:Int) (k:Key) (m:bm) (hL:aq L) (hs:aA m.data):ai Tryz.prog 24 [.lp 0 0] [.ro (.blk nb (gK (.ci .i64 4) m n (.ci .i64 3) k)),.store tS eS L] (kO (aM L n ((kk 3 k)) ((mm 4 m)))) (fun _ _=>False):=
 aV (inl:=(fun f=>f==37||f==58||f==68||f==62||f==141||f==102||f==172||f==93||f==64||f==90||f==89||f==38||f==60||f==101||f==105||f==79)) (ann:=aP) (ae cU an) (aF Su aC) (dT bJ) (IU L n k m hL hs) (by kernel_rfl)
theorem LN (L:List Sx.Obj) (n:Int) (k:Key) (m:bm) (hL:aq L) (hs:aA m.data) (hk:aT (kk 3 k)=true):
 true=true/\true=true/\true=true/\true=true/\true=true/\((!decide (m.k2.kind=1))=true->(bm.mk 240 eB void void void,L)=aM L n (kk 3 k) (mm 5 m))/\((!decide (m.k2.kind=1))=
  false->true=true/\((!(decide (0<=m.k2.value)&&decide (m.k2.value<=7)))=true->(bm.mk 2 eB void void void,L)=aM L n (kk 3 k) (mm 5 m))/\((!(decide (0<=m.k2.value)&&decide
  (m.k2.value<=7)))=false->gz (kk 3 k) m.k2.value/\true=true/\true=true/\true=true/\(bm.mk 0 eB (iv (kk 3 k) m.k2.value) void void,L)=aM L n (kk 3 k) (mm 5 m))):=by
 have hX:aM L n (kk 3 k) (mm 5 m)=if m.k2.kind=1 then(if 0<=m.k2.value/\m.k2.value<=7 then(eh (iv (kk 3 k) m.k2.value),L)else(fu 2,L))else(fu 240,L):=by
  by_cases h1:m.k2.kind=1
  ·by_cases h2:0<=m.k2.value/\m.k2.value<=7
   ·simp+decide [aM,dJ,dL,dq,ef,dP,dQ,c8,cT,cC,cF,eh,eW,fu,fB,cG,void,dz,eB,aO,dD,eX,ew,kk,mm,h1,h2]
   ·simp+decide [aM,dJ,dL,dq,ef,dP,dQ,c8,cT,cC,cF,eh,eW,fu,fB,cG,void,dz,eB,aO,dD,eX,ew,kk,mm,h1,h2]
  ·simp+decide [aM,dJ,dL,dq,ef,dP,dQ,c8,cT,cC,cF,eh,eW,fu,fB,cG,void,dz,eB,aO,dD,eX,ew,kk,mm,h1]
 rw[hX];refine⟨rfl,rfl,rfl,rfl,rfl,fun h=>?_,fun h=>⟨rfl,fun h'=>?_,fun h'=>⟨⟨hk,?_⟩,rfl,rfl,rfl,?_⟩⟩⟩
 ·have h:¬m.k2.kind=1:=by simpa using h
  rw[XQ h];rfl
 ·have h:m.k2.kind=1:=by simpa using h
  have h':¬(0<=m.k2.value/\m.k2.value<=7):=fun hh=>by simp[hh.1,hh.2]at h'
  rw[XR h,XQ h'];rfl
 ·simpa using h'
 ·have h:m.k2.kind=1:=by simpa using h
  have h':0<=m.k2.value/\m.k2.value<=7:=by simpa using h'
  rw[XR h,XR h'];rfl
theorem Mw (L:List Sx.Obj) (n:Int) (k:Key) (m:bm) (hL:aq L) (hs:aA m.data) (hk:aT (kk 3 k)=true):ai Tryz.prog 24 [.lp 0 0] [.ro (.blk nb (gK (.ci .i64 5) m n (.ci .i64 3) k)),.store tS eS L] (kO (aM L n ((kk 3 k)) ((mm 5 m)))) (fun _ _=>False):=
 aV (inl:=(fun f=>f==37||f==58||f==68||f==62||f==141||f==102||f==172||f==93||f==64||f==90||f==89||f==38||f==60||f==101||f==105||f==72)) (ann:=aP) (ae Cc (ae cU an)) aC (dT bJ) (LN L n k m hL hs hk) (by kernel_rfl)
theorem Ic (L:List Sx.Obj) (n:Int) (k:Key) (m:bm) (hL:aq L) (hs:aA m.data):
 true=true/\true=true/\true=true/\true=true/\aq L/\true=true/\true=true/\true=true/\((!decide (bW L (kk 4 k) 1=0))=true->(bm.mk (bW L (kk 4 k) 1) eB void void
  void,eF L (kk 4 k) 1)=aM L n (kk 4 k) (mm 1 m))/\((!decide (bW L (kk 4 k) 1=0))=false->(bm.mk 0 eB (cH L (kk 4 k) 1) void void,eF L (kk 4 k) 1)=aM L n (kk 4 k) (mm 1
  m)):=by
 simp+decide [aM,dJ,dL,dq,ef,dP,dQ,c8,cT,cC,cF,eh,eW,fu,fB,cG,void,dz,eB,aO,dD,eX,ew,kk,mm,hL,hs];try grind
theorem Ja (L:List Sx.Obj) (n:Int) (k:Key) (m:bm) (hL:aq L) (hs:aA m.data):ai Tryz.prog 24 [.lp 0 0] [.ro (.blk nb (gK (.ci .i64 1) m n (.ci .i64 4) k)),.store tS eS L] (kO (aM L n ((kk 4 k)) ((mm 1 m)))) (fun _ _=>False):=
 aV (inl:=(fun f=>f==37||f==58||f==68||f==62||f==141||f==102||f==172||f==93||f==64||f==90||f==89||f==38||f==60||f==101||f==105||f==149)) (ann:=aP) (ae cU an) (aF BC aC) (dT bJ) (Ic L n k m hL hs) (by kernel_rfl)
theorem L7 (L:List Sx.Obj) (n:Int) (k:Key) (m:bm) (hL:aq L) (hs:aA m.data):
 true=true/\true=true/\true=true/\true=true/\aq L/\true=true/\true=true/\true=true/\((!decide (bW L (kk 4 k) 2=0))=true->(bm.mk (bW L (kk 4 k) 2) eB void void
  void,eF L (kk 4 k) 2)=aM L n (kk 4 k) (mm 2 m))/\((!decide (bW L (kk 4 k) 2=0))=false->(bm.mk 0 eB (cH L (kk 4 k) 2) void void,eF L (kk 4 k) 2)=aM L n (kk 4 k) (mm 2
  m)):=by
 simp+decide [aM,dJ,dL,dq,ef,dP,dQ,c8,cT,cC,cF,eh,eW,fu,fB,cG,void,dz,eB,aO,dD,eX,ew,kk,mm,hL,hs];try grind
theorem HO (L:List Sx.Obj) (n:Int) (k:Key) (m:bm) (hL:aq L) (hs:aA m.data):ai Tryz.prog 24 [.lp 0 0] [.ro (.blk nb (gK (.ci .i64 2) m n (.ci .i64 4) k)),.store tS eS L] (kO (aM L n ((kk 4 k)) ((mm 2 m)))) (fun _ _=>False):=
 aV (inl:=(fun f=>f==37||f==58||f==68||f==62||f==141||f==102||f==172||f==93||f==64||f==90||f==89||f==38||f==60||f==101||f==105||f==149)) (ann:=aP) (ae cU an) (aF BC aC) (dT bJ) (L7 L n k m hL hs) (by kernel_rfl)
theorem Iy (L:List Sx.Obj) (n:Int) (k:Key) (m:bm) (hL:aq L) (hs:aA m.data):
 true=true/\true=true/\true=true/\true=true/\aq L/\true=true/\true=true/\((!decide (b6 L (kk 4 k) m.k0=0))=true->(bm.mk (b6 L (kk 4 k) m.k0) eB void void void,fK
  L (kk 4 k) m.k0)=aM L n (kk 4 k) (mm 3 m))/\((!decide (b6 L (kk 4 k) m.k0=0))=false->(bm.mk 0 eB void void void,fK L (kk 4 k) m.k0)=aM L n (kk 4 k) (mm 3 m)):=by
 simp+decide [aM,dJ,dL,dq,ef,dP,dQ,c8,cT,cC,cF,eh,eW,fu,fB,cG,void,dz,eB,aO,dD,eX,ew,kk,mm,hL,hs];try grind
theorem L6 (L:List Sx.Obj) (n:Int) (k:Key) (m:bm) (hL:aq L) (hs:aA m.data):ai Tryz.prog 24 [.lp 0 0] [.ro (.blk nb (gK (.ci .i64 3) m n (.ci .i64 4) k)),.store tS eS L] (kO (aM L n ((kk 4 k)) ((mm 3 m)))) (fun _ _=>False):=
 aV (inl:=(fun f=>f==37||f==58||f==68||f==62||f==141||f==102||f==172||f==93||f==64||f==90||f==89||f==38||f==60||f==101||f==105||f==82)) (ann:=aP) (ae cU an) (aF N7 aC) (dT bJ) (Iy L n k m hL hs) (by kernel_rfl)
theorem Ku (L:List Sx.Obj) (n:Int) (k:Key) (m:bm) (hL:aq L) (hs:aA m.data):
 true=true/\true=true/\true=true/\true=true/\true=true/\true=true/\((!decide (m.k2.kind=1))=true->(bm.mk 240 eB void void void,L)=aM L n (kk 4 k) (mm 4 m))/\((!decide
  (m.k2.kind=1))=false->((decide (m.k2.value<0)||decide (2147483647<m.k2.value))=true->true=true/\aq L/\true=true/\true=true/\true=true/\((!decide (bL L (kk 4 k) (-1)=
  0))=true->(bm.mk (bL L (kk 4 k) (-1)) eB void void void,bq L (kk 4 k) (-1))=aM L n (kk 4 k) (mm 4 m))/\((!decide (bL L (kk 4 k) (-1)=0))=false->(bm.mk 0 eB (bQ L (kk 4 k)
  (-1)) void void,bq L (kk 4 k) (-1))=aM L n (kk 4 k) (mm 4 m)))/\((decide (m.k2.value<0)||decide (2147483647<m.k2.value))=false->true=true/\aq L/\true=true/\true=true/\
  true=true/\((!decide (bL L (kk 4 k) m.k2.value=0))=true->(bm.mk (bL L (kk 4 k) m.k2.value) eB void void void,bq L (kk 4 k) m.k2.value)=aM L n (kk 4 k) (mm 4 m))/\((!decide
  (bL L (kk 4 k) m.k2.value=0))=false->(bm.mk 0 eB (bQ L (kk 4 k) m.k2.value) void void,bq L (kk 4 k) m.k2.value)=aM L n (kk 4 k) (mm 4 m)))):=by
 simp+decide [aM,dJ,dL,dq,ef,dP,dQ,c8,cT,cC,cF,eh,eW,fu,fB,cG,void,dz,eB,aO,dD,eX,ew,kk,mm,hL,hs];try grind
theorem KU (L:List Sx.Obj) (n:Int) (k:Key) (m:bm) (hL:aq L) (hs:aA m.data):ai Tryz.prog 24 [.lp 0 0] [.ro (.blk nb (gK (.ci .i64 4) m n (.ci .i64 4) k)),.store tS eS L] (kO (aM L n ((kk 4 k)) ((mm 4 m)))) (fun _ _=>False):=
 aV (inl:=(fun f=>f==37||f==58||f==68||f==62||f==141||f==102||f==172||f==93||f==64||f==90||f==89||f==38||f==60||f==101||f==105||f==84)) (ann:=aP) (ae cU an) (aF F7 aC) (dT bJ) (Ku L n k m hL hs) (by kernel_rfl)
theorem IK (L:List Sx.Obj) (n:Int) (k:Key) (m:bm) (hL:aq L) (hs:aA m.data):
 true=true/\true=true/\true=true/\true=true/\((!decide (aK L (kk 4 k)=0))=true->(bm.mk (aK L (kk 4 k)) eB void void void,L)=aM L n (kk 4 k) (mm 5 m))/\((!decide (aK
  L (kk 4 k)=0))=false->true=true/\(iD L (kk 4 k) m.k0=true->true=true/\true=true/\(bm.mk 0 eB void void (Key.mk 1 void.oid void.count void.call void.rights 1),L)=aM L n (kk 4
  k) (mm 5 m))/\(iD L (kk 4 k) m.k0=false->true=true/\true=true/\(bm.mk 0 eB void void (Key.mk 1 void.oid void.count void.call void.rights 0),L)=aM L n (kk 4 k) (mm 5 m))):=by
 simp+decide [aM,dJ,dL,dq,ef,dP,dQ,c8,cT,cC,cF,eh,eW,fu,fB,cG,void,dz,eB,aO,dD,eX,ew,kk,mm,hL,hs];try grind
theorem KK (L:List Sx.Obj) (n:Int) (k:Key) (m:bm) (hL:aq L) (hs:aA m.data):ai Tryz.prog 24 [.lp 0 0] [.ro (.blk nb (gK (.ci .i64 5) m n (.ci .i64 4) k)),.store tS eS L] (kO (aM L n ((kk 4 k)) ((mm 5 m)))) (fun _ _=>False):=
 aV (inl:=(fun f=>f==37||f==58||f==68||f==62||f==141||f==102||f==172||f==93||f==64||f==90||f==89||f==38||f==60||f==101||f==105||f==86)) (ann:=aP) (ae LA (ae cU an)) aC (dT bJ) (IK L n k m hL hs) (by kernel_rfl)
theorem HZ (L:List Sx.Obj) (n:Int) (k:Key) (m:bm) (hL:aq L) (hs:aA m.data):
 true=true/\true=true/\true=true/\true=true/\aq L/\true=true/\((!decide (aK L (kk 4 k)=0))=true->(bm.mk (aK L (kk 4 k)) eB void void void,ga L (kk 4 k))=aM L n
  (kk 4 k) (mm 6 m))/\((!decide (aK L (kk 4 k)=0))=false->true=true/\true=true/\(bm.mk 0 eB void void (Key.mk 1 void.oid void.count void.call void.rights (eO L (kk 4 k))),ga L
  (kk 4 k))=aM L n (kk 4 k) (mm 6 m)):=by
 simp+decide [aM,dJ,dL,dq,ef,dP,dQ,c8,cT,cC,cF,eh,eW,fu,fB,cG,void,dz,eB,aO,dD,eX,ew,kk,mm,hL,hs];try grind
theorem L8 (L:List Sx.Obj) (n:Int) (k:Key) (m:bm) (hL:aq L) (hs:aA m.data):ai Tryz.prog 24 [.lp 0 0] [.ro (.blk nb (gK (.ci .i64 6) m n (.ci .i64 4) k)),.store tS eS L] (kO (aM L n ((kk 4 k)) ((mm 6 m)))) (fun _ _=>False):=
 aV (inl:=(fun f=>f==37||f==58||f==68||f==62||f==141||f==102||f==172||f==93||f==64||f==90||f==89||f==38||f==60||f==101||f==105||f==87)) (ann:=aP) (ae cU an) (aF KH aC) (dT bJ) (HZ L n k m hL hs) (by kernel_rfl)
theorem JR (L:List Sx.Obj) (n:Int) (k:Key) (m:bm) (hL:aq L) (hs:aA m.data):
 true=true/\true=true/\true=true/\true=true/\true=true/\true=true/\true=true/\true=true/\((!decide (m.k2.kind=1))=true->(bm.mk 240 eB void void void,L)=aM L n (kk 5
  k) (mm 1 m))/\((!decide (m.k2.kind=1))=false->((decide (m.k2.value<0)||decide (2147483647<m.k2.value))=true->true=true/\(bm.mk 4 eB void void void,L)=aM L n (kk 5 k) (mm 1 m))
  /\((decide (m.k2.value<0)||decide (2147483647<m.k2.value))=false->true=true/\((!(decide (0<=m.k2.value)&&decide (m.k2.value<12)))=true->(bm.mk 4 eB void void void,L)=aM L n
  (kk 5 k) (mm 1 m))/\((!(decide (0<=m.k2.value)&&decide (m.k2.value<12)))=false->aI IntKind.i64 (m.k2.value+4)/\true=true/\true=true/\true=true/\((!decide (bI L (Key.mk 2
  k.oid k.count void.call void.rights void.value) (m.k2.value+4)=0))=true->(bm.mk (bI L (Key.mk 2 k.oid k.count void.call void.rights void.value) (m.k2.value+4)) eB void void void,L)=
  aM L n (kk 5 k) (mm 1 m))/\((!decide (bI L (Key.mk 2 k.oid k.count void.call void.rights void.value) (m.k2.value+4)=0))=false->(bm.mk 0 eB (aE L (Key.mk 2 k.oid k.count void.call
  void.rights void.value) (m.k2.value+4)) void void,L)=aM L n (kk 5 k) (mm 1 m))))):=by
 have hw:Key.mk 2 k.oid k.count void.call void.rights void.value=ew k:=rfl;have e2:∀c,bm.mk c eB void void void=fu c:=fun _=>rfl
 simp only[hw,e2];have hX:=EP (L:=L) (n:=n) (k:=k) (m:=m) (c:=1) (by omega)
 rw[hX];clear hX;by_cases h1:m.k2.kind=1
 case neg=>simp[h1,show cC 5 1=true by decide,hL,hs]
 have hf:¬(cC 5 1=true/\m.k2.kind≠1):=fun h=>h.2 h1
 rw[XQ hf];have hC:cT L (kk 5 k) (mm 1 m)=(if aO m<0\/11<aO m then 4 else bI L (ew k) (aO m+4),eh (aE L (ew k) (aO m+4)),L):=rfl
 rw[hC];clear hC;have e3:∀a,bm.mk 0 eB a void void=eh a:=fun _=>rfl
 simp only[e3];by_cases h2:0<=m.k2.value/\m.k2.value<=2147483647
 ·have hN:aO m=m.k2.value:=by unfold aO;rw[XR h2]
  have hr:aI .i64 (m.k2.value+4):=by simp only[aI,cg];omega
  rw[hN];by_cases h3:11<m.k2.value
  ·have h4:¬m.k2.value<12:=by omega
   simp[h1,h2,h3,h4,sr,hr]<;>omega
  ·have h4:m.k2.value<12:=by omega
   have h5:¬(m.k2.value<0\/11<m.k2.value):=by omega
   simp[h1,h2,h4,h5,sr,hr,hL];grind
 ·have hN:aO m= -1:=by unfold aO;rw[XQ h2]
  rw[hN];simp[h1,sr]<;>omega
theorem H2 (L:List Sx.Obj) (n:Int) (k:Key) (m:bm) (hL:aq L) (hs:aA m.data):ai Tryz.prog 24 [.lp 0 0] [.ro (.blk nb (gK (.ci .i64 1) m n (.ci .i64 5) k)),.store tS eS L] (kO (aM L n ((kk 5 k)) ((mm 1 m)))) (fun _ _=>False):=
 aV (inl:=(fun f=>f==37||f==58||f==68||f==62||f==141||f==102||f==172||f==93||f==64||f==90||f==89||f==38||f==60||f==101||f==105||f==88)) (ann:=aP) (ae qP (ae cU an)) aC (dT bJ) (JR L n k m hL hs) (by kernel_rfl)
theorem Jg (L:List Sx.Obj) (n:Int) (k:Key) (m:bm) (hL:aq L) (hs:aA m.data):
 true=true/\true=true/\true=true/\true=true/\true=true/\true=true/\true=true/\true=true/\((!decide (m.k2.kind=1))=true->(bm.mk 240 eB void void void,L)=aM L n (kk 5
  k) (mm 2 m))/\((!decide (m.k2.kind=1))=false->((decide (m.k2.value<0)||decide (2147483647<m.k2.value))=true->true=true/\(bm.mk 4 eB void void void,L)=aM L n (kk 5 k) (mm 2 m))
  /\((decide (m.k2.value<0)||decide (2147483647<m.k2.value))=false->true=true/\((!(decide (0<=m.k2.value)&&decide (m.k2.value<12)))=true->(bm.mk 4 eB void void void,L)=aM L n
  (kk 5 k) (mm 2 m))/\((!(decide (0<=m.k2.value)&&decide (m.k2.value<12)))=false->aI IntKind.i64 (m.k2.value+4)/\true=true/\aq L/\true=true/\true=true/\true=true/\((!decide
  (bc L (Key.mk 2 k.oid k.count void.call void.rights void.value) (m.k2.value+4) m.k0=0))=true->(bm.mk (bc L (Key.mk 2 k.oid k.count void.call void.rights void.value) (m.k2.value+4)
  m.k0) eB void void void,bZ L (Key.mk 2 k.oid k.count void.call void.rights void.value) (m.k2.value+4) m.k0)=aM L n (kk 5 k) (mm 2 m))/\((!decide (bc L (Key.mk 2 k.oid k.count
  void.call void.rights void.value) (m.k2.value+4) m.k0=0))=false->(bm.mk 0 eB (cA L (Key.mk 2 k.oid k.count void.call void.rights void.value) (m.k2.value+4) m.k0) void void,bZ L
  (Key.mk 2 k.oid k.count void.call void.rights void.value) (m.k2.value+4) m.k0)=aM L n (kk 5 k) (mm 2 m))))):=by
 have hw:Key.mk 2 k.oid k.count void.call void.rights void.value=ew k:=rfl;have e2:∀c,bm.mk c eB void void void=fu c:=fun _=>rfl
 simp only[hw,e2];have hX:=EP (L:=L) (n:=n) (k:=k) (m:=m) (c:=2) (by omega)
 rw[hX];clear hX;by_cases h1:m.k2.kind=1
 case neg=>simp[h1,show cC 5 2=true by decide,hL,hs]
 have hf:¬(cC 5 2=true/\m.k2.kind≠1):=fun h=>h.2 h1
 rw[XQ hf];have hC:cT L (kk 5 k) (mm 2 m)=(if aO m<0\/11<aO m then 4 else bc L (ew k) (aO m+4) m.k0,eh (cA L (ew k) (aO m+4) m.k0),if aO m<0\/11<aO m then L else bZ L (ew k) (aO m+4) m.k0):=rfl
 rw[hC];clear hC;have e3:∀a,bm.mk 0 eB a void void=eh a:=fun _=>rfl
 simp only[e3];by_cases h2:0<=m.k2.value/\m.k2.value<=2147483647
 ·have hN:aO m=m.k2.value:=by unfold aO;rw[XR h2]
  have hr:aI .i64 (m.k2.value+4):=by simp only[aI,cg];omega
  rw[hN];by_cases h3:11<m.k2.value
  ·have h4:¬m.k2.value<12:=by omega
   simp[h1,h2,h3,h4,sr,hr]<;>omega
  ·have h4:m.k2.value<12:=by omega
   have h5:¬(m.k2.value<0\/11<m.k2.value):=by omega
   simp[h1,h2,h4,h5,sr,hr,hL];grind
 ·have hN:aO m= -1:=by unfold aO;rw[XQ h2]
  rw[hN];simp[h1,sr]<;>omega
theorem MB (L:List Sx.Obj) (n:Int) (k:Key) (m:bm) (hL:aq L) (hs:aA m.data):ai Tryz.prog 24 [.lp 0 0] [.ro (.blk nb (gK (.ci .i64 2) m n (.ci .i64 5) k)),.store tS eS L] (kO (aM L n ((kk 5 k)) ((mm 2 m)))) (fun _ _=>False):=
 aV (inl:=(fun f=>f==37||f==58||f==68||f==62||f==141||f==102||f==172||f==93||f==64||f==90||f==89||f==38||f==60||f==101||f==105||f==91)) (ann:=aP) (ae cU an) (aF EA aC) (dT bJ) (Jg L n k m hL hs) (by kernel_rfl)
theorem K4 (L:List Sx.Obj) (n:Int) (k:Key) (m:bm) (hL:aq L) (hs:aA m.data):
 true=true/\true=true/\true=true/\true=true/\true=true/\((!decide (m.k2.kind=1))=true->(bm.mk 240 eB void void void,L)=aM L n (kk 5 k) (mm 3 m))/\((!decide (m.k2.kind=1))=
  false->true=true/\true=true/\true=true/\(bm.mk 0 eB (Key.mk 6 k.oid k.count void.call void.rights m.k2.value) void void,L)=aM L n (kk 5 k) (mm 3 m)):=by
 simp+decide [aM,dJ,dL,dq,ef,dP,dQ,c8,cT,cC,cF,eh,eW,fu,fB,cG,void,dz,eB,aO,dD,eX,ew,kk,mm,hL,hs];try grind
theorem Jr (L:List Sx.Obj) (n:Int) (k:Key) (m:bm) (hL:aq L) (hs:aA m.data):ai Tryz.prog 24 [.lp 0 0] [.ro (.blk nb (gK (.ci .i64 3) m n (.ci .i64 5) k)),.store tS eS L] (kO (aM L n ((kk 5 k)) ((mm 3 m)))) (fun _ _=>False):=
 aV (inl:=(fun f=>f==37||f==58||f==68||f==62||f==141||f==102||f==172||f==93||f==64||f==90||f==89||f==38||f==60||f==101||f==105||f==92)) (ann:=aP) (ae cU an) aC (dT bJ) (K4 L n k m hL hs) (by kernel_rfl)
theorem JF (L:List Sx.Obj) (n:Int) (k:Key) (m:bm) (hL:aq L) (hs:aA m.data):
 true=true/\true=true/\true=true/\((!jj L k.oid)=true->true=true/\true=true/\(bm.mk 0 eB void void (Key.mk 1 void.oid void.count void.call void.rights (-1)),L)=aM L n (kk 5
  k) (mm 4 m))/\((!jj L k.oid)=false->true=true/\true=true/\(bm.mk 0 eB void void (Key.mk 1 void.oid void.count void.call void.rights (pD L k.oid)),L)=aM L n (kk 5 k) (mm 4 m)):=by
 simp+decide [aM,dJ,dL,dq,ef,dP,dQ,c8,cT,cC,cF,eh,eW,fu,fB,cG,void,dz,eB,aO,dD,eX,ew,kk,mm,hL,hs];unfold pD pV;grind
theorem Kn (L:List Sx.Obj) (n:Int) (k:Key) (m:bm) (hL:aq L) (hs:aA m.data):ai Tryz.prog 24 [.lp 0 0] [.ro (.blk nb (gK (.ci .i64 4) m n (.ci .i64 5) k)),.store tS eS L] (kO (aM L n ((kk 5 k)) ((mm 4 m)))) (fun _ _=>False):=
 aV (inl:=(fun f=>f==37||f==58||f==68||f==62||f==141||f==102||f==172||f==93||f==64||f==90||f==89||f==38||f==60||f==101||f==105||f==94)) (ann:=aP) (ae T3 (ae cU an)) aC (dT bJ) (JF L n k m hL hs) (by kernel_rfl)
theorem Ky (L:List Sx.Obj) (n:Int) (k:Key) (m:bm) (hL:aq L) (hs:aA m.data):
 true=true/\true=true/\true=true/\true=true/\true=true/\true=true/\((!decide (m.k2.kind=1))=true->(bm.mk 240 eB void void void,L)=aM L n (kk 5 k) (mm 5 m))/\((!decide
  (m.k2.kind=1))=false->((decide (m.k2.value<0)||decide (2147483647<m.k2.value))=true->true=true/\aq L/\true=true/\true=true/\((!decide (dU L k.oid (-1)=0))=true->
  (bm.mk (dU L k.oid (-1)) eB void void void,iw L k.oid (-1))=aM L n (kk 5 k) (mm 5 m))/\((!decide (dU L k.oid (-1)=0))=false->(bm.mk 0 eB void void void,iw L k.oid (-1))=
  aM L n (kk 5 k) (mm 5 m)))/\((decide (m.k2.value<0)||decide (2147483647<m.k2.value))=false->true=true/\aq L/\true=true/\true=true/\((!decide (dU L k.oid m.k2.value=0))=
  true->(bm.mk (dU L k.oid m.k2.value) eB void void void,iw L k.oid m.k2.value)=aM L n (kk 5 k) (mm 5 m))/\((!decide (dU L k.oid m.k2.value=0))=false->(bm.mk 0 eB void void void,
  iw L k.oid m.k2.value)=aM L n (kk 5 k) (mm 5 m)))):=by
 simp+decide [aM,dJ,dL,dq,ef,dP,dQ,c8,cT,cC,cF,eh,eW,fu,fB,cG,void,dz,eB,aO,dD,eX,ew,kk,mm,hL,hs];try grind
theorem Lb (L:List Sx.Obj) (n:Int) (k:Key) (m:bm) (hL:aq L) (hs:aA m.data):ai Tryz.prog 24 [.lp 0 0] [.ro (.blk nb (gK (.ci .i64 5) m n (.ci .i64 5) k)),.store tS eS L] (kO (aM L n ((kk 5 k)) ((mm 5 m)))) (fun _ _=>False):=
 aV (inl:=(fun f=>f==37||f==58||f==68||f==62||f==141||f==102||f==172||f==93||f==64||f==90||f==89||f==38||f==60||f==101||f==105||f==95)) (ann:=aP) (ae cU an) (aF RU aC) (dT bJ) (Ky L n k m hL hs) (by kernel_rfl)
theorem JI (L:List Sx.Obj) (n:Int) (k:Key) (m:bm) (hL:aq L) (hs:aA m.data):
 true=true/\true=true/\true=true/\true=true/\true=true/\true=true/\((!decide (m.k2.kind=1))=true->(bm.mk 240 eB void void void,L)=aM L n (kk 5 k) (mm 6 m))/\((!decide
  (m.k2.kind=1))=false->true=true/\true=true/\((!decide (bR L (aE L (Key.mk 2 k.oid k.count void.call void.rights void.value) 0) m.k2.value 32=0))=true->(bm.mk (bR L (aE L
  (Key.mk 2 k.oid k.count void.call void.rights void.value) 0) m.k2.value 32) eB void void void,L)=aM L n (kk 5 k) (mm 6 m))/\((!decide (bR L (aE L (Key.mk 2 k.oid k.count void.call
  void.rights void.value) 0) m.k2.value 32=0))=false->((!decide (bH L (aE L (Key.mk 2 k.oid k.count void.call void.rights void.value) 0) m.k2.value 32 false=0))=true->aI IntKind.i64
  (1000+bH L (aE L (Key.mk 2 k.oid k.count void.call void.rights void.value) 0) m.k2.value 32 false)/\(bm.mk (1000+bH L (aE L (Key.mk 2 k.oid k.count void.call void.rights void.value)
  0) m.k2.value 32 false) eB void void void,L)=aM L n (kk 5 k) (mm 6 m))/\((!decide (bH L (aE L (Key.mk 2 k.oid k.count void.call void.rights void.value) 0) m.k2.value 32 false=0))=false
  ->true=true/\true=true/\true=true/\(bm.mk 0 (jz L (aE L (Key.mk 2 k.oid k.count void.call void.rights void.value) 0) m.k2.value 32) void void void,L)=aM L n (kk 5 k) (mm 6 m)))):=by
 have hw:Key.mk 2 k.oid k.count void.call void.rights void.value=ew k:=rfl;have e2:∀c,bm.mk c eB void void void=fu c:=fun _=>rfl
 simp only[hw,e2];have hX:=EP (L:=L) (n:=n) (k:=k) (m:=m) (c:=6) (by omega)
 rw[hX];clear hX;by_cases h1:m.k2.kind=1
 case neg=>simp[h1,show cC 5 6=true by decide,hL,hs]
 have hf:¬(cC 5 6=true/\m.k2.kind≠1):=fun h=>h.2 h1
 rw[XQ hf];have hC:cT L (kk 5 k) (mm 6 m)=(if bR L (eX L k) m.k2.value 32=0 then(if bH L (eX L k) m.k2.value 32 false=0 then 0 else 1000+bH L (eX L k) m.k2.value 32 false)else bR L (eX L k) m.k2.value 32,fB (jz L (eX L k) m.k2.value 32),L):=rfl
 rw[hC];clear hC;have e3:∀s,bm.mk 0 s void void void=fB s:=fun _=>rfl
 have e4:fu 0=dz:=rfl;have hi:=EU (L:=L) (k:=aE L (ew k) 0) (a:=m.k2.value) (n:=32) (w:=false);have hr:aI .i64 (1000+bH L (aE L (ew k) 0) m.k2.value (32) false):=by simp only[aI,cg];omega
 simp only[e3,eX];simp[h1,hr,sr,hL,hs];grind
theorem Ks (L:List Sx.Obj) (n:Int) (k:Key) (m:bm) (hL:aq L) (hs:aA m.data):ai Tryz.prog 24 [.lp 0 0] [.ro (.blk nb (gK (.ci .i64 6) m n (.ci .i64 5) k)),.store tS eS L] (kO (aM L n ((kk 5 k)) ((mm 6 m)))) (fun _ _=>False):=
 aV (inl:=(fun f=>f==37||f==58||f==68||f==62||f==141||f==102||f==172||f==93||f==64||f==90||f==89||f==38||f==60||f==101||f==105||f==97)) (ann:=aP) (ae qP (ae UP (ae cU an))) aC (dT bJ) (JI L n k m hL hs) (by kernel_rfl)
theorem Ik (L:List Sx.Obj) (n:Int) (k:Key) (m:bm) (hL:aq L) (hs:aA m.data):
 true=true/\true=true/\true=true/\true=true/\true=true/\true=true/\((!decide (m.k2.kind=1))=true->(bm.mk 240 eB void void void,L)=aM L n (kk 5 k) (mm 7 m))/\((!decide
  (m.k2.kind=1))=false->true=true/\aA m.data/\(aq L/\aA m.data)/\true=true/\true=true/\((!decide (bR L (aE L (Key.mk 2 k.oid k.count void.call void.rights void.value)
  0) m.k2.value (cc m.data)=0))=true->(bm.mk (bR L (aE L (Key.mk 2 k.oid k.count void.call void.rights void.value) 0) m.k2.value (cc m.data)) eB void void void,ju L (aE L (Key.mk 2
  k.oid k.count void.call void.rights void.value) 0) m.k2.value m.data)=aM L n (kk 5 k) (mm 7 m))/\((!decide (bR L (aE L (Key.mk 2 k.oid k.count void.call void.rights void.value) 0)
  m.k2.value (cc m.data)=0))=false->((!decide (bH L (aE L (Key.mk 2 k.oid k.count void.call void.rights void.value) 0) m.k2.value (cc m.data) true=0))=true->aI IntKind.i64 (1000+
  bH L (aE L (Key.mk 2 k.oid k.count void.call void.rights void.value) 0) m.k2.value (cc m.data) true)/\(bm.mk (1000+bH L (aE L (Key.mk 2 k.oid k.count void.call void.rights void.value)
  0) m.k2.value (cc m.data) true) eB void void void,ju L (aE L (Key.mk 2 k.oid k.count void.call void.rights void.value) 0) m.k2.value m.data)=aM L n (kk 5 k) (mm 7 m))/\((!decide (bH L
  (aE L (Key.mk 2 k.oid k.count void.call void.rights void.value) 0) m.k2.value (cc m.data) true=0))=false->true=true/\true=true/\(bm.mk 0 eB void void void,ju L (aE L (Key.mk 2
  k.oid k.count void.call void.rights void.value) 0) m.k2.value m.data)=aM L n (kk 5 k) (mm 7 m)))):=by
 have hw:Key.mk 2 k.oid k.count void.call void.rights void.value=ew k:=rfl;have e2:∀c,bm.mk c eB void void void=fu c:=fun _=>rfl
 simp only[hw,e2];have hX:=EP (L:=L) (n:=n) (k:=k) (m:=m) (c:=7) (by omega)
 rw[hX];clear hX;by_cases h1:m.k2.kind=1
 case neg=>simp[h1,show cC 5 7=true by decide,hL,hs]
 have hf:¬(cC 5 7=true/\m.k2.kind≠1):=fun h=>h.2 h1
 rw[XQ hf];have hC:cT L (kk 5 k) (mm 7 m)=(if bR L (eX L k) m.k2.value (cc m.data)=0 then(if bH L (eX L k) m.k2.value (cc m.data) true=0 then 0 else 1000+bH L (eX L k) m.k2.value (cc m.data) true)else bR L (eX L k) m.k2.value (cc m.data),dz,ju L (eX L k) m.k2.value m.data):=rfl
 rw[hC];clear hC;have e3:∀s,bm.mk 0 s void void void=fB s:=fun _=>rfl
 have e4:fu 0=dz:=rfl;have hi:=EU (L:=L) (k:=aE L (ew k) 0) (a:=m.k2.value) (n:=cc m.data) (w:=true);have hr:aI .i64 (1000+bH L (aE L (ew k) 0) m.k2.value (cc m.data) true):=by simp only[aI,cg];omega
 simp only[e3,eX];simp[h1,hr,sr,hL,hs];grind
theorem I2 (L:List Sx.Obj) (n:Int) (k:Key) (m:bm) (hL:aq L) (hs:aA m.data):ai Tryz.prog 24 [.lp 0 0] [.ro (.blk nb (gK (.ci .i64 7) m n (.ci .i64 5) k)),.store tS eS L] (kO (aM L n ((kk 5 k)) ((mm 7 m)))) (fun _ _=>False):=
 aV (inl:=(fun f=>f==37||f==58||f==68||f==62||f==141||f==102||f==172||f==93||f==64||f==90||f==89||f==38||f==60||f==101||f==105||f==98)) (ann:=aP) (ae qP (ae cU an)) (aF SY aC) (dT bJ) (Ik L n k m hL hs) (by kernel_rfl)
theorem MH (L:List Sx.Obj) (n:Int) (k:Key) (m:bm) (hL:aq L) (hs:aA m.data):
 true=true/\true=true/\true=true/\true=true/\true=true/\(bm.mk 0 eB void void (Key.mk 1 void.oid void.count void.call void.rights m.k0.kind),L)=aM L n (kk 8 k) (mm 1 m):=by
 simp+decide [aM,dJ,dL,dq,ef,dP,dQ,c8,cT,cC,cF,eh,eW,fu,fB,cG,void,dz,eB,aO,dD,eX,ew,kk,mm,hL,hs];try grind
theorem HI (L:List Sx.Obj) (n:Int) (k:Key) (m:bm) (hL:aq L) (hs:aA m.data):ai Tryz.prog 24 [.lp 0 0] [.ro (.blk nb (gK (.ci .i64 1) m n (.ci .i64 8) k)),.store tS eS L] (kO (aM L n ((kk 8 k)) ((mm 1 m)))) (fun _ _=>False):=
 aV (inl:=(fun f=>f==37||f==58||f==68||f==62||f==141||f==102||f==172||f==93||f==64||f==90||f==89||f==38||f==60||f==101||f==105||f==99)) (ann:=aP) (ae cU an) aC (dT bJ) (MH L n k m hL hs) (by kernel_rfl)
theorem Kh (L:List Sx.Obj) (n:Int) (k:Key) (m:bm) (hL:aq L) (hs:aA m.data):
 true=true/\true=true/\true=true/\true=true/\(ky m.k0 m.k1=true->true=true/\true=true/\(bm.mk 0 eB void void (Key.mk 1 void.oid void.count void.call void.rights 1),L)=aM
  L n (kk 8 k) (mm 2 m))/\(ky m.k0 m.k1=false->true=true/\true=true/\(bm.mk 0 eB void void (Key.mk 1 void.oid void.count void.call void.rights 0),L)=aM L n (kk 8 k) (mm 2 m)):=by
 simp+decide [aM,dJ,dL,dq,ef,dP,dQ,c8,cT,cC,cF,eh,eW,fu,fB,cG,void,dz,eB,aO,dD,eX,ew,kk,mm,hL,hs];try grind
theorem JX (L:List Sx.Obj) (n:Int) (k:Key) (m:bm) (hL:aq L) (hs:aA m.data):ai Tryz.prog 24 [.lp 0 0] [.ro (.blk nb (gK (.ci .i64 2) m n (.ci .i64 8) k)),.store tS eS L] (kO (aM L n ((kk 8 k)) ((mm 2 m)))) (fun _ _=>False):=
 aV (inl:=(fun f=>f==37||f==58||f==68||f==62||f==141||f==102||f==172||f==93||f==64||f==90||f==89||f==38||f==60||f==101||f==105||f==100)) (ann:=aP) (ae OY (ae cU an)) aC (dT bJ) (Kh L n k m hL hs) (by kernel_rfl)
theorem LO (L:List Sx.Obj) (n:Int) (k:Key) (m:bm) (hL:aq L) (hs:aA m.data):
 true=true/\true=true/\true=true/\true=true/\true=true/\(bm.mk 0 eB void void (Key.mk 1 void.oid void.count void.call void.rights m.k0.rights),L)=aM L n (kk 8 k) (mm 3 m):=by
 simp+decide [aM,dJ,dL,dq,ef,dP,dQ,c8,cT,cC,cF,eh,eW,fu,fB,cG,void,dz,eB,aO,dD,eX,ew,kk,mm,hL,hs];try grind
theorem JD (L:List Sx.Obj) (n:Int) (k:Key) (m:bm) (hL:aq L) (hs:aA m.data):ai Tryz.prog 24 [.lp 0 0] [.ro (.blk nb (gK (.ci .i64 3) m n (.ci .i64 8) k)),.store tS eS L] (kO (aM L n ((kk 8 k)) ((mm 3 m)))) (fun _ _=>False):=
 aV (inl:=(fun f=>f==37||f==58||f==68||f==62||f==141||f==102||f==172||f==93||f==64||f==90||f==89||f==38||f==60||f==101||f==105||f==104)) (ann:=aP) (ae cU an) aC (dT bJ) (LO L n k m hL hs) (by kernel_rfl)
theorem Ir (L:List Sx.Obj) (n:Int) (k:Key) (m:bm) (hL:aq L) (hs:aA m.data):
 true=true/\true=true/\true=true/\true=true/\true=true/\(bm.mk 0 eB void void (Key.mk 1 void.oid void.count void.call void.rights n),L)=aM L n (kk 9 k) (mm 1 m):=by
 simp+decide [aM,dJ,dL,dq,ef,dP,dQ,c8,cT,cC,cF,eh,eW,fu,fB,cG,void,dz,eB,aO,dD,eX,ew,kk,mm,hL,hs];try grind
theorem IH (L:List Sx.Obj) (n:Int) (k:Key) (m:bm) (hL:aq L) (hs:aA m.data):ai Tryz.prog 24 [.lp 0 0] [.ro (.blk nb (gK (.ci .i64 1) m n (.ci .i64 9) k)),.store tS eS L] (kO (aM L n ((kk 9 k)) ((mm 1 m)))) (fun _ _=>False):=
 aV (inl:=(fun f=>f==37||f==58||f==68||f==62||f==141||f==102||f==172||f==93||f==64||f==90||f==89||f==38||f==60||f==101||f==105||f==106)) (ann:=aP) (ae cU an) aC (dT bJ) (Ir L n k m hL hs) (by kernel_rfl)
theorem Hw (L:List Sx.Obj) (n:Int) (k:Key) (m:bm) (hL:aq L) (hs:aA m.data):
 true=true/\true=true/\true=true/\(bm.mk 0 eB void void void,L)=aM L n (kk 10 k) (mm 1 m):=by
 simp+decide [aM,dJ,dL,dq,ef,dP,dQ,c8,cT,cC,cF,eh,eW,fu,fB,cG,void,dz,eB,aO,dD,eX,ew,kk,mm,hL,hs];try grind
theorem GV (L:List Sx.Obj) (n:Int) (k:Key) (m:bm) (hL:aq L) (hs:aA m.data):ai Tryz.prog 24 [.lp 0 0] [.ro (.blk nb (gK (.ci .i64 1) m n (.ci .i64 10) k)),.store tS eS L] (kO (aM L n ((kk 10 k)) ((mm 1 m)))) (fun _ _=>False):=
 aV (inl:=(fun f=>f==37||f==58||f==68||f==62||f==141||f==102||f==172||f==93||f==64||f==90||f==89||f==38||f==60||f==101||f==105||f==107)) (ann:=aP) (ae cU an) aC (dT bJ) (Hw L n k m hL hs) (by kernel_rfl)
end Go.Proofs.YtghpaegglbbocaaGreat
