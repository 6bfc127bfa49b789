import Derived.Test.YtghpaegglbbocaaGreatCtRa
import Derived.Test.YtghpaegglbbocaaGreatCtRo
import Derived.Test.YtghpaegglbbocaaGreatCV
set_option linter.unusedSimpArgs false
set_option linter.unusedVariables false
namespace Go.Proofs.YtghpaegglbbocaaGreat
open Go.Sx
set_option maxRecDepth 100000
theorem Kc (L:List Sx.Obj) (n:Int) (k:Key) (m:bm) (hL:aq L) (hs:aw m.data):
 true=true/\true=true/\true=true/\true=true/\true=true/\(bm.mk 0 eB void void (Key.mk 1 void.oid void.count void.call void.rights k.value),L)=aM L n (kk 1 k) (mm 1 m):=by
 simp+decide [aM,dH,dK,dn,ee,dO,dM,cY,cT,cD,cI,eg,e9,fx,fD,cH,void,dg,eB,aO,dB,eZ,eA,kk,mm,hL,hs];try grind
theorem IM (L:List Sx.Obj) (n:Int) (k:Key) (m:bm) (hL:aq L) (hs:aw m.data):ai Tryz.prog 24 [.lp 0 0] [.ro (.blk nr (gK (.ci .i64 1) m n (.ci .i64 1) k)),.store tS eS L] (kO (aM L n ((kk 1 k)) ((mm 1 m)))) (fun _ _=>False):=
 aW (inl:=(fun f=>f==37||f==58||f==68||f==62||f==141||f==102||f==172||f==93||f==64||f==90||f==89||f==38||f==60||f==101||f==105||f==59)) (ann:=aP) (ab cU ak) aC (dT bK) (Kc L n k m hL hs) (by kernel_rfl)
theorem KT (L:List Sx.Obj) (n:Int) (k:Key) (m:bm) (hL:aq L) (hs:aw m.data):
 true=true/\true=true/\true=true/\true=true/\true=true/\true=true/\((!decide (m.k2.kind=1))=true->(bm.mk 240 eB void void void,L)=aM L n (kk 2 k) (mm 1 m))/\((!decide
  (m.k2.kind=1))=false->((decide (m.k2.value<0)||decide (2147483647<m.k2.value))=true->true=true/\true=true/\true=true/\((!decide (bJ L (kk 2 k) (-1)=0))=true->(bm.mk
  (bJ L (kk 2 k) (-1)) eB void void void,L)=aM L n (kk 2 k) (mm 1 m))/\((!decide (bJ L (kk 2 k) (-1)=0))=false->(bm.mk 0 eB (aF L (kk 2 k) (-1)) void void,L)=aM L n (kk 2
  k) (mm 1 m)))/\((decide (m.k2.value<0)||decide (2147483647<m.k2.value))=false->true=true/\true=true/\true=true/\((!decide (bJ L (kk 2 k) m.k2.value=0))=true->(bm.mk
  (bJ L (kk 2 k) m.k2.value) eB void void void,L)=aM L n (kk 2 k) (mm 1 m))/\((!decide (bJ L (kk 2 k) m.k2.value=0))=false->(bm.mk 0 eB (aF L (kk 2 k) m.k2.value) void void,L)
  =aM L n (kk 2 k) (mm 1 m)))):=by
 simp+decide [aM,dH,dK,dn,ee,dO,dM,cY,cT,cD,cI,eg,e9,fx,fD,cH,void,dg,eB,aO,dB,eZ,eA,kk,mm,hL,hs];try grind
theorem Ku (L:List Sx.Obj) (n:Int) (k:Key) (m:bm) (hL:aq L) (hs:aw m.data):ai Tryz.prog 24 [.lp 0 0] [.ro (.blk nr (gK (.ci .i64 1) m n (.ci .i64 2) k)),.store tS eS L] (kO (aM L n ((kk 2 k)) ((mm 1 m)))) (fun _ _=>False):=
 aW (inl:=(fun f=>f==37||f==58||f==68||f==62||f==141||f==102||f==172||f==93||f==64||f==90||f==89||f==38||f==60||f==101||f==105||f==61)) (ann:=aP) (ab qQ (ab cU ak)) aC (dT bK) (KT L n k m hL hs) (by kernel_rfl)
theorem JX (L:List Sx.Obj) (n:Int) (k:Key) (m:bm) (hL:aq L) (hs:aw m.data):
 true=true/\true=true/\true=true/\true=true/\true=true/\true=true/\((!decide (m.k2.kind=1))=true->(bm.mk 240 eB void void void,L)=aM L n (kk 2 k) (mm 2 m))/\((!decide
  (m.k2.kind=1))=false->((decide (m.k2.value<0)||decide (2147483647<m.k2.value))=true->true=true/\aq L/\true=true/\true=true/\true=true/\((!decide (ba L (kk 2 k) (-1)
  m.k0=0))=true->(bm.mk (ba L (kk 2 k) (-1) m.k0) eB void void void,b6 L (kk 2 k) (-1) m.k0)=aM L n (kk 2 k) (mm 2 m))/\((!decide (ba L (kk 2 k) (-1) m.k0=0))=false->
  (bm.mk 0 eB (cz L (kk 2 k) (-1) m.k0) void void,b6 L (kk 2 k) (-1) m.k0)=aM L n (kk 2 k) (mm 2 m)))/\((decide (m.k2.value<0)||decide (2147483647<m.k2.value))=false->true=
  true/\aq L/\true=true/\true=true/\true=true/\((!decide (ba L (kk 2 k) m.k2.value m.k0=0))=true->(bm.mk (ba L (kk 2 k) m.k2.value m.k0) eB void void void,b6 L (kk 2
  k) m.k2.value m.k0)=aM L n (kk 2 k) (mm 2 m))/\((!decide (ba L (kk 2 k) m.k2.value m.k0=0))=false->(bm.mk 0 eB (cz L (kk 2 k) m.k2.value m.k0) void void,b6 L (kk 2 k)
  m.k2.value m.k0)=aM L n (kk 2 k) (mm 2 m)))):=by
 simp+decide [aM,dH,dK,dn,ee,dO,dM,cY,cT,cD,cI,eg,e9,fx,fD,cH,void,dg,eB,aO,dB,eZ,eA,kk,mm,hL,hs];try grind
theorem KN (L:List Sx.Obj) (n:Int) (k:Key) (m:bm) (hL:aq L) (hs:aw m.data):ai Tryz.prog 24 [.lp 0 0] [.ro (.blk nr (gK (.ci .i64 2) m n (.ci .i64 2) k)),.store tS eS L] (kO (aM L n ((kk 2 k)) ((mm 2 m)))) (fun _ _=>False):=
 aW (inl:=(fun f=>f==37||f==58||f==68||f==62||f==141||f==102||f==172||f==93||f==64||f==90||f==89||f==38||f==60||f==101||f==105||f==65)) (ann:=aP) (ab cU ak) (aD FB aC) (dT bK) (JX L n k m hL hs) (by kernel_rfl)
theorem Ke (L:List Sx.Obj) (n:Int) (k:Key) (m:bm) (hL:aq L) (hs:aw m.data):
 true=true/\true=true/\true=true/\true=true/\aq L/\true=true/\true=true/\((!decide (ay L (kk 2 k) 2 true=0))=true->(bm.mk (ay L (kk 2 k) 2 true) eB void void void,
  eQ L (kk 2 k))=aM L n (kk 2 k) (mm 3 m))/\((!decide (ay L (kk 2 k) 2 true=0))=false->(bm.mk 0 eB void void void,eQ L (kk 2 k))=aM L n (kk 2 k) (mm 3 m)):=by
 simp+decide [aM,dH,dK,dn,ee,dO,dM,cY,cT,cD,cI,eg,e9,fx,fD,cH,void,dg,eB,aO,dB,eZ,eA,kk,mm,hL,hs];try grind
theorem M7 (L:List Sx.Obj) (n:Int) (k:Key) (m:bm) (hL:aq L) (hs:aw m.data):ai Tryz.prog 24 [.lp 0 0] [.ro (.blk nr (gK (.ci .i64 3) m n (.ci .i64 2) k)),.store tS eS L] (kO (aM L n ((kk 2 k)) ((mm 3 m)))) (fun _ _=>False):=
 aW (inl:=(fun f=>f==37||f==58||f==68||f==62||f==141||f==102||f==172||f==93||f==64||f==90||f==89||f==38||f==60||f==101||f==105||f==67)) (ann:=aP) (ab cU ak) (aD Oz aC) (dT bK) (Ke L n k m hL hs) (by kernel_rfl)
theorem KC (L:List Sx.Obj) (n:Int) (k:Key) (m:bm) (hL:aq L) (hs:aw m.data):
 true=true/\true=true/\true=true/\true=true/\aq L/\true=true/\true=true/\((!decide (bG L (kk 2 k) m.k0=0))=true->(bm.mk (bG L (kk 2 k) m.k0) eB void void void,
  dV L (kk 2 k) m.k0)=aM L n (kk 2 k) (mm 4 m))/\((!decide (bG L (kk 2 k) m.k0=0))=false->(bm.mk 0 eB void void void,dV L (kk 2 k) m.k0)=aM L n (kk 2 k) (mm 4 m)):=by
 simp+decide [aM,dH,dK,dn,ee,dO,dM,cY,cT,cD,cI,eg,e9,fx,fD,cH,void,dg,eB,aO,dB,eZ,eA,kk,mm,hL,hs];try grind
theorem Li (L:List Sx.Obj) (n:Int) (k:Key) (m:bm) (hL:aq L) (hs:aw m.data):ai Tryz.prog 24 [.lp 0 0] [.ro (.blk nr (gK (.ci .i64 4) m n (.ci .i64 2) k)),.store tS eS L] (kO (aM L n ((kk 2 k)) ((mm 4 m)))) (fun _ _=>False):=
 aW (inl:=(fun f=>f==37||f==58||f==68||f==62||f==141||f==102||f==172||f==93||f==64||f==90||f==89||f==38||f==60||f==101||f==105||f==70)) (ann:=aP) (ab cU ak) (aD Pc aC) (dT bK) (KC L n k m hL hs) (by kernel_rfl)
theorem K8 (L:List Sx.Obj) (n:Int) (k:Key) (m:bm) (hL:aq L) (hs:aw m.data) (hk:aT (kk 2 k)=true):
 true=true/\true=true/\true=true/\true=true/\true=true/\((!decide (m.k2.kind=1))=true->(bm.mk 240 eB void void void,L)=aM L n (kk 2 k) (mm 5 m))/\((!decide (m.k2.kind=1))=
  false->true=true/\((!(decide (0<=m.k2.value)&&decide (m.k2.value<=7)))=true->(bm.mk 2 eB void void void,L)=aM L n (kk 2 k) (mm 5 m))/\((!(decide (0<=m.k2.value)&&decide
  (m.k2.value<=7)))=false->gy (kk 2 k) m.k2.value/\true=true/\true=true/\true=true/\(bm.mk 0 eB (iu (kk 2 k) m.k2.value) void void,L)=aM L n (kk 2 k) (mm 5 m))):=by
 have hX:aM L n (kk 2 k) (mm 5 m)=if m.k2.kind=1 then(if 0<=m.k2.value/\m.k2.value<=7 then(eg (iu (kk 2 k) m.k2.value),L)else(fx 2,L))else(fx 240,L):=by
  by_cases h1:m.k2.kind=1
  ·by_cases h2:0<=m.k2.value/\m.k2.value<=7
   ·simp+decide [aM,dH,dK,dn,ee,dO,dM,cY,cT,cD,cI,eg,e9,fx,fD,cH,void,dg,eB,aO,dB,eZ,eA,kk,mm,h1,h2]
   ·simp+decide [aM,dH,dK,dn,ee,dO,dM,cY,cT,cD,cI,eg,e9,fx,fD,cH,void,dg,eB,aO,dB,eZ,eA,kk,mm,h1,h2]
  ·simp+decide [aM,dH,dK,dn,ee,dO,dM,cY,cT,cD,cI,eg,e9,fx,fD,cH,void,dg,eB,aO,dB,eZ,eA,kk,mm,h1]
 rw[hX];refine⟨rfl,rfl,rfl,rfl,rfl,fun h=>?_,fun h=>⟨rfl,fun h'=>?_,fun h'=>⟨⟨hk,?_⟩,rfl,rfl,rfl,?_⟩⟩⟩
 ·have h:¬m.k2.kind=1:=by simpa using h
  rw[Yp h];rfl
 ·have h:m.k2.kind=1:=by simpa using h
  have h':¬(0<=m.k2.value/\m.k2.value<=7):=fun hh=>by simp[hh.1,hh.2]at h'
  rw[Yq h,Yp h'];rfl
 ·simpa using h'
 ·have h:m.k2.kind=1:=by simpa using h
  have h':0<=m.k2.value/\m.k2.value<=7:=by simpa using h'
  rw[Yq h,Yq h'];rfl
theorem NM (L:List Sx.Obj) (n:Int) (k:Key) (m:bm) (hL:aq L) (hs:aw m.data) (hk:aT (kk 2 k)=true):ai Tryz.prog 24 [.lp 0 0] [.ro (.blk nr (gK (.ci .i64 5) m n (.ci .i64 2) k)),.store tS eS L] (kO (aM L n ((kk 2 k)) ((mm 5 m)))) (fun _ _=>False):=
 aW (inl:=(fun f=>f==37||f==58||f==68||f==62||f==141||f==102||f==172||f==93||f==64||f==90||f==89||f==38||f==60||f==101||f==105||f==72)) (ann:=aP) (ab CR (ab cU ak)) aC (dT bK) (K8 L n k m hL hs hk) (by kernel_rfl)
theorem JI (L:List Sx.Obj) (n:Int) (k:Key) (m:bm) (hL:aq L) (hs:aw m.data):
 true=true/\true=true/\true=true/\true=true/\((!decide (k.rights=0))=true->(bm.mk 191 eB void void void,L)=aM L n (kk 2 k) (mm 6 m))/\((!decide (k.rights=0))=false->true=
  true/\true=true/\true=true/\(bm.mk 0 eB (Key.mk 5 k.oid k.count void.call void.rights void.value) void void,L)=aM L n (kk 2 k) (mm 6 m)):=by
 simp+decide [aM,dH,dK,dn,ee,dO,dM,cY,cT,cD,cI,eg,e9,fx,fD,cH,void,dg,eB,aO,dB,eZ,eA,kk,mm,hL,hs];try grind
theorem Je (L:List Sx.Obj) (n:Int) (k:Key) (m:bm) (hL:aq L) (hs:aw m.data):ai Tryz.prog 24 [.lp 0 0] [.ro (.blk nr (gK (.ci .i64 6) m n (.ci .i64 2) k)),.store tS eS L] (kO (aM L n ((kk 2 k)) ((mm 6 m)))) (fun _ _=>False):=
 aW (inl:=(fun f=>f==37||f==58||f==68||f==62||f==141||f==102||f==172||f==93||f==64||f==90||f==89||f==38||f==60||f==101||f==105||f==73)) (ann:=aP) (ab cU ak) aC (dT bK) (JI L n k m hL hs) (by kernel_rfl)
theorem Kr (L:List Sx.Obj) (n:Int) (k:Key) (m:bm) (hL:aq L) (hs:aw m.data):
 true=true/\true=true/\true=true/\true=true/\true=true/\true=true/\((!decide (m.k2.kind=1))=true->(bm.mk 240 eB void void void,L)=aM L n (kk 3 k) (mm 1 m))/\((!decide
  (m.k2.kind=1))=false->((decide (m.k2.value<0)||decide (2147483647<m.k2.value))=true->true=true/\true=true/\true=true/\((!decide (b7 L (kk 3 k) (-1) (imax 0 (kJ 32
  (Int.ofNat (64+Nat.succ 0))))=0))=true->(bm.mk (b7 L (kk 3 k) (-1) (imax 0 (kJ 32 (Int.ofNat (64+Nat.succ 0))))) eB void void void,L)=aM L n (kk 3 k) (mm 1 m))/\((!decide
  (b7 L (kk 3 k) (-1) (imax 0 (kJ 32 (Int.ofNat (64+Nat.succ 0))))=0))=false->(bm.mk 0 (dQ L (kk 3 k) (-1) (imax 0 (kJ 32 (Int.ofNat (64+Nat.succ 0))))) void void void,L)=
  aM L n (kk 3 k) (mm 1 m)))/\((decide (m.k2.value<0)||decide (2147483647<m.k2.value))=false->aG IntKind.i64 (64-m.k2.value)/\true=true/\true=true/\true=true/\((!decide
  (b7 L (kk 3 k) m.k2.value (imax 0 (kJ 32 (64-m.k2.value)))=0))=true->(bm.mk (b7 L (kk 3 k) m.k2.value (imax 0 (kJ 32 (64-m.k2.value)))) eB void void void,L)=aM L n (kk 3
  k) (mm 1 m))/\((!decide (b7 L (kk 3 k) m.k2.value (imax 0 (kJ 32 (64-m.k2.value)))=0))=false->(bm.mk 0 (dQ L (kk 3 k) m.k2.value (imax 0 (kJ 32 (64-m.k2.value)))) void void
  void,L)=aM L n (kk 3 k) (mm 1 m)))):=by
 have hX:aM L n (kk 3 k) (mm 1 m)=if m.k2.kind=1 then(if b7 L (kk 3 k) (aO m) (pn (aO m))=0 then(fD (dQ L (kk 3 k) (aO m) (pn (aO m))),L)else(fx (b7 L (kk 3 k) (aO m) (pn (aO m))),L))else(fx 240,L):=by
  by_cases h1:m.k2.kind=1
  ·by_cases h2:b7 L (kk 3 k) (aO m) (pn (aO m))=0
   ·simp+decide [aM,dH,dK,dn,ee,dM,cI,show(kk 3 k).kind=3 from rfl,show(mm 1 m).code=1 from rfl,show(mm 1 m).k2=m.k2 from rfl,show aO (mm 1 m)=aO m from rfl,h1,h2]
   ·simp+decide [aM,dH,dK,dn,ee,dM,cI,show(kk 3 k).kind=3 from rfl,show(mm 1 m).code=1 from rfl,show(mm 1 m).k2=m.k2 from rfl,show aO (mm 1 m)=aO m from rfl,h1,h2]
  ·simp+decide [aM,dH,dK,dn,cI,cD,show(kk 3 k).kind=3 from rfl,show(mm 1 m).code=1 from rfl,show(mm 1 m).k2=m.k2 from rfl,h1,dg,fx]
 rw[hX];have e1:∀s,bm.mk 0 s void void void=fD s:=fun _=>rfl
 have e2:∀c,bm.mk c eB void void void=fx c:=fun _=>rfl
 simp only[e1,e2];by_cases h1:m.k2.kind=1
 ·by_cases h2:0<=m.k2.value/\m.k2.value<=2147483647
  ·have hN:aO m=m.k2.value:=by unfold aO;rw[Yq h2]
   have hR:pn m.k2.value=imax 0 (kJ 32 (64-m.k2.value)):=rfl;have hr:aG .i64 (64-m.k2.value):=by simp only[aG,bY];omega
   rw[hN,hR];simp[h1,h2,hr];grind
  ·have hN:aO m= -1:=by unfold aO;rw[Yp h2]
   have hR:pn (-1)=imax 0 (kJ 32 65):=rfl;rw[hN,hR];simp[h1];grind
 ·simp[h1]
theorem JA (L:List Sx.Obj) (n:Int) (k:Key) (m:bm) (hL:aq L) (hs:aw m.data):ai Tryz.prog 24 [.lp 0 0] [.ro (.blk nr (gK (.ci .i64 1) m n (.ci .i64 3) k)),.store tS eS L] (kO (aM L n ((kk 3 k)) ((mm 1 m)))) (fun _ _=>False):=
 aW (inl:=(fun f=>f==37||f==58||f==68||f==62||f==141||f==102||f==172||f==93||f==64||f==90||f==89||f==38||f==60||f==101||f==105||f==74)) (ann:=aP) (ab nK (ab cU ak)) aC (dT bK) (Kr L n k m hL hs) (by kernel_rfl)
theorem MI (L:List Sx.Obj) (n:Int) (k:Key) (m:bm) (hL:aq L) (hs:aw m.data):
 true=true/\true=true/\true=true/\true=true/\true=true/\true=true/\((!decide (m.k2.kind=1))=true->(bm.mk 240 eB void void void,L)=aM L n (kk 3 k) (mm 2 m))/\((!decide
  (m.k2.kind=1))=false->((decide (m.k2.value<0)||decide (2147483647<m.k2.value))=true->true=true/\(aq L/\aw m.data)/\true=true/\true=true/\((!decide (cq L (kk 3 k)
  (-1) m.data=0))=true->(bm.mk (cq L (kk 3 k) (-1) m.data) eB void void void,ec L (kk 3 k) (-1) m.data)=aM L n (kk 3 k) (mm 2 m))/\((!decide (cq L (kk 3 k) (-1) m.data=0))=
  false->(bm.mk 0 eB void void void,ec L (kk 3 k) (-1) m.data)=aM L n (kk 3 k) (mm 2 m)))/\((decide (m.k2.value<0)||decide (2147483647<m.k2.value))=false->true=true/\(aq L/\
  aw m.data)/\true=true/\true=true/\((!decide (cq L (kk 3 k) m.k2.value m.data=0))=true->(bm.mk (cq L (kk 3 k) m.k2.value m.data) eB void void void,ec L (kk 3 k) m.k2.value
  m.data)=aM L n (kk 3 k) (mm 2 m))/\((!decide (cq L (kk 3 k) m.k2.value m.data=0))=false->(bm.mk 0 eB void void void,ec L (kk 3 k) m.k2.value m.data)=aM L n (kk 3 k) (mm 2
  m)))):=by
 simp+decide [aM,dH,dK,dn,ee,dO,dM,cY,cT,cD,cI,eg,e9,fx,fD,cH,void,dg,eB,aO,dB,eZ,eA,kk,mm,hL,hs];try grind
theorem LH (L:List Sx.Obj) (n:Int) (k:Key) (m:bm) (hL:aq L) (hs:aw m.data):ai Tryz.prog 24 [.lp 0 0] [.ro (.blk nr (gK (.ci .i64 2) m n (.ci .i64 3) k)),.store tS eS L] (kO (aM L n ((kk 3 k)) ((mm 2 m)))) (fun _ _=>False):=
 aW (inl:=(fun f=>f==37||f==58||f==68||f==62||f==141||f==102||f==172||f==93||f==64||f==90||f==89||f==38||f==60||f==101||f==105||f==75)) (ann:=aP) (ab cU ak) (aD Bg aC) (dT bK) (MI L n k m hL hs) (by kernel_rfl)
theorem L7 (L:List Sx.Obj) (n:Int) (k:Key) (m:bm) (hL:aq L) (hs:aw m.data):
 true=true/\true=true/\true=true/\true=true/\aq L/\true=true/\true=true/\((!decide (aS L (kk 3 k) true=0))=true->(bm.mk (aS L (kk 3 k) true) eB void void void,
  eD L (kk 3 k))=aM L n (kk 3 k) (mm 3 m))/\((!decide (aS L (kk 3 k) true=0))=false->(bm.mk 0 eB void void void,eD L (kk 3 k))=aM L n (kk 3 k) (mm 3 m)):=by
 simp+decide [aM,dH,dK,dn,ee,dO,dM,cY,cT,cD,cI,eg,e9,fx,fD,cH,void,dg,eB,aO,dB,eZ,eA,kk,mm,hL,hs];try grind
theorem I6 (L:List Sx.Obj) (n:Int) (k:Key) (m:bm) (hL:aq L) (hs:aw m.data):ai Tryz.prog 24 [.lp 0 0] [.ro (.blk nr (gK (.ci .i64 3) m n (.ci .i64 3) k)),.store tS eS L] (kO (aM L n ((kk 3 k)) ((mm 3 m)))) (fun _ _=>False):=
 aW (inl:=(fun f=>f==37||f==58||f==68||f==62||f==141||f==102||f==172||f==93||f==64||f==90||f==89||f==38||f==60||f==101||f==105||f==77)) (ann:=aP) (ab cU ak) (aD Qd aC) (dT bK) (L7 L n k m hL hs) (by kernel_rfl)
theorem Jb (L:List Sx.Obj) (n:Int) (k:Key) (m:bm) (hL:aq L) (hs:aw m.data):
 true=true/\true=true/\true=true/\true=true/\aq L/\true=true/\true=true/\((!decide (cy L (kk 3 k) m.k0=0))=true->(bm.mk (cy L (kk 3 k) m.k0) eB void void void,eT
  L (kk 3 k) m.k0)=aM L n (kk 3 k) (mm 4 m))/\((!decide (cy L (kk 3 k) m.k0=0))=false->(bm.mk 0 eB void void void,eT L (kk 3 k) m.k0)=aM L n (kk 3 k) (mm 4 m)):=by
 simp+decide [aM,dH,dK,dn,ee,dO,dM,cY,cT,cD,cI,eg,e9,fx,fD,cH,void,dg,eB,aO,dB,eZ,eA,kk,mm,hL,hs];try grind
theorem My (L:List Sx.Obj) (n:Int) (k:Key) (m:bm) (hL:aq L) (hs:aw m.data):ai Tryz.prog 24 [.lp 0 0] [.ro (.blk nr (gK (.ci .i64 4) m n (.ci .i64 3) k)),.store tS eS L] (kO (aM L n ((kk 3 k)) ((mm 4 m)))) (fun _ _=>False):=
 aW (inl:=(fun f=>f==37||f==58||f==68||f==62||f==141||f==102||f==172||f==93||f==64||f==90||f==89||f==38||f==60||f==101||f==105||f==79)) (ann:=aP) (ab cU ak) (aD TQ aC) (dT bK) (Jb L n k m hL hs) (by kernel_rfl)
theorem NL (L:List Sx.Obj) (n:Int) (k:Key) (m:bm) (hL:aq L) (hs:aw m.data) (hk:aT (kk 3 k)=true):
 true=true/\true=true/\true=true/\true=true/\true=true/\((!decide (m.k2.kind=1))=true->(bm.mk 240 eB void void void,L)=aM L n (kk 3 k) (mm 5 m))/\((!decide (m.k2.kind=1))=
  false->true=true/\((!(decide (0<=m.k2.value)&&decide (m.k2.value<=7)))=true->(bm.mk 2 eB void void void,L)=aM L n (kk 3 k) (mm 5 m))/\((!(decide (0<=m.k2.value)&&decide
  (m.k2.value<=7)))=false->gy (kk 3 k) m.k2.value/\true=true/\true=true/\true=true/\(bm.mk 0 eB (iu (kk 3 k) m.k2.value) void void,L)=aM L n (kk 3 k) (mm 5 m))):=by
 have hX:aM L n (kk 3 k) (mm 5 m)=if m.k2.kind=1 then(if 0<=m.k2.value/\m.k2.value<=7 then(eg (iu (kk 3 k) m.k2.value),L)else(fx 2,L))else(fx 240,L):=by
  by_cases h1:m.k2.kind=1
  ·by_cases h2:0<=m.k2.value/\m.k2.value<=7
   ·simp+decide [aM,dH,dK,dn,ee,dO,dM,cY,cT,cD,cI,eg,e9,fx,fD,cH,void,dg,eB,aO,dB,eZ,eA,kk,mm,h1,h2]
   ·simp+decide [aM,dH,dK,dn,ee,dO,dM,cY,cT,cD,cI,eg,e9,fx,fD,cH,void,dg,eB,aO,dB,eZ,eA,kk,mm,h1,h2]
  ·simp+decide [aM,dH,dK,dn,ee,dO,dM,cY,cT,cD,cI,eg,e9,fx,fD,cH,void,dg,eB,aO,dB,eZ,eA,kk,mm,h1]
 rw[hX];refine⟨rfl,rfl,rfl,rfl,rfl,fun h=>?_,fun h=>⟨rfl,fun h'=>?_,fun h'=>⟨⟨hk,?_⟩,rfl,rfl,rfl,?_⟩⟩⟩
 ·have h:¬m.k2.kind=1:=by simpa using h
  rw[Yp h];rfl
 ·have h:m.k2.kind=1:=by simpa using h
  have h':¬(0<=m.k2.value/\m.k2.value<=7):=fun hh=>by simp[hh.1,hh.2]at h'
  rw[Yq h,Yp h'];rfl
 ·simpa using h'
 ·have h:m.k2.kind=1:=by simpa using h
  have h':0<=m.k2.value/\m.k2.value<=7:=by simpa using h'
  rw[Yq h,Yq h'];rfl
theorem KQ (L:List Sx.Obj) (n:Int) (k:Key) (m:bm) (hL:aq L) (hs:aw m.data) (hk:aT (kk 3 k)=true):ai Tryz.prog 24 [.lp 0 0] [.ro (.blk nr (gK (.ci .i64 5) m n (.ci .i64 3) k)),.store tS eS L] (kO (aM L n ((kk 3 k)) ((mm 5 m)))) (fun _ _=>False):=
 aW (inl:=(fun f=>f==37||f==58||f==68||f==62||f==141||f==102||f==172||f==93||f==64||f==90||f==89||f==38||f==60||f==101||f==105||f==72)) (ann:=aP) (ab CR (ab cU ak)) aC (dT bK) (NL L n k m hL hs hk) (by kernel_rfl)
theorem Lz (L:List Sx.Obj) (n:Int) (k:Key) (m:bm) (hL:aq L) (hs:aw m.data):
 true=true/\true=true/\true=true/\true=true/\aq L/\true=true/\true=true/\true=true/\((!decide (bX L (kk 4 k) 1=0))=true->(bm.mk (bX L (kk 4 k) 1) eB void void
  void,eI L (kk 4 k) 1)=aM L n (kk 4 k) (mm 1 m))/\((!decide (bX L (kk 4 k) 1=0))=false->(bm.mk 0 eB (cL L (kk 4 k) 1) void void,eI L (kk 4 k) 1)=aM L n (kk 4 k) (mm 1
  m)):=by
 simp+decide [aM,dH,dK,dn,ee,dO,dM,cY,cT,cD,cI,eg,e9,fx,fD,cH,void,dg,eB,aO,dB,eZ,eA,kk,mm,hL,hs];try grind
theorem Ld (L:List Sx.Obj) (n:Int) (k:Key) (m:bm) (hL:aq L) (hs:aw m.data):ai Tryz.prog 24 [.lp 0 0] [.ro (.blk nr (gK (.ci .i64 1) m n (.ci .i64 4) k)),.store tS eS L] (kO (aM L n ((kk 4 k)) ((mm 1 m)))) (fun _ _=>False):=
 aW (inl:=(fun f=>f==37||f==58||f==68||f==62||f==141||f==102||f==172||f==93||f==64||f==90||f==89||f==38||f==60||f==101||f==105||f==149)) (ann:=aP) (ab cU ak) (aD Dw aC) (dT bK) (Lz L n k m hL hs) (by kernel_rfl)
theorem NC (L:List Sx.Obj) (n:Int) (k:Key) (m:bm) (hL:aq L) (hs:aw m.data):
 true=true/\true=true/\true=true/\true=true/\aq L/\true=true/\true=true/\true=true/\((!decide (bX L (kk 4 k) 2=0))=true->(bm.mk (bX L (kk 4 k) 2) eB void void
  void,eI L (kk 4 k) 2)=aM L n (kk 4 k) (mm 2 m))/\((!decide (bX L (kk 4 k) 2=0))=false->(bm.mk 0 eB (cL L (kk 4 k) 2) void void,eI L (kk 4 k) 2)=aM L n (kk 4 k) (mm 2
  m)):=by
 simp+decide [aM,dH,dK,dn,ee,dO,dM,cY,cT,cD,cI,eg,e9,fx,fD,cH,void,dg,eB,aO,dB,eZ,eA,kk,mm,hL,hs];try grind
theorem Il (L:List Sx.Obj) (n:Int) (k:Key) (m:bm) (hL:aq L) (hs:aw m.data):ai Tryz.prog 24 [.lp 0 0] [.ro (.blk nr (gK (.ci .i64 2) m n (.ci .i64 4) k)),.store tS eS L] (kO (aM L n ((kk 4 k)) ((mm 2 m)))) (fun _ _=>False):=
 aW (inl:=(fun f=>f==37||f==58||f==68||f==62||f==141||f==102||f==172||f==93||f==64||f==90||f==89||f==38||f==60||f==101||f==105||f==149)) (ann:=aP) (ab cU ak) (aD Dw aC) (dT bK) (NC L n k m hL hs) (by kernel_rfl)
theorem MW (L:List Sx.Obj) (n:Int) (k:Key) (m:bm) (hL:aq L) (hs:aw m.data):
 true=true/\true=true/\true=true/\true=true/\aq L/\true=true/\true=true/\((!decide (b8 L (kk 4 k) m.k0=0))=true->(bm.mk (b8 L (kk 4 k) m.k0) eB void void void,fI
  L (kk 4 k) m.k0)=aM L n (kk 4 k) (mm 3 m))/\((!decide (b8 L (kk 4 k) m.k0=0))=false->(bm.mk 0 eB void void void,fI L (kk 4 k) m.k0)=aM L n (kk 4 k) (mm 3 m)):=by
 simp+decide [aM,dH,dK,dn,ee,dO,dM,cY,cT,cD,cI,eg,e9,fx,fD,cH,void,dg,eB,aO,dB,eZ,eA,kk,mm,hL,hs];try grind
theorem J7 (L:List Sx.Obj) (n:Int) (k:Key) (m:bm) (hL:aq L) (hs:aw m.data):ai Tryz.prog 24 [.lp 0 0] [.ro (.blk nr (gK (.ci .i64 3) m n (.ci .i64 4) k)),.store tS eS L] (kO (aM L n ((kk 4 k)) ((mm 3 m)))) (fun _ _=>False):=
 aW (inl:=(fun f=>f==37||f==58||f==68||f==62||f==141||f==102||f==172||f==93||f==64||f==90||f==89||f==38||f==60||f==101||f==105||f==82)) (ann:=aP) (ab cU ak) (aD Rj aC) (dT bK) (MW L n k m hL hs) (by kernel_rfl)
theorem LC (L:List Sx.Obj) (n:Int) (k:Key) (m:bm) (hL:aq L) (hs:aw m.data):
 true=true/\true=true/\true=true/\true=true/\true=true/\true=true/\((!decide (m.k2.kind=1))=true->(bm.mk 240 eB void void void,L)=aM L n (kk 4 k) (mm 4 m))/\((!decide
  (m.k2.kind=1))=false->((decide (m.k2.value<0)||decide (2147483647<m.k2.value))=true->true=true/\aq L/\true=true/\true=true/\true=true/\((!decide (bM L (kk 4 k) (-1)=
  0))=true->(bm.mk (bM L (kk 4 k) (-1)) eB void void void,br L (kk 4 k) (-1))=aM L n (kk 4 k) (mm 4 m))/\((!decide (bM L (kk 4 k) (-1)=0))=false->(bm.mk 0 eB (bP L (kk 4 k)
  (-1)) void void,br L (kk 4 k) (-1))=aM L n (kk 4 k) (mm 4 m)))/\((decide (m.k2.value<0)||decide (2147483647<m.k2.value))=false->true=true/\aq L/\true=true/\true=true/\
  true=true/\((!decide (bM L (kk 4 k) m.k2.value=0))=true->(bm.mk (bM L (kk 4 k) m.k2.value) eB void void void,br L (kk 4 k) m.k2.value)=aM L n (kk 4 k) (mm 4 m))/\((!decide
  (bM L (kk 4 k) m.k2.value=0))=false->(bm.mk 0 eB (bP L (kk 4 k) m.k2.value) void void,br L (kk 4 k) m.k2.value)=aM L n (kk 4 k) (mm 4 m)))):=by
 simp+decide [aM,dH,dK,dn,ee,dO,dM,cY,cT,cD,cI,eg,e9,fx,fD,cH,void,dg,eB,aO,dB,eZ,eA,kk,mm,hL,hs];try grind
theorem Jn (L:List Sx.Obj) (n:Int) (k:Key) (m:bm) (hL:aq L) (hs:aw m.data):ai Tryz.prog 24 [.lp 0 0] [.ro (.blk nr (gK (.ci .i64 4) m n (.ci .i64 4) k)),.store tS eS L] (kO (aM L n ((kk 4 k)) ((mm 4 m)))) (fun _ _=>False):=
 aW (inl:=(fun f=>f==37||f==58||f==68||f==62||f==141||f==102||f==172||f==93||f==64||f==90||f==89||f==38||f==60||f==101||f==105||f==84)) (ann:=aP) (ab cU ak) (aD GD aC) (dT bK) (LC L n k m hL hs) (by kernel_rfl)
theorem Mj (L:List Sx.Obj) (n:Int) (k:Key) (m:bm) (hL:aq L) (hs:aw m.data):
 true=true/\true=true/\true=true/\true=true/\((!decide (aK L (kk 4 k)=0))=true->(bm.mk (aK L (kk 4 k)) eB void void void,L)=aM L n (kk 4 k) (mm 5 m))/\((!decide (aK
  L (kk 4 k)=0))=false->true=true/\(iF L (kk 4 k) m.k0=true->true=true/\true=true/\(bm.mk 0 eB void void (Key.mk 1 void.oid void.count void.call void.rights 1),L)=aM L n (kk 4
  k) (mm 5 m))/\(iF L (kk 4 k) m.k0=false->true=true/\true=true/\(bm.mk 0 eB void void (Key.mk 1 void.oid void.count void.call void.rights 0),L)=aM L n (kk 4 k) (mm 5 m))):=by
 simp+decide [aM,dH,dK,dn,ee,dO,dM,cY,cT,cD,cI,eg,e9,fx,fD,cH,void,dg,eB,aO,dB,eZ,eA,kk,mm,hL,hs];try grind
theorem Kh (L:List Sx.Obj) (n:Int) (k:Key) (m:bm) (hL:aq L) (hs:aw m.data):ai Tryz.prog 24 [.lp 0 0] [.ro (.blk nr (gK (.ci .i64 5) m n (.ci .i64 4) k)),.store tS eS L] (kO (aM L n ((kk 4 k)) ((mm 5 m)))) (fun _ _=>False):=
 aW (inl:=(fun f=>f==37||f==58||f==68||f==62||f==141||f==102||f==172||f==93||f==64||f==90||f==89||f==38||f==60||f==101||f==105||f==86)) (ann:=aP) (ab LG (ab cU ak)) aC (dT bK) (Mj L n k m hL hs) (by kernel_rfl)
theorem LF (L:List Sx.Obj) (n:Int) (k:Key) (m:bm) (hL:aq L) (hs:aw m.data):
 true=true/\true=true/\true=true/\true=true/\aq L/\true=true/\((!decide (aK L (kk 4 k)=0))=true->(bm.mk (aK L (kk 4 k)) eB void void void,gi L (kk 4 k))=aM L n
  (kk 4 k) (mm 6 m))/\((!decide (aK L (kk 4 k)=0))=false->true=true/\true=true/\(bm.mk 0 eB void void (Key.mk 1 void.oid void.count void.call void.rights (eL L (kk 4 k))),gi L
  (kk 4 k))=aM L n (kk 4 k) (mm 6 m)):=by
 simp+decide [aM,dH,dK,dn,ee,dO,dM,cY,cT,cD,cI,eg,e9,fx,fD,cH,void,dg,eB,aO,dB,eZ,eA,kk,mm,hL,hs];try grind
theorem Ih (L:List Sx.Obj) (n:Int) (k:Key) (m:bm) (hL:aq L) (hs:aw m.data):ai Tryz.prog 24 [.lp 0 0] [.ro (.blk nr (gK (.ci .i64 6) m n (.ci .i64 4) k)),.store tS eS L] (kO (aM L n ((kk 4 k)) ((mm 6 m)))) (fun _ _=>False):=
 aW (inl:=(fun f=>f==37||f==58||f==68||f==62||f==141||f==102||f==172||f==93||f==64||f==90||f==89||f==38||f==60||f==101||f==105||f==87)) (ann:=aP) (ab cU ak) (aD MX aC) (dT bK) (LF L n k m hL hs) (by kernel_rfl)
theorem Jp (L:List Sx.Obj) (n:Int) (k:Key) (m:bm) (hL:aq L) (hs:aw m.data):
 true=true/\true=true/\true=true/\true=true/\true=true/\true=true/\true=true/\true=true/\((!decide (m.k2.kind=1))=true->(bm.mk 240 eB void void void,L)=aM L n (kk 5
  k) (mm 1 m))/\((!decide (m.k2.kind=1))=false->((decide (m.k2.value<0)||decide (2147483647<m.k2.value))=true->true=true/\(bm.mk 4 eB void void void,L)=aM L n (kk 5 k) (mm 1 m))
  /\((decide (m.k2.value<0)||decide (2147483647<m.k2.value))=false->true=true/\((!(decide (0<=m.k2.value)&&decide (m.k2.value<12)))=true->(bm.mk 4 eB void void void,L)=aM L n
  (kk 5 k) (mm 1 m))/\((!(decide (0<=m.k2.value)&&decide (m.k2.value<12)))=false->aG IntKind.i64 (m.k2.value+4)/\true=true/\true=true/\true=true/\((!decide (bJ L (Key.mk 2
  k.oid k.count void.call void.rights void.value) (m.k2.value+4)=0))=true->(bm.mk (bJ L (Key.mk 2 k.oid k.count void.call void.rights void.value) (m.k2.value+4)) eB void void void,L)=
  aM L n (kk 5 k) (mm 1 m))/\((!decide (bJ L (Key.mk 2 k.oid k.count void.call void.rights void.value) (m.k2.value+4)=0))=false->(bm.mk 0 eB (aF L (Key.mk 2 k.oid k.count void.call
  void.rights void.value) (m.k2.value+4)) void void,L)=aM L n (kk 5 k) (mm 1 m))))):=by
 have hw:Key.mk 2 k.oid k.count void.call void.rights void.value=eA k:=rfl;have e2:∀c,bm.mk c eB void void void=fx c:=fun _=>rfl
 simp only[hw,e2];have hX:=FW (L:=L) (n:=n) (k:=k) (m:=m) (c:=1) (by omega)
 rw[hX];clear hX;by_cases h1:m.k2.kind=1
 case neg=>simp[h1,show cD 5 1=true by decide,hL,hs]
 have hf:¬(cD 5 1=true/\m.k2.kind≠1):=fun h=>h.2 h1
 rw[Yp hf];have hC:cT L (kk 5 k) (mm 1 m)=(if aO m<0\/11<aO m then 4 else bJ L (eA k) (aO m+4),eg (aF L (eA k) (aO m+4)),L):=rfl
 rw[hC];clear hC;have e3:∀a,bm.mk 0 eB a void void=eg a:=fun _=>rfl
 simp only[e3];by_cases h2:0<=m.k2.value/\m.k2.value<=2147483647
 ·have hN:aO m=m.k2.value:=by unfold aO;rw[Yq h2]
  have hr:aG .i64 (m.k2.value+4):=by simp only[aG,bY];omega
  rw[hN];by_cases h3:11<m.k2.value
  ·have h4:¬m.k2.value<12:=by omega
   simp[h1,h2,h3,h4,sZ,hr]<;>omega
  ·have h4:m.k2.value<12:=by omega
   have h5:¬(m.k2.value<0\/11<m.k2.value):=by omega
   simp[h1,h2,h4,h5,sZ,hr,hL];grind
 ·have hN:aO m= -1:=by unfold aO;rw[Yp h2]
  rw[hN];simp[h1,sZ]<;>omega
theorem Kt (L:List Sx.Obj) (n:Int) (k:Key) (m:bm) (hL:aq L) (hs:aw m.data):ai Tryz.prog 24 [.lp 0 0] [.ro (.blk nr (gK (.ci .i64 1) m n (.ci .i64 5) k)),.store tS eS L] (kO (aM L n ((kk 5 k)) ((mm 1 m)))) (fun _ _=>False):=
 aW (inl:=(fun f=>f==37||f==58||f==68||f==62||f==141||f==102||f==172||f==93||f==64||f==90||f==89||f==38||f==60||f==101||f==105||f==88)) (ann:=aP) (ab qQ (ab cU ak)) aC (dT bK) (Jp L n k m hL hs) (by kernel_rfl)
theorem J5 (L:List Sx.Obj) (n:Int) (k:Key) (m:bm) (hL:aq L) (hs:aw m.data):
 true=true/\true=true/\true=true/\true=true/\true=true/\true=true/\true=true/\true=true/\((!decide (m.k2.kind=1))=true->(bm.mk 240 eB void void void,L)=aM L n (kk 5
  k) (mm 2 m))/\((!decide (m.k2.kind=1))=false->((decide (m.k2.value<0)||decide (2147483647<m.k2.value))=true->true=true/\(bm.mk 4 eB void void void,L)=aM L n (kk 5 k) (mm 2 m))
  /\((decide (m.k2.value<0)||decide (2147483647<m.k2.value))=false->true=true/\((!(decide (0<=m.k2.value)&&decide (m.k2.value<12)))=true->(bm.mk 4 eB void void void,L)=aM L n
  (kk 5 k) (mm 2 m))/\((!(decide (0<=m.k2.value)&&decide (m.k2.value<12)))=false->aG IntKind.i64 (m.k2.value+4)/\true=true/\aq L/\true=true/\true=true/\true=true/\((!decide
  (ba L (Key.mk 2 k.oid k.count void.call void.rights void.value) (m.k2.value+4) m.k0=0))=true->(bm.mk (ba L (Key.mk 2 k.oid k.count void.call void.rights void.value) (m.k2.value+4)
  m.k0) eB void void void,b6 L (Key.mk 2 k.oid k.count void.call void.rights void.value) (m.k2.value+4) m.k0)=aM L n (kk 5 k) (mm 2 m))/\((!decide (ba L (Key.mk 2 k.oid k.count
  void.call void.rights void.value) (m.k2.value+4) m.k0=0))=false->(bm.mk 0 eB (cz L (Key.mk 2 k.oid k.count void.call void.rights void.value) (m.k2.value+4) m.k0) void void,b6 L
  (Key.mk 2 k.oid k.count void.call void.rights void.value) (m.k2.value+4) m.k0)=aM L n (kk 5 k) (mm 2 m))))):=by
 have hw:Key.mk 2 k.oid k.count void.call void.rights void.value=eA k:=rfl;have e2:∀c,bm.mk c eB void void void=fx c:=fun _=>rfl
 simp only[hw,e2];have hX:=FW (L:=L) (n:=n) (k:=k) (m:=m) (c:=2) (by omega)
 rw[hX];clear hX;by_cases h1:m.k2.kind=1
 case neg=>simp[h1,show cD 5 2=true by decide,hL,hs]
 have hf:¬(cD 5 2=true/\m.k2.kind≠1):=fun h=>h.2 h1
 rw[Yp hf];have hC:cT L (kk 5 k) (mm 2 m)=(if aO m<0\/11<aO m then 4 else ba L (eA k) (aO m+4) m.k0,eg (cz L (eA k) (aO m+4) m.k0),if aO m<0\/11<aO m then L else b6 L (eA k) (aO m+4) m.k0):=rfl
 rw[hC];clear hC;have e3:∀a,bm.mk 0 eB a void void=eg a:=fun _=>rfl
 simp only[e3];by_cases h2:0<=m.k2.value/\m.k2.value<=2147483647
 ·have hN:aO m=m.k2.value:=by unfold aO;rw[Yq h2]
  have hr:aG .i64 (m.k2.value+4):=by simp only[aG,bY];omega
  rw[hN];by_cases h3:11<m.k2.value
  ·have h4:¬m.k2.value<12:=by omega
   simp[h1,h2,h3,h4,sZ,hr]<;>omega
  ·have h4:m.k2.value<12:=by omega
   have h5:¬(m.k2.value<0\/11<m.k2.value):=by omega
   simp[h1,h2,h4,h5,sZ,hr,hL];grind
 ·have hN:aO m= -1:=by unfold aO;rw[Yp h2]
  rw[hN];simp[h1,sZ]<;>omega
theorem JD (L:List Sx.Obj) (n:Int) (k:Key) (m:bm) (hL:aq L) (hs:aw m.data):ai Tryz.prog 24 [.lp 0 0] [.ro (.blk nr (gK (.ci .i64 2) m n (.ci .i64 5) k)),.store tS eS L] (kO (aM L n ((kk 5 k)) ((mm 2 m)))) (fun _ _=>False):=
 aW (inl:=(fun f=>f==37||f==58||f==68||f==62||f==141||f==102||f==172||f==93||f==64||f==90||f==89||f==38||f==60||f==101||f==105||f==91)) (ann:=aP) (ab cU ak) (aD FB aC) (dT bK) (J5 L n k m hL hs) (by kernel_rfl)
theorem Ly (L:List Sx.Obj) (n:Int) (k:Key) (m:bm) (hL:aq L) (hs:aw m.data):
 true=true/\true=true/\true=true/\true=true/\true=true/\((!decide (m.k2.kind=1))=true->(bm.mk 240 eB void void void,L)=aM L n (kk 5 k) (mm 3 m))/\((!decide (m.k2.kind=1))=
  false->true=true/\true=true/\true=true/\(bm.mk 0 eB (Key.mk 6 k.oid k.count void.call void.rights m.k2.value) void void,L)=aM L n (kk 5 k) (mm 3 m)):=by
 simp+decide [aM,dH,dK,dn,ee,dO,dM,cY,cT,cD,cI,eg,e9,fx,fD,cH,void,dg,eB,aO,dB,eZ,eA,kk,mm,hL,hs];try grind
theorem Mn (L:List Sx.Obj) (n:Int) (k:Key) (m:bm) (hL:aq L) (hs:aw m.data):ai Tryz.prog 24 [.lp 0 0] [.ro (.blk nr (gK (.ci .i64 3) m n (.ci .i64 5) k)),.store tS eS L] (kO (aM L n ((kk 5 k)) ((mm 3 m)))) (fun _ _=>False):=
 aW (inl:=(fun f=>f==37||f==58||f==68||f==62||f==141||f==102||f==172||f==93||f==64||f==90||f==89||f==38||f==60||f==101||f==105||f==92)) (ann:=aP) (ab cU ak) aC (dT bK) (Ly L n k m hL hs) (by kernel_rfl)
theorem J0 (L:List Sx.Obj) (n:Int) (k:Key) (m:bm) (hL:aq L) (hs:aw m.data):
 true=true/\true=true/\true=true/\((!jo L k.oid)=true->true=true/\true=true/\(bm.mk 0 eB void void (Key.mk 1 void.oid void.count void.call void.rights (-1)),L)=aM L n (kk 5
  k) (mm 4 m))/\((!jo L k.oid)=false->true=true/\true=true/\(bm.mk 0 eB void void (Key.mk 1 void.oid void.count void.call void.rights (p6 L k.oid)),L)=aM L n (kk 5 k) (mm 4 m)):=by
 simp+decide [aM,dH,dK,dn,ee,dO,dM,cY,cT,cD,cI,eg,e9,fx,fD,cH,void,dg,eB,aO,dB,eZ,eA,kk,mm,hL,hs];unfold p6 qt;grind
theorem MZ (L:List Sx.Obj) (n:Int) (k:Key) (m:bm) (hL:aq L) (hs:aw m.data):ai Tryz.prog 24 [.lp 0 0] [.ro (.blk nr (gK (.ci .i64 4) m n (.ci .i64 5) k)),.store tS eS L] (kO (aM L n ((kk 5 k)) ((mm 4 m)))) (fun _ _=>False):=
 aW (inl:=(fun f=>f==37||f==58||f==68||f==62||f==141||f==102||f==172||f==93||f==64||f==90||f==89||f==38||f==60||f==101||f==105||f==94)) (ann:=aP) (ab S6 (ab cU ak)) aC (dT bK) (J0 L n k m hL hs) (by kernel_rfl)
theorem Ls (L:List Sx.Obj) (n:Int) (k:Key) (m:bm) (hL:aq L) (hs:aw m.data):
 true=true/\true=true/\true=true/\true=true/\true=true/\true=true/\((!decide (m.k2.kind=1))=true->(bm.mk 240 eB void void void,L)=aM L n (kk 5 k) (mm 5 m))/\((!decide
  (m.k2.kind=1))=false->((decide (m.k2.value<0)||decide (2147483647<m.k2.value))=true->true=true/\aq L/\true=true/\true=true/\((!decide (ea L k.oid (-1)=0))=true->
  (bm.mk (ea L k.oid (-1)) eB void void void,iK L k.oid (-1))=aM L n (kk 5 k) (mm 5 m))/\((!decide (ea L k.oid (-1)=0))=false->(bm.mk 0 eB void void void,iK L k.oid (-1))=
  aM L n (kk 5 k) (mm 5 m)))/\((decide (m.k2.value<0)||decide (2147483647<m.k2.value))=false->true=true/\aq L/\true=true/\true=true/\((!decide (ea L k.oid m.k2.value=0))=
  true->(bm.mk (ea L k.oid m.k2.value) eB void void void,iK L k.oid m.k2.value)=aM L n (kk 5 k) (mm 5 m))/\((!decide (ea L k.oid m.k2.value=0))=false->(bm.mk 0 eB void void void,
  iK L k.oid m.k2.value)=aM L n (kk 5 k) (mm 5 m)))):=by
 simp+decide [aM,dH,dK,dn,ee,dO,dM,cY,cT,cD,cI,eg,e9,fx,fD,cH,void,dg,eB,aO,dB,eZ,eA,kk,mm,hL,hs];try grind
theorem Ki (L:List Sx.Obj) (n:Int) (k:Key) (m:bm) (hL:aq L) (hs:aw m.data):ai Tryz.prog 24 [.lp 0 0] [.ro (.blk nr (gK (.ci .i64 5) m n (.ci .i64 5) k)),.store tS eS L] (kO (aM L n ((kk 5 k)) ((mm 5 m)))) (fun _ _=>False):=
 aW (inl:=(fun f=>f==37||f==58||f==68||f==62||f==141||f==102||f==172||f==93||f==64||f==90||f==89||f==38||f==60||f==101||f==105||f==95)) (ann:=aP) (ab cU ak) (aD S5 aC) (dT bK) (Ls L n k m hL hs) (by kernel_rfl)
theorem Mo (L:List Sx.Obj) (n:Int) (k:Key) (m:bm) (hL:aq L) (hs:aw m.data):
 true=true/\true=true/\true=true/\true=true/\true=true/\true=true/\((!decide (m.k2.kind=1))=true->(bm.mk 240 eB void void void,L)=aM L n (kk 5 k) (mm 6 m))/\((!decide
  (m.k2.kind=1))=false->true=true/\true=true/\((!decide (bQ L (aF L (Key.mk 2 k.oid k.count void.call void.rights void.value) 0) m.k2.value 32=0))=true->(bm.mk (bQ L (aF L
  (Key.mk 2 k.oid k.count void.call void.rights void.value) 0) m.k2.value 32) eB void void void,L)=aM L n (kk 5 k) (mm 6 m))/\((!decide (bQ L (aF L (Key.mk 2 k.oid k.count void.call
  void.rights void.value) 0) m.k2.value 32=0))=false->((!decide (bH L (aF L (Key.mk 2 k.oid k.count void.call void.rights void.value) 0) m.k2.value 32 false=0))=true->aG IntKind.i64
  (1000+bH L (aF L (Key.mk 2 k.oid k.count void.call void.rights void.value) 0) m.k2.value 32 false)/\(bm.mk (1000+bH L (aF L (Key.mk 2 k.oid k.count void.call void.rights void.value)
  0) m.k2.value 32 false) eB void void void,L)=aM L n (kk 5 k) (mm 6 m))/\((!decide (bH L (aF L (Key.mk 2 k.oid k.count void.call void.rights void.value) 0) m.k2.value 32 false=0))=false
  ->true=true/\true=true/\true=true/\(bm.mk 0 (jH L (aF L (Key.mk 2 k.oid k.count void.call void.rights void.value) 0) m.k2.value 32) void void void,L)=aM L n (kk 5 k) (mm 6 m)))):=by
 have hw:Key.mk 2 k.oid k.count void.call void.rights void.value=eA k:=rfl;have e2:∀c,bm.mk c eB void void void=fx c:=fun _=>rfl
 simp only[hw,e2];have hX:=FW (L:=L) (n:=n) (k:=k) (m:=m) (c:=6) (by omega)
 rw[hX];clear hX;by_cases h1:m.k2.kind=1
 case neg=>simp[h1,show cD 5 6=true by decide,hL,hs]
 have hf:¬(cD 5 6=true/\m.k2.kind≠1):=fun h=>h.2 h1
 rw[Yp hf];have hC:cT L (kk 5 k) (mm 6 m)=(if bQ L (eZ L k) m.k2.value 32=0 then(if bH L (eZ L k) m.k2.value 32 false=0 then 0 else 1000+bH L (eZ L k) m.k2.value 32 false)else bQ L (eZ L k) m.k2.value 32,fD (jH L (eZ L k) m.k2.value 32),L):=rfl
 rw[hC];clear hC;have e3:∀s,bm.mk 0 s void void void=fD s:=fun _=>rfl
 have e4:fx 0=dg:=rfl;have hi:=Gq (L:=L) (k:=aF L (eA k) 0) (a:=m.k2.value) (n:=32) (w:=false);have hr:aG .i64 (1000+bH L (aF L (eA k) 0) m.k2.value (32) false):=by simp only[aG,bY];omega
 simp only[e3,eZ];simp[h1,hr,sZ,hL,hs];grind
theorem IJ (L:List Sx.Obj) (n:Int) (k:Key) (m:bm) (hL:aq L) (hs:aw m.data):ai Tryz.prog 24 [.lp 0 0] [.ro (.blk nr (gK (.ci .i64 6) m n (.ci .i64 5) k)),.store tS eS L] (kO (aM L n ((kk 5 k)) ((mm 6 m)))) (fun _ _=>False):=
 aW (inl:=(fun f=>f==37||f==58||f==68||f==62||f==141||f==102||f==172||f==93||f==64||f==90||f==89||f==38||f==60||f==101||f==105||f==97)) (ann:=aP) (ab qQ (ab VJ (ab cU ak))) aC (dT bK) (Mo L n k m hL hs) (by kernel_rfl)
theorem MK (L:List Sx.Obj) (n:Int) (k:Key) (m:bm) (hL:aq L) (hs:aw m.data):
 true=true/\true=true/\true=true/\true=true/\true=true/\true=true/\((!decide (m.k2.kind=1))=true->(bm.mk 240 eB void void void,L)=aM L n (kk 5 k) (mm 7 m))/\((!decide
  (m.k2.kind=1))=false->true=true/\aw m.data/\(aq L/\aw m.data)/\true=true/\true=true/\((!decide (bQ L (aF L (Key.mk 2 k.oid k.count void.call void.rights void.value)
  0) m.k2.value (bW m.data)=0))=true->(bm.mk (bQ L (aF L (Key.mk 2 k.oid k.count void.call void.rights void.value) 0) m.k2.value (bW m.data)) eB void void void,jz L (aF L (Key.mk 2
  k.oid k.count void.call void.rights void.value) 0) m.k2.value m.data)=aM L n (kk 5 k) (mm 7 m))/\((!decide (bQ L (aF L (Key.mk 2 k.oid k.count void.call void.rights void.value) 0)
  m.k2.value (bW m.data)=0))=false->((!decide (bH L (aF L (Key.mk 2 k.oid k.count void.call void.rights void.value) 0) m.k2.value (bW m.data) true=0))=true->aG IntKind.i64 (1000+
  bH L (aF L (Key.mk 2 k.oid k.count void.call void.rights void.value) 0) m.k2.value (bW m.data) true)/\(bm.mk (1000+bH L (aF L (Key.mk 2 k.oid k.count void.call void.rights void.value)
  0) m.k2.value (bW m.data) true) eB void void void,jz L (aF L (Key.mk 2 k.oid k.count void.call void.rights void.value) 0) m.k2.value m.data)=aM L n (kk 5 k) (mm 7 m))/\((!decide (bH L
  (aF L (Key.mk 2 k.oid k.count void.call void.rights void.value) 0) m.k2.value (bW m.data) true=0))=false->true=true/\true=true/\(bm.mk 0 eB void void void,jz L (aF L (Key.mk 2
  k.oid k.count void.call void.rights void.value) 0) m.k2.value m.data)=aM L n (kk 5 k) (mm 7 m)))):=by
 have hw:Key.mk 2 k.oid k.count void.call void.rights void.value=eA k:=rfl;have e2:∀c,bm.mk c eB void void void=fx c:=fun _=>rfl
 simp only[hw,e2];have hX:=FW (L:=L) (n:=n) (k:=k) (m:=m) (c:=7) (by omega)
 rw[hX];clear hX;by_cases h1:m.k2.kind=1
 case neg=>simp[h1,show cD 5 7=true by decide,hL,hs]
 have hf:¬(cD 5 7=true/\m.k2.kind≠1):=fun h=>h.2 h1
 rw[Yp hf];have hC:cT L (kk 5 k) (mm 7 m)=(if bQ L (eZ L k) m.k2.value (bW m.data)=0 then(if bH L (eZ L k) m.k2.value (bW m.data) true=0 then 0 else 1000+bH L (eZ L k) m.k2.value (bW m.data) true)else bQ L (eZ L k) m.k2.value (bW m.data),dg,jz L (eZ L k) m.k2.value m.data):=rfl
 rw[hC];clear hC;have e3:∀s,bm.mk 0 s void void void=fD s:=fun _=>rfl
 have e4:fx 0=dg:=rfl;have hi:=Gq (L:=L) (k:=aF L (eA k) 0) (a:=m.k2.value) (n:=bW m.data) (w:=true);have hr:aG .i64 (1000+bH L (aF L (eA k) 0) m.k2.value (bW m.data) true):=by simp only[aG,bY];omega
 simp only[e3,eZ];simp[h1,hr,sZ,hL,hs];grind
theorem Js (L:List Sx.Obj) (n:Int) (k:Key) (m:bm) (hL:aq L) (hs:aw m.data):ai Tryz.prog 24 [.lp 0 0] [.ro (.blk nr (gK (.ci .i64 7) m n (.ci .i64 5) k)),.store tS eS L] (kO (aM L n ((kk 5 k)) ((mm 7 m)))) (fun _ _=>False):=
 aW (inl:=(fun f=>f==37||f==58||f==68||f==62||f==141||f==102||f==172||f==93||f==64||f==90||f==89||f==38||f==60||f==101||f==105||f==98)) (ann:=aP) (ab qQ (ab cU ak)) (aD Tc aC) (dT bK) (MK L n k m hL hs) (by kernel_rfl)
theorem I5 (L:List Sx.Obj) (n:Int) (k:Key) (m:bm) (hL:aq L) (hs:aw m.data):
 true=true/\true=true/\true=true/\true=true/\true=true/\(bm.mk 0 eB void void (Key.mk 1 void.oid void.count void.call void.rights m.k0.kind),L)=aM L n (kk 8 k) (mm 1 m):=by
 simp+decide [aM,dH,dK,dn,ee,dO,dM,cY,cT,cD,cI,eg,e9,fx,fD,cH,void,dg,eB,aO,dB,eZ,eA,kk,mm,hL,hs];try grind
theorem JY (L:List Sx.Obj) (n:Int) (k:Key) (m:bm) (hL:aq L) (hs:aw m.data):ai Tryz.prog 24 [.lp 0 0] [.ro (.blk nr (gK (.ci .i64 1) m n (.ci .i64 8) k)),.store tS eS L] (kO (aM L n ((kk 8 k)) ((mm 1 m)))) (fun _ _=>False):=
 aW (inl:=(fun f=>f==37||f==58||f==68||f==62||f==141||f==102||f==172||f==93||f==64||f==90||f==89||f==38||f==60||f==101||f==105||f==99)) (ann:=aP) (ab cU ak) aC (dT bK) (I5 L n k m hL hs) (by kernel_rfl)
theorem Mc (L:List Sx.Obj) (n:Int) (k:Key) (m:bm) (hL:aq L) (hs:aw m.data):
 true=true/\true=true/\true=true/\true=true/\(kF m.k0 m.k1=true->true=true/\true=true/\(bm.mk 0 eB void void (Key.mk 1 void.oid void.count void.call void.rights 1),L)=aM
  L n (kk 8 k) (mm 2 m))/\(kF m.k0 m.k1=false->true=true/\true=true/\(bm.mk 0 eB void void (Key.mk 1 void.oid void.count void.call void.rights 0),L)=aM L n (kk 8 k) (mm 2 m)):=by
 simp+decide [aM,dH,dK,dn,ee,dO,dM,cY,cT,cD,cI,eg,e9,fx,fD,cH,void,dg,eB,aO,dB,eZ,eA,kk,mm,hL,hs];try grind
theorem Mf (L:List Sx.Obj) (n:Int) (k:Key) (m:bm) (hL:aq L) (hs:aw m.data):ai Tryz.prog 24 [.lp 0 0] [.ro (.blk nr (gK (.ci .i64 2) m n (.ci .i64 8) k)),.store tS eS L] (kO (aM L n ((kk 8 k)) ((mm 2 m)))) (fun _ _=>False):=
 aW (inl:=(fun f=>f==37||f==58||f==68||f==62||f==141||f==102||f==172||f==93||f==64||f==90||f==89||f==38||f==60||f==101||f==105||f==100)) (ann:=aP) (ab Qy (ab cU ak)) aC (dT bK) (Mc L n k m hL hs) (by kernel_rfl)
theorem LX (L:List Sx.Obj) (n:Int) (k:Key) (m:bm) (hL:aq L) (hs:aw m.data):
 true=true/\true=true/\true=true/\true=true/\true=true/\(bm.mk 0 eB void void (Key.mk 1 void.oid void.count void.call void.rights m.k0.rights),L)=aM L n (kk 8 k) (mm 3 m):=by
 simp+decide [aM,dH,dK,dn,ee,dO,dM,cY,cT,cD,cI,eg,e9,fx,fD,cH,void,dg,eB,aO,dB,eZ,eA,kk,mm,hL,hs];try grind
theorem MH (L:List Sx.Obj) (n:Int) (k:Key) (m:bm) (hL:aq L) (hs:aw m.data):ai Tryz.prog 24 [.lp 0 0] [.ro (.blk nr (gK (.ci .i64 3) m n (.ci .i64 8) k)),.store tS eS L] (kO (aM L n ((kk 8 k)) ((mm 3 m)))) (fun _ _=>False):=
 aW (inl:=(fun f=>f==37||f==58||f==68||f==62||f==141||f==102||f==172||f==93||f==64||f==90||f==89||f==38||f==60||f==101||f==105||f==104)) (ann:=aP) (ab cU ak) aC (dT bK) (LX L n k m hL hs) (by kernel_rfl)
theorem JT (L:List Sx.Obj) (n:Int) (k:Key) (m:bm) (hL:aq L) (hs:aw m.data):
 true=true/\true=true/\true=true/\true=true/\true=true/\(bm.mk 0 eB void void (Key.mk 1 void.oid void.count void.call void.rights n),L)=aM L n (kk 9 k) (mm 1 m):=by
 simp+decide [aM,dH,dK,dn,ee,dO,dM,cY,cT,cD,cI,eg,e9,fx,fD,cH,void,dg,eB,aO,dB,eZ,eA,kk,mm,hL,hs];try grind
theorem Ig (L:List Sx.Obj) (n:Int) (k:Key) (m:bm) (hL:aq L) (hs:aw m.data):ai Tryz.prog 24 [.lp 0 0] [.ro (.blk nr (gK (.ci .i64 1) m n (.ci .i64 9) k)),.store tS eS L] (kO (aM L n ((kk 9 k)) ((mm 1 m)))) (fun _ _=>False):=
 aW (inl:=(fun f=>f==37||f==58||f==68||f==62||f==141||f==102||f==172||f==93||f==64||f==90||f==89||f==38||f==60||f==101||f==105||f==106)) (ann:=aP) (ab cU ak) aC (dT bK) (JT L n k m hL hs) (by kernel_rfl)
theorem Ha (L:List Sx.Obj) (n:Int) (k:Key) (m:bm) (hL:aq L) (hs:aw m.data):
 true=true/\true=true/\true=true/\(bm.mk 0 eB void void void,L)=aM L n (kk 10 k) (mm 1 m):=by
 simp+decide [aM,dH,dK,dn,ee,dO,dM,cY,cT,cD,cI,eg,e9,fx,fD,cH,void,dg,eB,aO,dB,eZ,eA,kk,mm,hL,hs];try grind
theorem HB (L:List Sx.Obj) (n:Int) (k:Key) (m:bm) (hL:aq L) (hs:aw m.data):ai Tryz.prog 24 [.lp 0 0] [.ro (.blk nr (gK (.ci .i64 1) m n (.ci .i64 10) k)),.store tS eS L] (kO (aM L n ((kk 10 k)) ((mm 1 m)))) (fun _ _=>False):=
 aW (inl:=(fun f=>f==37||f==58||f==68||f==62||f==141||f==102||f==172||f==93||f==64||f==90||f==89||f==38||f==60||f==101||f==105||f==107)) (ann:=aP) (ab cU ak) aC (dT bK) (Ha L n k m hL hs) (by kernel_rfl)
end Go.Proofs.YtghpaegglbbocaaGreat
