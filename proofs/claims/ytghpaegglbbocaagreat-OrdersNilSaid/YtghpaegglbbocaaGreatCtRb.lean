import Derived.Test.YtghpaegglbbocaaGreatCtRa
import Derived.Test.YtghpaegglbbocaaGreatCtRo
import Derived.Test.YtghpaegglbbocaaGreatCV
namespace Go.Proofs.YtghpaegglbbocaaGreat
open Go.Sx
set_option maxRecDepth 100000
theorem JW (L:List Sx.Obj) (n:Int) (k:Key) (m:bm) (hL:aq L) (hs:aw m.data):
 true=true/\true=true/\true=true/\true=true/\true=true/\(bm.mk 0 eB void void (Key.mk 1 void.oid void.count void.call void.rights k.value),L)=aM L n (kk 1 k) (mm 1 m):=by
 simp+decide [aM,dE,dK,di,ec,dL,dN,cY,cT,cD,cI,ei,eZ,fx,fC,cH,void,dg,eB,aO,dC,e9,eA,kk,mm,hL,hs];try grind
theorem L2 (L:List Sx.Obj) (n:Int) (k:Key) (m:bm) (hL:aq L) (hs:aw m.data):aj Tryz.prog 24 [.lp 0 0] [.ro (.blk nC (gK (.ci .i64 1) m n (.ci .i64 1) k)),.store tS eS L] (kO (aM L n ((kk 1 k)) ((mm 1 m)))) (fun _ _=>False):=
 aW (inl:=(fun f=>f==37||f==58||f==68||f==62||f==141||f==102||f==172||f==93||f==64||f==90||f==89||f==38||f==60||f==101||f==105||f==59)) (ann:=aP) (ab cU ak) aC (dT bK) (JW L n k m hL hs) (by kernel_rfl)
theorem Jf (L:List Sx.Obj) (n:Int) (k:Key) (m:bm) (hL:aq L) (hs:aw m.data):
 true=true/\true=true/\true=true/\true=true/\true=true/\true=true/\((!decide (m.k2.kind=1))=true->(bm.mk 240 eB void void void,L)=aM L n (kk 2 k) (mm 1 m))/\((!decide
  (m.k2.kind=1))=false->((decide (m.k2.value<0)||decide (2147483647<m.k2.value))=true->true=true/\true=true/\true=true/\((!decide (bI L (kk 2 k) (-1)=0))=true->(bm.mk
  (bI L (kk 2 k) (-1)) eB void void void,L)=aM L n (kk 2 k) (mm 1 m))/\((!decide (bI L (kk 2 k) (-1)=0))=false->(bm.mk 0 eB (aF L (kk 2 k) (-1)) void void,L)=aM L n (kk 2
  k) (mm 1 m)))/\((decide (m.k2.value<0)||decide (2147483647<m.k2.value))=false->true=true/\true=true/\true=true/\((!decide (bI L (kk 2 k) m.k2.value=0))=true->(bm.mk
  (bI L (kk 2 k) m.k2.value) eB void void void,L)=aM L n (kk 2 k) (mm 1 m))/\((!decide (bI L (kk 2 k) m.k2.value=0))=false->(bm.mk 0 eB (aF L (kk 2 k) m.k2.value) void void,L)
  =aM L n (kk 2 k) (mm 1 m)))):=by
 simp+decide [aM,dE,dK,di,ec,dL,dN,cY,cT,cD,cI,ei,eZ,fx,fC,cH,void,dg,eB,aO,dC,e9,eA,kk,mm,hL,hs];try grind
theorem Jh (L:List Sx.Obj) (n:Int) (k:Key) (m:bm) (hL:aq L) (hs:aw m.data):aj Tryz.prog 24 [.lp 0 0] [.ro (.blk nC (gK (.ci .i64 1) m n (.ci .i64 2) k)),.store tS eS L] (kO (aM L n ((kk 2 k)) ((mm 1 m)))) (fun _ _=>False):=
 aW (inl:=(fun f=>f==37||f==58||f==68||f==62||f==141||f==102||f==172||f==93||f==64||f==90||f==89||f==38||f==60||f==101||f==105||f==61)) (ann:=aP) (ab rl (ab cU ak)) aC (dT bK) (Jf L n k m hL hs) (by kernel_rfl)
theorem JH (L:List Sx.Obj) (n:Int) (k:Key) (m:bm) (hL:aq L) (hs:aw m.data):
 true=true/\true=true/\true=true/\true=true/\true=true/\true=true/\((!decide (m.k2.kind=1))=true->(bm.mk 240 eB void void void,L)=aM L n (kk 2 k) (mm 2 m))/\((!decide
  (m.k2.kind=1))=false->((decide (m.k2.value<0)||decide (2147483647<m.k2.value))=true->true=true/\aq L/\true=true/\true=true/\true=true/\((!decide (ba L (kk 2 k) (-1)
  m.k0=0))=true->(bm.mk (ba L (kk 2 k) (-1) m.k0) eB void void void,b6 L (kk 2 k) (-1) m.k0)=aM L n (kk 2 k) (mm 2 m))/\((!decide (ba L (kk 2 k) (-1) m.k0=0))=false->
  (bm.mk 0 eB (cy L (kk 2 k) (-1) m.k0) void void,b6 L (kk 2 k) (-1) m.k0)=aM L n (kk 2 k) (mm 2 m)))/\((decide (m.k2.value<0)||decide (2147483647<m.k2.value))=false->true=
  true/\aq L/\true=true/\true=true/\true=true/\((!decide (ba L (kk 2 k) m.k2.value m.k0=0))=true->(bm.mk (ba L (kk 2 k) m.k2.value m.k0) eB void void void,b6 L (kk 2
  k) m.k2.value m.k0)=aM L n (kk 2 k) (mm 2 m))/\((!decide (ba L (kk 2 k) m.k2.value m.k0=0))=false->(bm.mk 0 eB (cy L (kk 2 k) m.k2.value m.k0) void void,b6 L (kk 2 k)
  m.k2.value m.k0)=aM L n (kk 2 k) (mm 2 m)))):=by
 simp+decide [aM,dE,dK,di,ec,dL,dN,cY,cT,cD,cI,ei,eZ,fx,fC,cH,void,dg,eB,aO,dC,e9,eA,kk,mm,hL,hs];try grind
theorem Nm (L:List Sx.Obj) (n:Int) (k:Key) (m:bm) (hL:aq L) (hs:aw m.data):aj Tryz.prog 24 [.lp 0 0] [.ro (.blk nC (gK (.ci .i64 2) m n (.ci .i64 2) k)),.store tS eS L] (kO (aM L n ((kk 2 k)) ((mm 2 m)))) (fun _ _=>False):=
 aW (inl:=(fun f=>f==37||f==58||f==68||f==62||f==141||f==102||f==172||f==93||f==64||f==90||f==89||f==38||f==60||f==101||f==105||f==65)) (ann:=aP) (ab cU ak) (aD Gq aC) (dT bK) (JH L n k m hL hs) (by kernel_rfl)
theorem Kx (L:List Sx.Obj) (n:Int) (k:Key) (m:bm) (hL:aq L) (hs:aw m.data):
 true=true/\true=true/\true=true/\true=true/\aq L/\true=true/\true=true/\((!decide (ay L (kk 2 k) 2 true=0))=true->(bm.mk (ay L (kk 2 k) 2 true) eB void void void,
  eT L (kk 2 k))=aM L n (kk 2 k) (mm 3 m))/\((!decide (ay L (kk 2 k) 2 true=0))=false->(bm.mk 0 eB void void void,eT L (kk 2 k))=aM L n (kk 2 k) (mm 3 m)):=by
 simp+decide [aM,dE,dK,di,ec,dL,dN,cY,cT,cD,cI,ei,eZ,fx,fC,cH,void,dg,eB,aO,dC,e9,eA,kk,mm,hL,hs];try grind
theorem Lg (L:List Sx.Obj) (n:Int) (k:Key) (m:bm) (hL:aq L) (hs:aw m.data):aj Tryz.prog 24 [.lp 0 0] [.ro (.blk nC (gK (.ci .i64 3) m n (.ci .i64 2) k)),.store tS eS L] (kO (aM L n ((kk 2 k)) ((mm 3 m)))) (fun _ _=>False):=
 aW (inl:=(fun f=>f==37||f==58||f==68||f==62||f==141||f==102||f==172||f==93||f==64||f==90||f==89||f==38||f==60||f==101||f==105||f==67)) (ann:=aP) (ab cU ak) (aD PX aC) (dT bK) (Kx L n k m hL hs) (by kernel_rfl)
theorem KJ (L:List Sx.Obj) (n:Int) (k:Key) (m:bm) (hL:aq L) (hs:aw m.data):
 true=true/\true=true/\true=true/\true=true/\aq L/\true=true/\true=true/\((!decide (bG L (kk 2 k) m.k0=0))=true->(bm.mk (bG L (kk 2 k) m.k0) eB void void void,
  dZ L (kk 2 k) m.k0)=aM L n (kk 2 k) (mm 4 m))/\((!decide (bG L (kk 2 k) m.k0=0))=false->(bm.mk 0 eB void void void,dZ L (kk 2 k) m.k0)=aM L n (kk 2 k) (mm 4 m)):=by
 simp+decide [aM,dE,dK,di,ec,dL,dN,cY,cT,cD,cI,ei,eZ,fx,fC,cH,void,dg,eB,aO,dC,e9,eA,kk,mm,hL,hs];try grind
theorem Ld (L:List Sx.Obj) (n:Int) (k:Key) (m:bm) (hL:aq L) (hs:aw m.data):aj Tryz.prog 24 [.lp 0 0] [.ro (.blk nC (gK (.ci .i64 4) m n (.ci .i64 2) k)),.store tS eS L] (kO (aM L n ((kk 2 k)) ((mm 4 m)))) (fun _ _=>False):=
 aW (inl:=(fun f=>f==37||f==58||f==68||f==62||f==141||f==102||f==172||f==93||f==64||f==90||f==89||f==38||f==60||f==101||f==105||f==70)) (ann:=aP) (ab cU ak) (aD NV aC) (dT bK) (KJ L n k m hL hs) (by kernel_rfl)
theorem KK (L:List Sx.Obj) (n:Int) (k:Key) (m:bm) (hL:aq L) (hs:aw m.data) (hk:aT (kk 2 k)=true):
 true=true/\true=true/\true=true/\true=true/\true=true/\((!decide (m.k2.kind=1))=true->(bm.mk 240 eB void void void,L)=aM L n (kk 2 k) (mm 5 m))/\((!decide (m.k2.kind=1))=
  false->true=true/\((!(decide (0<=m.k2.value)&&decide (m.k2.value<=7)))=true->(bm.mk 2 eB void void void,L)=aM L n (kk 2 k) (mm 5 m))/\((!(decide (0<=m.k2.value)&&decide
  (m.k2.value<=7)))=false->gz (kk 2 k) m.k2.value/\true=true/\true=true/\true=true/\(bm.mk 0 eB (iz (kk 2 k) m.k2.value) void void,L)=aM L n (kk 2 k) (mm 5 m))):=by
 have hX:aM L n (kk 2 k) (mm 5 m)=if m.k2.kind=1 then(if 0<=m.k2.value/\m.k2.value<=7 then(ei (iz (kk 2 k) m.k2.value),L)else(fx 2,L))else(fx 240,L):=by
  by_cases h1:m.k2.kind=1
  ·by_cases h2:0<=m.k2.value/\m.k2.value<=7
   ·simp+decide [aM,dE,dK,di,ec,dL,dN,cY,cT,cD,cI,ei,eZ,fx,fC,cH,void,dg,eB,aO,dC,e9,eA,kk,mm,h1,h2]
   ·simp+decide [aM,dE,dK,di,ec,dL,dN,cY,cT,cD,cI,ei,eZ,fx,fC,cH,void,dg,eB,aO,dC,e9,eA,kk,mm,h1,h2]
  ·simp+decide [aM,dE,dK,di,ec,dL,dN,cY,cT,cD,cI,ei,eZ,fx,fC,cH,void,dg,eB,aO,dC,e9,eA,kk,mm,h1]
 rw[hX];refine⟨rfl,rfl,rfl,rfl,rfl,fun h=>?_,fun h=>⟨rfl,fun h'=>?_,fun h'=>⟨⟨hk,?_⟩,rfl,rfl,rfl,?_⟩⟩⟩
 ·have h:¬m.k2.kind=1:=by simpa using h
  rw[Yp h];rfl
 ·have h:m.k2.kind=1:=by simpa using h
  have h':¬(0<=m.k2.value/\m.k2.value<=7):=fun hh=>by simp[hh.1,hh.2]at h'
  rw[Yq h,Yp h'];rfl
 ·simpa using h'
 ·have h:m.k2.kind=1:=by simpa using h
  have h':0<=m.k2.value/\m.k2.value<=7:=by simpa using h'
  rw[Yq h,Yq h'];rfl
theorem MN (L:List Sx.Obj) (n:Int) (k:Key) (m:bm) (hL:aq L) (hs:aw m.data) (hk:aT (kk 2 k)=true):aj Tryz.prog 24 [.lp 0 0] [.ro (.blk nC (gK (.ci .i64 5) m n (.ci .i64 2) k)),.store tS eS L] (kO (aM L n ((kk 2 k)) ((mm 5 m)))) (fun _ _=>False):=
 aW (inl:=(fun f=>f==37||f==58||f==68||f==62||f==141||f==102||f==172||f==93||f==64||f==90||f==89||f==38||f==60||f==101||f==105||f==72)) (ann:=aP) (ab C9 (ab cU ak)) aC (dT bK) (KK L n k m hL hs hk) (by kernel_rfl)
theorem Iz (L:List Sx.Obj) (n:Int) (k:Key) (m:bm) (hL:aq L) (hs:aw m.data):
 true=true/\true=true/\true=true/\true=true/\((!decide (k.rights=0))=true->(bm.mk 191 eB void void void,L)=aM L n (kk 2 k) (mm 6 m))/\((!decide (k.rights=0))=false->true=
  true/\true=true/\true=true/\(bm.mk 0 eB (Key.mk 5 k.oid k.count void.call void.rights void.value) void void,L)=aM L n (kk 2 k) (mm 6 m)):=by
 simp+decide [aM,dE,dK,di,ec,dL,dN,cY,cT,cD,cI,ei,eZ,fx,fC,cH,void,dg,eB,aO,dC,e9,eA,kk,mm,hL,hs];try grind
theorem NI (L:List Sx.Obj) (n:Int) (k:Key) (m:bm) (hL:aq L) (hs:aw m.data):aj Tryz.prog 24 [.lp 0 0] [.ro (.blk nC (gK (.ci .i64 6) m n (.ci .i64 2) k)),.store tS eS L] (kO (aM L n ((kk 2 k)) ((mm 6 m)))) (fun _ _=>False):=
 aW (inl:=(fun f=>f==37||f==58||f==68||f==62||f==141||f==102||f==172||f==93||f==64||f==90||f==89||f==38||f==60||f==101||f==105||f==73)) (ann:=aP) (ab cU ak) aC (dT bK) (Iz L n k m hL hs) (by kernel_rfl)
theorem Lr (L:List Sx.Obj) (n:Int) (k:Key) (m:bm) (hL:aq L) (hs:aw m.data):
 true=true/\true=true/\true=true/\true=true/\true=true/\true=true/\((!decide (m.k2.kind=1))=true->(bm.mk 240 eB void void void,L)=aM L n (kk 3 k) (mm 1 m))/\((!decide
  (m.k2.kind=1))=false->((decide (m.k2.value<0)||decide (2147483647<m.k2.value))=true->true=true/\true=true/\true=true/\((!decide (b7 L (kk 3 k) (-1) (imax 0 (kI 32
  (Int.ofNat (64+Nat.succ 0))))=0))=true->(bm.mk (b7 L (kk 3 k) (-1) (imax 0 (kI 32 (Int.ofNat (64+Nat.succ 0))))) eB void void void,L)=aM L n (kk 3 k) (mm 1 m))/\((!decide
  (b7 L (kk 3 k) (-1) (imax 0 (kI 32 (Int.ofNat (64+Nat.succ 0))))=0))=false->(bm.mk 0 (dP L (kk 3 k) (-1) (imax 0 (kI 32 (Int.ofNat (64+Nat.succ 0))))) void void void,L)=
  aM L n (kk 3 k) (mm 1 m)))/\((decide (m.k2.value<0)||decide (2147483647<m.k2.value))=false->aG IntKind.i64 (64-m.k2.value)/\true=true/\true=true/\true=true/\((!decide
  (b7 L (kk 3 k) m.k2.value (imax 0 (kI 32 (64-m.k2.value)))=0))=true->(bm.mk (b7 L (kk 3 k) m.k2.value (imax 0 (kI 32 (64-m.k2.value)))) eB void void void,L)=aM L n (kk 3
  k) (mm 1 m))/\((!decide (b7 L (kk 3 k) m.k2.value (imax 0 (kI 32 (64-m.k2.value)))=0))=false->(bm.mk 0 (dP L (kk 3 k) m.k2.value (imax 0 (kI 32 (64-m.k2.value)))) void void
  void,L)=aM L n (kk 3 k) (mm 1 m)))):=by
 have hX:aM L n (kk 3 k) (mm 1 m)=if m.k2.kind=1 then(if b7 L (kk 3 k) (aO m) (ph (aO m))=0 then(fC (dP L (kk 3 k) (aO m) (ph (aO m))),L)else(fx (b7 L (kk 3 k) (aO m) (ph (aO m))),L))else(fx 240,L):=by
  by_cases h1:m.k2.kind=1
  ·by_cases h2:b7 L (kk 3 k) (aO m) (ph (aO m))=0
   ·simp+decide [aM,dE,dK,di,ec,dN,cI,show(kk 3 k).kind=3 from rfl,show(mm 1 m).code=1 from rfl,show(mm 1 m).k2=m.k2 from rfl,show aO (mm 1 m)=aO m from rfl,h1,h2]
   ·simp+decide [aM,dE,dK,di,ec,dN,cI,show(kk 3 k).kind=3 from rfl,show(mm 1 m).code=1 from rfl,show(mm 1 m).k2=m.k2 from rfl,show aO (mm 1 m)=aO m from rfl,h1,h2]
  ·simp+decide [aM,dE,dK,di,cI,cD,show(kk 3 k).kind=3 from rfl,show(mm 1 m).code=1 from rfl,show(mm 1 m).k2=m.k2 from rfl,h1,dg,fx]
 rw[hX];have e1:∀s,bm.mk 0 s void void void=fC s:=fun _=>rfl
 have e2:∀c,bm.mk c eB void void void=fx c:=fun _=>rfl
 simp only[e1,e2];by_cases h1:m.k2.kind=1
 ·by_cases h2:0<=m.k2.value/\m.k2.value<=2147483647
  ·have hN:aO m=m.k2.value:=by unfold aO;rw[Yq h2]
   have hR:ph m.k2.value=imax 0 (kI 32 (64-m.k2.value)):=rfl;have hr:aG .i64 (64-m.k2.value):=by simp only[aG,bY];omega
   rw[hN,hR];simp[h1,h2,hr];grind
  ·have hN:aO m= -1:=by unfold aO;rw[Yp h2]
   have hR:ph (-1)=imax 0 (kI 32 65):=rfl;rw[hN,hR];simp[h1];grind
 ·simp[h1]
theorem Kp (L:List Sx.Obj) (n:Int) (k:Key) (m:bm) (hL:aq L) (hs:aw m.data):aj Tryz.prog 24 [.lp 0 0] [.ro (.blk nC (gK (.ci .i64 1) m n (.ci .i64 3) k)),.store tS eS L] (kO (aM L n ((kk 3 k)) ((mm 1 m)))) (fun _ _=>False):=
 aW (inl:=(fun f=>f==37||f==58||f==68||f==62||f==141||f==102||f==172||f==93||f==64||f==90||f==89||f==38||f==60||f==101||f==105||f==74)) (ann:=aP) (ab om (ab cU ak)) aC (dT bK) (Lr L n k m hL hs) (by kernel_rfl)
theorem Kh (L:List Sx.Obj) (n:Int) (k:Key) (m:bm) (hL:aq L) (hs:aw m.data):
 true=true/\true=true/\true=true/\true=true/\true=true/\true=true/\((!decide (m.k2.kind=1))=true->(bm.mk 240 eB void void void,L)=aM L n (kk 3 k) (mm 2 m))/\((!decide
  (m.k2.kind=1))=false->((decide (m.k2.value<0)||decide (2147483647<m.k2.value))=true->true=true/\(aq L/\aw m.data)/\true=true/\true=true/\((!decide (cq L (kk 3 k)
  (-1) m.data=0))=true->(bm.mk (cq L (kk 3 k) (-1) m.data) eB void void void,eh L (kk 3 k) (-1) m.data)=aM L n (kk 3 k) (mm 2 m))/\((!decide (cq L (kk 3 k) (-1) m.data=0))=
  false->(bm.mk 0 eB void void void,eh L (kk 3 k) (-1) m.data)=aM L n (kk 3 k) (mm 2 m)))/\((decide (m.k2.value<0)||decide (2147483647<m.k2.value))=false->true=true/\(aq L/\
  aw m.data)/\true=true/\true=true/\((!decide (cq L (kk 3 k) m.k2.value m.data=0))=true->(bm.mk (cq L (kk 3 k) m.k2.value m.data) eB void void void,eh L (kk 3 k) m.k2.value
  m.data)=aM L n (kk 3 k) (mm 2 m))/\((!decide (cq L (kk 3 k) m.k2.value m.data=0))=false->(bm.mk 0 eB void void void,eh L (kk 3 k) m.k2.value m.data)=aM L n (kk 3 k) (mm 2
  m)))):=by
 simp+decide [aM,dE,dK,di,ec,dL,dN,cY,cT,cD,cI,ei,eZ,fx,fC,cH,void,dg,eB,aO,dC,e9,eA,kk,mm,hL,hs];try grind
theorem Lc (L:List Sx.Obj) (n:Int) (k:Key) (m:bm) (hL:aq L) (hs:aw m.data):aj Tryz.prog 24 [.lp 0 0] [.ro (.blk nC (gK (.ci .i64 2) m n (.ci .i64 3) k)),.store tS eS L] (kO (aM L n ((kk 3 k)) ((mm 2 m)))) (fun _ _=>False):=
 aW (inl:=(fun f=>f==37||f==58||f==68||f==62||f==141||f==102||f==172||f==93||f==64||f==90||f==89||f==38||f==60||f==101||f==105||f==75)) (ann:=aP) (ab cU ak) (aD Bu aC) (dT bK) (Kh L n k m hL hs) (by kernel_rfl)
theorem IV (L:List Sx.Obj) (n:Int) (k:Key) (m:bm) (hL:aq L) (hs:aw m.data):
 true=true/\true=true/\true=true/\true=true/\aq L/\true=true/\true=true/\((!decide (aS L (kk 3 k) true=0))=true->(bm.mk (aS L (kk 3 k) true) eB void void void,
  eD L (kk 3 k))=aM L n (kk 3 k) (mm 3 m))/\((!decide (aS L (kk 3 k) true=0))=false->(bm.mk 0 eB void void void,eD L (kk 3 k))=aM L n (kk 3 k) (mm 3 m)):=by
 simp+decide [aM,dE,dK,di,ec,dL,dN,cY,cT,cD,cI,ei,eZ,fx,fC,cH,void,dg,eB,aO,dC,e9,eA,kk,mm,hL,hs];try grind
theorem LL (L:List Sx.Obj) (n:Int) (k:Key) (m:bm) (hL:aq L) (hs:aw m.data):aj Tryz.prog 24 [.lp 0 0] [.ro (.blk nC (gK (.ci .i64 3) m n (.ci .i64 3) k)),.store tS eS L] (kO (aM L n ((kk 3 k)) ((mm 3 m)))) (fun _ _=>False):=
 aW (inl:=(fun f=>f==37||f==58||f==68||f==62||f==141||f==102||f==172||f==93||f==64||f==90||f==89||f==38||f==60||f==101||f==105||f==77)) (ann:=aP) (ab cU ak) (aD O1 aC) (dT bK) (IV L n k m hL hs) (by kernel_rfl)
theorem Kj (L:List Sx.Obj) (n:Int) (k:Key) (m:bm) (hL:aq L) (hs:aw m.data):
 true=true/\true=true/\true=true/\true=true/\aq L/\true=true/\true=true/\((!decide (cz L (kk 3 k) m.k0=0))=true->(bm.mk (cz L (kk 3 k) m.k0) eB void void void,eV
  L (kk 3 k) m.k0)=aM L n (kk 3 k) (mm 4 m))/\((!decide (cz L (kk 3 k) m.k0=0))=false->(bm.mk 0 eB void void void,eV L (kk 3 k) m.k0)=aM L n (kk 3 k) (mm 4 m)):=by
 simp+decide [aM,dE,dK,di,ec,dL,dN,cY,cT,cD,cI,ei,eZ,fx,fC,cH,void,dg,eB,aO,dC,e9,eA,kk,mm,hL,hs];try grind
theorem IF (L:List Sx.Obj) (n:Int) (k:Key) (m:bm) (hL:aq L) (hs:aw m.data):aj Tryz.prog 24 [.lp 0 0] [.ro (.blk nC (gK (.ci .i64 4) m n (.ci .i64 3) k)),.store tS eS L] (kO (aM L n ((kk 3 k)) ((mm 4 m)))) (fun _ _=>False):=
 aW (inl:=(fun f=>f==37||f==58||f==68||f==62||f==141||f==102||f==172||f==93||f==64||f==90||f==89||f==38||f==60||f==101||f==105||f==79)) (ann:=aP) (ab cU ak) (aD Td aC) (dT bK) (Kj L n k m hL hs) (by kernel_rfl)
theorem JK (L:List Sx.Obj) (n:Int) (k:Key) (m:bm) (hL:aq L) (hs:aw m.data) (hk:aT (kk 3 k)=true):
 true=true/\true=true/\true=true/\true=true/\true=true/\((!decide (m.k2.kind=1))=true->(bm.mk 240 eB void void void,L)=aM L n (kk 3 k) (mm 5 m))/\((!decide (m.k2.kind=1))=
  false->true=true/\((!(decide (0<=m.k2.value)&&decide (m.k2.value<=7)))=true->(bm.mk 2 eB void void void,L)=aM L n (kk 3 k) (mm 5 m))/\((!(decide (0<=m.k2.value)&&decide
  (m.k2.value<=7)))=false->gz (kk 3 k) m.k2.value/\true=true/\true=true/\true=true/\(bm.mk 0 eB (iz (kk 3 k) m.k2.value) void void,L)=aM L n (kk 3 k) (mm 5 m))):=by
 have hX:aM L n (kk 3 k) (mm 5 m)=if m.k2.kind=1 then(if 0<=m.k2.value/\m.k2.value<=7 then(ei (iz (kk 3 k) m.k2.value),L)else(fx 2,L))else(fx 240,L):=by
  by_cases h1:m.k2.kind=1
  ·by_cases h2:0<=m.k2.value/\m.k2.value<=7
   ·simp+decide [aM,dE,dK,di,ec,dL,dN,cY,cT,cD,cI,ei,eZ,fx,fC,cH,void,dg,eB,aO,dC,e9,eA,kk,mm,h1,h2]
   ·simp+decide [aM,dE,dK,di,ec,dL,dN,cY,cT,cD,cI,ei,eZ,fx,fC,cH,void,dg,eB,aO,dC,e9,eA,kk,mm,h1,h2]
  ·simp+decide [aM,dE,dK,di,ec,dL,dN,cY,cT,cD,cI,ei,eZ,fx,fC,cH,void,dg,eB,aO,dC,e9,eA,kk,mm,h1]
 rw[hX];refine⟨rfl,rfl,rfl,rfl,rfl,fun h=>?_,fun h=>⟨rfl,fun h'=>?_,fun h'=>⟨⟨hk,?_⟩,rfl,rfl,rfl,?_⟩⟩⟩
 ·have h:¬m.k2.kind=1:=by simpa using h
  rw[Yp h];rfl
 ·have h:m.k2.kind=1:=by simpa using h
  have h':¬(0<=m.k2.value/\m.k2.value<=7):=fun hh=>by simp[hh.1,hh.2]at h'
  rw[Yq h,Yp h'];rfl
 ·simpa using h'
 ·have h:m.k2.kind=1:=by simpa using h
  have h':0<=m.k2.value/\m.k2.value<=7:=by simpa using h'
  rw[Yq h,Yq h'];rfl
theorem Ih (L:List Sx.Obj) (n:Int) (k:Key) (m:bm) (hL:aq L) (hs:aw m.data) (hk:aT (kk 3 k)=true):aj Tryz.prog 24 [.lp 0 0] [.ro (.blk nC (gK (.ci .i64 5) m n (.ci .i64 3) k)),.store tS eS L] (kO (aM L n ((kk 3 k)) ((mm 5 m)))) (fun _ _=>False):=
 aW (inl:=(fun f=>f==37||f==58||f==68||f==62||f==141||f==102||f==172||f==93||f==64||f==90||f==89||f==38||f==60||f==101||f==105||f==72)) (ann:=aP) (ab C9 (ab cU ak)) aC (dT bK) (JK L n k m hL hs hk) (by kernel_rfl)
theorem JP (L:List Sx.Obj) (n:Int) (k:Key) (m:bm) (hL:aq L) (hs:aw m.data):
 true=true/\true=true/\true=true/\true=true/\aq L/\true=true/\true=true/\true=true/\((!decide (bX L (kk 4 k) 1=0))=true->(bm.mk (bX L (kk 4 k) 1) eB void void
  void,eH L (kk 4 k) 1)=aM L n (kk 4 k) (mm 1 m))/\((!decide (bX L (kk 4 k) 1=0))=false->(bm.mk 0 eB (cJ L (kk 4 k) 1) void void,eH L (kk 4 k) 1)=aM L n (kk 4 k) (mm 1
  m)):=by
 simp+decide [aM,dE,dK,di,ec,dL,dN,cY,cT,cD,cI,ei,eZ,fx,fC,cH,void,dg,eB,aO,dC,e9,eA,kk,mm,hL,hs];try grind
theorem IA (L:List Sx.Obj) (n:Int) (k:Key) (m:bm) (hL:aq L) (hs:aw m.data):aj Tryz.prog 24 [.lp 0 0] [.ro (.blk nC (gK (.ci .i64 1) m n (.ci .i64 4) k)),.store tS eS L] (kO (aM L n ((kk 4 k)) ((mm 1 m)))) (fun _ _=>False):=
 aW (inl:=(fun f=>f==37||f==58||f==68||f==62||f==141||f==102||f==172||f==93||f==64||f==90||f==89||f==38||f==60||f==101||f==105||f==149)) (ann:=aP) (ab cU ak) (aD Cq aC) (dT bK) (JP L n k m hL hs) (by kernel_rfl)
theorem L5 (L:List Sx.Obj) (n:Int) (k:Key) (m:bm) (hL:aq L) (hs:aw m.data):
 true=true/\true=true/\true=true/\true=true/\aq L/\true=true/\true=true/\true=true/\((!decide (bX L (kk 4 k) 2=0))=true->(bm.mk (bX L (kk 4 k) 2) eB void void
  void,eH L (kk 4 k) 2)=aM L n (kk 4 k) (mm 2 m))/\((!decide (bX L (kk 4 k) 2=0))=false->(bm.mk 0 eB (cJ L (kk 4 k) 2) void void,eH L (kk 4 k) 2)=aM L n (kk 4 k) (mm 2
  m)):=by
 simp+decide [aM,dE,dK,di,ec,dL,dN,cY,cT,cD,cI,ei,eZ,fx,fC,cH,void,dg,eB,aO,dC,e9,eA,kk,mm,hL,hs];try grind
theorem J1 (L:List Sx.Obj) (n:Int) (k:Key) (m:bm) (hL:aq L) (hs:aw m.data):aj Tryz.prog 24 [.lp 0 0] [.ro (.blk nC (gK (.ci .i64 2) m n (.ci .i64 4) k)),.store tS eS L] (kO (aM L n ((kk 4 k)) ((mm 2 m)))) (fun _ _=>False):=
 aW (inl:=(fun f=>f==37||f==58||f==68||f==62||f==141||f==102||f==172||f==93||f==64||f==90||f==89||f==38||f==60||f==101||f==105||f==149)) (ann:=aP) (ab cU ak) (aD Cq aC) (dT bK) (L5 L n k m hL hs) (by kernel_rfl)
theorem Lb (L:List Sx.Obj) (n:Int) (k:Key) (m:bm) (hL:aq L) (hs:aw m.data):
 true=true/\true=true/\true=true/\true=true/\aq L/\true=true/\true=true/\((!decide (b8 L (kk 4 k) m.k0=0))=true->(bm.mk (b8 L (kk 4 k) m.k0) eB void void void,fL
  L (kk 4 k) m.k0)=aM L n (kk 4 k) (mm 3 m))/\((!decide (b8 L (kk 4 k) m.k0=0))=false->(bm.mk 0 eB void void void,fL L (kk 4 k) m.k0)=aM L n (kk 4 k) (mm 3 m)):=by
 simp+decide [aM,dE,dK,di,ec,dL,dN,cY,cT,cD,cI,ei,eZ,fx,fC,cH,void,dg,eB,aO,dC,e9,eA,kk,mm,hL,hs];try grind
theorem Ll (L:List Sx.Obj) (n:Int) (k:Key) (m:bm) (hL:aq L) (hs:aw m.data):aj Tryz.prog 24 [.lp 0 0] [.ro (.blk nC (gK (.ci .i64 3) m n (.ci .i64 4) k)),.store tS eS L] (kO (aM L n ((kk 4 k)) ((mm 3 m)))) (fun _ _=>False):=
 aW (inl:=(fun f=>f==37||f==58||f==68||f==62||f==141||f==102||f==172||f==93||f==64||f==90||f==89||f==38||f==60||f==101||f==105||f==82)) (ann:=aP) (ab cU ak) (aD RB aC) (dT bK) (Lb L n k m hL hs) (by kernel_rfl)
theorem Lj (L:List Sx.Obj) (n:Int) (k:Key) (m:bm) (hL:aq L) (hs:aw m.data):
 true=true/\true=true/\true=true/\true=true/\true=true/\true=true/\((!decide (m.k2.kind=1))=true->(bm.mk 240 eB void void void,L)=aM L n (kk 4 k) (mm 4 m))/\((!decide
  (m.k2.kind=1))=false->((decide (m.k2.value<0)||decide (2147483647<m.k2.value))=true->true=true/\aq L/\true=true/\true=true/\true=true/\((!decide (bM L (kk 4 k) (-1)=
  0))=true->(bm.mk (bM L (kk 4 k) (-1)) eB void void void,br L (kk 4 k) (-1))=aM L n (kk 4 k) (mm 4 m))/\((!decide (bM L (kk 4 k) (-1)=0))=false->(bm.mk 0 eB (bP L (kk 4 k)
  (-1)) void void,br L (kk 4 k) (-1))=aM L n (kk 4 k) (mm 4 m)))/\((decide (m.k2.value<0)||decide (2147483647<m.k2.value))=false->true=true/\aq L/\true=true/\true=true/\
  true=true/\((!decide (bM L (kk 4 k) m.k2.value=0))=true->(bm.mk (bM L (kk 4 k) m.k2.value) eB void void void,br L (kk 4 k) m.k2.value)=aM L n (kk 4 k) (mm 4 m))/\((!decide
  (bM L (kk 4 k) m.k2.value=0))=false->(bm.mk 0 eB (bP L (kk 4 k) m.k2.value) void void,br L (kk 4 k) m.k2.value)=aM L n (kk 4 k) (mm 4 m)))):=by
 simp+decide [aM,dE,dK,di,ec,dL,dN,cY,cT,cD,cI,ei,eZ,fx,fC,cH,void,dg,eB,aO,dC,e9,eA,kk,mm,hL,hs];try grind
theorem Mt (L:List Sx.Obj) (n:Int) (k:Key) (m:bm) (hL:aq L) (hs:aw m.data):aj Tryz.prog 24 [.lp 0 0] [.ro (.blk nC (gK (.ci .i64 4) m n (.ci .i64 4) k)),.store tS eS L] (kO (aM L n ((kk 4 k)) ((mm 4 m)))) (fun _ _=>False):=
 aW (inl:=(fun f=>f==37||f==58||f==68||f==62||f==141||f==102||f==172||f==93||f==64||f==90||f==89||f==38||f==60||f==101||f==105||f==84)) (ann:=aP) (ab cU ak) (aD Hi aC) (dT bK) (Lj L n k m hL hs) (by kernel_rfl)
theorem Jq (L:List Sx.Obj) (n:Int) (k:Key) (m:bm) (hL:aq L) (hs:aw m.data):
 true=true/\true=true/\true=true/\true=true/\((!decide (aK L (kk 4 k)=0))=true->(bm.mk (aK L (kk 4 k)) eB void void void,L)=aM L n (kk 4 k) (mm 5 m))/\((!decide (aK
  L (kk 4 k)=0))=false->true=true/\(iG L (kk 4 k) m.k0=true->true=true/\true=true/\(bm.mk 0 eB void void (Key.mk 1 void.oid void.count void.call void.rights 1),L)=aM L n (kk 4
  k) (mm 5 m))/\(iG L (kk 4 k) m.k0=false->true=true/\true=true/\(bm.mk 0 eB void void (Key.mk 1 void.oid void.count void.call void.rights 0),L)=aM L n (kk 4 k) (mm 5 m))):=by
 simp+decide [aM,dE,dK,di,ec,dL,dN,cY,cT,cD,cI,ei,eZ,fx,fC,cH,void,dg,eB,aO,dC,e9,eA,kk,mm,hL,hs];try grind
theorem Lm (L:List Sx.Obj) (n:Int) (k:Key) (m:bm) (hL:aq L) (hs:aw m.data):aj Tryz.prog 24 [.lp 0 0] [.ro (.blk nC (gK (.ci .i64 5) m n (.ci .i64 4) k)),.store tS eS L] (kO (aM L n ((kk 4 k)) ((mm 5 m)))) (fun _ _=>False):=
 aW (inl:=(fun f=>f==37||f==58||f==68||f==62||f==141||f==102||f==172||f==93||f==64||f==90||f==89||f==38||f==60||f==101||f==105||f==86)) (ann:=aP) (ab LP (ab cU ak)) aC (dT bK) (Jq L n k m hL hs) (by kernel_rfl)
theorem Lw (L:List Sx.Obj) (n:Int) (k:Key) (m:bm) (hL:aq L) (hs:aw m.data):
 true=true/\true=true/\true=true/\true=true/\aq L/\true=true/\((!decide (aK L (kk 4 k)=0))=true->(bm.mk (aK L (kk 4 k)) eB void void void,gi L (kk 4 k))=aM L n
  (kk 4 k) (mm 6 m))/\((!decide (aK L (kk 4 k)=0))=false->true=true/\true=true/\(bm.mk 0 eB void void (Key.mk 1 void.oid void.count void.call void.rights (eX L (kk 4 k))),gi L
  (kk 4 k))=aM L n (kk 4 k) (mm 6 m)):=by
 simp+decide [aM,dE,dK,di,ec,dL,dN,cY,cT,cD,cI,ei,eZ,fx,fC,cH,void,dg,eB,aO,dC,e9,eA,kk,mm,hL,hs];try grind
theorem Ln (L:List Sx.Obj) (n:Int) (k:Key) (m:bm) (hL:aq L) (hs:aw m.data):aj Tryz.prog 24 [.lp 0 0] [.ro (.blk nC (gK (.ci .i64 6) m n (.ci .i64 4) k)),.store tS eS L] (kO (aM L n ((kk 4 k)) ((mm 6 m)))) (fun _ _=>False):=
 aW (inl:=(fun f=>f==37||f==58||f==68||f==62||f==141||f==102||f==172||f==93||f==64||f==90||f==89||f==38||f==60||f==101||f==105||f==87)) (ann:=aP) (ab cU ak) (aD Lo aC) (dT bK) (Lw L n k m hL hs) (by kernel_rfl)
theorem MW (L:List Sx.Obj) (n:Int) (k:Key) (m:bm) (hL:aq L) (hs:aw m.data):
 true=true/\true=true/\true=true/\true=true/\true=true/\true=true/\true=true/\true=true/\((!decide (m.k2.kind=1))=true->(bm.mk 240 eB void void void,L)=aM L n (kk 5
  k) (mm 1 m))/\((!decide (m.k2.kind=1))=false->((decide (m.k2.value<0)||decide (2147483647<m.k2.value))=true->true=true/\(bm.mk 4 eB void void void,L)=aM L n (kk 5 k) (mm 1 m))
  /\((decide (m.k2.value<0)||decide (2147483647<m.k2.value))=false->true=true/\((!(decide (0<=m.k2.value)&&decide (m.k2.value<12)))=true->(bm.mk 4 eB void void void,L)=aM L n
  (kk 5 k) (mm 1 m))/\((!(decide (0<=m.k2.value)&&decide (m.k2.value<12)))=false->aG IntKind.i64 (m.k2.value+4)/\true=true/\true=true/\true=true/\((!decide (bI L (Key.mk 2
  k.oid k.count void.call void.rights void.value) (m.k2.value+4)=0))=true->(bm.mk (bI L (Key.mk 2 k.oid k.count void.call void.rights void.value) (m.k2.value+4)) eB void void void,L)=
  aM L n (kk 5 k) (mm 1 m))/\((!decide (bI L (Key.mk 2 k.oid k.count void.call void.rights void.value) (m.k2.value+4)=0))=false->(bm.mk 0 eB (aF L (Key.mk 2 k.oid k.count void.call
  void.rights void.value) (m.k2.value+4)) void void,L)=aM L n (kk 5 k) (mm 1 m))))):=by
 have hw:Key.mk 2 k.oid k.count void.call void.rights void.value=eA k:=rfl;have e2:∀c,bm.mk c eB void void void=fx c:=fun _=>rfl
 simp only[hw,e2];have hX:=FH (L:=L) (n:=n) (k:=k) (m:=m) (c:=1) (by omega)
 rw[hX];clear hX;by_cases h1:m.k2.kind=1
 case neg=>simp[h1,show cD 5 1=true by decide,hL,hs]
 have hf:¬(cD 5 1=true/\m.k2.kind≠1):=fun h=>h.2 h1
 rw[Yp hf];have hC:cT L (kk 5 k) (mm 1 m)=(if aO m<0\/11<aO m then 4 else bI L (eA k) (aO m+4),ei (aF L (eA k) (aO m+4)),L):=rfl
 rw[hC];clear hC;have e3:∀a,bm.mk 0 eB a void void=ei a:=fun _=>rfl
 simp only[e3];by_cases h2:0<=m.k2.value/\m.k2.value<=2147483647
 ·have hN:aO m=m.k2.value:=by unfold aO;rw[Yq h2]
  have hr:aG .i64 (m.k2.value+4):=by simp only[aG,bY];omega
  rw[hN];by_cases h3:11<m.k2.value
  ·have h4:¬m.k2.value<12:=by omega
   simp[h1,h2,h3,h4,th,hr]<;>omega
  ·have h4:m.k2.value<12:=by omega
   have h5:¬(m.k2.value<0\/11<m.k2.value):=by omega
   simp[h1,h2,h4,h5,th,hr,hL];grind
 ·have hN:aO m= -1:=by unfold aO;rw[Yp h2]
  rw[hN];simp[h1,th]<;>omega
theorem Mg (L:List Sx.Obj) (n:Int) (k:Key) (m:bm) (hL:aq L) (hs:aw m.data):aj Tryz.prog 24 [.lp 0 0] [.ro (.blk nC (gK (.ci .i64 1) m n (.ci .i64 5) k)),.store tS eS L] (kO (aM L n ((kk 5 k)) ((mm 1 m)))) (fun _ _=>False):=
 aW (inl:=(fun f=>f==37||f==58||f==68||f==62||f==141||f==102||f==172||f==93||f==64||f==90||f==89||f==38||f==60||f==101||f==105||f==88)) (ann:=aP) (ab rl (ab cU ak)) aC (dT bK) (MW L n k m hL hs) (by kernel_rfl)
theorem J7 (L:List Sx.Obj) (n:Int) (k:Key) (m:bm) (hL:aq L) (hs:aw m.data):
 true=true/\true=true/\true=true/\true=true/\true=true/\true=true/\true=true/\true=true/\((!decide (m.k2.kind=1))=true->(bm.mk 240 eB void void void,L)=aM L n (kk 5
  k) (mm 2 m))/\((!decide (m.k2.kind=1))=false->((decide (m.k2.value<0)||decide (2147483647<m.k2.value))=true->true=true/\(bm.mk 4 eB void void void,L)=aM L n (kk 5 k) (mm 2 m))
  /\((decide (m.k2.value<0)||decide (2147483647<m.k2.value))=false->true=true/\((!(decide (0<=m.k2.value)&&decide (m.k2.value<12)))=true->(bm.mk 4 eB void void void,L)=aM L n
  (kk 5 k) (mm 2 m))/\((!(decide (0<=m.k2.value)&&decide (m.k2.value<12)))=false->aG IntKind.i64 (m.k2.value+4)/\true=true/\aq L/\true=true/\true=true/\true=true/\((!decide
  (ba L (Key.mk 2 k.oid k.count void.call void.rights void.value) (m.k2.value+4) m.k0=0))=true->(bm.mk (ba L (Key.mk 2 k.oid k.count void.call void.rights void.value) (m.k2.value+4)
  m.k0) eB void void void,b6 L (Key.mk 2 k.oid k.count void.call void.rights void.value) (m.k2.value+4) m.k0)=aM L n (kk 5 k) (mm 2 m))/\((!decide (ba L (Key.mk 2 k.oid k.count
  void.call void.rights void.value) (m.k2.value+4) m.k0=0))=false->(bm.mk 0 eB (cy L (Key.mk 2 k.oid k.count void.call void.rights void.value) (m.k2.value+4) m.k0) void void,b6 L
  (Key.mk 2 k.oid k.count void.call void.rights void.value) (m.k2.value+4) m.k0)=aM L n (kk 5 k) (mm 2 m))))):=by
 have hw:Key.mk 2 k.oid k.count void.call void.rights void.value=eA k:=rfl;have e2:∀c,bm.mk c eB void void void=fx c:=fun _=>rfl
 simp only[hw,e2];have hX:=FH (L:=L) (n:=n) (k:=k) (m:=m) (c:=2) (by omega)
 rw[hX];clear hX;by_cases h1:m.k2.kind=1
 case neg=>simp[h1,show cD 5 2=true by decide,hL,hs]
 have hf:¬(cD 5 2=true/\m.k2.kind≠1):=fun h=>h.2 h1
 rw[Yp hf];have hC:cT L (kk 5 k) (mm 2 m)=(if aO m<0\/11<aO m then 4 else ba L (eA k) (aO m+4) m.k0,ei (cy L (eA k) (aO m+4) m.k0),if aO m<0\/11<aO m then L else b6 L (eA k) (aO m+4) m.k0):=rfl
 rw[hC];clear hC;have e3:∀a,bm.mk 0 eB a void void=ei a:=fun _=>rfl
 simp only[e3];by_cases h2:0<=m.k2.value/\m.k2.value<=2147483647
 ·have hN:aO m=m.k2.value:=by unfold aO;rw[Yq h2]
  have hr:aG .i64 (m.k2.value+4):=by simp only[aG,bY];omega
  rw[hN];by_cases h3:11<m.k2.value
  ·have h4:¬m.k2.value<12:=by omega
   simp[h1,h2,h3,h4,th,hr]<;>omega
  ·have h4:m.k2.value<12:=by omega
   have h5:¬(m.k2.value<0\/11<m.k2.value):=by omega
   simp[h1,h2,h4,h5,th,hr,hL];grind
 ·have hN:aO m= -1:=by unfold aO;rw[Yp h2]
  rw[hN];simp[h1,th]<;>omega
theorem NB (L:List Sx.Obj) (n:Int) (k:Key) (m:bm) (hL:aq L) (hs:aw m.data):aj Tryz.prog 24 [.lp 0 0] [.ro (.blk nC (gK (.ci .i64 2) m n (.ci .i64 5) k)),.store tS eS L] (kO (aM L n ((kk 5 k)) ((mm 2 m)))) (fun _ _=>False):=
 aW (inl:=(fun f=>f==37||f==58||f==68||f==62||f==141||f==102||f==172||f==93||f==64||f==90||f==89||f==38||f==60||f==101||f==105||f==91)) (ann:=aP) (ab cU ak) (aD Gq aC) (dT bK) (J7 L n k m hL hs) (by kernel_rfl)
theorem K4 (L:List Sx.Obj) (n:Int) (k:Key) (m:bm) (hL:aq L) (hs:aw m.data):
 true=true/\true=true/\true=true/\true=true/\true=true/\((!decide (m.k2.kind=1))=true->(bm.mk 240 eB void void void,L)=aM L n (kk 5 k) (mm 3 m))/\((!decide (m.k2.kind=1))=
  false->true=true/\true=true/\true=true/\(bm.mk 0 eB (Key.mk 6 k.oid k.count void.call void.rights m.k2.value) void void,L)=aM L n (kk 5 k) (mm 3 m)):=by
 simp+decide [aM,dE,dK,di,ec,dL,dN,cY,cT,cD,cI,ei,eZ,fx,fC,cH,void,dg,eB,aO,dC,e9,eA,kk,mm,hL,hs];try grind
theorem JJ (L:List Sx.Obj) (n:Int) (k:Key) (m:bm) (hL:aq L) (hs:aw m.data):aj Tryz.prog 24 [.lp 0 0] [.ro (.blk nC (gK (.ci .i64 3) m n (.ci .i64 5) k)),.store tS eS L] (kO (aM L n ((kk 5 k)) ((mm 3 m)))) (fun _ _=>False):=
 aW (inl:=(fun f=>f==37||f==58||f==68||f==62||f==141||f==102||f==172||f==93||f==64||f==90||f==89||f==38||f==60||f==101||f==105||f==92)) (ann:=aP) (ab cU ak) aC (dT bK) (K4 L n k m hL hs) (by kernel_rfl)
theorem Nv (L:List Sx.Obj) (n:Int) (k:Key) (m:bm) (hL:aq L) (hs:aw m.data):
 true=true/\true=true/\true=true/\((!jr L k.oid)=true->true=true/\true=true/\(bm.mk 0 eB void void (Key.mk 1 void.oid void.count void.call void.rights (-1)),L)=aM L n (kk 5
  k) (mm 4 m))/\((!jr L k.oid)=false->true=true/\true=true/\(bm.mk 0 eB void void (Key.mk 1 void.oid void.count void.call void.rights (qt L k.oid)),L)=aM L n (kk 5 k) (mm 4 m)):=by
 simp+decide [aM,dE,dK,di,ec,dL,dN,cY,cT,cD,cI,ei,eZ,fx,fC,cH,void,dg,eB,aO,dC,e9,eA,kk,mm,hL,hs];unfold qt qh;grind
theorem JL (L:List Sx.Obj) (n:Int) (k:Key) (m:bm) (hL:aq L) (hs:aw m.data):aj Tryz.prog 24 [.lp 0 0] [.ro (.blk nC (gK (.ci .i64 4) m n (.ci .i64 5) k)),.store tS eS L] (kO (aM L n ((kk 5 k)) ((mm 4 m)))) (fun _ _=>False):=
 aW (inl:=(fun f=>f==37||f==58||f==68||f==62||f==141||f==102||f==172||f==93||f==64||f==90||f==89||f==38||f==60||f==101||f==105||f==94)) (ann:=aP) (ab Ul (ab cU ak)) aC (dT bK) (Nv L n k m hL hs) (by kernel_rfl)
theorem I4 (L:List Sx.Obj) (n:Int) (k:Key) (m:bm) (hL:aq L) (hs:aw m.data):
 true=true/\true=true/\true=true/\true=true/\true=true/\true=true/\((!decide (m.k2.kind=1))=true->(bm.mk 240 eB void void void,L)=aM L n (kk 5 k) (mm 5 m))/\((!decide
  (m.k2.kind=1))=false->((decide (m.k2.value<0)||decide (2147483647<m.k2.value))=true->true=true/\aq L/\true=true/\true=true/\((!decide (dW L k.oid (-1)=0))=true->
  (bm.mk (dW L k.oid (-1)) eB void void void,iJ L k.oid (-1))=aM L n (kk 5 k) (mm 5 m))/\((!decide (dW L k.oid (-1)=0))=false->(bm.mk 0 eB void void void,iJ L k.oid (-1))=
  aM L n (kk 5 k) (mm 5 m)))/\((decide (m.k2.value<0)||decide (2147483647<m.k2.value))=false->true=true/\aq L/\true=true/\true=true/\((!decide (dW L k.oid m.k2.value=0))=
  true->(bm.mk (dW L k.oid m.k2.value) eB void void void,iJ L k.oid m.k2.value)=aM L n (kk 5 k) (mm 5 m))/\((!decide (dW L k.oid m.k2.value=0))=false->(bm.mk 0 eB void void void,
  iJ L k.oid m.k2.value)=aM L n (kk 5 k) (mm 5 m)))):=by
 simp+decide [aM,dE,dK,di,ec,dL,dN,cY,cT,cD,cI,ei,eZ,fx,fC,cH,void,dg,eB,aO,dC,e9,eA,kk,mm,hL,hs];try grind
theorem Iu (L:List Sx.Obj) (n:Int) (k:Key) (m:bm) (hL:aq L) (hs:aw m.data):aj Tryz.prog 24 [.lp 0 0] [.ro (.blk nC (gK (.ci .i64 5) m n (.ci .i64 5) k)),.store tS eS L] (kO (aM L n ((kk 5 k)) ((mm 5 m)))) (fun _ _=>False):=
 aW (inl:=(fun f=>f==37||f==58||f==68||f==62||f==141||f==102||f==172||f==93||f==64||f==90||f==89||f==38||f==60||f==101||f==105||f==95)) (ann:=aP) (ab cU ak) (aD TM aC) (dT bK) (I4 L n k m hL hs) (by kernel_rfl)
theorem Ny (L:List Sx.Obj) (n:Int) (k:Key) (m:bm) (hL:aq L) (hs:aw m.data):
 true=true/\true=true/\true=true/\true=true/\true=true/\true=true/\((!decide (m.k2.kind=1))=true->(bm.mk 240 eB void void void,L)=aM L n (kk 5 k) (mm 6 m))/\((!decide
  (m.k2.kind=1))=false->true=true/\true=true/\((!decide (bR L (aF L (Key.mk 2 k.oid k.count void.call void.rights void.value) 0) m.k2.value 32=0))=true->(bm.mk (bR L (aF L
  (Key.mk 2 k.oid k.count void.call void.rights void.value) 0) m.k2.value 32) eB void void void,L)=aM L n (kk 5 k) (mm 6 m))/\((!decide (bR L (aF L (Key.mk 2 k.oid k.count void.call
  void.rights void.value) 0) m.k2.value 32=0))=false->((!decide (bH L (aF L (Key.mk 2 k.oid k.count void.call void.rights void.value) 0) m.k2.value 32 false=0))=true->aG IntKind.i64
  (1000+bH L (aF L (Key.mk 2 k.oid k.count void.call void.rights void.value) 0) m.k2.value 32 false)/\(bm.mk (1000+bH L (aF L (Key.mk 2 k.oid k.count void.call void.rights void.value)
  0) m.k2.value 32 false) eB void void void,L)=aM L n (kk 5 k) (mm 6 m))/\((!decide (bH L (aF L (Key.mk 2 k.oid k.count void.call void.rights void.value) 0) m.k2.value 32 false=0))=false
  ->true=true/\true=true/\true=true/\(bm.mk 0 (jC L (aF L (Key.mk 2 k.oid k.count void.call void.rights void.value) 0) m.k2.value 32) void void void,L)=aM L n (kk 5 k) (mm 6 m)))):=by
 have hw:Key.mk 2 k.oid k.count void.call void.rights void.value=eA k:=rfl;have e2:∀c,bm.mk c eB void void void=fx c:=fun _=>rfl
 simp only[hw,e2];have hX:=FH (L:=L) (n:=n) (k:=k) (m:=m) (c:=6) (by omega)
 rw[hX];clear hX;by_cases h1:m.k2.kind=1
 case neg=>simp[h1,show cD 5 6=true by decide,hL,hs]
 have hf:¬(cD 5 6=true/\m.k2.kind≠1):=fun h=>h.2 h1
 rw[Yp hf];have hC:cT L (kk 5 k) (mm 6 m)=(if bR L (e9 L k) m.k2.value 32=0 then(if bH L (e9 L k) m.k2.value 32 false=0 then 0 else 1000+bH L (e9 L k) m.k2.value 32 false)else bR L (e9 L k) m.k2.value 32,fC (jC L (e9 L k) m.k2.value 32),L):=rfl
 rw[hC];clear hC;have e3:∀s,bm.mk 0 s void void void=fC s:=fun _=>rfl
 have e4:fx 0=dg:=rfl;have hi:=FI (L:=L) (k:=aF L (eA k) 0) (a:=m.k2.value) (n:=32) (w:=false);have hr:aG .i64 (1000+bH L (aF L (eA k) 0) m.k2.value (32) false):=by simp only[aG,bY];omega
 simp only[e3,e9];simp[h1,hr,th,hL,hs];grind
theorem MY (L:List Sx.Obj) (n:Int) (k:Key) (m:bm) (hL:aq L) (hs:aw m.data):aj Tryz.prog 24 [.lp 0 0] [.ro (.blk nC (gK (.ci .i64 6) m n (.ci .i64 5) k)),.store tS eS L] (kO (aM L n ((kk 5 k)) ((mm 6 m)))) (fun _ _=>False):=
 aW (inl:=(fun f=>f==37||f==58||f==68||f==62||f==141||f==102||f==172||f==93||f==64||f==90||f==89||f==38||f==60||f==101||f==105||f==97)) (ann:=aP) (ab rl (ab V1 (ab cU ak))) aC (dT bK) (Ny L n k m hL hs) (by kernel_rfl)
theorem H7 (L:List Sx.Obj) (n:Int) (k:Key) (m:bm) (hL:aq L) (hs:aw m.data):
 true=true/\true=true/\true=true/\true=true/\true=true/\true=true/\((!decide (m.k2.kind=1))=true->(bm.mk 240 eB void void void,L)=aM L n (kk 5 k) (mm 7 m))/\((!decide
  (m.k2.kind=1))=false->true=true/\aw m.data/\(aq L/\aw m.data)/\true=true/\true=true/\((!decide (bR L (aF L (Key.mk 2 k.oid k.count void.call void.rights void.value)
  0) m.k2.value (bW m.data)=0))=true->(bm.mk (bR L (aF L (Key.mk 2 k.oid k.count void.call void.rights void.value) 0) m.k2.value (bW m.data)) eB void void void,jD L (aF L (Key.mk 2
  k.oid k.count void.call void.rights void.value) 0) m.k2.value m.data)=aM L n (kk 5 k) (mm 7 m))/\((!decide (bR L (aF L (Key.mk 2 k.oid k.count void.call void.rights void.value) 0)
  m.k2.value (bW m.data)=0))=false->((!decide (bH L (aF L (Key.mk 2 k.oid k.count void.call void.rights void.value) 0) m.k2.value (bW m.data) true=0))=true->aG IntKind.i64 (1000+
  bH L (aF L (Key.mk 2 k.oid k.count void.call void.rights void.value) 0) m.k2.value (bW m.data) true)/\(bm.mk (1000+bH L (aF L (Key.mk 2 k.oid k.count void.call void.rights void.value)
  0) m.k2.value (bW m.data) true) eB void void void,jD L (aF L (Key.mk 2 k.oid k.count void.call void.rights void.value) 0) m.k2.value m.data)=aM L n (kk 5 k) (mm 7 m))/\((!decide (bH L
  (aF L (Key.mk 2 k.oid k.count void.call void.rights void.value) 0) m.k2.value (bW m.data) true=0))=false->true=true/\true=true/\(bm.mk 0 eB void void void,jD L (aF L (Key.mk 2
  k.oid k.count void.call void.rights void.value) 0) m.k2.value m.data)=aM L n (kk 5 k) (mm 7 m)))):=by
 have hw:Key.mk 2 k.oid k.count void.call void.rights void.value=eA k:=rfl;have e2:∀c,bm.mk c eB void void void=fx c:=fun _=>rfl
 simp only[hw,e2];have hX:=FH (L:=L) (n:=n) (k:=k) (m:=m) (c:=7) (by omega)
 rw[hX];clear hX;by_cases h1:m.k2.kind=1
 case neg=>simp[h1,show cD 5 7=true by decide,hL,hs]
 have hf:¬(cD 5 7=true/\m.k2.kind≠1):=fun h=>h.2 h1
 rw[Yp hf];have hC:cT L (kk 5 k) (mm 7 m)=(if bR L (e9 L k) m.k2.value (bW m.data)=0 then(if bH L (e9 L k) m.k2.value (bW m.data) true=0 then 0 else 1000+bH L (e9 L k) m.k2.value (bW m.data) true)else bR L (e9 L k) m.k2.value (bW m.data),dg,jD L (e9 L k) m.k2.value m.data):=rfl
 rw[hC];clear hC;have e3:∀s,bm.mk 0 s void void void=fC s:=fun _=>rfl
 have e4:fx 0=dg:=rfl;have hi:=FI (L:=L) (k:=aF L (eA k) 0) (a:=m.k2.value) (n:=bW m.data) (w:=true);have hr:aG .i64 (1000+bH L (aF L (eA k) 0) m.k2.value (bW m.data) true):=by simp only[aG,bY];omega
 simp only[e3,e9];simp[h1,hr,th,hL,hs];grind
theorem IP (L:List Sx.Obj) (n:Int) (k:Key) (m:bm) (hL:aq L) (hs:aw m.data):aj Tryz.prog 24 [.lp 0 0] [.ro (.blk nC (gK (.ci .i64 7) m n (.ci .i64 5) k)),.store tS eS L] (kO (aM L n ((kk 5 k)) ((mm 7 m)))) (fun _ _=>False):=
 aW (inl:=(fun f=>f==37||f==58||f==68||f==62||f==141||f==102||f==172||f==93||f==64||f==90||f==89||f==38||f==60||f==101||f==105||f==98)) (ann:=aP) (ab rl (ab cU ak)) (aD Uj aC) (dT bK) (H7 L n k m hL hs) (by kernel_rfl)
theorem Jp (L:List Sx.Obj) (n:Int) (k:Key) (m:bm) (hL:aq L) (hs:aw m.data):
 true=true/\true=true/\true=true/\true=true/\true=true/\(bm.mk 0 eB void void (Key.mk 1 void.oid void.count void.call void.rights m.k0.kind),L)=aM L n (kk 8 k) (mm 1 m):=by
 simp+decide [aM,dE,dK,di,ec,dL,dN,cY,cT,cD,cI,ei,eZ,fx,fC,cH,void,dg,eB,aO,dC,e9,eA,kk,mm,hL,hs];try grind
theorem I3 (L:List Sx.Obj) (n:Int) (k:Key) (m:bm) (hL:aq L) (hs:aw m.data):aj Tryz.prog 24 [.lp 0 0] [.ro (.blk nC (gK (.ci .i64 1) m n (.ci .i64 8) k)),.store tS eS L] (kO (aM L n ((kk 8 k)) ((mm 1 m)))) (fun _ _=>False):=
 aW (inl:=(fun f=>f==37||f==58||f==68||f==62||f==141||f==102||f==172||f==93||f==64||f==90||f==89||f==38||f==60||f==101||f==105||f==99)) (ann:=aP) (ab cU ak) aC (dT bK) (Jp L n k m hL hs) (by kernel_rfl)
theorem MB (L:List Sx.Obj) (n:Int) (k:Key) (m:bm) (hL:aq L) (hs:aw m.data):
 true=true/\true=true/\true=true/\true=true/\(ku m.k0 m.k1=true->true=true/\true=true/\(bm.mk 0 eB void void (Key.mk 1 void.oid void.count void.call void.rights 1),L)=aM
  L n (kk 8 k) (mm 2 m))/\(ku m.k0 m.k1=false->true=true/\true=true/\(bm.mk 0 eB void void (Key.mk 1 void.oid void.count void.call void.rights 0),L)=aM L n (kk 8 k) (mm 2 m)):=by
 simp+decide [aM,dE,dK,di,ec,dL,dN,cY,cT,cD,cI,ei,eZ,fx,fC,cH,void,dg,eB,aO,dC,e9,eA,kk,mm,hL,hs];try grind
theorem LR (L:List Sx.Obj) (n:Int) (k:Key) (m:bm) (hL:aq L) (hs:aw m.data):aj Tryz.prog 24 [.lp 0 0] [.ro (.blk nC (gK (.ci .i64 2) m n (.ci .i64 8) k)),.store tS eS L] (kO (aM L n ((kk 8 k)) ((mm 2 m)))) (fun _ _=>False):=
 aW (inl:=(fun f=>f==37||f==58||f==68||f==62||f==141||f==102||f==172||f==93||f==64||f==90||f==89||f==38||f==60||f==101||f==105||f==100)) (ann:=aP) (ab Ps (ab cU ak)) aC (dT bK) (MB L n k m hL hs) (by kernel_rfl)
theorem Ir (L:List Sx.Obj) (n:Int) (k:Key) (m:bm) (hL:aq L) (hs:aw m.data):
 true=true/\true=true/\true=true/\true=true/\true=true/\(bm.mk 0 eB void void (Key.mk 1 void.oid void.count void.call void.rights m.k0.rights),L)=aM L n (kk 8 k) (mm 3 m):=by
 simp+decide [aM,dE,dK,di,ec,dL,dN,cY,cT,cD,cI,ei,eZ,fx,fC,cH,void,dg,eB,aO,dC,e9,eA,kk,mm,hL,hs];try grind
theorem H9 (L:List Sx.Obj) (n:Int) (k:Key) (m:bm) (hL:aq L) (hs:aw m.data):aj Tryz.prog 24 [.lp 0 0] [.ro (.blk nC (gK (.ci .i64 3) m n (.ci .i64 8) k)),.store tS eS L] (kO (aM L n ((kk 8 k)) ((mm 3 m)))) (fun _ _=>False):=
 aW (inl:=(fun f=>f==37||f==58||f==68||f==62||f==141||f==102||f==172||f==93||f==64||f==90||f==89||f==38||f==60||f==101||f==105||f==104)) (ann:=aP) (ab cU ak) aC (dT bK) (Ir L n k m hL hs) (by kernel_rfl)
theorem Jt (L:List Sx.Obj) (n:Int) (k:Key) (m:bm) (hL:aq L) (hs:aw m.data):
 true=true/\true=true/\true=true/\true=true/\true=true/\(bm.mk 0 eB void void (Key.mk 1 void.oid void.count void.call void.rights n),L)=aM L n (kk 9 k) (mm 1 m):=by
 simp+decide [aM,dE,dK,di,ec,dL,dN,cY,cT,cD,cI,ei,eZ,fx,fC,cH,void,dg,eB,aO,dC,e9,eA,kk,mm,hL,hs];try grind
theorem MZ (L:List Sx.Obj) (n:Int) (k:Key) (m:bm) (hL:aq L) (hs:aw m.data):aj Tryz.prog 24 [.lp 0 0] [.ro (.blk nC (gK (.ci .i64 1) m n (.ci .i64 9) k)),.store tS eS L] (kO (aM L n ((kk 9 k)) ((mm 1 m)))) (fun _ _=>False):=
 aW (inl:=(fun f=>f==37||f==58||f==68||f==62||f==141||f==102||f==172||f==93||f==64||f==90||f==89||f==38||f==60||f==101||f==105||f==106)) (ann:=aP) (ab cU ak) aC (dT bK) (Jt L n k m hL hs) (by kernel_rfl)
theorem HK (L:List Sx.Obj) (n:Int) (k:Key) (m:bm) (hL:aq L) (hs:aw m.data):
 true=true/\true=true/\true=true/\(bm.mk 0 eB void void void,L)=aM L n (kk 10 k) (mm 1 m):=by
 simp+decide [aM,dE,dK,di,ec,dL,dN,cY,cT,cD,cI,ei,eZ,fx,fC,cH,void,dg,eB,aO,dC,e9,eA,kk,mm,hL,hs];try grind
theorem Hf (L:List Sx.Obj) (n:Int) (k:Key) (m:bm) (hL:aq L) (hs:aw m.data):aj Tryz.prog 24 [.lp 0 0] [.ro (.blk nC (gK (.ci .i64 1) m n (.ci .i64 10) k)),.store tS eS L] (kO (aM L n ((kk 10 k)) ((mm 1 m)))) (fun _ _=>False):=
 aW (inl:=(fun f=>f==37||f==58||f==68||f==62||f==141||f==102||f==172||f==93||f==64||f==90||f==89||f==38||f==60||f==101||f==105||f==107)) (ann:=aP) (ab cU ak) aC (dT bK) (HK L n k m hL hs) (by kernel_rfl)
end Go.Proofs.YtghpaegglbbocaaGreat
