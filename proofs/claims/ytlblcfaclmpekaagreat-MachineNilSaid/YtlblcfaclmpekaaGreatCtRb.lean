import Derived.Test.YtlblcfaclmpekaaGreatCtQe
import Derived.Test.YtlblcfaclmpekaaGreatCtRa
import Derived.Test.YtlblcfaclmpekaaGreatCtRo
import Derived.Test.YtlblcfaclmpekaaGreatCV
set_option linter.unusedSimpArgs false
set_option linter.unusedVariables false
namespace Go.Proofs.YtlblcfaclmpekaaGreat
open Go.Sx
set_option maxRecDepth 100000
theorem Kz (L:List Sx.Obj) (n:Int) (k:Key) (m:bd) (hL:an L) (hs:au m.data):
 true=true/\true=true/\true=true/\true=true/\true=true/\(bd.mk 0 eB void void (Key.mk 1 void.oid void.count void.call void.rights k.value),L)=aD L n (kk 1 k) (mm 1 m):=by
 simp+decide [aD,cU,di,cY,dW,iq,gO,g8,fQ,dr,cJ,fm,fL,fb,gM,cP,void,dV,eB,aX,eP,eG,eR,kk,mm,hL,hs];try grind
theorem J7 (L:List Sx.Obj) (n:Int) (k:Key) (m:bd) (hL:an L) (hs:au m.data):aj Tryz.prog 102 [.lp 0 0] [.ro (.blk mw (fZ (.ci .i64 1) m n (.ci .i64 1) k)),.store tS eS L] (kO (aD L n ((kk 1 k)) ((mm 1 m)))) (fun _ _=>False):=
 aJ (inl:=(fun f=>f==131||f==142||f==152||f==146||f==202||f==185||f==227||f==177||f==148||f==174||f==173||f==132||f==144||f==184||f==188||f==143)) (ann:=aQ) (ab bZ aq) ay (dg bm) (Kz L n k m hL hs) (by kernel_rfl)
theorem Ja (L:List Sx.Obj) (n:Int) (k:Key) (m:bd) (hL:an L) (hs:au m.data):
 true=true/\true=true/\true=true/\true=true/\true=true/\true=true/\((!decide (m.k2.kind=1))=true->(bd.mk 240 eB void void void,L)=aD L n (kk 2 k) (mm 1 m))/\((!decide
  (m.k2.kind=1))=false->((decide (m.k2.value<0)||decide (2147483647<m.k2.value))=true->true=true/\true=true/\true=true/\((!decide (cA L (kk 2 k) (-1)=0))=true->(bd.mk
  (cA L (kk 2 k) (-1)) eB void void void,L)=aD L n (kk 2 k) (mm 1 m))/\((!decide (cA L (kk 2 k) (-1)=0))=false->(bd.mk 0 eB (aH L (kk 2 k) (-1)) void void,L)=aD L n (kk 2
  k) (mm 1 m)))/\((decide (m.k2.value<0)||decide (2147483647<m.k2.value))=false->true=true/\true=true/\true=true/\((!decide (cA L (kk 2 k) m.k2.value=0))=true->(bd.mk
  (cA L (kk 2 k) m.k2.value) eB void void void,L)=aD L n (kk 2 k) (mm 1 m))/\((!decide (cA L (kk 2 k) m.k2.value=0))=false->(bd.mk 0 eB (aH L (kk 2 k) m.k2.value) void void,L)
  =aD L n (kk 2 k) (mm 1 m)))):=by
 simp+decide [aD,cU,di,cY,dW,iq,gO,g8,fQ,dr,cJ,fm,fL,fb,gM,cP,void,dV,eB,aX,eP,eG,eR,kk,mm,hL,hs];try grind
theorem JT (L:List Sx.Obj) (n:Int) (k:Key) (m:bd) (hL:an L) (hs:au m.data):aj Tryz.prog 102 [.lp 0 0] [.ro (.blk mw (fZ (.ci .i64 1) m n (.ci .i64 2) k)),.store tS eS L] (kO (aD L n ((kk 2 k)) ((mm 1 m)))) (fun _ _=>False):=
 aJ (inl:=(fun f=>f==131||f==142||f==152||f==146||f==202||f==185||f==227||f==177||f==148||f==174||f==173||f==132||f==144||f==184||f==188||f==145)) (ann:=aQ) (ab pM (ab bZ aq)) ay (dg bm) (Ja L n k m hL hs) (by kernel_rfl)
theorem Iv (L:List Sx.Obj) (n:Int) (k:Key) (m:bd) (hL:an L) (hs:au m.data):
 true=true/\true=true/\true=true/\true=true/\true=true/\true=true/\((!decide (m.k2.kind=1))=true->(bd.mk 240 eB void void void,L)=aD L n (kk 2 k) (mm 2 m))/\((!decide
  (m.k2.kind=1))=false->((decide (m.k2.value<0)||decide (2147483647<m.k2.value))=true->true=true/\an L/\true=true/\true=true/\true=true/\((!decide (bq L (kk 2 k) (-1)
  m.k0=0))=true->(bd.mk (bq L (kk 2 k) (-1) m.k0) eB void void void,dC L (kk 2 k) (-1) m.k0)=aD L n (kk 2 k) (mm 2 m))/\((!decide (bq L (kk 2 k) (-1) m.k0=0))=false->
  (bd.mk 0 eB (eh L (kk 2 k) (-1) m.k0) void void,dC L (kk 2 k) (-1) m.k0)=aD L n (kk 2 k) (mm 2 m)))/\((decide (m.k2.value<0)||decide (2147483647<m.k2.value))=false->true=
  true/\an L/\true=true/\true=true/\true=true/\((!decide (bq L (kk 2 k) m.k2.value m.k0=0))=true->(bd.mk (bq L (kk 2 k) m.k2.value m.k0) eB void void void,dC L (kk 2
  k) m.k2.value m.k0)=aD L n (kk 2 k) (mm 2 m))/\((!decide (bq L (kk 2 k) m.k2.value m.k0=0))=false->(bd.mk 0 eB (eh L (kk 2 k) m.k2.value m.k0) void void,dC L (kk 2 k)
  m.k2.value m.k0)=aD L n (kk 2 k) (mm 2 m)))):=by
 simp+decide [aD,cU,di,cY,dW,iq,gO,g8,fQ,dr,cJ,fm,fL,fb,gM,cP,void,dV,eB,aX,eP,eG,eR,kk,mm,hL,hs];try grind
theorem Jh (L:List Sx.Obj) (n:Int) (k:Key) (m:bd) (hL:an L) (hs:au m.data):aj Tryz.prog 102 [.lp 0 0] [.ro (.blk mw (fZ (.ci .i64 2) m n (.ci .i64 2) k)),.store tS eS L] (kO (aD L n ((kk 2 k)) ((mm 2 m)))) (fun _ _=>False):=
 aJ (inl:=(fun f=>f==131||f==142||f==152||f==146||f==202||f==185||f==227||f==177||f==148||f==174||f==173||f==132||f==144||f==184||f==188||f==149)) (ann:=aQ) (ab bZ aq) (aB Dz ay) (dg bm) (Iv L n k m hL hs) (by kernel_rfl)
theorem Gq (L:List Sx.Obj) (n:Int) (k:Key) (m:bd) (hL:an L) (hs:au m.data):
 true=true/\true=true/\true=true/\true=true/\an L/\true=true/\true=true/\((!decide (aM L (kk 2 k) 2 true=0))=true->(bd.mk (aM L (kk 2 k) 2 true) eB void void void,
  fS L (kk 2 k))=aD L n (kk 2 k) (mm 3 m))/\((!decide (aM L (kk 2 k) 2 true=0))=false->(bd.mk 0 eB void void void,fS L (kk 2 k))=aD L n (kk 2 k) (mm 3 m)):=by
 simp+decide [aD,cU,di,cY,dW,iq,gO,g8,fQ,dr,cJ,fm,fL,fb,gM,cP,void,dV,eB,aX,eP,eG,eR,kk,mm,hL,hs];try grind
theorem JL (L:List Sx.Obj) (n:Int) (k:Key) (m:bd) (hL:an L) (hs:au m.data):aj Tryz.prog 102 [.lp 0 0] [.ro (.blk mw (fZ (.ci .i64 3) m n (.ci .i64 2) k)),.store tS eS L] (kO (aD L n ((kk 2 k)) ((mm 3 m)))) (fun _ _=>False):=
 aJ (inl:=(fun f=>f==131||f==142||f==152||f==146||f==202||f==185||f==227||f==177||f==148||f==174||f==173||f==132||f==144||f==184||f==188||f==151)) (ann:=aQ) (ab bZ aq) (aB Nj ay) (dg bm) (Gq L n k m hL hs) (by kernel_rfl)
theorem I3 (L:List Sx.Obj) (n:Int) (k:Key) (m:bd) (hL:an L) (hs:au m.data):
 true=true/\true=true/\true=true/\true=true/\an L/\true=true/\true=true/\((!decide (b6 L (kk 2 k) m.k0=0))=true->(bd.mk (b6 L (kk 2 k) m.k0) eB void void void,
  fq L (kk 2 k) m.k0)=aD L n (kk 2 k) (mm 4 m))/\((!decide (b6 L (kk 2 k) m.k0=0))=false->(bd.mk 0 eB void void void,fq L (kk 2 k) m.k0)=aD L n (kk 2 k) (mm 4 m)):=by
 simp+decide [aD,cU,di,cY,dW,iq,gO,g8,fQ,dr,cJ,fm,fL,fb,gM,cP,void,dV,eB,aX,eP,eG,eR,kk,mm,hL,hs];try grind
theorem KM (L:List Sx.Obj) (n:Int) (k:Key) (m:bd) (hL:an L) (hs:au m.data):aj Tryz.prog 102 [.lp 0 0] [.ro (.blk mw (fZ (.ci .i64 4) m n (.ci .i64 2) k)),.store tS eS L] (kO (aD L n ((kk 2 k)) ((mm 4 m)))) (fun _ _=>False):=
 aJ (inl:=(fun f=>f==131||f==142||f==152||f==146||f==202||f==185||f==227||f==177||f==148||f==174||f==173||f==132||f==144||f==184||f==188||f==154)) (ann:=aQ) (ab bZ aq) (aB NL ay) (dg bm) (I3 L n k m hL hs) (by kernel_rfl)
theorem GA (L:List Sx.Obj) (n:Int) (k:Key) (m:bd) (hL:an L) (hs:au m.data) (hk:aP (kk 2 k)=true):
 true=true/\true=true/\true=true/\true=true/\true=true/\((!decide (m.k2.kind=1))=true->(bd.mk 240 eB void void void,L)=aD L n (kk 2 k) (mm 5 m))/\((!decide (m.k2.kind=1))=
  false->true=true/\((!(decide (0<=m.k2.value)&&decide (m.k2.value<=7)))=true->(bd.mk 2 eB void void void,L)=aD L n (kk 2 k) (mm 5 m))/\((!(decide (0<=m.k2.value)&&decide
  (m.k2.value<=7)))=false->uC (kk 2 k) m.k2.value/\true=true/\true=true/\true=true/\(bd.mk 0 eB (nr (kk 2 k) m.k2.value) void void,L)=aD L n (kk 2 k) (mm 5 m))):=by
 have hX:aD L n (kk 2 k) (mm 5 m)=if m.k2.kind=1 then(if 0<=m.k2.value/\m.k2.value<=7 then(fm (nr (kk 2 k) m.k2.value),L)else(fb 2,L))else(fb 240,L):=by
  by_cases h1:m.k2.kind=1
  ·by_cases h2:0<=m.k2.value/\m.k2.value<=7
   ·simp+decide [aD,cU,di,cY,dW,iq,gO,g8,fQ,dr,cJ,fm,fL,fb,gM,cP,void,dV,eB,aX,eP,eG,eR,kk,mm,h1,h2]
   ·simp+decide [aD,cU,di,cY,dW,iq,gO,g8,fQ,dr,cJ,fm,fL,fb,gM,cP,void,dV,eB,aX,eP,eG,eR,kk,mm,h1,h2]
  ·simp+decide [aD,cU,di,cY,dW,iq,gO,g8,fQ,dr,cJ,fm,fL,fb,gM,cP,void,dV,eB,aX,eP,eG,eR,kk,mm,h1]
 rw[hX];refine⟨rfl,rfl,rfl,rfl,rfl,fun h=>?_,fun h=>⟨rfl,fun h'=>?_,fun h'=>⟨⟨hk,?_⟩,rfl,rfl,rfl,?_⟩⟩⟩
 ·have h:¬m.k2.kind=1:=by simpa using h
  rw[UZ h];rfl
 ·have h:m.k2.kind=1:=by simpa using h
  have h':¬(0<=m.k2.value/\m.k2.value<=7):=fun hh=>by simp[hh.1,hh.2]at h'
  rw[U0 h,UZ h'];rfl
 ·simpa using h'
 ·have h:m.k2.kind=1:=by simpa using h
  have h':0<=m.k2.value/\m.k2.value<=7:=by simpa using h'
  rw[U0 h,U0 h'];rfl
theorem Ib (L:List Sx.Obj) (n:Int) (k:Key) (m:bd) (hL:an L) (hs:au m.data) (hk:aP (kk 2 k)=true):aj Tryz.prog 102 [.lp 0 0] [.ro (.blk mw (fZ (.ci .i64 5) m n (.ci .i64 2) k)),.store tS eS L] (kO (aD L n ((kk 2 k)) ((mm 5 m)))) (fun _ _=>False):=
 aJ (inl:=(fun f=>f==131||f==142||f==152||f==146||f==202||f==185||f==227||f==177||f==148||f==174||f==173||f==132||f==144||f==184||f==188||f==156)) (ann:=aQ) (ab AN (ab bZ aq)) ay (dg bm) (GA L n k m hL hs hk) (by kernel_rfl)
theorem KD (L:List Sx.Obj) (n:Int) (k:Key) (m:bd) (hL:an L) (hs:au m.data):
 true=true/\true=true/\true=true/\true=true/\((!decide (k.rights=0))=true->(bd.mk 191 eB void void void,L)=aD L n (kk 2 k) (mm 6 m))/\((!decide (k.rights=0))=false->true=
  true/\true=true/\true=true/\(bd.mk 0 eB (Key.mk 5 k.oid k.count void.call void.rights void.value) void void,L)=aD L n (kk 2 k) (mm 6 m)):=by
 simp+decide [aD,cU,di,cY,dW,iq,gO,g8,fQ,dr,cJ,fm,fL,fb,gM,cP,void,dV,eB,aX,eP,eG,eR,kk,mm,hL,hs];try grind
theorem HW (L:List Sx.Obj) (n:Int) (k:Key) (m:bd) (hL:an L) (hs:au m.data):aj Tryz.prog 102 [.lp 0 0] [.ro (.blk mw (fZ (.ci .i64 6) m n (.ci .i64 2) k)),.store tS eS L] (kO (aD L n ((kk 2 k)) ((mm 6 m)))) (fun _ _=>False):=
 aJ (inl:=(fun f=>f==131||f==142||f==152||f==146||f==202||f==185||f==227||f==177||f==148||f==174||f==173||f==132||f==144||f==184||f==188||f==157)) (ann:=aQ) (ab bZ aq) ay (dg bm) (KD L n k m hL hs) (by kernel_rfl)
theorem Jr (L:List Sx.Obj) (n:Int) (k:Key) (m:bd) (hL:an L) (hs:au m.data):
 true=true/\true=true/\true=true/\true=true/\true=true/\true=true/\((!decide (m.k2.kind=1))=true->(bd.mk 240 eB void void void,L)=aD L n (kk 3 k) (mm 1 m))/\((!decide
  (m.k2.kind=1))=false->((decide (m.k2.value<0)||decide (2147483647<m.k2.value))=true->true=true/\true=true/\true=true/\((!decide (bR L (kk 3 k) (-1) (imax 0 (qa 32
  (Int.ofNat (64+Nat.succ 0))))=0))=true->(bd.mk (bR L (kk 3 k) (-1) (imax 0 (qa 32 (Int.ofNat (64+Nat.succ 0))))) eB void void void,L)=aD L n (kk 3 k) (mm 1 m))/\((!decide
  (bR L (kk 3 k) (-1) (imax 0 (qa 32 (Int.ofNat (64+Nat.succ 0))))=0))=false->(bd.mk 0 (dN L (kk 3 k) (-1) (imax 0 (qa 32 (Int.ofNat (64+Nat.succ 0))))) void void void,L)=
  aD L n (kk 3 k) (mm 1 m)))/\((decide (m.k2.value<0)||decide (2147483647<m.k2.value))=false->aL IntKind.i64 (64-m.k2.value)/\true=true/\true=true/\true=true/\((!decide
  (bR L (kk 3 k) m.k2.value (imax 0 (qa 32 (64-m.k2.value)))=0))=true->(bd.mk (bR L (kk 3 k) m.k2.value (imax 0 (qa 32 (64-m.k2.value)))) eB void void void,L)=aD L n (kk 3
  k) (mm 1 m))/\((!decide (bR L (kk 3 k) m.k2.value (imax 0 (qa 32 (64-m.k2.value)))=0))=false->(bd.mk 0 (dN L (kk 3 k) m.k2.value (imax 0 (qa 32 (64-m.k2.value)))) void void
  void,L)=aD L n (kk 3 k) (mm 1 m)))):=by
 have hX:aD L n (kk 3 k) (mm 1 m)=if m.k2.kind=1 then(if bR L (kk 3 k) (aX m) (tQ (aX m))=0 then(gM (dN L (kk 3 k) (aX m) (tQ (aX m))),L)else(fb (bR L (kk 3 k) (aX m) (tQ (aX m))),L))else(fb 240,L):=by
  by_cases h1:m.k2.kind=1
  ·by_cases h2:bR L (kk 3 k) (aX m) (tQ (aX m))=0
   ·simp+decide [aD,cU,di,cY,dW,gO,cJ,show(kk 3 k).kind=3 from rfl,show(mm 1 m).code=1 from rfl,show(mm 1 m).k2=m.k2 from rfl,show aX (mm 1 m)=aX m from rfl,h1,h2]
   ·simp+decide [aD,cU,di,cY,dW,gO,cJ,show(kk 3 k).kind=3 from rfl,show(mm 1 m).code=1 from rfl,show(mm 1 m).k2=m.k2 from rfl,show aX (mm 1 m)=aX m from rfl,h1,h2]
  ·simp+decide [aD,cU,di,cY,cJ,dr,show(kk 3 k).kind=3 from rfl,show(mm 1 m).code=1 from rfl,show(mm 1 m).k2=m.k2 from rfl,h1,dV,fb]
 rw[hX];have e1:∀s,bd.mk 0 s void void void=gM s:=fun _=>rfl
 have e2:∀c,bd.mk c eB void void void=fb c:=fun _=>rfl
 simp only[e1,e2];by_cases h1:m.k2.kind=1
 ·by_cases h2:0<=m.k2.value/\m.k2.value<=2147483647
  ·have hN:aX m=m.k2.value:=by unfold aX;rw[U0 h2]
   have hR:tQ m.k2.value=imax 0 (qa 32 (64-m.k2.value)):=rfl;have hr:aL .i64 (64-m.k2.value):=by simp only[aL,b7];omega
   rw[hN,hR];simp[h1,h2,hr];grind
  ·have hN:aX m= -1:=by unfold aX;rw[UZ h2]
   have hR:tQ (-1)=imax 0 (qa 32 65):=rfl;rw[hN,hR];simp[h1];grind
 ·simp[h1]
theorem I7 (L:List Sx.Obj) (n:Int) (k:Key) (m:bd) (hL:an L) (hs:au m.data):aj Tryz.prog 102 [.lp 0 0] [.ro (.blk mw (fZ (.ci .i64 1) m n (.ci .i64 3) k)),.store tS eS L] (kO (aD L n ((kk 3 k)) ((mm 1 m)))) (fun _ _=>False):=
 aJ (inl:=(fun f=>f==131||f==142||f==152||f==146||f==202||f==185||f==227||f==177||f==148||f==174||f==173||f==132||f==144||f==184||f==188||f==158)) (ann:=aQ) (ab m7 (ab bZ aq)) ay (dg bm) (Jr L n k m hL hs) (by kernel_rfl)
theorem Iu (L:List Sx.Obj) (n:Int) (k:Key) (m:bd) (hL:an L) (hs:au m.data):
 true=true/\true=true/\true=true/\true=true/\true=true/\true=true/\((!decide (m.k2.kind=1))=true->(bd.mk 240 eB void void void,L)=aD L n (kk 3 k) (mm 2 m))/\((!decide
  (m.k2.kind=1))=false->((decide (m.k2.value<0)||decide (2147483647<m.k2.value))=true->true=true/\(an L/\au m.data)/\true=true/\true=true/\((!decide (cM L (kk 3 k)
  (-1) m.data=0))=true->(bd.mk (cM L (kk 3 k) (-1) m.data) eB void void void,eW L (kk 3 k) (-1) m.data)=aD L n (kk 3 k) (mm 2 m))/\((!decide (cM L (kk 3 k) (-1) m.data=0))=
  false->(bd.mk 0 eB void void void,eW L (kk 3 k) (-1) m.data)=aD L n (kk 3 k) (mm 2 m)))/\((decide (m.k2.value<0)||decide (2147483647<m.k2.value))=false->true=true/\(an L/\
  au m.data)/\true=true/\true=true/\((!decide (cM L (kk 3 k) m.k2.value m.data=0))=true->(bd.mk (cM L (kk 3 k) m.k2.value m.data) eB void void void,eW L (kk 3 k) m.k2.value
  m.data)=aD L n (kk 3 k) (mm 2 m))/\((!decide (cM L (kk 3 k) m.k2.value m.data=0))=false->(bd.mk 0 eB void void void,eW L (kk 3 k) m.k2.value m.data)=aD L n (kk 3 k) (mm 2
  m)))):=by
 simp+decide [aD,cU,di,cY,dW,iq,gO,g8,fQ,dr,cJ,fm,fL,fb,gM,cP,void,dV,eB,aX,eP,eG,eR,kk,mm,hL,hs];try grind
theorem HY (L:List Sx.Obj) (n:Int) (k:Key) (m:bd) (hL:an L) (hs:au m.data):aj Tryz.prog 102 [.lp 0 0] [.ro (.blk mw (fZ (.ci .i64 2) m n (.ci .i64 3) k)),.store tS eS L] (kO (aD L n ((kk 3 k)) ((mm 2 m)))) (fun _ _=>False):=
 aJ (inl:=(fun f=>f==131||f==142||f==152||f==146||f==202||f==185||f==227||f==177||f==148||f==174||f==173||f==132||f==144||f==184||f==188||f==159)) (ann:=aQ) (ab bZ aq) (aB zk ay) (dg bm) (Iu L n k m hL hs) (by kernel_rfl)
theorem Ke (L:List Sx.Obj) (n:Int) (k:Key) (m:bd) (hL:an L) (hs:au m.data):
 true=true/\true=true/\true=true/\true=true/\an L/\true=true/\true=true/\((!decide (bn L (kk 3 k) true=0))=true->(bd.mk (bn L (kk 3 k) true) eB void void void,
  fK L (kk 3 k))=aD L n (kk 3 k) (mm 3 m))/\((!decide (bn L (kk 3 k) true=0))=false->(bd.mk 0 eB void void void,fK L (kk 3 k))=aD L n (kk 3 k) (mm 3 m)):=by
 simp+decide [aD,cU,di,cY,dW,iq,gO,g8,fQ,dr,cJ,fm,fL,fb,gM,cP,void,dV,eB,aX,eP,eG,eR,kk,mm,hL,hs];try grind
theorem Gl (L:List Sx.Obj) (n:Int) (k:Key) (m:bd) (hL:an L) (hs:au m.data):aj Tryz.prog 102 [.lp 0 0] [.ro (.blk mw (fZ (.ci .i64 3) m n (.ci .i64 3) k)),.store tS eS L] (kO (aD L n ((kk 3 k)) ((mm 3 m)))) (fun _ _=>False):=
 aJ (inl:=(fun f=>f==131||f==142||f==152||f==146||f==202||f==185||f==227||f==177||f==148||f==174||f==173||f==132||f==144||f==184||f==188||f==161)) (ann:=aQ) (ab bZ aq) (aB LX ay) (dg bm) (Ke L n k m hL hs) (by kernel_rfl)
theorem KH (L:List Sx.Obj) (n:Int) (k:Key) (m:bd) (hL:an L) (hs:au m.data):
 true=true/\true=true/\true=true/\true=true/\an L/\true=true/\true=true/\((!decide (cL L (kk 3 k) m.k0=0))=true->(bd.mk (cL L (kk 3 k) m.k0) eB void void void,fN
  L (kk 3 k) m.k0)=aD L n (kk 3 k) (mm 4 m))/\((!decide (cL L (kk 3 k) m.k0=0))=false->(bd.mk 0 eB void void void,fN L (kk 3 k) m.k0)=aD L n (kk 3 k) (mm 4 m)):=by
 simp+decide [aD,cU,di,cY,dW,iq,gO,g8,fQ,dr,cJ,fm,fL,fb,gM,cP,void,dV,eB,aX,eP,eG,eR,kk,mm,hL,hs];try grind
theorem JZ (L:List Sx.Obj) (n:Int) (k:Key) (m:bd) (hL:an L) (hs:au m.data):aj Tryz.prog 102 [.lp 0 0] [.ro (.blk mw (fZ (.ci .i64 4) m n (.ci .i64 3) k)),.store tS eS L] (kO (aD L n ((kk 3 k)) ((mm 4 m)))) (fun _ _=>False):=
 aJ (inl:=(fun f=>f==131||f==142||f==152||f==146||f==202||f==185||f==227||f==177||f==148||f==174||f==173||f==132||f==144||f==184||f==188||f==163)) (ann:=aQ) (ab bZ aq) (aB Ps ay) (dg bm) (KH L n k m hL hs) (by kernel_rfl)
theorem Hk (L:List Sx.Obj) (n:Int) (k:Key) (m:bd) (hL:an L) (hs:au m.data) (hk:aP (kk 3 k)=true):
 true=true/\true=true/\true=true/\true=true/\true=true/\((!decide (m.k2.kind=1))=true->(bd.mk 240 eB void void void,L)=aD L n (kk 3 k) (mm 5 m))/\((!decide (m.k2.kind=1))=
  false->true=true/\((!(decide (0<=m.k2.value)&&decide (m.k2.value<=7)))=true->(bd.mk 2 eB void void void,L)=aD L n (kk 3 k) (mm 5 m))/\((!(decide (0<=m.k2.value)&&decide
  (m.k2.value<=7)))=false->uC (kk 3 k) m.k2.value/\true=true/\true=true/\true=true/\(bd.mk 0 eB (nr (kk 3 k) m.k2.value) void void,L)=aD L n (kk 3 k) (mm 5 m))):=by
 have hX:aD L n (kk 3 k) (mm 5 m)=if m.k2.kind=1 then(if 0<=m.k2.value/\m.k2.value<=7 then(fm (nr (kk 3 k) m.k2.value),L)else(fb 2,L))else(fb 240,L):=by
  by_cases h1:m.k2.kind=1
  ·by_cases h2:0<=m.k2.value/\m.k2.value<=7
   ·simp+decide [aD,cU,di,cY,dW,iq,gO,g8,fQ,dr,cJ,fm,fL,fb,gM,cP,void,dV,eB,aX,eP,eG,eR,kk,mm,h1,h2]
   ·simp+decide [aD,cU,di,cY,dW,iq,gO,g8,fQ,dr,cJ,fm,fL,fb,gM,cP,void,dV,eB,aX,eP,eG,eR,kk,mm,h1,h2]
  ·simp+decide [aD,cU,di,cY,dW,iq,gO,g8,fQ,dr,cJ,fm,fL,fb,gM,cP,void,dV,eB,aX,eP,eG,eR,kk,mm,h1]
 rw[hX];refine⟨rfl,rfl,rfl,rfl,rfl,fun h=>?_,fun h=>⟨rfl,fun h'=>?_,fun h'=>⟨⟨hk,?_⟩,rfl,rfl,rfl,?_⟩⟩⟩
 ·have h:¬m.k2.kind=1:=by simpa using h
  rw[UZ h];rfl
 ·have h:m.k2.kind=1:=by simpa using h
  have h':¬(0<=m.k2.value/\m.k2.value<=7):=fun hh=>by simp[hh.1,hh.2]at h'
  rw[U0 h,UZ h'];rfl
 ·simpa using h'
 ·have h:m.k2.kind=1:=by simpa using h
  have h':0<=m.k2.value/\m.k2.value<=7:=by simpa using h'
  rw[U0 h,U0 h'];rfl
theorem Hq (L:List Sx.Obj) (n:Int) (k:Key) (m:bd) (hL:an L) (hs:au m.data) (hk:aP (kk 3 k)=true):aj Tryz.prog 102 [.lp 0 0] [.ro (.blk mw (fZ (.ci .i64 5) m n (.ci .i64 3) k)),.store tS eS L] (kO (aD L n ((kk 3 k)) ((mm 5 m)))) (fun _ _=>False):=
 aJ (inl:=(fun f=>f==131||f==142||f==152||f==146||f==202||f==185||f==227||f==177||f==148||f==174||f==173||f==132||f==144||f==184||f==188||f==156)) (ann:=aQ) (ab AN (ab bZ aq)) ay (dg bm) (Hk L n k m hL hs hk) (by kernel_rfl)
theorem Hg (L:List Sx.Obj) (n:Int) (k:Key) (m:bd) (hL:an L) (hs:au m.data):
 true=true/\true=true/\true=true/\true=true/\an L/\true=true/\true=true/\true=true/\((!decide (cZ L (kk 4 k) 1=0))=true->(bd.mk (cZ L (kk 4 k) 1) eB void void
  void,fz L (kk 4 k) 1)=aD L n (kk 4 k) (mm 1 m))/\((!decide (cZ L (kk 4 k) 1=0))=false->(bd.mk 0 eB (ei L (kk 4 k) 1) void void,fz L (kk 4 k) 1)=aD L n (kk 4 k) (mm 1
  m)):=by
 simp+decide [aD,cU,di,cY,dW,iq,gO,g8,fQ,dr,cJ,fm,fL,fb,gM,cP,void,dV,eB,aX,eP,eG,eR,kk,mm,hL,hs];try grind
theorem HE (L:List Sx.Obj) (n:Int) (k:Key) (m:bd) (hL:an L) (hs:au m.data):aj Tryz.prog 102 [.lp 0 0] [.ro (.blk mw (fZ (.ci .i64 1) m n (.ci .i64 4) k)),.store tS eS L] (kO (aD L n ((kk 4 k)) ((mm 1 m)))) (fun _ _=>False):=
 aJ (inl:=(fun f=>f==131||f==142||f==152||f==146||f==202||f==185||f==227||f==177||f==148||f==174||f==173||f==132||f==144||f==184||f==188||f==210)) (ann:=aQ) (ab bZ aq) (aB Bz ay) (dg bm) (Hg L n k m hL hs) (by kernel_rfl)
theorem H7 (L:List Sx.Obj) (n:Int) (k:Key) (m:bd) (hL:an L) (hs:au m.data):
 true=true/\true=true/\true=true/\true=true/\an L/\true=true/\true=true/\true=true/\((!decide (cZ L (kk 4 k) 2=0))=true->(bd.mk (cZ L (kk 4 k) 2) eB void void
  void,fz L (kk 4 k) 2)=aD L n (kk 4 k) (mm 2 m))/\((!decide (cZ L (kk 4 k) 2=0))=false->(bd.mk 0 eB (ei L (kk 4 k) 2) void void,fz L (kk 4 k) 2)=aD L n (kk 4 k) (mm 2
  m)):=by
 simp+decide [aD,cU,di,cY,dW,iq,gO,g8,fQ,dr,cJ,fm,fL,fb,gM,cP,void,dV,eB,aX,eP,eG,eR,kk,mm,hL,hs];try grind
theorem G3 (L:List Sx.Obj) (n:Int) (k:Key) (m:bd) (hL:an L) (hs:au m.data):aj Tryz.prog 102 [.lp 0 0] [.ro (.blk mw (fZ (.ci .i64 2) m n (.ci .i64 4) k)),.store tS eS L] (kO (aD L n ((kk 4 k)) ((mm 2 m)))) (fun _ _=>False):=
 aJ (inl:=(fun f=>f==131||f==142||f==152||f==146||f==202||f==185||f==227||f==177||f==148||f==174||f==173||f==132||f==144||f==184||f==188||f==210)) (ann:=aQ) (ab bZ aq) (aB Bz ay) (dg bm) (H7 L n k m hL hs) (by kernel_rfl)
theorem IC (L:List Sx.Obj) (n:Int) (k:Key) (m:bd) (hL:an L) (hs:au m.data):
 true=true/\true=true/\true=true/\true=true/\an L/\true=true/\true=true/\((!decide (du L (kk 4 k) m.k0=0))=true->(bd.mk (du L (kk 4 k) m.k0) eB void void void,iJ
  L (kk 4 k) m.k0)=aD L n (kk 4 k) (mm 3 m))/\((!decide (du L (kk 4 k) m.k0=0))=false->(bd.mk 0 eB void void void,iJ L (kk 4 k) m.k0)=aD L n (kk 4 k) (mm 3 m)):=by
 simp+decide [aD,cU,di,cY,dW,iq,gO,g8,fQ,dr,cJ,fm,fL,fb,gM,cP,void,dV,eB,aX,eP,eG,eR,kk,mm,hL,hs];try grind
theorem HN (L:List Sx.Obj) (n:Int) (k:Key) (m:bd) (hL:an L) (hs:au m.data):aj Tryz.prog 102 [.lp 0 0] [.ro (.blk mw (fZ (.ci .i64 3) m n (.ci .i64 4) k)),.store tS eS L] (kO (aD L n ((kk 4 k)) ((mm 3 m)))) (fun _ _=>False):=
 aJ (inl:=(fun f=>f==131||f==142||f==152||f==146||f==202||f==185||f==227||f==177||f==148||f==174||f==173||f==132||f==144||f==184||f==188||f==166)) (ann:=aQ) (ab bZ aq) (aB Ls ay) (dg bm) (IC L n k m hL hs) (by kernel_rfl)
theorem JU (L:List Sx.Obj) (n:Int) (k:Key) (m:bd) (hL:an L) (hs:au m.data):
 true=true/\true=true/\true=true/\true=true/\true=true/\true=true/\((!decide (m.k2.kind=1))=true->(bd.mk 240 eB void void void,L)=aD L n (kk 4 k) (mm 4 m))/\((!decide
  (m.k2.kind=1))=false->((decide (m.k2.value<0)||decide (2147483647<m.k2.value))=true->true=true/\an L/\true=true/\true=true/\true=true/\((!decide (bS L (kk 4 k) (-1)=
  0))=true->(bd.mk (bS L (kk 4 k) (-1)) eB void void void,bg L (kk 4 k) (-1))=aD L n (kk 4 k) (mm 4 m))/\((!decide (bS L (kk 4 k) (-1)=0))=false->(bd.mk 0 eB (bW L (kk 4 k)
  (-1)) void void,bg L (kk 4 k) (-1))=aD L n (kk 4 k) (mm 4 m)))/\((decide (m.k2.value<0)||decide (2147483647<m.k2.value))=false->true=true/\an L/\true=true/\true=true/\
  true=true/\((!decide (bS L (kk 4 k) m.k2.value=0))=true->(bd.mk (bS L (kk 4 k) m.k2.value) eB void void void,bg L (kk 4 k) m.k2.value)=aD L n (kk 4 k) (mm 4 m))/\((!decide
  (bS L (kk 4 k) m.k2.value=0))=false->(bd.mk 0 eB (bW L (kk 4 k) m.k2.value) void void,bg L (kk 4 k) m.k2.value)=aD L n (kk 4 k) (mm 4 m)))):=by
 simp+decide [aD,cU,di,cY,dW,iq,gO,g8,fQ,dr,cJ,fm,fL,fb,gM,cP,void,dV,eB,aX,eP,eG,eR,kk,mm,hL,hs];try grind
theorem Ju (L:List Sx.Obj) (n:Int) (k:Key) (m:bd) (hL:an L) (hs:au m.data):aj Tryz.prog 102 [.lp 0 0] [.ro (.blk mw (fZ (.ci .i64 4) m n (.ci .i64 4) k)),.store tS eS L] (kO (aD L n ((kk 4 k)) ((mm 4 m)))) (fun _ _=>False):=
 aJ (inl:=(fun f=>f==131||f==142||f==152||f==146||f==202||f==185||f==227||f==177||f==148||f==174||f==173||f==132||f==144||f==184||f==188||f==168)) (ann:=aQ) (ab bZ aq) (aB EW ay) (dg bm) (JU L n k m hL hs) (by kernel_rfl)
theorem Km (L:List Sx.Obj) (n:Int) (k:Key) (m:bd) (hL:an L) (hs:au m.data):
 true=true/\true=true/\true=true/\true=true/\((!decide (aV L (kk 4 k)=0))=true->(bd.mk (aV L (kk 4 k)) eB void void void,L)=aD L n (kk 4 k) (mm 5 m))/\((!decide (aV
  L (kk 4 k)=0))=false->true=true/\(lH L (kk 4 k) m.k0=true->true=true/\true=true/\(bd.mk 0 eB void void (Key.mk 1 void.oid void.count void.call void.rights 1),L)=aD L n (kk 4
  k) (mm 5 m))/\(lH L (kk 4 k) m.k0=false->true=true/\true=true/\(bd.mk 0 eB void void (Key.mk 1 void.oid void.count void.call void.rights 0),L)=aD L n (kk 4 k) (mm 5 m))):=by
 simp+decide [aD,cU,di,cY,dW,iq,gO,g8,fQ,dr,cJ,fm,fL,fb,gM,cP,void,dV,eB,aX,eP,eG,eR,kk,mm,hL,hs];try grind
theorem Js (L:List Sx.Obj) (n:Int) (k:Key) (m:bd) (hL:an L) (hs:au m.data):aj Tryz.prog 102 [.lp 0 0] [.ro (.blk mw (fZ (.ci .i64 5) m n (.ci .i64 4) k)),.store tS eS L] (kO (aD L n ((kk 4 k)) ((mm 5 m)))) (fun _ _=>False):=
 aJ (inl:=(fun f=>f==131||f==142||f==152||f==146||f==202||f==185||f==227||f==177||f==148||f==174||f==173||f==132||f==144||f==184||f==188||f==170)) (ann:=aQ) (ab Gk (ab bZ aq)) ay (dg bm) (Km L n k m hL hs) (by kernel_rfl)
theorem Gu (L:List Sx.Obj) (n:Int) (k:Key) (m:bd) (hL:an L) (hs:au m.data):
 true=true/\true=true/\true=true/\true=true/\an L/\true=true/\((!decide (aV L (kk 4 k)=0))=true->(bd.mk (aV L (kk 4 k)) eB void void void,jo L (kk 4 k))=aD L n
  (kk 4 k) (mm 6 m))/\((!decide (aV L (kk 4 k)=0))=false->true=true/\true=true/\(bd.mk 0 eB void void (Key.mk 1 void.oid void.count void.call void.rights (ir L (kk 4 k))),jo L
  (kk 4 k))=aD L n (kk 4 k) (mm 6 m)):=by
 simp+decide [aD,cU,di,cY,dW,iq,gO,g8,fQ,dr,cJ,fm,fL,fb,gM,cP,void,dV,eB,aX,eP,eG,eR,kk,mm,hL,hs];try grind
theorem Hy (L:List Sx.Obj) (n:Int) (k:Key) (m:bd) (hL:an L) (hs:au m.data):aj Tryz.prog 102 [.lp 0 0] [.ro (.blk mw (fZ (.ci .i64 6) m n (.ci .i64 4) k)),.store tS eS L] (kO (aD L n ((kk 4 k)) ((mm 6 m)))) (fun _ _=>False):=
 aJ (inl:=(fun f=>f==131||f==142||f==152||f==146||f==202||f==185||f==227||f==177||f==148||f==174||f==173||f==132||f==144||f==184||f==188||f==171)) (ann:=aQ) (ab bZ aq) (aB GN ay) (dg bm) (Gu L n k m hL hs) (by kernel_rfl)
theorem Il (L:List Sx.Obj) (n:Int) (k:Key) (m:bd) (hL:an L) (hs:au m.data):
 true=true/\true=true/\true=true/\true=true/\true=true/\true=true/\true=true/\true=true/\((!decide (m.k2.kind=1))=true->(bd.mk 240 eB void void void,L)=aD L n (kk 5
  k) (mm 1 m))/\((!decide (m.k2.kind=1))=false->((decide (m.k2.value<0)||decide (2147483647<m.k2.value))=true->true=true/\(bd.mk 4 eB void void void,L)=aD L n (kk 5 k) (mm 1 m))
  /\((decide (m.k2.value<0)||decide (2147483647<m.k2.value))=false->true=true/\((!(decide (0<=m.k2.value)&&decide (m.k2.value<12)))=true->(bd.mk 4 eB void void void,L)=aD L n
  (kk 5 k) (mm 1 m))/\((!(decide (0<=m.k2.value)&&decide (m.k2.value<12)))=false->aL IntKind.i64 (m.k2.value+4)/\true=true/\true=true/\true=true/\((!decide (cA L (Key.mk 2
  k.oid k.count void.call void.rights void.value) (m.k2.value+4)=0))=true->(bd.mk (cA L (Key.mk 2 k.oid k.count void.call void.rights void.value) (m.k2.value+4)) eB void void void,L)=
  aD L n (kk 5 k) (mm 1 m))/\((!decide (cA L (Key.mk 2 k.oid k.count void.call void.rights void.value) (m.k2.value+4)=0))=false->(bd.mk 0 eB (aH L (Key.mk 2 k.oid k.count void.call
  void.rights void.value) (m.k2.value+4)) void void,L)=aD L n (kk 5 k) (mm 1 m))))):=by
 have hw:Key.mk 2 k.oid k.count void.call void.rights void.value=eR k:=rfl;have e2:∀c,bd.mk c eB void void void=fb c:=fun _=>rfl
 simp only[hw,e2];have hX:=Ep (L:=L) (n:=n) (k:=k) (m:=m) (c:=1) (by omega)
 rw[hX];clear hX;by_cases h1:m.k2.kind=1
 case neg=>simp[h1,show dr 5 1=true by decide,hL,hs]
 have hf:¬(dr 5 1=true/\m.k2.kind≠1):=fun h=>h.2 h1
 rw[UZ hf];have hC:fQ L (kk 5 k) (mm 1 m)=(if aX m<0\/11<aX m then 4 else cA L (eR k) (aX m+4),fm (aH L (eR k) (aX m+4)),L):=rfl
 rw[hC];clear hC;have e3:∀a,bd.mk 0 eB a void void=fm a:=fun _=>rfl
 simp only[e3];by_cases h2:0<=m.k2.value/\m.k2.value<=2147483647
 ·have hN:aX m=m.k2.value:=by unfold aX;rw[U0 h2]
  have hr:aL .i64 (m.k2.value+4):=by simp only[aL,b7];omega
  rw[hN];by_cases h3:11<m.k2.value
  ·have h4:¬m.k2.value<12:=by omega
   simp[h1,h2,h3,h4,re,hr]<;>omega
  ·have h4:m.k2.value<12:=by omega
   have h5:¬(m.k2.value<0\/11<m.k2.value):=by omega
   simp[h1,h2,h4,h5,re,hr,hL];grind
 ·have hN:aX m= -1:=by unfold aX;rw[UZ h2]
  rw[hN];simp[h1,re]<;>omega
theorem J6 (L:List Sx.Obj) (n:Int) (k:Key) (m:bd) (hL:an L) (hs:au m.data):aj Tryz.prog 102 [.lp 0 0] [.ro (.blk mw (fZ (.ci .i64 1) m n (.ci .i64 5) k)),.store tS eS L] (kO (aD L n ((kk 5 k)) ((mm 1 m)))) (fun _ _=>False):=
 aJ (inl:=(fun f=>f==131||f==142||f==152||f==146||f==202||f==185||f==227||f==177||f==148||f==174||f==173||f==132||f==144||f==184||f==188||f==172)) (ann:=aQ) (ab pM (ab bZ aq)) ay (dg bm) (Il L n k m hL hs) (by kernel_rfl)
theorem IG (L:List Sx.Obj) (n:Int) (k:Key) (m:bd) (hL:an L) (hs:au m.data):
 true=true/\true=true/\true=true/\true=true/\true=true/\true=true/\true=true/\true=true/\((!decide (m.k2.kind=1))=true->(bd.mk 240 eB void void void,L)=aD L n (kk 5
  k) (mm 2 m))/\((!decide (m.k2.kind=1))=false->((decide (m.k2.value<0)||decide (2147483647<m.k2.value))=true->true=true/\(bd.mk 4 eB void void void,L)=aD L n (kk 5 k) (mm 2 m))
  /\((decide (m.k2.value<0)||decide (2147483647<m.k2.value))=false->true=true/\((!(decide (0<=m.k2.value)&&decide (m.k2.value<12)))=true->(bd.mk 4 eB void void void,L)=aD L n
  (kk 5 k) (mm 2 m))/\((!(decide (0<=m.k2.value)&&decide (m.k2.value<12)))=false->aL IntKind.i64 (m.k2.value+4)/\true=true/\an L/\true=true/\true=true/\true=true/\((!decide
  (bq L (Key.mk 2 k.oid k.count void.call void.rights void.value) (m.k2.value+4) m.k0=0))=true->(bd.mk (bq L (Key.mk 2 k.oid k.count void.call void.rights void.value) (m.k2.value+4)
  m.k0) eB void void void,dC L (Key.mk 2 k.oid k.count void.call void.rights void.value) (m.k2.value+4) m.k0)=aD L n (kk 5 k) (mm 2 m))/\((!decide (bq L (Key.mk 2 k.oid k.count
  void.call void.rights void.value) (m.k2.value+4) m.k0=0))=false->(bd.mk 0 eB (eh L (Key.mk 2 k.oid k.count void.call void.rights void.value) (m.k2.value+4) m.k0) void void,dC L
  (Key.mk 2 k.oid k.count void.call void.rights void.value) (m.k2.value+4) m.k0)=aD L n (kk 5 k) (mm 2 m))))):=by
 have hw:Key.mk 2 k.oid k.count void.call void.rights void.value=eR k:=rfl;have e2:∀c,bd.mk c eB void void void=fb c:=fun _=>rfl
 simp only[hw,e2];have hX:=Ep (L:=L) (n:=n) (k:=k) (m:=m) (c:=2) (by omega)
 rw[hX];clear hX;by_cases h1:m.k2.kind=1
 case neg=>simp[h1,show dr 5 2=true by decide,hL,hs]
 have hf:¬(dr 5 2=true/\m.k2.kind≠1):=fun h=>h.2 h1
 rw[UZ hf];have hC:fQ L (kk 5 k) (mm 2 m)=(if aX m<0\/11<aX m then 4 else bq L (eR k) (aX m+4) m.k0,fm (eh L (eR k) (aX m+4) m.k0),if aX m<0\/11<aX m then L else dC L (eR k) (aX m+4) m.k0):=rfl
 rw[hC];clear hC;have e3:∀a,bd.mk 0 eB a void void=fm a:=fun _=>rfl
 simp only[e3];by_cases h2:0<=m.k2.value/\m.k2.value<=2147483647
 ·have hN:aX m=m.k2.value:=by unfold aX;rw[U0 h2]
  have hr:aL .i64 (m.k2.value+4):=by simp only[aL,b7];omega
  rw[hN];by_cases h3:11<m.k2.value
  ·have h4:¬m.k2.value<12:=by omega
   simp[h1,h2,h3,h4,re,hr]<;>omega
  ·have h4:m.k2.value<12:=by omega
   have h5:¬(m.k2.value<0\/11<m.k2.value):=by omega
   simp[h1,h2,h4,h5,re,hr,hL];grind
 ·have hN:aX m= -1:=by unfold aX;rw[UZ h2]
  rw[hN];simp[h1,re]<;>omega
theorem Kp (L:List Sx.Obj) (n:Int) (k:Key) (m:bd) (hL:an L) (hs:au m.data):aj Tryz.prog 102 [.lp 0 0] [.ro (.blk mw (fZ (.ci .i64 2) m n (.ci .i64 5) k)),.store tS eS L] (kO (aD L n ((kk 5 k)) ((mm 2 m)))) (fun _ _=>False):=
 aJ (inl:=(fun f=>f==131||f==142||f==152||f==146||f==202||f==185||f==227||f==177||f==148||f==174||f==173||f==132||f==144||f==184||f==188||f==175)) (ann:=aQ) (ab bZ aq) (aB Dz ay) (dg bm) (IG L n k m hL hs) (by kernel_rfl)
theorem IM (L:List Sx.Obj) (n:Int) (k:Key) (m:bd) (hL:an L) (hs:au m.data):
 true=true/\true=true/\true=true/\true=true/\true=true/\((!decide (m.k2.kind=1))=true->(bd.mk 240 eB void void void,L)=aD L n (kk 5 k) (mm 3 m))/\((!decide (m.k2.kind=1))=
  false->true=true/\true=true/\true=true/\(bd.mk 0 eB (Key.mk 6 k.oid k.count void.call void.rights m.k2.value) void void,L)=aD L n (kk 5 k) (mm 3 m)):=by
 simp+decide [aD,cU,di,cY,dW,iq,gO,g8,fQ,dr,cJ,fm,fL,fb,gM,cP,void,dV,eB,aX,eP,eG,eR,kk,mm,hL,hs];try grind
theorem G2 (L:List Sx.Obj) (n:Int) (k:Key) (m:bd) (hL:an L) (hs:au m.data):aj Tryz.prog 102 [.lp 0 0] [.ro (.blk mw (fZ (.ci .i64 3) m n (.ci .i64 5) k)),.store tS eS L] (kO (aD L n ((kk 5 k)) ((mm 3 m)))) (fun _ _=>False):=
 aJ (inl:=(fun f=>f==131||f==142||f==152||f==146||f==202||f==185||f==227||f==177||f==148||f==174||f==173||f==132||f==144||f==184||f==188||f==176)) (ann:=aQ) (ab bZ aq) ay (dg bm) (IM L n k m hL hs) (by kernel_rfl)
theorem KE (L:List Sx.Obj) (n:Int) (k:Key) (m:bd) (hL:an L) (hs:au m.data):
 true=true/\true=true/\true=true/\((!cR L k.oid)=true->true=true/\true=true/\(bd.mk 0 eB void void (Key.mk 1 void.oid void.count void.call void.rights (-1)),L)=aD L n (kk 5
  k) (mm 4 m))/\((!cR L k.oid)=false->true=true/\true=true/\(bd.mk 0 eB void void (Key.mk 1 void.oid void.count void.call void.rights (gn L k.oid)),L)=aD L n (kk 5 k) (mm 4 m)):=by
 simp+decide [aD,cU,di,cY,dW,iq,gO,g8,fQ,dr,cJ,fm,fL,fb,gM,cP,void,dV,eB,aX,eP,eG,eR,kk,mm,hL,hs];unfold gn bP;grind
theorem Gp (L:List Sx.Obj) (n:Int) (k:Key) (m:bd) (hL:an L) (hs:au m.data):aj Tryz.prog 102 [.lp 0 0] [.ro (.blk mw (fZ (.ci .i64 4) m n (.ci .i64 5) k)),.store tS eS L] (kO (aD L n ((kk 5 k)) ((mm 4 m)))) (fun _ _=>False):=
 aJ (inl:=(fun f=>f==131||f==142||f==152||f==146||f==202||f==185||f==227||f==177||f==148||f==174||f==173||f==132||f==144||f==184||f==188||f==178)) (ann:=aQ) (ab oX (ab bZ aq)) ay (dg bm) (KE L n k m hL hs) (by kernel_rfl)
theorem Iz (L:List Sx.Obj) (n:Int) (k:Key) (m:bd) (hL:an L) (hs:au m.data):
 true=true/\true=true/\true=true/\true=true/\true=true/\true=true/\((!decide (m.k2.kind=1))=true->(bd.mk 240 eB void void void,L)=aD L n (kk 5 k) (mm 5 m))/\((!decide
  (m.k2.kind=1))=false->((decide (m.k2.value<0)||decide (2147483647<m.k2.value))=true->true=true/\an L/\true=true/\true=true/\((!decide (eo L k.oid (-1)=0))=true->
  (bd.mk (eo L k.oid (-1)) eB void void void,hU L k.oid (-1))=aD L n (kk 5 k) (mm 5 m))/\((!decide (eo L k.oid (-1)=0))=false->(bd.mk 0 eB void void void,hU L k.oid (-1))=
  aD L n (kk 5 k) (mm 5 m)))/\((decide (m.k2.value<0)||decide (2147483647<m.k2.value))=false->true=true/\an L/\true=true/\true=true/\((!decide (eo L k.oid m.k2.value=0))=
  true->(bd.mk (eo L k.oid m.k2.value) eB void void void,hU L k.oid m.k2.value)=aD L n (kk 5 k) (mm 5 m))/\((!decide (eo L k.oid m.k2.value=0))=false->(bd.mk 0 eB void void void,
  hU L k.oid m.k2.value)=aD L n (kk 5 k) (mm 5 m)))):=by
 simp+decide [aD,cU,di,cY,dW,iq,gO,g8,fQ,dr,cJ,fm,fL,fb,gM,cP,void,dV,eB,aX,eP,eG,eR,kk,mm,hL,hs];try grind
theorem GO (L:List Sx.Obj) (n:Int) (k:Key) (m:bd) (hL:an L) (hs:au m.data):aj Tryz.prog 102 [.lp 0 0] [.ro (.blk mw (fZ (.ci .i64 5) m n (.ci .i64 5) k)),.store tS eS L] (kO (aD L n ((kk 5 k)) ((mm 5 m)))) (fun _ _=>False):=
 aJ (inl:=(fun f=>f==131||f==142||f==152||f==146||f==202||f==185||f==227||f==177||f==148||f==174||f==173||f==132||f==144||f==184||f==188||f==179)) (ann:=aQ) (ab bZ aq) (aB HU ay) (dg bm) (Iz L n k m hL hs) (by kernel_rfl)
theorem GU (L:List Sx.Obj) (n:Int) (k:Key) (m:bd) (hL:an L) (hs:au m.data):
 true=true/\true=true/\true=true/\true=true/\true=true/\true=true/\((!decide (m.k2.kind=1))=true->(bd.mk 240 eB void void void,L)=aD L n (kk 5 k) (mm 6 m))/\((!decide
  (m.k2.kind=1))=false->true=true/\true=true/\((!decide (ck L (aH L (Key.mk 2 k.oid k.count void.call void.rights void.value) 0) m.k2.value 32=0))=true->(bd.mk (ck L (aH L
  (Key.mk 2 k.oid k.count void.call void.rights void.value) 0) m.k2.value 32) eB void void void,L)=aD L n (kk 5 k) (mm 6 m))/\((!decide (ck L (aH L (Key.mk 2 k.oid k.count void.call
  void.rights void.value) 0) m.k2.value 32=0))=false->((!decide (b8 L (aH L (Key.mk 2 k.oid k.count void.call void.rights void.value) 0) m.k2.value 32 false=0))=true->aL IntKind.i64
  (1000+b8 L (aH L (Key.mk 2 k.oid k.count void.call void.rights void.value) 0) m.k2.value 32 false)/\(bd.mk (1000+b8 L (aH L (Key.mk 2 k.oid k.count void.call void.rights void.value)
  0) m.k2.value 32 false) eB void void void,L)=aD L n (kk 5 k) (mm 6 m))/\((!decide (b8 L (aH L (Key.mk 2 k.oid k.count void.call void.rights void.value) 0) m.k2.value 32 false=0))=false
  ->true=true/\true=true/\true=true/\(bd.mk 0 (me L (aH L (Key.mk 2 k.oid k.count void.call void.rights void.value) 0) m.k2.value 32) void void void,L)=aD L n (kk 5 k) (mm 6 m)))):=by
 have hw:Key.mk 2 k.oid k.count void.call void.rights void.value=eR k:=rfl;have e2:∀c,bd.mk c eB void void void=fb c:=fun _=>rfl
 simp only[hw,e2];have hX:=Ep (L:=L) (n:=n) (k:=k) (m:=m) (c:=6) (by omega)
 rw[hX];clear hX;by_cases h1:m.k2.kind=1
 case neg=>simp[h1,show dr 5 6=true by decide,hL,hs]
 have hf:¬(dr 5 6=true/\m.k2.kind≠1):=fun h=>h.2 h1
 rw[UZ hf];have hC:fQ L (kk 5 k) (mm 6 m)=(if ck L (eG L k) m.k2.value 32=0 then(if b8 L (eG L k) m.k2.value 32 false=0 then 0 else 1000+b8 L (eG L k) m.k2.value 32 false)else ck L (eG L k) m.k2.value 32,gM (me L (eG L k) m.k2.value 32),L):=rfl
 rw[hC];clear hC;have e3:∀s,bd.mk 0 s void void void=gM s:=fun _=>rfl
 have e4:fb 0=dV:=rfl;have hi:=Oc (L:=L) (k:=aH L (eR k) 0) (a:=m.k2.value) (n:=32) (w:=false);have hr:aL .i64 (1000+b8 L (aH L (eR k) 0) m.k2.value (32) false):=by simp only[aL,b7];omega
 simp only[e3,eG];simp[h1,hr,re,hL,hs];grind
theorem GY (L:List Sx.Obj) (n:Int) (k:Key) (m:bd) (hL:an L) (hs:au m.data):aj Tryz.prog 102 [.lp 0 0] [.ro (.blk mw (fZ (.ci .i64 6) m n (.ci .i64 5) k)),.store tS eS L] (kO (aD L n ((kk 5 k)) ((mm 6 m)))) (fun _ _=>False):=
 aJ (inl:=(fun f=>f==131||f==142||f==152||f==146||f==202||f==185||f==227||f==177||f==148||f==174||f==173||f==132||f==144||f==184||f==188||f==180)) (ann:=aQ) (ab pM (ab Se (ab bZ aq))) ay (dg bm) (GU L n k m hL hs) (by kernel_rfl)
theorem Jk (L:List Sx.Obj) (n:Int) (k:Key) (m:bd) (hL:an L) (hs:au m.data):
 true=true/\true=true/\true=true/\true=true/\true=true/\true=true/\((!decide (m.k2.kind=1))=true->(bd.mk 240 eB void void void,L)=aD L n (kk 5 k) (mm 7 m))/\((!decide
  (m.k2.kind=1))=false->true=true/\au m.data/\(an L/\au m.data)/\true=true/\true=true/\((!decide (ck L (aH L (Key.mk 2 k.oid k.count void.call void.rights void.value)
  0) m.k2.value (ca m.data)=0))=true->(bd.mk (ck L (aH L (Key.mk 2 k.oid k.count void.call void.rights void.value) 0) m.k2.value (ca m.data)) eB void void void,mS L (aH L (Key.mk 2
  k.oid k.count void.call void.rights void.value) 0) m.k2.value m.data)=aD L n (kk 5 k) (mm 7 m))/\((!decide (ck L (aH L (Key.mk 2 k.oid k.count void.call void.rights void.value) 0)
  m.k2.value (ca m.data)=0))=false->((!decide (b8 L (aH L (Key.mk 2 k.oid k.count void.call void.rights void.value) 0) m.k2.value (ca m.data) true=0))=true->aL IntKind.i64 (1000+
  b8 L (aH L (Key.mk 2 k.oid k.count void.call void.rights void.value) 0) m.k2.value (ca m.data) true)/\(bd.mk (1000+b8 L (aH L (Key.mk 2 k.oid k.count void.call void.rights void.value)
  0) m.k2.value (ca m.data) true) eB void void void,mS L (aH L (Key.mk 2 k.oid k.count void.call void.rights void.value) 0) m.k2.value m.data)=aD L n (kk 5 k) (mm 7 m))/\((!decide (b8 L
  (aH L (Key.mk 2 k.oid k.count void.call void.rights void.value) 0) m.k2.value (ca m.data) true=0))=false->true=true/\true=true/\(bd.mk 0 eB void void void,mS L (aH L (Key.mk 2
  k.oid k.count void.call void.rights void.value) 0) m.k2.value m.data)=aD L n (kk 5 k) (mm 7 m)))):=by
 have hw:Key.mk 2 k.oid k.count void.call void.rights void.value=eR k:=rfl;have e2:∀c,bd.mk c eB void void void=fb c:=fun _=>rfl
 simp only[hw,e2];have hX:=Ep (L:=L) (n:=n) (k:=k) (m:=m) (c:=7) (by omega)
 rw[hX];clear hX;by_cases h1:m.k2.kind=1
 case neg=>simp[h1,show dr 5 7=true by decide,hL,hs]
 have hf:¬(dr 5 7=true/\m.k2.kind≠1):=fun h=>h.2 h1
 rw[UZ hf];have hC:fQ L (kk 5 k) (mm 7 m)=(if ck L (eG L k) m.k2.value (ca m.data)=0 then(if b8 L (eG L k) m.k2.value (ca m.data) true=0 then 0 else 1000+b8 L (eG L k) m.k2.value (ca m.data) true)else ck L (eG L k) m.k2.value (ca m.data),dV,mS L (eG L k) m.k2.value m.data):=rfl
 rw[hC];clear hC;have e3:∀s,bd.mk 0 s void void void=gM s:=fun _=>rfl
 have e4:fb 0=dV:=rfl;have hi:=Oc (L:=L) (k:=aH L (eR k) 0) (a:=m.k2.value) (n:=ca m.data) (w:=true);have hr:aL .i64 (1000+b8 L (aH L (eR k) 0) m.k2.value (ca m.data) true):=by simp only[aL,b7];omega
 simp only[e3,eG];simp[h1,hr,re,hL,hs];grind
theorem It (L:List Sx.Obj) (n:Int) (k:Key) (m:bd) (hL:an L) (hs:au m.data):aj Tryz.prog 102 [.lp 0 0] [.ro (.blk mw (fZ (.ci .i64 7) m n (.ci .i64 5) k)),.store tS eS L] (kO (aD L n ((kk 5 k)) ((mm 7 m)))) (fun _ _=>False):=
 aJ (inl:=(fun f=>f==131||f==142||f==152||f==146||f==202||f==185||f==227||f==177||f==148||f==174||f==173||f==132||f==144||f==184||f==188||f==181)) (ann:=aQ) (ab pM (ab bZ aq)) (aB OJ ay) (dg bm) (Jk L n k m hL hs) (by kernel_rfl)
theorem IB (L:List Sx.Obj) (n:Int) (k:Key) (m:bd) (hL:an L) (hs:au m.data):
 true=true/\true=true/\true=true/\true=true/\true=true/\(bd.mk 0 eB void void (Key.mk 1 void.oid void.count void.call void.rights m.k0.kind),L)=aD L n (kk 8 k) (mm 1 m):=by
 simp+decide [aD,cU,di,cY,dW,iq,gO,g8,fQ,dr,cJ,fm,fL,fb,gM,cP,void,dV,eB,aX,eP,eG,eR,kk,mm,hL,hs];try grind
theorem Gn (L:List Sx.Obj) (n:Int) (k:Key) (m:bd) (hL:an L) (hs:au m.data):aj Tryz.prog 102 [.lp 0 0] [.ro (.blk mw (fZ (.ci .i64 1) m n (.ci .i64 8) k)),.store tS eS L] (kO (aD L n ((kk 8 k)) ((mm 1 m)))) (fun _ _=>False):=
 aJ (inl:=(fun f=>f==131||f==142||f==152||f==146||f==202||f==185||f==227||f==177||f==148||f==174||f==173||f==132||f==144||f==184||f==188||f==182)) (ann:=aQ) (ab bZ aq) ay (dg bm) (IB L n k m hL hs) (by kernel_rfl)
theorem Ks (L:List Sx.Obj) (n:Int) (k:Key) (m:bd) (hL:an L) (hs:au m.data):
 true=true/\true=true/\true=true/\true=true/\(nM m.k0 m.k1=true->true=true/\true=true/\(bd.mk 0 eB void void (Key.mk 1 void.oid void.count void.call void.rights 1),L)=aD
  L n (kk 8 k) (mm 2 m))/\(nM m.k0 m.k1=false->true=true/\true=true/\(bd.mk 0 eB void void (Key.mk 1 void.oid void.count void.call void.rights 0),L)=aD L n (kk 8 k) (mm 2 m)):=by
 simp+decide [aD,cU,di,cY,dW,iq,gO,g8,fQ,dr,cJ,fm,fL,fb,gM,cP,void,dV,eB,aX,eP,eG,eR,kk,mm,hL,hs];try grind
theorem JM (L:List Sx.Obj) (n:Int) (k:Key) (m:bd) (hL:an L) (hs:au m.data):aj Tryz.prog 102 [.lp 0 0] [.ro (.blk mw (fZ (.ci .i64 2) m n (.ci .i64 8) k)),.store tS eS L] (kO (aD L n ((kk 8 k)) ((mm 2 m)))) (fun _ _=>False):=
 aJ (inl:=(fun f=>f==131||f==142||f==152||f==146||f==202||f==185||f==227||f==177||f==148||f==174||f==173||f==132||f==144||f==184||f==188||f==183)) (ann:=aQ) (ab Mv (ab bZ aq)) ay (dg bm) (Ks L n k m hL hs) (by kernel_rfl)
theorem Ie (L:List Sx.Obj) (n:Int) (k:Key) (m:bd) (hL:an L) (hs:au m.data):
 true=true/\true=true/\true=true/\true=true/\true=true/\(bd.mk 0 eB void void (Key.mk 1 void.oid void.count void.call void.rights m.k0.rights),L)=aD L n (kk 8 k) (mm 3 m):=by
 simp+decide [aD,cU,di,cY,dW,iq,gO,g8,fQ,dr,cJ,fm,fL,fb,gM,cP,void,dV,eB,aX,eP,eG,eR,kk,mm,hL,hs];try grind
theorem HT (L:List Sx.Obj) (n:Int) (k:Key) (m:bd) (hL:an L) (hs:au m.data):aj Tryz.prog 102 [.lp 0 0] [.ro (.blk mw (fZ (.ci .i64 3) m n (.ci .i64 8) k)),.store tS eS L] (kO (aD L n ((kk 8 k)) ((mm 3 m)))) (fun _ _=>False):=
 aJ (inl:=(fun f=>f==131||f==142||f==152||f==146||f==202||f==185||f==227||f==177||f==148||f==174||f==173||f==132||f==144||f==184||f==188||f==187)) (ann:=aQ) (ab bZ aq) ay (dg bm) (Ie L n k m hL hs) (by kernel_rfl)
theorem Iw (L:List Sx.Obj) (n:Int) (k:Key) (m:bd) (hL:an L) (hs:au m.data):
 true=true/\true=true/\true=true/\true=true/\true=true/\(bd.mk 0 eB void void (Key.mk 1 void.oid void.count void.call void.rights n),L)=aD L n (kk 9 k) (mm 1 m):=by
 simp+decide [aD,cU,di,cY,dW,iq,gO,g8,fQ,dr,cJ,fm,fL,fb,gM,cP,void,dV,eB,aX,eP,eG,eR,kk,mm,hL,hs];try grind
theorem Io (L:List Sx.Obj) (n:Int) (k:Key) (m:bd) (hL:an L) (hs:au m.data):aj Tryz.prog 102 [.lp 0 0] [.ro (.blk mw (fZ (.ci .i64 1) m n (.ci .i64 9) k)),.store tS eS L] (kO (aD L n ((kk 9 k)) ((mm 1 m)))) (fun _ _=>False):=
 aJ (inl:=(fun f=>f==131||f==142||f==152||f==146||f==202||f==185||f==227||f==177||f==148||f==174||f==173||f==132||f==144||f==184||f==188||f==189)) (ann:=aQ) (ab bZ aq) ay (dg bm) (Iw L n k m hL hs) (by kernel_rfl)
theorem EJ (L:List Sx.Obj) (n:Int) (k:Key) (m:bd) (hL:an L) (hs:au m.data):
 true=true/\true=true/\true=true/\(bd.mk 0 eB void void void,L)=aD L n (kk 10 k) (mm 1 m):=by
 simp+decide [aD,cU,di,cY,dW,iq,gO,g8,fQ,dr,cJ,fm,fL,fb,gM,cP,void,dV,eB,aX,eP,eG,eR,kk,mm,hL,hs];try grind
theorem EP (L:List Sx.Obj) (n:Int) (k:Key) (m:bd) (hL:an L) (hs:au m.data):aj Tryz.prog 102 [.lp 0 0] [.ro (.blk mw (fZ (.ci .i64 1) m n (.ci .i64 10) k)),.store tS eS L] (kO (aD L n ((kk 10 k)) ((mm 1 m)))) (fun _ _=>False):=
 aJ (inl:=(fun f=>f==131||f==142||f==152||f==146||f==202||f==185||f==227||f==177||f==148||f==174||f==173||f==132||f==144||f==184||f==188||f==190)) (ann:=aQ) (ab bZ aq) ay (dg bm) (EJ L n k m hL hs) (by kernel_rfl)
end Go.Proofs.YtlblcfaclmpekaaGreat
