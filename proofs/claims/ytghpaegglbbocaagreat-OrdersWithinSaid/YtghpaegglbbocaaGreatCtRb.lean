import Derived.Test.YtghpaegglbbocaaGreatCtRa
import Derived.Test.YtghpaegglbbocaaGreatCtRo
import Derived.Test.YtghpaegglbbocaaGreatCV
set_option linter.unusedSimpArgs false
set_option linter.unusedVariables false
namespace Go.Proofs.YtghpaegglbbocaaGreat
open Go.Sx
set_option maxRecDepth 100000
theorem GP (L:List Sx.Obj) (n:Int) (k:Key) (m:aZ) (hL:an L) (hs:az m.data):
 true=true/\true=true/\true=true/\true=true/\true=true/\(aZ.mk 0 eB void void (Key.mk 1 void.oid void.count void.call void.rights k.value),L)=aD L n (kk 1 k) (mm 1 m):=by
 simp+decide [aD,cF,dg,cr,dR,gC,gd,gJ,fB,du,cI,eW,fG,eY,gq,dv,void,ey,eB,aP,eT,dS,er,kk,mm,hL,hs];try grind
theorem IB (L:List Sx.Obj) (n:Int) (k:Key) (m:aZ) (hL:an L) (hs:az m.data):ai Tryz.prog 24 [.lp 0 0] [.ro (.blk lX (fU (.ci .i64 1) m n (.ci .i64 1) k)),.store tS eS L] (kO (aD L n ((kk 1 k)) ((mm 1 m)))) (fun _ _=>False):=
 aK (inl:=(fun f=>f==37||f==58||f==68||f==62||f==141||f==102||f==172||f==93||f==64||f==90||f==89||f==38||f==60||f==101||f==105||f==59)) (ann:=aL) (ab bY ak) aA (dn bm) (GP L n k m hL hs) (by kernel_rfl)
theorem Ff (L:List Sx.Obj) (n:Int) (k:Key) (m:aZ) (hL:an L) (hs:az m.data):
 true=true/\true=true/\true=true/\true=true/\true=true/\true=true/\((!decide (m.k2.kind=1))=true->(aZ.mk 240 eB void void void,L)=aD L n (kk 2 k) (mm 1 m))/\((!decide
  (m.k2.kind=1))=false->((decide (m.k2.value<0)||decide (2147483647<m.k2.value))=true->true=true/\true=true/\true=true/\((!decide (bF L (kk 2 k) (-1)=0))=true->(aZ.mk
  (bF L (kk 2 k) (-1)) eB void void void,L)=aD L n (kk 2 k) (mm 1 m))/\((!decide (bF L (kk 2 k) (-1)=0))=false->(aZ.mk 0 eB (aC L (kk 2 k) (-1)) void void,L)=aD L n (kk 2
  k) (mm 1 m)))/\((decide (m.k2.value<0)||decide (2147483647<m.k2.value))=false->true=true/\true=true/\true=true/\((!decide (bF L (kk 2 k) m.k2.value=0))=true->(aZ.mk
  (bF L (kk 2 k) m.k2.value) eB void void void,L)=aD L n (kk 2 k) (mm 1 m))/\((!decide (bF L (kk 2 k) m.k2.value=0))=false->(aZ.mk 0 eB (aC L (kk 2 k) m.k2.value) void void,L)
  =aD L n (kk 2 k) (mm 1 m)))):=by
 simp+decide [aD,cF,dg,cr,dR,gC,gd,gJ,fB,du,cI,eW,fG,eY,gq,dv,void,ey,eB,aP,eT,dS,er,kk,mm,hL,hs];try grind
theorem Gq (L:List Sx.Obj) (n:Int) (k:Key) (m:aZ) (hL:an L) (hs:az m.data):ai Tryz.prog 24 [.lp 0 0] [.ro (.blk lX (fU (.ci .i64 1) m n (.ci .i64 2) k)),.store tS eS L] (kO (aD L n ((kk 2 k)) ((mm 1 m)))) (fun _ _=>False):=
 aK (inl:=(fun f=>f==37||f==58||f==68||f==62||f==141||f==102||f==172||f==93||f==64||f==90||f==89||f==38||f==60||f==101||f==105||f==61)) (ann:=aL) (ab pc (ab bY ak)) aA (dn bm) (Ff L n k m hL hs) (by kernel_rfl)
theorem Ix (L:List Sx.Obj) (n:Int) (k:Key) (m:aZ) (hL:an L) (hs:az m.data):
 true=true/\true=true/\true=true/\true=true/\true=true/\true=true/\((!decide (m.k2.kind=1))=true->(aZ.mk 240 eB void void void,L)=aD L n (kk 2 k) (mm 2 m))/\((!decide
  (m.k2.kind=1))=false->((decide (m.k2.value<0)||decide (2147483647<m.k2.value))=true->true=true/\an L/\true=true/\true=true/\true=true/\((!decide (bk L (kk 2 k) (-1)
  m.k0=0))=true->(aZ.mk (bk L (kk 2 k) (-1) m.k0) eB void void void,cG L (kk 2 k) (-1) m.k0)=aD L n (kk 2 k) (mm 2 m))/\((!decide (bk L (kk 2 k) (-1) m.k0=0))=false->
  (aZ.mk 0 eB (c8 L (kk 2 k) (-1) m.k0) void void,cG L (kk 2 k) (-1) m.k0)=aD L n (kk 2 k) (mm 2 m)))/\((decide (m.k2.value<0)||decide (2147483647<m.k2.value))=false->true=
  true/\an L/\true=true/\true=true/\true=true/\((!decide (bk L (kk 2 k) m.k2.value m.k0=0))=true->(aZ.mk (bk L (kk 2 k) m.k2.value m.k0) eB void void void,cG L (kk 2
  k) m.k2.value m.k0)=aD L n (kk 2 k) (mm 2 m))/\((!decide (bk L (kk 2 k) m.k2.value m.k0=0))=false->(aZ.mk 0 eB (c8 L (kk 2 k) m.k2.value m.k0) void void,cG L (kk 2 k)
  m.k2.value m.k0)=aD L n (kk 2 k) (mm 2 m)))):=by
 simp+decide [aD,cF,dg,cr,dR,gC,gd,gJ,fB,du,cI,eW,fG,eY,gq,dv,void,ey,eB,aP,eT,dS,er,kk,mm,hL,hs];try grind
theorem Hc (L:List Sx.Obj) (n:Int) (k:Key) (m:aZ) (hL:an L) (hs:az m.data):ai Tryz.prog 24 [.lp 0 0] [.ro (.blk lX (fU (.ci .i64 2) m n (.ci .i64 2) k)),.store tS eS L] (kO (aD L n ((kk 2 k)) ((mm 2 m)))) (fun _ _=>False):=
 aK (inl:=(fun f=>f==37||f==58||f==68||f==62||f==141||f==102||f==172||f==93||f==64||f==90||f==89||f==38||f==60||f==101||f==105||f==65)) (ann:=aL) (ab bY ak) (aG Dv aA) (dn bm) (Ix L n k m hL hs) (by kernel_rfl)
theorem F6 (L:List Sx.Obj) (n:Int) (k:Key) (m:aZ) (hL:an L) (hs:az m.data):
 true=true/\true=true/\true=true/\true=true/\an L/\true=true/\true=true/\((!decide (aJ L (kk 2 k) 2 true=0))=true->(aZ.mk (aJ L (kk 2 k) 2 true) eB void void void,
  fe L (kk 2 k))=aD L n (kk 2 k) (mm 3 m))/\((!decide (aJ L (kk 2 k) 2 true=0))=false->(aZ.mk 0 eB void void void,fe L (kk 2 k))=aD L n (kk 2 k) (mm 3 m)):=by
 simp+decide [aD,cF,dg,cr,dR,gC,gd,gJ,fB,du,cI,eW,fG,eY,gq,dv,void,ey,eB,aP,eT,dS,er,kk,mm,hL,hs];try grind
theorem Hb (L:List Sx.Obj) (n:Int) (k:Key) (m:aZ) (hL:an L) (hs:az m.data):ai Tryz.prog 24 [.lp 0 0] [.ro (.blk lX (fU (.ci .i64 3) m n (.ci .i64 2) k)),.store tS eS L] (kO (aD L n ((kk 2 k)) ((mm 3 m)))) (fun _ _=>False):=
 aK (inl:=(fun f=>f==37||f==58||f==68||f==62||f==141||f==102||f==172||f==93||f==64||f==90||f==89||f==38||f==60||f==101||f==105||f==67)) (ann:=aL) (ab bY ak) (aG KV aA) (dn bm) (F6 L n k m hL hs) (by kernel_rfl)
theorem Hw (L:List Sx.Obj) (n:Int) (k:Key) (m:aZ) (hL:an L) (hs:az m.data):
 true=true/\true=true/\true=true/\true=true/\an L/\true=true/\true=true/\((!decide (bZ L (kk 2 k) m.k0=0))=true->(aZ.mk (bZ L (kk 2 k) m.k0) eB void void void,
  eA L (kk 2 k) m.k0)=aD L n (kk 2 k) (mm 4 m))/\((!decide (bZ L (kk 2 k) m.k0=0))=false->(aZ.mk 0 eB void void void,eA L (kk 2 k) m.k0)=aD L n (kk 2 k) (mm 4 m)):=by
 simp+decide [aD,cF,dg,cr,dR,gC,gd,gJ,fB,du,cI,eW,fG,eY,gq,dv,void,ey,eB,aP,eT,dS,er,kk,mm,hL,hs];try grind
theorem I4 (L:List Sx.Obj) (n:Int) (k:Key) (m:aZ) (hL:an L) (hs:az m.data):ai Tryz.prog 24 [.lp 0 0] [.ro (.blk lX (fU (.ci .i64 4) m n (.ci .i64 2) k)),.store tS eS L] (kO (aD L n ((kk 2 k)) ((mm 4 m)))) (fun _ _=>False):=
 aK (inl:=(fun f=>f==37||f==58||f==68||f==62||f==141||f==102||f==172||f==93||f==64||f==90||f==89||f==38||f==60||f==101||f==105||f==70)) (ann:=aL) (ab bY ak) (aG MJ aA) (dn bm) (Hw L n k m hL hs) (by kernel_rfl)
theorem H2 (L:List Sx.Obj) (n:Int) (k:Key) (m:aZ) (hL:an L) (hs:az m.data) (hk:aB (kk 2 k)=true):
 true=true/\true=true/\true=true/\true=true/\true=true/\((!decide (m.k2.kind=1))=true->(aZ.mk 240 eB void void void,L)=aD L n (kk 2 k) (mm 5 m))/\((!decide (m.k2.kind=1))=
  false->true=true/\((!(decide (0<=m.k2.value)&&decide (m.k2.value<=7)))=true->(aZ.mk 2 eB void void void,L)=aD L n (kk 2 k) (mm 5 m))/\((!(decide (0<=m.k2.value)&&decide
  (m.k2.value<=7)))=false->tY (kk 2 k) m.k2.value/\true=true/\true=true/\true=true/\(aZ.mk 0 eB (jR (kk 2 k) m.k2.value) void void,L)=aD L n (kk 2 k) (mm 5 m))):=by
 have hX:aD L n (kk 2 k) (mm 5 m)=if m.k2.kind=1 then(if 0<=m.k2.value/\m.k2.value<=7 then(eW (jR (kk 2 k) m.k2.value),L)else(eY 2,L))else(eY 240,L):=by
  by_cases h1:m.k2.kind=1
  ·by_cases h2:0<=m.k2.value/\m.k2.value<=7
   ·simp+decide [aD,cF,dg,cr,dR,gC,gd,gJ,fB,du,cI,eW,fG,eY,gq,dv,void,ey,eB,aP,eT,dS,er,kk,mm,h1,h2]
   ·simp+decide [aD,cF,dg,cr,dR,gC,gd,gJ,fB,du,cI,eW,fG,eY,gq,dv,void,ey,eB,aP,eT,dS,er,kk,mm,h1,h2]
  ·simp+decide [aD,cF,dg,cr,dR,gC,gd,gJ,fB,du,cI,eW,fG,eY,gq,dv,void,ey,eB,aP,eT,dS,er,kk,mm,h1]
 rw[hX];refine⟨rfl,rfl,rfl,rfl,rfl,fun h=>?_,fun h=>⟨rfl,fun h'=>?_,fun h'=>⟨⟨hk,?_⟩,rfl,rfl,rfl,?_⟩⟩⟩
 ·have h:¬m.k2.kind=1:=by simpa using h
  rw[Tn h];rfl
 ·have h:m.k2.kind=1:=by simpa using h
  have h':¬(0<=m.k2.value/\m.k2.value<=7):=fun hh=>by simp[hh.1,hh.2]at h'
  rw[To h,Tn h'];rfl
 ·simpa using h'
 ·have h:m.k2.kind=1:=by simpa using h
  have h':0<=m.k2.value/\m.k2.value<=7:=by simpa using h'
  rw[To h,To h'];rfl
theorem HM (L:List Sx.Obj) (n:Int) (k:Key) (m:aZ) (hL:an L) (hs:az m.data) (hk:aB (kk 2 k)=true):ai Tryz.prog 24 [.lp 0 0] [.ro (.blk lX (fU (.ci .i64 5) m n (.ci .i64 2) k)),.store tS eS L] (kO (aD L n ((kk 2 k)) ((mm 5 m)))) (fun _ _=>False):=
 aK (inl:=(fun f=>f==37||f==58||f==68||f==62||f==141||f==102||f==172||f==93||f==64||f==90||f==89||f==38||f==60||f==101||f==105||f==72)) (ann:=aL) (ab zI (ab bY ak)) aA (dn bm) (H2 L n k m hL hs hk) (by kernel_rfl)
theorem II (L:List Sx.Obj) (n:Int) (k:Key) (m:aZ) (hL:an L) (hs:az m.data):
 true=true/\true=true/\true=true/\true=true/\((!decide (k.rights=0))=true->(aZ.mk 191 eB void void void,L)=aD L n (kk 2 k) (mm 6 m))/\((!decide (k.rights=0))=false->true=
  true/\true=true/\true=true/\(aZ.mk 0 eB (Key.mk 5 k.oid k.count void.call void.rights void.value) void void,L)=aD L n (kk 2 k) (mm 6 m)):=by
 simp+decide [aD,cF,dg,cr,dR,gC,gd,gJ,fB,du,cI,eW,fG,eY,gq,dv,void,ey,eB,aP,eT,dS,er,kk,mm,hL,hs];try grind
theorem JA (L:List Sx.Obj) (n:Int) (k:Key) (m:aZ) (hL:an L) (hs:az m.data):ai Tryz.prog 24 [.lp 0 0] [.ro (.blk lX (fU (.ci .i64 6) m n (.ci .i64 2) k)),.store tS eS L] (kO (aD L n ((kk 2 k)) ((mm 6 m)))) (fun _ _=>False):=
 aK (inl:=(fun f=>f==37||f==58||f==68||f==62||f==141||f==102||f==172||f==93||f==64||f==90||f==89||f==38||f==60||f==101||f==105||f==73)) (ann:=aL) (ab bY ak) aA (dn bm) (II L n k m hL hs) (by kernel_rfl)
theorem Ij (L:List Sx.Obj) (n:Int) (k:Key) (m:aZ) (hL:an L) (hs:az m.data):
 true=true/\true=true/\true=true/\true=true/\true=true/\true=true/\((!decide (m.k2.kind=1))=true->(aZ.mk 240 eB void void void,L)=aD L n (kk 3 k) (mm 1 m))/\((!decide
  (m.k2.kind=1))=false->((decide (m.k2.value<0)||decide (2147483647<m.k2.value))=true->true=true/\true=true/\true=true/\((!decide (bQ L (kk 3 k) (-1) (imax 0 (lW 32
  (Int.ofNat (64+Nat.succ 0))))=0))=true->(aZ.mk (bQ L (kk 3 k) (-1) (imax 0 (lW 32 (Int.ofNat (64+Nat.succ 0))))) eB void void void,L)=aD L n (kk 3 k) (mm 1 m))/\((!decide
  (bQ L (kk 3 k) (-1) (imax 0 (lW 32 (Int.ofNat (64+Nat.succ 0))))=0))=false->(aZ.mk 0 (ec L (kk 3 k) (-1) (imax 0 (lW 32 (Int.ofNat (64+Nat.succ 0))))) void void void,L)=
  aD L n (kk 3 k) (mm 1 m)))/\((decide (m.k2.value<0)||decide (2147483647<m.k2.value))=false->aQ IntKind.i64 (64-m.k2.value)/\true=true/\true=true/\true=true/\((!decide
  (bQ L (kk 3 k) m.k2.value (imax 0 (lW 32 (64-m.k2.value)))=0))=true->(aZ.mk (bQ L (kk 3 k) m.k2.value (imax 0 (lW 32 (64-m.k2.value)))) eB void void void,L)=aD L n (kk 3
  k) (mm 1 m))/\((!decide (bQ L (kk 3 k) m.k2.value (imax 0 (lW 32 (64-m.k2.value)))=0))=false->(aZ.mk 0 (ec L (kk 3 k) m.k2.value (imax 0 (lW 32 (64-m.k2.value)))) void void
  void,L)=aD L n (kk 3 k) (mm 1 m)))):=by
 have hX:aD L n (kk 3 k) (mm 1 m)=if m.k2.kind=1 then(if bQ L (kk 3 k) (aP m) (sX (aP m))=0 then(gq (ec L (kk 3 k) (aP m) (sX (aP m))),L)else(eY (bQ L (kk 3 k) (aP m) (sX (aP m))),L))else(eY 240,L):=by
  by_cases h1:m.k2.kind=1
  ·by_cases h2:bQ L (kk 3 k) (aP m) (sX (aP m))=0
   ·simp+decide [aD,cF,dg,cr,dR,gd,cI,show(kk 3 k).kind=3 from rfl,show(mm 1 m).code=1 from rfl,show(mm 1 m).k2=m.k2 from rfl,show aP (mm 1 m)=aP m from rfl,h1,h2]
   ·simp+decide [aD,cF,dg,cr,dR,gd,cI,show(kk 3 k).kind=3 from rfl,show(mm 1 m).code=1 from rfl,show(mm 1 m).k2=m.k2 from rfl,show aP (mm 1 m)=aP m from rfl,h1,h2]
  ·simp+decide [aD,cF,dg,cr,cI,du,show(kk 3 k).kind=3 from rfl,show(mm 1 m).code=1 from rfl,show(mm 1 m).k2=m.k2 from rfl,h1,ey,eY]
 rw[hX];have e1:∀s,aZ.mk 0 s void void void=gq s:=fun _=>rfl
 have e2:∀c,aZ.mk c eB void void void=eY c:=fun _=>rfl
 simp only[e1,e2];by_cases h1:m.k2.kind=1
 ·by_cases h2:0<=m.k2.value/\m.k2.value<=2147483647
  ·have hN:aP m=m.k2.value:=by unfold aP;rw[To h2]
   have hR:sX m.k2.value=imax 0 (lW 32 (64-m.k2.value)):=rfl;have hr:aQ .i64 (64-m.k2.value):=by simp only[aQ,cy];omega
   rw[hN,hR];simp[h1,h2,hr];grind
  ·have hN:aP m= -1:=by unfold aP;rw[Tn h2]
   have hR:sX (-1)=imax 0 (lW 32 65):=rfl;rw[hN,hR];simp[h1];grind
 ·simp[h1]
theorem F4 (L:List Sx.Obj) (n:Int) (k:Key) (m:aZ) (hL:an L) (hs:az m.data):ai Tryz.prog 24 [.lp 0 0] [.ro (.blk lX (fU (.ci .i64 1) m n (.ci .i64 3) k)),.store tS eS L] (kO (aD L n ((kk 3 k)) ((mm 1 m)))) (fun _ _=>False):=
 aK (inl:=(fun f=>f==37||f==58||f==68||f==62||f==141||f==102||f==172||f==93||f==64||f==90||f==89||f==38||f==60||f==101||f==105||f==74)) (ann:=aL) (ab mi (ab bY ak)) aA (dn bm) (Ij L n k m hL hs) (by kernel_rfl)
theorem IV (L:List Sx.Obj) (n:Int) (k:Key) (m:aZ) (hL:an L) (hs:az m.data):
 true=true/\true=true/\true=true/\true=true/\true=true/\true=true/\((!decide (m.k2.kind=1))=true->(aZ.mk 240 eB void void void,L)=aD L n (kk 3 k) (mm 2 m))/\((!decide
  (m.k2.kind=1))=false->((decide (m.k2.value<0)||decide (2147483647<m.k2.value))=true->true=true/\(an L/\az m.data)/\true=true/\true=true/\((!decide (cJ L (kk 3 k)
  (-1) m.data=0))=true->(aZ.mk (cJ L (kk 3 k) (-1) m.data) eB void void void,ew L (kk 3 k) (-1) m.data)=aD L n (kk 3 k) (mm 2 m))/\((!decide (cJ L (kk 3 k) (-1) m.data=0))=
  false->(aZ.mk 0 eB void void void,ew L (kk 3 k) (-1) m.data)=aD L n (kk 3 k) (mm 2 m)))/\((decide (m.k2.value<0)||decide (2147483647<m.k2.value))=false->true=true/\(an L/\
  az m.data)/\true=true/\true=true/\((!decide (cJ L (kk 3 k) m.k2.value m.data=0))=true->(aZ.mk (cJ L (kk 3 k) m.k2.value m.data) eB void void void,ew L (kk 3 k) m.k2.value
  m.data)=aD L n (kk 3 k) (mm 2 m))/\((!decide (cJ L (kk 3 k) m.k2.value m.data=0))=false->(aZ.mk 0 eB void void void,ew L (kk 3 k) m.k2.value m.data)=aD L n (kk 3 k) (mm 2
  m)))):=by
 simp+decide [aD,cF,dg,cr,dR,gC,gd,gJ,fB,du,cI,eW,fG,eY,gq,dv,void,ey,eB,aP,eT,dS,er,kk,mm,hL,hs];try grind
theorem Hh (L:List Sx.Obj) (n:Int) (k:Key) (m:aZ) (hL:an L) (hs:az m.data):ai Tryz.prog 24 [.lp 0 0] [.ro (.blk lX (fU (.ci .i64 2) m n (.ci .i64 3) k)),.store tS eS L] (kO (aD L n ((kk 3 k)) ((mm 2 m)))) (fun _ _=>False):=
 aK (inl:=(fun f=>f==37||f==58||f==68||f==62||f==141||f==102||f==172||f==93||f==64||f==90||f==89||f==38||f==60||f==101||f==105||f==75)) (ann:=aL) (ab bY ak) (aG zk aA) (dn bm) (IV L n k m hL hs) (by kernel_rfl)
theorem HD (L:List Sx.Obj) (n:Int) (k:Key) (m:aZ) (hL:an L) (hs:az m.data):
 true=true/\true=true/\true=true/\true=true/\an L/\true=true/\true=true/\((!decide (bq L (kk 3 k) true=0))=true->(aZ.mk (bq L (kk 3 k) true) eB void void void,
  eL L (kk 3 k))=aD L n (kk 3 k) (mm 3 m))/\((!decide (bq L (kk 3 k) true=0))=false->(aZ.mk 0 eB void void void,eL L (kk 3 k))=aD L n (kk 3 k) (mm 3 m)):=by
 simp+decide [aD,cF,dg,cr,dR,gC,gd,gJ,fB,du,cI,eW,fG,eY,gq,dv,void,ey,eB,aP,eT,dS,er,kk,mm,hL,hs];try grind
theorem FM (L:List Sx.Obj) (n:Int) (k:Key) (m:aZ) (hL:an L) (hs:az m.data):ai Tryz.prog 24 [.lp 0 0] [.ro (.blk lX (fU (.ci .i64 3) m n (.ci .i64 3) k)),.store tS eS L] (kO (aD L n ((kk 3 k)) ((mm 3 m)))) (fun _ _=>False):=
 aK (inl:=(fun f=>f==37||f==58||f==68||f==62||f==141||f==102||f==172||f==93||f==64||f==90||f==89||f==38||f==60||f==101||f==105||f==77)) (ann:=aL) (ab bY ak) (aG Mv aA) (dn bm) (HD L n k m hL hs) (by kernel_rfl)
theorem GF (L:List Sx.Obj) (n:Int) (k:Key) (m:aZ) (hL:an L) (hs:az m.data):
 true=true/\true=true/\true=true/\true=true/\an L/\true=true/\true=true/\((!decide (cL L (kk 3 k) m.k0=0))=true->(aZ.mk (cL L (kk 3 k) m.k0) eB void void void,e9
  L (kk 3 k) m.k0)=aD L n (kk 3 k) (mm 4 m))/\((!decide (cL L (kk 3 k) m.k0=0))=false->(aZ.mk 0 eB void void void,e9 L (kk 3 k) m.k0)=aD L n (kk 3 k) (mm 4 m)):=by
 simp+decide [aD,cF,dg,cr,dR,gC,gd,gJ,fB,du,cI,eW,fG,eY,gq,dv,void,ey,eB,aP,eT,dS,er,kk,mm,hL,hs];try grind
theorem HH (L:List Sx.Obj) (n:Int) (k:Key) (m:aZ) (hL:an L) (hs:az m.data):ai Tryz.prog 24 [.lp 0 0] [.ro (.blk lX (fU (.ci .i64 4) m n (.ci .i64 3) k)),.store tS eS L] (kO (aD L n ((kk 3 k)) ((mm 4 m)))) (fun _ _=>False):=
 aK (inl:=(fun f=>f==37||f==58||f==68||f==62||f==141||f==102||f==172||f==93||f==64||f==90||f==89||f==38||f==60||f==101||f==105||f==79)) (ann:=aL) (ab bY ak) (aG NI aA) (dn bm) (GF L n k m hL hs) (by kernel_rfl)
theorem Im (L:List Sx.Obj) (n:Int) (k:Key) (m:aZ) (hL:an L) (hs:az m.data) (hk:aB (kk 3 k)=true):
 true=true/\true=true/\true=true/\true=true/\true=true/\((!decide (m.k2.kind=1))=true->(aZ.mk 240 eB void void void,L)=aD L n (kk 3 k) (mm 5 m))/\((!decide (m.k2.kind=1))=
  false->true=true/\((!(decide (0<=m.k2.value)&&decide (m.k2.value<=7)))=true->(aZ.mk 2 eB void void void,L)=aD L n (kk 3 k) (mm 5 m))/\((!(decide (0<=m.k2.value)&&decide
  (m.k2.value<=7)))=false->tY (kk 3 k) m.k2.value/\true=true/\true=true/\true=true/\(aZ.mk 0 eB (jR (kk 3 k) m.k2.value) void void,L)=aD L n (kk 3 k) (mm 5 m))):=by
 have hX:aD L n (kk 3 k) (mm 5 m)=if m.k2.kind=1 then(if 0<=m.k2.value/\m.k2.value<=7 then(eW (jR (kk 3 k) m.k2.value),L)else(eY 2,L))else(eY 240,L):=by
  by_cases h1:m.k2.kind=1
  ·by_cases h2:0<=m.k2.value/\m.k2.value<=7
   ·simp+decide [aD,cF,dg,cr,dR,gC,gd,gJ,fB,du,cI,eW,fG,eY,gq,dv,void,ey,eB,aP,eT,dS,er,kk,mm,h1,h2]
   ·simp+decide [aD,cF,dg,cr,dR,gC,gd,gJ,fB,du,cI,eW,fG,eY,gq,dv,void,ey,eB,aP,eT,dS,er,kk,mm,h1,h2]
  ·simp+decide [aD,cF,dg,cr,dR,gC,gd,gJ,fB,du,cI,eW,fG,eY,gq,dv,void,ey,eB,aP,eT,dS,er,kk,mm,h1]
 rw[hX];refine⟨rfl,rfl,rfl,rfl,rfl,fun h=>?_,fun h=>⟨rfl,fun h'=>?_,fun h'=>⟨⟨hk,?_⟩,rfl,rfl,rfl,?_⟩⟩⟩
 ·have h:¬m.k2.kind=1:=by simpa using h
  rw[Tn h];rfl
 ·have h:m.k2.kind=1:=by simpa using h
  have h':¬(0<=m.k2.value/\m.k2.value<=7):=fun hh=>by simp[hh.1,hh.2]at h'
  rw[To h,Tn h'];rfl
 ·simpa using h'
 ·have h:m.k2.kind=1:=by simpa using h
  have h':0<=m.k2.value/\m.k2.value<=7:=by simpa using h'
  rw[To h,To h'];rfl
theorem IG (L:List Sx.Obj) (n:Int) (k:Key) (m:aZ) (hL:an L) (hs:az m.data) (hk:aB (kk 3 k)=true):ai Tryz.prog 24 [.lp 0 0] [.ro (.blk lX (fU (.ci .i64 5) m n (.ci .i64 3) k)),.store tS eS L] (kO (aD L n ((kk 3 k)) ((mm 5 m)))) (fun _ _=>False):=
 aK (inl:=(fun f=>f==37||f==58||f==68||f==62||f==141||f==102||f==172||f==93||f==64||f==90||f==89||f==38||f==60||f==101||f==105||f==72)) (ann:=aL) (ab zI (ab bY ak)) aA (dn bm) (Im L n k m hL hs hk) (by kernel_rfl)
theorem Fy (L:List Sx.Obj) (n:Int) (k:Key) (m:aZ) (hL:an L) (hs:az m.data):
 true=true/\true=true/\true=true/\true=true/\an L/\true=true/\true=true/\true=true/\((!decide (cw L (kk 4 k) 1=0))=true->(aZ.mk (cw L (kk 4 k) 1) eB void void
  void,eO L (kk 4 k) 1)=aD L n (kk 4 k) (mm 1 m))/\((!decide (cw L (kk 4 k) 1=0))=false->(aZ.mk 0 eB (bS L (kk 4 k) 1) void void,eO L (kk 4 k) 1)=aD L n (kk 4 k) (mm 1
  m)):=by
 simp+decide [aD,cF,dg,cr,dR,gC,gd,gJ,fB,du,cI,eW,fG,eY,gq,dv,void,ey,eB,aP,eT,dS,er,kk,mm,hL,hs];try grind
theorem Ju (L:List Sx.Obj) (n:Int) (k:Key) (m:aZ) (hL:an L) (hs:az m.data):ai Tryz.prog 24 [.lp 0 0] [.ro (.blk lX (fU (.ci .i64 1) m n (.ci .i64 4) k)),.store tS eS L] (kO (aD L n ((kk 4 k)) ((mm 1 m)))) (fun _ _=>False):=
 aK (inl:=(fun f=>f==37||f==58||f==68||f==62||f==141||f==102||f==172||f==93||f==64||f==90||f==89||f==38||f==60||f==101||f==105||f==149)) (ann:=aL) (ab bY ak) (aG zC aA) (dn bm) (Fy L n k m hL hs) (by kernel_rfl)
theorem Fg (L:List Sx.Obj) (n:Int) (k:Key) (m:aZ) (hL:an L) (hs:az m.data):
 true=true/\true=true/\true=true/\true=true/\an L/\true=true/\true=true/\true=true/\((!decide (cw L (kk 4 k) 2=0))=true->(aZ.mk (cw L (kk 4 k) 2) eB void void
  void,eO L (kk 4 k) 2)=aD L n (kk 4 k) (mm 2 m))/\((!decide (cw L (kk 4 k) 2=0))=false->(aZ.mk 0 eB (bS L (kk 4 k) 2) void void,eO L (kk 4 k) 2)=aD L n (kk 4 k) (mm 2
  m)):=by
 simp+decide [aD,cF,dg,cr,dR,gC,gd,gJ,fB,du,cI,eW,fG,eY,gq,dv,void,ey,eB,aP,eT,dS,er,kk,mm,hL,hs];try grind
theorem Io (L:List Sx.Obj) (n:Int) (k:Key) (m:aZ) (hL:an L) (hs:az m.data):ai Tryz.prog 24 [.lp 0 0] [.ro (.blk lX (fU (.ci .i64 2) m n (.ci .i64 4) k)),.store tS eS L] (kO (aD L n ((kk 4 k)) ((mm 2 m)))) (fun _ _=>False):=
 aK (inl:=(fun f=>f==37||f==58||f==68||f==62||f==141||f==102||f==172||f==93||f==64||f==90||f==89||f==38||f==60||f==101||f==105||f==149)) (ann:=aL) (ab bY ak) (aG zC aA) (dn bm) (Fg L n k m hL hs) (by kernel_rfl)
theorem Fl (L:List Sx.Obj) (n:Int) (k:Key) (m:aZ) (hL:an L) (hs:az m.data):
 true=true/\true=true/\true=true/\true=true/\an L/\true=true/\true=true/\((!decide (dA L (kk 4 k) m.k0=0))=true->(aZ.mk (dA L (kk 4 k) m.k0) eB void void void,gA
  L (kk 4 k) m.k0)=aD L n (kk 4 k) (mm 3 m))/\((!decide (dA L (kk 4 k) m.k0=0))=false->(aZ.mk 0 eB void void void,gA L (kk 4 k) m.k0)=aD L n (kk 4 k) (mm 3 m)):=by
 simp+decide [aD,cF,dg,cr,dR,gC,gd,gJ,fB,du,cI,eW,fG,eY,gq,dv,void,ey,eB,aP,eT,dS,er,kk,mm,hL,hs];try grind
theorem Fu (L:List Sx.Obj) (n:Int) (k:Key) (m:aZ) (hL:an L) (hs:az m.data):ai Tryz.prog 24 [.lp 0 0] [.ro (.blk lX (fU (.ci .i64 3) m n (.ci .i64 4) k)),.store tS eS L] (kO (aD L n ((kk 4 k)) ((mm 3 m)))) (fun _ _=>False):=
 aK (inl:=(fun f=>f==37||f==58||f==68||f==62||f==141||f==102||f==172||f==93||f==64||f==90||f==89||f==38||f==60||f==101||f==105||f==82)) (ann:=aL) (ab bY ak) (aG J7 aA) (dn bm) (Fl L n k m hL hs) (by kernel_rfl)
theorem JF (L:List Sx.Obj) (n:Int) (k:Key) (m:aZ) (hL:an L) (hs:az m.data):
 true=true/\true=true/\true=true/\true=true/\true=true/\true=true/\((!decide (m.k2.kind=1))=true->(aZ.mk 240 eB void void void,L)=aD L n (kk 4 k) (mm 4 m))/\((!decide
  (m.k2.kind=1))=false->((decide (m.k2.value<0)||decide (2147483647<m.k2.value))=true->true=true/\an L/\true=true/\true=true/\true=true/\((!decide (bN L (kk 4 k) (-1)=
  0))=true->(aZ.mk (bN L (kk 4 k) (-1)) eB void void void,bc L (kk 4 k) (-1))=aD L n (kk 4 k) (mm 4 m))/\((!decide (bN L (kk 4 k) (-1)=0))=false->(aZ.mk 0 eB (bJ L (kk 4 k)
  (-1)) void void,bc L (kk 4 k) (-1))=aD L n (kk 4 k) (mm 4 m)))/\((decide (m.k2.value<0)||decide (2147483647<m.k2.value))=false->true=true/\an L/\true=true/\true=true/\
  true=true/\((!decide (bN L (kk 4 k) m.k2.value=0))=true->(aZ.mk (bN L (kk 4 k) m.k2.value) eB void void void,bc L (kk 4 k) m.k2.value)=aD L n (kk 4 k) (mm 4 m))/\((!decide
  (bN L (kk 4 k) m.k2.value=0))=false->(aZ.mk 0 eB (bJ L (kk 4 k) m.k2.value) void void,bc L (kk 4 k) m.k2.value)=aD L n (kk 4 k) (mm 4 m)))):=by
 simp+decide [aD,cF,dg,cr,dR,gC,gd,gJ,fB,du,cI,eW,fG,eY,gq,dv,void,ey,eB,aP,eT,dS,er,kk,mm,hL,hs];try grind
theorem HY (L:List Sx.Obj) (n:Int) (k:Key) (m:aZ) (hL:an L) (hs:az m.data):ai Tryz.prog 24 [.lp 0 0] [.ro (.blk lX (fU (.ci .i64 4) m n (.ci .i64 4) k)),.store tS eS L] (kO (aD L n ((kk 4 k)) ((mm 4 m)))) (fun _ _=>False):=
 aK (inl:=(fun f=>f==37||f==58||f==68||f==62||f==141||f==102||f==172||f==93||f==64||f==90||f==89||f==38||f==60||f==101||f==105||f==84)) (ann:=aL) (ab bY ak) (aG Ee aA) (dn bm) (JF L n k m hL hs) (by kernel_rfl)
theorem HP (L:List Sx.Obj) (n:Int) (k:Key) (m:aZ) (hL:an L) (hs:az m.data):
 true=true/\true=true/\true=true/\true=true/\((!decide (aS L (kk 4 k)=0))=true->(aZ.mk (aS L (kk 4 k)) eB void void void,L)=aD L n (kk 4 k) (mm 5 m))/\((!decide (aS
  L (kk 4 k)=0))=false->true=true/\(kV L (kk 4 k) m.k0=true->true=true/\true=true/\(aZ.mk 0 eB void void (Key.mk 1 void.oid void.count void.call void.rights 1),L)=aD L n (kk 4
  k) (mm 5 m))/\(kV L (kk 4 k) m.k0=false->true=true/\true=true/\(aZ.mk 0 eB void void (Key.mk 1 void.oid void.count void.call void.rights 0),L)=aD L n (kk 4 k) (mm 5 m))):=by
 simp+decide [aD,cF,dg,cr,dR,gC,gd,gJ,fB,du,cI,eW,fG,eY,gq,dv,void,ey,eB,aP,eT,dS,er,kk,mm,hL,hs];try grind
theorem JJ (L:List Sx.Obj) (n:Int) (k:Key) (m:aZ) (hL:an L) (hs:az m.data):ai Tryz.prog 24 [.lp 0 0] [.ro (.blk lX (fU (.ci .i64 5) m n (.ci .i64 4) k)),.store tS eS L] (kO (aD L n ((kk 4 k)) ((mm 5 m)))) (fun _ _=>False):=
 aK (inl:=(fun f=>f==37||f==58||f==68||f==62||f==141||f==102||f==172||f==93||f==64||f==90||f==89||f==38||f==60||f==101||f==105||f==86)) (ann:=aL) (ab HB (ab bY ak)) aA (dn bm) (HP L n k m hL hs) (by kernel_rfl)
theorem Gt (L:List Sx.Obj) (n:Int) (k:Key) (m:aZ) (hL:an L) (hs:az m.data):
 true=true/\true=true/\true=true/\true=true/\an L/\true=true/\((!decide (aS L (kk 4 k)=0))=true->(aZ.mk (aS L (kk 4 k)) eB void void void,iu L (kk 4 k))=aD L n
  (kk 4 k) (mm 6 m))/\((!decide (aS L (kk 4 k)=0))=false->true=true/\true=true/\(aZ.mk 0 eB void void (Key.mk 1 void.oid void.count void.call void.rights (gX L (kk 4 k))),iu L
  (kk 4 k))=aD L n (kk 4 k) (mm 6 m)):=by
 simp+decide [aD,cF,dg,cr,dR,gC,gd,gJ,fB,du,cI,eW,fG,eY,gq,dv,void,ey,eB,aP,eT,dS,er,kk,mm,hL,hs];try grind
theorem H7 (L:List Sx.Obj) (n:Int) (k:Key) (m:aZ) (hL:an L) (hs:az m.data):ai Tryz.prog 24 [.lp 0 0] [.ro (.blk lX (fU (.ci .i64 6) m n (.ci .i64 4) k)),.store tS eS L] (kO (aD L n ((kk 4 k)) ((mm 6 m)))) (fun _ _=>False):=
 aK (inl:=(fun f=>f==37||f==58||f==68||f==62||f==141||f==102||f==172||f==93||f==64||f==90||f==89||f==38||f==60||f==101||f==105||f==87)) (ann:=aL) (ab bY ak) (aG I7 aA) (dn bm) (Gt L n k m hL hs) (by kernel_rfl)
theorem Hg (L:List Sx.Obj) (n:Int) (k:Key) (m:aZ) (hL:an L) (hs:az m.data):
 true=true/\true=true/\true=true/\true=true/\true=true/\true=true/\true=true/\true=true/\((!decide (m.k2.kind=1))=true->(aZ.mk 240 eB void void void,L)=aD L n (kk 5
  k) (mm 1 m))/\((!decide (m.k2.kind=1))=false->((decide (m.k2.value<0)||decide (2147483647<m.k2.value))=true->true=true/\(aZ.mk 4 eB void void void,L)=aD L n (kk 5 k) (mm 1 m))
  /\((decide (m.k2.value<0)||decide (2147483647<m.k2.value))=false->true=true/\((!(decide (0<=m.k2.value)&&decide (m.k2.value<12)))=true->(aZ.mk 4 eB void void void,L)=aD L n
  (kk 5 k) (mm 1 m))/\((!(decide (0<=m.k2.value)&&decide (m.k2.value<12)))=false->aQ IntKind.i64 (m.k2.value+4)/\true=true/\true=true/\true=true/\((!decide (bF L (Key.mk 2
  k.oid k.count void.call void.rights void.value) (m.k2.value+4)=0))=true->(aZ.mk (bF L (Key.mk 2 k.oid k.count void.call void.rights void.value) (m.k2.value+4)) eB void void void,L)=
  aD L n (kk 5 k) (mm 1 m))/\((!decide (bF L (Key.mk 2 k.oid k.count void.call void.rights void.value) (m.k2.value+4)=0))=false->(aZ.mk 0 eB (aC L (Key.mk 2 k.oid k.count void.call
  void.rights void.value) (m.k2.value+4)) void void,L)=aD L n (kk 5 k) (mm 1 m))))):=by
 have hw:Key.mk 2 k.oid k.count void.call void.rights void.value=er k:=rfl;have e2:∀c,aZ.mk c eB void void void=eY c:=fun _=>rfl
 simp only[hw,e2];have hX:=Dl (L:=L) (n:=n) (k:=k) (m:=m) (c:=1) (by omega)
 rw[hX];clear hX;by_cases h1:m.k2.kind=1
 case neg=>simp[h1,show du 5 1=true by decide,hL,hs]
 have hf:¬(du 5 1=true/\m.k2.kind≠1):=fun h=>h.2 h1
 rw[Tn hf];have hC:fB L (kk 5 k) (mm 1 m)=(if aP m<0\/11<aP m then 4 else bF L (er k) (aP m+4),eW (aC L (er k) (aP m+4)),L):=rfl
 rw[hC];clear hC;have e3:∀a,aZ.mk 0 eB a void void=eW a:=fun _=>rfl
 simp only[e3];by_cases h2:0<=m.k2.value/\m.k2.value<=2147483647
 ·have hN:aP m=m.k2.value:=by unfold aP;rw[To h2]
  have hr:aQ .i64 (m.k2.value+4):=by simp only[aQ,cy];omega
  rw[hN];by_cases h3:11<m.k2.value
  ·have h4:¬m.k2.value<12:=by omega
   simp[h1,h2,h3,h4,qJ,hr]<;>omega
  ·have h4:m.k2.value<12:=by omega
   have h5:¬(m.k2.value<0\/11<m.k2.value):=by omega
   simp[h1,h2,h4,h5,qJ,hr,hL];grind
 ·have hN:aP m= -1:=by unfold aP;rw[Tn h2]
  rw[hN];simp[h1,qJ]<;>omega
theorem Is (L:List Sx.Obj) (n:Int) (k:Key) (m:aZ) (hL:an L) (hs:az m.data):ai Tryz.prog 24 [.lp 0 0] [.ro (.blk lX (fU (.ci .i64 1) m n (.ci .i64 5) k)),.store tS eS L] (kO (aD L n ((kk 5 k)) ((mm 1 m)))) (fun _ _=>False):=
 aK (inl:=(fun f=>f==37||f==58||f==68||f==62||f==141||f==102||f==172||f==93||f==64||f==90||f==89||f==38||f==60||f==101||f==105||f==88)) (ann:=aL) (ab pc (ab bY ak)) aA (dn bm) (Hg L n k m hL hs) (by kernel_rfl)
theorem H5 (L:List Sx.Obj) (n:Int) (k:Key) (m:aZ) (hL:an L) (hs:az m.data):
 true=true/\true=true/\true=true/\true=true/\true=true/\true=true/\true=true/\true=true/\((!decide (m.k2.kind=1))=true->(aZ.mk 240 eB void void void,L)=aD L n (kk 5
  k) (mm 2 m))/\((!decide (m.k2.kind=1))=false->((decide (m.k2.value<0)||decide (2147483647<m.k2.value))=true->true=true/\(aZ.mk 4 eB void void void,L)=aD L n (kk 5 k) (mm 2 m))
  /\((decide (m.k2.value<0)||decide (2147483647<m.k2.value))=false->true=true/\((!(decide (0<=m.k2.value)&&decide (m.k2.value<12)))=true->(aZ.mk 4 eB void void void,L)=aD L n
  (kk 5 k) (mm 2 m))/\((!(decide (0<=m.k2.value)&&decide (m.k2.value<12)))=false->aQ IntKind.i64 (m.k2.value+4)/\true=true/\an L/\true=true/\true=true/\true=true/\((!decide
  (bk L (Key.mk 2 k.oid k.count void.call void.rights void.value) (m.k2.value+4) m.k0=0))=true->(aZ.mk (bk L (Key.mk 2 k.oid k.count void.call void.rights void.value) (m.k2.value+4)
  m.k0) eB void void void,cG L (Key.mk 2 k.oid k.count void.call void.rights void.value) (m.k2.value+4) m.k0)=aD L n (kk 5 k) (mm 2 m))/\((!decide (bk L (Key.mk 2 k.oid k.count
  void.call void.rights void.value) (m.k2.value+4) m.k0=0))=false->(aZ.mk 0 eB (c8 L (Key.mk 2 k.oid k.count void.call void.rights void.value) (m.k2.value+4) m.k0) void void,cG L
  (Key.mk 2 k.oid k.count void.call void.rights void.value) (m.k2.value+4) m.k0)=aD L n (kk 5 k) (mm 2 m))))):=by
 have hw:Key.mk 2 k.oid k.count void.call void.rights void.value=er k:=rfl;have e2:∀c,aZ.mk c eB void void void=eY c:=fun _=>rfl
 simp only[hw,e2];have hX:=Dl (L:=L) (n:=n) (k:=k) (m:=m) (c:=2) (by omega)
 rw[hX];clear hX;by_cases h1:m.k2.kind=1
 case neg=>simp[h1,show du 5 2=true by decide,hL,hs]
 have hf:¬(du 5 2=true/\m.k2.kind≠1):=fun h=>h.2 h1
 rw[Tn hf];have hC:fB L (kk 5 k) (mm 2 m)=(if aP m<0\/11<aP m then 4 else bk L (er k) (aP m+4) m.k0,eW (c8 L (er k) (aP m+4) m.k0),if aP m<0\/11<aP m then L else cG L (er k) (aP m+4) m.k0):=rfl
 rw[hC];clear hC;have e3:∀a,aZ.mk 0 eB a void void=eW a:=fun _=>rfl
 simp only[e3];by_cases h2:0<=m.k2.value/\m.k2.value<=2147483647
 ·have hN:aP m=m.k2.value:=by unfold aP;rw[To h2]
  have hr:aQ .i64 (m.k2.value+4):=by simp only[aQ,cy];omega
  rw[hN];by_cases h3:11<m.k2.value
  ·have h4:¬m.k2.value<12:=by omega
   simp[h1,h2,h3,h4,qJ,hr]<;>omega
  ·have h4:m.k2.value<12:=by omega
   have h5:¬(m.k2.value<0\/11<m.k2.value):=by omega
   simp[h1,h2,h4,h5,qJ,hr,hL];grind
 ·have hN:aP m= -1:=by unfold aP;rw[Tn h2]
  rw[hN];simp[h1,qJ]<;>omega
theorem IY (L:List Sx.Obj) (n:Int) (k:Key) (m:aZ) (hL:an L) (hs:az m.data):ai Tryz.prog 24 [.lp 0 0] [.ro (.blk lX (fU (.ci .i64 2) m n (.ci .i64 5) k)),.store tS eS L] (kO (aD L n ((kk 5 k)) ((mm 2 m)))) (fun _ _=>False):=
 aK (inl:=(fun f=>f==37||f==58||f==68||f==62||f==141||f==102||f==172||f==93||f==64||f==90||f==89||f==38||f==60||f==101||f==105||f==91)) (ann:=aL) (ab bY ak) (aG Dv aA) (dn bm) (H5 L n k m hL hs) (by kernel_rfl)
theorem Jp (L:List Sx.Obj) (n:Int) (k:Key) (m:aZ) (hL:an L) (hs:az m.data):
 true=true/\true=true/\true=true/\true=true/\true=true/\((!decide (m.k2.kind=1))=true->(aZ.mk 240 eB void void void,L)=aD L n (kk 5 k) (mm 3 m))/\((!decide (m.k2.kind=1))=
  false->true=true/\true=true/\true=true/\(aZ.mk 0 eB (Key.mk 6 k.oid k.count void.call void.rights m.k2.value) void void,L)=aD L n (kk 5 k) (mm 3 m)):=by
 simp+decide [aD,cF,dg,cr,dR,gC,gd,gJ,fB,du,cI,eW,fG,eY,gq,dv,void,ey,eB,aP,eT,dS,er,kk,mm,hL,hs];try grind
theorem Jz (L:List Sx.Obj) (n:Int) (k:Key) (m:aZ) (hL:an L) (hs:az m.data):ai Tryz.prog 24 [.lp 0 0] [.ro (.blk lX (fU (.ci .i64 3) m n (.ci .i64 5) k)),.store tS eS L] (kO (aD L n ((kk 5 k)) ((mm 3 m)))) (fun _ _=>False):=
 aK (inl:=(fun f=>f==37||f==58||f==68||f==62||f==141||f==102||f==172||f==93||f==64||f==90||f==89||f==38||f==60||f==101||f==105||f==92)) (ann:=aL) (ab bY ak) aA (dn bm) (Jp L n k m hL hs) (by kernel_rfl)
theorem JB (L:List Sx.Obj) (n:Int) (k:Key) (m:aZ) (hL:an L) (hs:az m.data):
 true=true/\true=true/\true=true/\((!iZ L k.oid)=true->true=true/\true=true/\(aZ.mk 0 eB void void (Key.mk 1 void.oid void.count void.call void.rights (-1)),L)=aD L n (kk 5
  k) (mm 4 m))/\((!iZ L k.oid)=false->true=true/\true=true/\(aZ.mk 0 eB void void (Key.mk 1 void.oid void.count void.call void.rights (nK L k.oid)),L)=aD L n (kk 5 k) (mm 4 m)):=by
 simp+decide [aD,cF,dg,cr,dR,gC,gd,gJ,fB,du,cI,eW,fG,eY,gq,dv,void,ey,eB,aP,eT,dS,er,kk,mm,hL,hs];unfold nK xX;grind
theorem Fm (L:List Sx.Obj) (n:Int) (k:Key) (m:aZ) (hL:an L) (hs:az m.data):ai Tryz.prog 24 [.lp 0 0] [.ro (.blk lX (fU (.ci .i64 4) m n (.ci .i64 5) k)),.store tS eS L] (kO (aD L n ((kk 5 k)) ((mm 4 m)))) (fun _ _=>False):=
 aK (inl:=(fun f=>f==37||f==58||f==68||f==62||f==141||f==102||f==172||f==93||f==64||f==90||f==89||f==38||f==60||f==101||f==105||f==94)) (ann:=aL) (ab O8 (ab bY ak)) aA (dn bm) (JB L n k m hL hs) (by kernel_rfl)
theorem Fi (L:List Sx.Obj) (n:Int) (k:Key) (m:aZ) (hL:an L) (hs:az m.data):
 true=true/\true=true/\true=true/\true=true/\true=true/\true=true/\((!decide (m.k2.kind=1))=true->(aZ.mk 240 eB void void void,L)=aD L n (kk 5 k) (mm 5 m))/\((!decide
  (m.k2.kind=1))=false->((decide (m.k2.value<0)||decide (2147483647<m.k2.value))=true->true=true/\an L/\true=true/\true=true/\((!decide (ev L k.oid (-1)=0))=true->
  (aZ.mk (ev L k.oid (-1)) eB void void void,jm L k.oid (-1))=aD L n (kk 5 k) (mm 5 m))/\((!decide (ev L k.oid (-1)=0))=false->(aZ.mk 0 eB void void void,jm L k.oid (-1))=
  aD L n (kk 5 k) (mm 5 m)))/\((decide (m.k2.value<0)||decide (2147483647<m.k2.value))=false->true=true/\an L/\true=true/\true=true/\((!decide (ev L k.oid m.k2.value=0))=
  true->(aZ.mk (ev L k.oid m.k2.value) eB void void void,jm L k.oid m.k2.value)=aD L n (kk 5 k) (mm 5 m))/\((!decide (ev L k.oid m.k2.value=0))=false->(aZ.mk 0 eB void void void,
  jm L k.oid m.k2.value)=aD L n (kk 5 k) (mm 5 m)))):=by
 simp+decide [aD,cF,dg,cr,dR,gC,gd,gJ,fB,du,cI,eW,fG,eY,gq,dv,void,ey,eB,aP,eT,dS,er,kk,mm,hL,hs];try grind
theorem Gv (L:List Sx.Obj) (n:Int) (k:Key) (m:aZ) (hL:an L) (hs:az m.data):ai Tryz.prog 24 [.lp 0 0] [.ro (.blk lX (fU (.ci .i64 5) m n (.ci .i64 5) k)),.store tS eS L] (kO (aD L n ((kk 5 k)) ((mm 5 m)))) (fun _ _=>False):=
 aK (inl:=(fun f=>f==37||f==58||f==68||f==62||f==141||f==102||f==172||f==93||f==64||f==90||f==89||f==38||f==60||f==101||f==105||f==95)) (ann:=aL) (ab bY ak) (aG Pb aA) (dn bm) (Fi L n k m hL hs) (by kernel_rfl)
theorem JQ (L:List Sx.Obj) (n:Int) (k:Key) (m:aZ) (hL:an L) (hs:az m.data):
 true=true/\true=true/\true=true/\true=true/\true=true/\true=true/\((!decide (m.k2.kind=1))=true->(aZ.mk 240 eB void void void,L)=aD L n (kk 5 k) (mm 6 m))/\((!decide
  (m.k2.kind=1))=false->true=true/\true=true/\((!decide (b9 L (aC L (Key.mk 2 k.oid k.count void.call void.rights void.value) 0) m.k2.value 32=0))=true->(aZ.mk (b9 L (aC L
  (Key.mk 2 k.oid k.count void.call void.rights void.value) 0) m.k2.value 32) eB void void void,L)=aD L n (kk 5 k) (mm 6 m))/\((!decide (b9 L (aC L (Key.mk 2 k.oid k.count void.call
  void.rights void.value) 0) m.k2.value 32=0))=false->((!decide (bU L (aC L (Key.mk 2 k.oid k.count void.call void.rights void.value) 0) m.k2.value 32 false=0))=true->aQ IntKind.i64
  (1000+bU L (aC L (Key.mk 2 k.oid k.count void.call void.rights void.value) 0) m.k2.value 32 false)/\(aZ.mk (1000+bU L (aC L (Key.mk 2 k.oid k.count void.call void.rights void.value)
  0) m.k2.value 32 false) eB void void void,L)=aD L n (kk 5 k) (mm 6 m))/\((!decide (bU L (aC L (Key.mk 2 k.oid k.count void.call void.rights void.value) 0) m.k2.value 32 false=0))=false
  ->true=true/\true=true/\true=true/\(aZ.mk 0 (nz L (aC L (Key.mk 2 k.oid k.count void.call void.rights void.value) 0) m.k2.value 32) void void void,L)=aD L n (kk 5 k) (mm 6 m)))):=by
 have hw:Key.mk 2 k.oid k.count void.call void.rights void.value=er k:=rfl;have e2:∀c,aZ.mk c eB void void void=eY c:=fun _=>rfl
 simp only[hw,e2];have hX:=Dl (L:=L) (n:=n) (k:=k) (m:=m) (c:=6) (by omega)
 rw[hX];clear hX;by_cases h1:m.k2.kind=1
 case neg=>simp[h1,show du 5 6=true by decide,hL,hs]
 have hf:¬(du 5 6=true/\m.k2.kind≠1):=fun h=>h.2 h1
 rw[Tn hf];have hC:fB L (kk 5 k) (mm 6 m)=(if b9 L (dS L k) m.k2.value 32=0 then(if bU L (dS L k) m.k2.value 32 false=0 then 0 else 1000+bU L (dS L k) m.k2.value 32 false)else b9 L (dS L k) m.k2.value 32,gq (nz L (dS L k) m.k2.value 32),L):=rfl
 rw[hC];clear hC;have e3:∀s,aZ.mk 0 s void void void=gq s:=fun _=>rfl
 have e4:eY 0=ey:=rfl;have hi:=Ns (L:=L) (k:=aC L (er k) 0) (a:=m.k2.value) (n:=32) (w:=false);have hr:aQ .i64 (1000+bU L (aC L (er k) 0) m.k2.value (32) false):=by simp only[aQ,cy];omega
 simp only[e3,dS];simp[h1,hr,qJ,hL,hs];grind
theorem Fh (L:List Sx.Obj) (n:Int) (k:Key) (m:aZ) (hL:an L) (hs:az m.data):ai Tryz.prog 24 [.lp 0 0] [.ro (.blk lX (fU (.ci .i64 6) m n (.ci .i64 5) k)),.store tS eS L] (kO (aD L n ((kk 5 k)) ((mm 6 m)))) (fun _ _=>False):=
 aK (inl:=(fun f=>f==37||f==58||f==68||f==62||f==141||f==102||f==172||f==93||f==64||f==90||f==89||f==38||f==60||f==101||f==105||f==97)) (ann:=aL) (ab pc (ab Qx (ab bY ak))) aA (dn bm) (JQ L n k m hL hs) (by kernel_rfl)
theorem FW (L:List Sx.Obj) (n:Int) (k:Key) (m:aZ) (hL:an L) (hs:az m.data):
 true=true/\true=true/\true=true/\true=true/\true=true/\true=true/\((!decide (m.k2.kind=1))=true->(aZ.mk 240 eB void void void,L)=aD L n (kk 5 k) (mm 7 m))/\((!decide
  (m.k2.kind=1))=false->true=true/\az m.data/\(an L/\az m.data)/\true=true/\true=true/\((!decide (b9 L (aC L (Key.mk 2 k.oid k.count void.call void.rights void.value)
  0) m.k2.value (dK m.data)=0))=true->(aZ.mk (b9 L (aC L (Key.mk 2 k.oid k.count void.call void.rights void.value) 0) m.k2.value (dK m.data)) eB void void void,j3 L (aC L (Key.mk 2
  k.oid k.count void.call void.rights void.value) 0) m.k2.value m.data)=aD L n (kk 5 k) (mm 7 m))/\((!decide (b9 L (aC L (Key.mk 2 k.oid k.count void.call void.rights void.value) 0)
  m.k2.value (dK m.data)=0))=false->((!decide (bU L (aC L (Key.mk 2 k.oid k.count void.call void.rights void.value) 0) m.k2.value (dK m.data) true=0))=true->aQ IntKind.i64 (1000+
  bU L (aC L (Key.mk 2 k.oid k.count void.call void.rights void.value) 0) m.k2.value (dK m.data) true)/\(aZ.mk (1000+bU L (aC L (Key.mk 2 k.oid k.count void.call void.rights void.value)
  0) m.k2.value (dK m.data) true) eB void void void,j3 L (aC L (Key.mk 2 k.oid k.count void.call void.rights void.value) 0) m.k2.value m.data)=aD L n (kk 5 k) (mm 7 m))/\((!decide (bU L
  (aC L (Key.mk 2 k.oid k.count void.call void.rights void.value) 0) m.k2.value (dK m.data) true=0))=false->true=true/\true=true/\(aZ.mk 0 eB void void void,j3 L (aC L (Key.mk 2
  k.oid k.count void.call void.rights void.value) 0) m.k2.value m.data)=aD L n (kk 5 k) (mm 7 m)))):=by
 have hw:Key.mk 2 k.oid k.count void.call void.rights void.value=er k:=rfl;have e2:∀c,aZ.mk c eB void void void=eY c:=fun _=>rfl
 simp only[hw,e2];have hX:=Dl (L:=L) (n:=n) (k:=k) (m:=m) (c:=7) (by omega)
 rw[hX];clear hX;by_cases h1:m.k2.kind=1
 case neg=>simp[h1,show du 5 7=true by decide,hL,hs]
 have hf:¬(du 5 7=true/\m.k2.kind≠1):=fun h=>h.2 h1
 rw[Tn hf];have hC:fB L (kk 5 k) (mm 7 m)=(if b9 L (dS L k) m.k2.value (dK m.data)=0 then(if bU L (dS L k) m.k2.value (dK m.data) true=0 then 0 else 1000+bU L (dS L k) m.k2.value (dK m.data) true)else b9 L (dS L k) m.k2.value (dK m.data),ey,j3 L (dS L k) m.k2.value m.data):=rfl
 rw[hC];clear hC;have e3:∀s,aZ.mk 0 s void void void=gq s:=fun _=>rfl
 have e4:eY 0=ey:=rfl;have hi:=Ns (L:=L) (k:=aC L (er k) 0) (a:=m.k2.value) (n:=dK m.data) (w:=true);have hr:aQ .i64 (1000+bU L (aC L (er k) 0) m.k2.value (dK m.data) true):=by simp only[aQ,cy];omega
 simp only[e3,dS];simp[h1,hr,qJ,hL,hs];grind
theorem Fv (L:List Sx.Obj) (n:Int) (k:Key) (m:aZ) (hL:an L) (hs:az m.data):ai Tryz.prog 24 [.lp 0 0] [.ro (.blk lX (fU (.ci .i64 7) m n (.ci .i64 5) k)),.store tS eS L] (kO (aD L n ((kk 5 k)) ((mm 7 m)))) (fun _ _=>False):=
 aK (inl:=(fun f=>f==37||f==58||f==68||f==62||f==141||f==102||f==172||f==93||f==64||f==90||f==89||f==38||f==60||f==101||f==105||f==98)) (ann:=aL) (ab pc (ab bY ak)) (aG NF aA) (dn bm) (FW L n k m hL hs) (by kernel_rfl)
theorem GV (L:List Sx.Obj) (n:Int) (k:Key) (m:aZ) (hL:an L) (hs:az m.data):
 true=true/\true=true/\true=true/\true=true/\true=true/\(aZ.mk 0 eB void void (Key.mk 1 void.oid void.count void.call void.rights m.k0.kind),L)=aD L n (kk 8 k) (mm 1 m):=by
 simp+decide [aD,cF,dg,cr,dR,gC,gd,gJ,fB,du,cI,eW,fG,eY,gq,dv,void,ey,eB,aP,eT,dS,er,kk,mm,hL,hs];try grind
theorem HG (L:List Sx.Obj) (n:Int) (k:Key) (m:aZ) (hL:an L) (hs:az m.data):ai Tryz.prog 24 [.lp 0 0] [.ro (.blk lX (fU (.ci .i64 1) m n (.ci .i64 8) k)),.store tS eS L] (kO (aD L n ((kk 8 k)) ((mm 1 m)))) (fun _ _=>False):=
 aK (inl:=(fun f=>f==37||f==58||f==68||f==62||f==141||f==102||f==172||f==93||f==64||f==90||f==89||f==38||f==60||f==101||f==105||f==99)) (ann:=aL) (ab bY ak) aA (dn bm) (GV L n k m hL hs) (by kernel_rfl)
theorem Ft (L:List Sx.Obj) (n:Int) (k:Key) (m:aZ) (hL:an L) (hs:az m.data):
 true=true/\true=true/\true=true/\true=true/\(cT m.k0 m.k1=true->true=true/\true=true/\(aZ.mk 0 eB void void (Key.mk 1 void.oid void.count void.call void.rights 1),L)=aD
  L n (kk 8 k) (mm 2 m))/\(cT m.k0 m.k1=false->true=true/\true=true/\(aZ.mk 0 eB void void (Key.mk 1 void.oid void.count void.call void.rights 0),L)=aD L n (kk 8 k) (mm 2 m)):=by
 simp+decide [aD,cF,dg,cr,dR,gC,gd,gJ,fB,du,cI,eW,fG,eY,gq,dv,void,ey,eB,aP,eT,dS,er,kk,mm,hL,hs];try grind
theorem Ir (L:List Sx.Obj) (n:Int) (k:Key) (m:aZ) (hL:an L) (hs:az m.data):ai Tryz.prog 24 [.lp 0 0] [.ro (.blk lX (fU (.ci .i64 2) m n (.ci .i64 8) k)),.store tS eS L] (kO (aD L n ((kk 8 k)) ((mm 2 m)))) (fun _ _=>False):=
 aK (inl:=(fun f=>f==37||f==58||f==68||f==62||f==141||f==102||f==172||f==93||f==64||f==90||f==89||f==38||f==60||f==101||f==105||f==100)) (ann:=aL) (ab L0 (ab bY ak)) aA (dn bm) (Ft L n k m hL hs) (by kernel_rfl)
theorem I2 (L:List Sx.Obj) (n:Int) (k:Key) (m:aZ) (hL:an L) (hs:az m.data):
 true=true/\true=true/\true=true/\true=true/\true=true/\(aZ.mk 0 eB void void (Key.mk 1 void.oid void.count void.call void.rights m.k0.rights),L)=aD L n (kk 8 k) (mm 3 m):=by
 simp+decide [aD,cF,dg,cr,dR,gC,gd,gJ,fB,du,cI,eW,fG,eY,gq,dv,void,ey,eB,aP,eT,dS,er,kk,mm,hL,hs];try grind
theorem G4 (L:List Sx.Obj) (n:Int) (k:Key) (m:aZ) (hL:an L) (hs:az m.data):ai Tryz.prog 24 [.lp 0 0] [.ro (.blk lX (fU (.ci .i64 3) m n (.ci .i64 8) k)),.store tS eS L] (kO (aD L n ((kk 8 k)) ((mm 3 m)))) (fun _ _=>False):=
 aK (inl:=(fun f=>f==37||f==58||f==68||f==62||f==141||f==102||f==172||f==93||f==64||f==90||f==89||f==38||f==60||f==101||f==105||f==104)) (ann:=aL) (ab bY ak) aA (dn bm) (I2 L n k m hL hs) (by kernel_rfl)
theorem Jm (L:List Sx.Obj) (n:Int) (k:Key) (m:aZ) (hL:an L) (hs:az m.data):
 true=true/\true=true/\true=true/\true=true/\true=true/\(aZ.mk 0 eB void void (Key.mk 1 void.oid void.count void.call void.rights n),L)=aD L n (kk 9 k) (mm 1 m):=by
 simp+decide [aD,cF,dg,cr,dR,gC,gd,gJ,fB,du,cI,eW,fG,eY,gq,dv,void,ey,eB,aP,eT,dS,er,kk,mm,hL,hs];try grind
theorem Fe (L:List Sx.Obj) (n:Int) (k:Key) (m:aZ) (hL:an L) (hs:az m.data):ai Tryz.prog 24 [.lp 0 0] [.ro (.blk lX (fU (.ci .i64 1) m n (.ci .i64 9) k)),.store tS eS L] (kO (aD L n ((kk 9 k)) ((mm 1 m)))) (fun _ _=>False):=
 aK (inl:=(fun f=>f==37||f==58||f==68||f==62||f==141||f==102||f==172||f==93||f==64||f==90||f==89||f==38||f==60||f==101||f==105||f==106)) (ann:=aL) (ab bY ak) aA (dn bm) (Jm L n k m hL hs) (by kernel_rfl)
theorem D7 (L:List Sx.Obj) (n:Int) (k:Key) (m:aZ) (hL:an L) (hs:az m.data):
 true=true/\true=true/\true=true/\(aZ.mk 0 eB void void void,L)=aD L n (kk 10 k) (mm 1 m):=by
 simp+decide [aD,cF,dg,cr,dR,gC,gd,gJ,fB,du,cI,eW,fG,eY,gq,dv,void,ey,eB,aP,eT,dS,er,kk,mm,hL,hs];try grind
theorem DV (L:List Sx.Obj) (n:Int) (k:Key) (m:aZ) (hL:an L) (hs:az m.data):ai Tryz.prog 24 [.lp 0 0] [.ro (.blk lX (fU (.ci .i64 1) m n (.ci .i64 10) k)),.store tS eS L] (kO (aD L n ((kk 10 k)) ((mm 1 m)))) (fun _ _=>False):=
 aK (inl:=(fun f=>f==37||f==58||f==68||f==62||f==141||f==102||f==172||f==93||f==64||f==90||f==89||f==38||f==60||f==101||f==105||f==107)) (ann:=aL) (ab bY ak) aA (dn bm) (D7 L n k m hL hs) (by kernel_rfl)
end Go.Proofs.YtghpaegglbbocaaGreat
