import Derived.Test.YtlblcfaclmpekaaGreatCtQe
import Derived.Test.YtlblcfaclmpekaaGreatCtRa
import Derived.Test.YtlblcfaclmpekaaGreatCtRo
import Derived.Test.YtlblcfaclmpekaaGreatCV
set_option linter.unusedSimpArgs false
set_option linter.unusedVariables false
namespace Go.Proofs.YtlblcfaclmpekaaGreat
open Go.Sx
set_option maxRecDepth 100000
theorem JJ (L:List Sx.Obj) (n:Int) (k:Key) (m:bh) (hL:aq L) (hs:aw m.data):
 true=true/\true=true/\true=true/\true=true/\true=true/\(bh.mk 0 eB void void (Key.mk 1 void.oid void.count void.call void.rights k.value),L)=aD L n (kk 1 k) (mm 1 m):=by
 simp+decide [aD,dq,dG,cZ,dU,hS,gM,hJ,fS,dI,cT,fw,fU,fq,ia,c8,void,dS,eB,aX,fe,eU,eZ,kk,mm,hL,hs];try grind
theorem Jj (L:List Sx.Obj) (n:Int) (k:Key) (m:bh) (hL:aq L) (hs:aw m.data):aj Tryz.prog 102 [.lp 0 0] [.ro (.blk nb (gp (.ci .i64 1) m n (.ci .i64 1) k)),.store tS eS L] (kO (aD L n ((kk 1 k)) ((mm 1 m)))) (fun _ _=>False):=
 aK (inl:=(fun f=>f==131||f==142||f==152||f==146||f==202||f==185||f==227||f==177||f==148||f==174||f==173||f==132||f==144||f==184||f==188||f==143)) (ann:=aO) (ab ck an) az (dF bq) (JJ L n k m hL hs) (by kernel_rfl)
theorem HD (L:List Sx.Obj) (n:Int) (k:Key) (m:bh) (hL:aq L) (hs:aw m.data):
 true=true/\true=true/\true=true/\true=true/\true=true/\true=true/\((!decide (m.k2.kind=1))=true->(bh.mk 240 eB void void void,L)=aD L n (kk 2 k) (mm 1 m))/\((!decide
  (m.k2.kind=1))=false->((decide (m.k2.value<0)||decide (2147483647<m.k2.value))=true->true=true/\true=true/\true=true/\((!decide (cG L (kk 2 k) (-1)=0))=true->(bh.mk
  (cG L (kk 2 k) (-1)) eB void void void,L)=aD L n (kk 2 k) (mm 1 m))/\((!decide (cG L (kk 2 k) (-1)=0))=false->(bh.mk 0 eB (aH L (kk 2 k) (-1)) void void,L)=aD L n (kk 2
  k) (mm 1 m)))/\((decide (m.k2.value<0)||decide (2147483647<m.k2.value))=false->true=true/\true=true/\true=true/\((!decide (cG L (kk 2 k) m.k2.value=0))=true->(bh.mk
  (cG L (kk 2 k) m.k2.value) eB void void void,L)=aD L n (kk 2 k) (mm 1 m))/\((!decide (cG L (kk 2 k) m.k2.value=0))=false->(bh.mk 0 eB (aH L (kk 2 k) m.k2.value) void void,L)
  =aD L n (kk 2 k) (mm 1 m)))):=by
 simp+decide [aD,dq,dG,cZ,dU,hS,gM,hJ,fS,dI,cT,fw,fU,fq,ia,c8,void,dS,eB,aX,fe,eU,eZ,kk,mm,hL,hs];try grind
theorem La (L:List Sx.Obj) (n:Int) (k:Key) (m:bh) (hL:aq L) (hs:aw m.data):aj Tryz.prog 102 [.lp 0 0] [.ro (.blk nb (gp (.ci .i64 1) m n (.ci .i64 2) k)),.store tS eS L] (kO (aD L n ((kk 2 k)) ((mm 1 m)))) (fun _ _=>False):=
 aK (inl:=(fun f=>f==131||f==142||f==152||f==146||f==202||f==185||f==227||f==177||f==148||f==174||f==173||f==132||f==144||f==184||f==188||f==145)) (ann:=aO) (ab qx (ab ck an)) az (dF bq) (HD L n k m hL hs) (by kernel_rfl)
theorem KQ (L:List Sx.Obj) (n:Int) (k:Key) (m:bh) (hL:aq L) (hs:aw m.data):
 true=true/\true=true/\true=true/\true=true/\true=true/\true=true/\((!decide (m.k2.kind=1))=true->(bh.mk 240 eB void void void,L)=aD L n (kk 2 k) (mm 2 m))/\((!decide
  (m.k2.kind=1))=false->((decide (m.k2.value<0)||decide (2147483647<m.k2.value))=true->true=true/\aq L/\true=true/\true=true/\true=true/\((!decide (bx L (kk 2 k) (-1)
  m.k0=0))=true->(bh.mk (bx L (kk 2 k) (-1) m.k0) eB void void void,dg L (kk 2 k) (-1) m.k0)=aD L n (kk 2 k) (mm 2 m))/\((!decide (bx L (kk 2 k) (-1) m.k0=0))=false->
  (bh.mk 0 eB (eC L (kk 2 k) (-1) m.k0) void void,dg L (kk 2 k) (-1) m.k0)=aD L n (kk 2 k) (mm 2 m)))/\((decide (m.k2.value<0)||decide (2147483647<m.k2.value))=false->true=
  true/\aq L/\true=true/\true=true/\true=true/\((!decide (bx L (kk 2 k) m.k2.value m.k0=0))=true->(bh.mk (bx L (kk 2 k) m.k2.value m.k0) eB void void void,dg L (kk 2
  k) m.k2.value m.k0)=aD L n (kk 2 k) (mm 2 m))/\((!decide (bx L (kk 2 k) m.k2.value m.k0=0))=false->(bh.mk 0 eB (eC L (kk 2 k) m.k2.value m.k0) void void,dg L (kk 2 k)
  m.k2.value m.k0)=aD L n (kk 2 k) (mm 2 m)))):=by
 simp+decide [aD,dq,dG,cZ,dU,hS,gM,hJ,fS,dI,cT,fw,fU,fq,ia,c8,void,dS,eB,aX,fe,eU,eZ,kk,mm,hL,hs];try grind
theorem Je (L:List Sx.Obj) (n:Int) (k:Key) (m:bh) (hL:aq L) (hs:aw m.data):aj Tryz.prog 102 [.lp 0 0] [.ro (.blk nb (gp (.ci .i64 2) m n (.ci .i64 2) k)),.store tS eS L] (kO (aD L n ((kk 2 k)) ((mm 2 m)))) (fun _ _=>False):=
 aK (inl:=(fun f=>f==131||f==142||f==152||f==146||f==202||f==185||f==227||f==177||f==148||f==174||f==173||f==132||f==144||f==184||f==188||f==149)) (ann:=aO) (ab ck an) (aC FE az) (dF bq) (KQ L n k m hL hs) (by kernel_rfl)
theorem IJ (L:List Sx.Obj) (n:Int) (k:Key) (m:bh) (hL:aq L) (hs:aw m.data):
 true=true/\true=true/\true=true/\true=true/\aq L/\true=true/\true=true/\((!decide (aQ L (kk 2 k) 2 true=0))=true->(bh.mk (aQ L (kk 2 k) 2 true) eB void void void,
  fF L (kk 2 k))=aD L n (kk 2 k) (mm 3 m))/\((!decide (aQ L (kk 2 k) 2 true=0))=false->(bh.mk 0 eB void void void,fF L (kk 2 k))=aD L n (kk 2 k) (mm 3 m)):=by
 simp+decide [aD,dq,dG,cZ,dU,hS,gM,hJ,fS,dI,cT,fw,fU,fq,ia,c8,void,dS,eB,aX,fe,eU,eZ,kk,mm,hL,hs];try grind
theorem J7 (L:List Sx.Obj) (n:Int) (k:Key) (m:bh) (hL:aq L) (hs:aw m.data):aj Tryz.prog 102 [.lp 0 0] [.ro (.blk nb (gp (.ci .i64 3) m n (.ci .i64 2) k)),.store tS eS L] (kO (aD L n ((kk 2 k)) ((mm 3 m)))) (fun _ _=>False):=
 aK (inl:=(fun f=>f==131||f==142||f==152||f==146||f==202||f==185||f==227||f==177||f==148||f==174||f==173||f==132||f==144||f==184||f==188||f==151)) (ann:=aO) (ab ck an) (aC Ng az) (dF bq) (IJ L n k m hL hs) (by kernel_rfl)
theorem L9 (L:List Sx.Obj) (n:Int) (k:Key) (m:bh) (hL:aq L) (hs:aw m.data):
 true=true/\true=true/\true=true/\true=true/\aq L/\true=true/\true=true/\((!decide (cq L (kk 2 k) m.k0=0))=true->(bh.mk (cq L (kk 2 k) m.k0) eB void void void,
  eY L (kk 2 k) m.k0)=aD L n (kk 2 k) (mm 4 m))/\((!decide (cq L (kk 2 k) m.k0=0))=false->(bh.mk 0 eB void void void,eY L (kk 2 k) m.k0)=aD L n (kk 2 k) (mm 4 m)):=by
 simp+decide [aD,dq,dG,cZ,dU,hS,gM,hJ,fS,dI,cT,fw,fU,fq,ia,c8,void,dS,eB,aX,fe,eU,eZ,kk,mm,hL,hs];try grind
theorem HM (L:List Sx.Obj) (n:Int) (k:Key) (m:bh) (hL:aq L) (hs:aw m.data):aj Tryz.prog 102 [.lp 0 0] [.ro (.blk nb (gp (.ci .i64 4) m n (.ci .i64 2) k)),.store tS eS L] (kO (aD L n ((kk 2 k)) ((mm 4 m)))) (fun _ _=>False):=
 aK (inl:=(fun f=>f==131||f==142||f==152||f==146||f==202||f==185||f==227||f==177||f==148||f==174||f==173||f==132||f==144||f==184||f==188||f==154)) (ann:=aO) (ab ck an) (aC MN az) (dF bq) (L9 L n k m hL hs) (by kernel_rfl)
theorem IA (L:List Sx.Obj) (n:Int) (k:Key) (m:bh) (hL:aq L) (hs:aw m.data) (hk:aN (kk 2 k)=true):
 true=true/\true=true/\true=true/\true=true/\true=true/\((!decide (m.k2.kind=1))=true->(bh.mk 240 eB void void void,L)=aD L n (kk 2 k) (mm 5 m))/\((!decide (m.k2.kind=1))=
  false->true=true/\((!(decide (0<=m.k2.value)&&decide (m.k2.value<=7)))=true->(bh.mk 2 eB void void void,L)=aD L n (kk 2 k) (mm 5 m))/\((!(decide (0<=m.k2.value)&&decide
  (m.k2.value<=7)))=false->vH (kk 2 k) m.k2.value/\true=true/\true=true/\true=true/\(bh.mk 0 eB (oE (kk 2 k) m.k2.value) void void,L)=aD L n (kk 2 k) (mm 5 m))):=by
 have hX:aD L n (kk 2 k) (mm 5 m)=if m.k2.kind=1 then(if 0<=m.k2.value/\m.k2.value<=7 then(fw (oE (kk 2 k) m.k2.value),L)else(fq 2,L))else(fq 240,L):=by
  by_cases h1:m.k2.kind=1
  ·by_cases h2:0<=m.k2.value/\m.k2.value<=7
   ·simp+decide [aD,dq,dG,cZ,dU,hS,gM,hJ,fS,dI,cT,fw,fU,fq,ia,c8,void,dS,eB,aX,fe,eU,eZ,kk,mm,h1,h2]
   ·simp+decide [aD,dq,dG,cZ,dU,hS,gM,hJ,fS,dI,cT,fw,fU,fq,ia,c8,void,dS,eB,aX,fe,eU,eZ,kk,mm,h1,h2]
  ·simp+decide [aD,dq,dG,cZ,dU,hS,gM,hJ,fS,dI,cT,fw,fU,fq,ia,c8,void,dS,eB,aX,fe,eU,eZ,kk,mm,h1]
 rw[hX];refine⟨rfl,rfl,rfl,rfl,rfl,fun h=>?_,fun h=>⟨rfl,fun h'=>?_,fun h'=>⟨⟨hk,?_⟩,rfl,rfl,rfl,?_⟩⟩⟩
 ·have h:¬m.k2.kind=1:=by simpa using h
  rw[Xu h];rfl
 ·have h:m.k2.kind=1:=by simpa using h
  have h':¬(0<=m.k2.value/\m.k2.value<=7):=fun hh=>by simp[hh.1,hh.2]at h'
  rw[Xv h,Xu h'];rfl
 ·simpa using h'
 ·have h:m.k2.kind=1:=by simpa using h
  have h':0<=m.k2.value/\m.k2.value<=7:=by simpa using h'
  rw[Xv h,Xv h'];rfl
theorem IM (L:List Sx.Obj) (n:Int) (k:Key) (m:bh) (hL:aq L) (hs:aw m.data) (hk:aN (kk 2 k)=true):aj Tryz.prog 102 [.lp 0 0] [.ro (.blk nb (gp (.ci .i64 5) m n (.ci .i64 2) k)),.store tS eS L] (kO (aD L n ((kk 2 k)) ((mm 5 m)))) (fun _ _=>False):=
 aK (inl:=(fun f=>f==131||f==142||f==152||f==146||f==202||f==185||f==227||f==177||f==148||f==174||f==173||f==132||f==144||f==184||f==188||f==156)) (ann:=aO) (ab AZ (ab ck an)) az (dF bq) (IA L n k m hL hs hk) (by kernel_rfl)
theorem LB (L:List Sx.Obj) (n:Int) (k:Key) (m:bh) (hL:aq L) (hs:aw m.data):
 true=true/\true=true/\true=true/\true=true/\((!decide (k.rights=0))=true->(bh.mk 191 eB void void void,L)=aD L n (kk 2 k) (mm 6 m))/\((!decide (k.rights=0))=false->true=
  true/\true=true/\true=true/\(bh.mk 0 eB (Key.mk 5 k.oid k.count void.call void.rights void.value) void void,L)=aD L n (kk 2 k) (mm 6 m)):=by
 simp+decide [aD,dq,dG,cZ,dU,hS,gM,hJ,fS,dI,cT,fw,fU,fq,ia,c8,void,dS,eB,aX,fe,eU,eZ,kk,mm,hL,hs];try grind
theorem JD (L:List Sx.Obj) (n:Int) (k:Key) (m:bh) (hL:aq L) (hs:aw m.data):aj Tryz.prog 102 [.lp 0 0] [.ro (.blk nb (gp (.ci .i64 6) m n (.ci .i64 2) k)),.store tS eS L] (kO (aD L n ((kk 2 k)) ((mm 6 m)))) (fun _ _=>False):=
 aK (inl:=(fun f=>f==131||f==142||f==152||f==146||f==202||f==185||f==227||f==177||f==148||f==174||f==173||f==132||f==144||f==184||f==188||f==157)) (ann:=aO) (ab ck an) az (dF bq) (LB L n k m hL hs) (by kernel_rfl)
theorem JZ (L:List Sx.Obj) (n:Int) (k:Key) (m:bh) (hL:aq L) (hs:aw m.data):
 true=true/\true=true/\true=true/\true=true/\true=true/\true=true/\((!decide (m.k2.kind=1))=true->(bh.mk 240 eB void void void,L)=aD L n (kk 3 k) (mm 1 m))/\((!decide
  (m.k2.kind=1))=false->((decide (m.k2.value<0)||decide (2147483647<m.k2.value))=true->true=true/\true=true/\true=true/\((!decide (bY L (kk 3 k) (-1) (imax 0 (qJ 32
  (Int.ofNat (64+Nat.succ 0))))=0))=true->(bh.mk (bY L (kk 3 k) (-1) (imax 0 (qJ 32 (Int.ofNat (64+Nat.succ 0))))) eB void void void,L)=aD L n (kk 3 k) (mm 1 m))/\((!decide
  (bY L (kk 3 k) (-1) (imax 0 (qJ 32 (Int.ofNat (64+Nat.succ 0))))=0))=false->(bh.mk 0 (dW L (kk 3 k) (-1) (imax 0 (qJ 32 (Int.ofNat (64+Nat.succ 0))))) void void void,L)=
  aD L n (kk 3 k) (mm 1 m)))/\((decide (m.k2.value<0)||decide (2147483647<m.k2.value))=false->aL IntKind.i64 (64-m.k2.value)/\true=true/\true=true/\true=true/\((!decide
  (bY L (kk 3 k) m.k2.value (imax 0 (qJ 32 (64-m.k2.value)))=0))=true->(bh.mk (bY L (kk 3 k) m.k2.value (imax 0 (qJ 32 (64-m.k2.value)))) eB void void void,L)=aD L n (kk 3
  k) (mm 1 m))/\((!decide (bY L (kk 3 k) m.k2.value (imax 0 (qJ 32 (64-m.k2.value)))=0))=false->(bh.mk 0 (dW L (kk 3 k) m.k2.value (imax 0 (qJ 32 (64-m.k2.value)))) void void
  void,L)=aD L n (kk 3 k) (mm 1 m)))):=by
 have hX:aD L n (kk 3 k) (mm 1 m)=if m.k2.kind=1 then(if bY L (kk 3 k) (aX m) (u0 (aX m))=0 then(ia (dW L (kk 3 k) (aX m) (u0 (aX m))),L)else(fq (bY L (kk 3 k) (aX m) (u0 (aX m))),L))else(fq 240,L):=by
  by_cases h1:m.k2.kind=1
  ·by_cases h2:bY L (kk 3 k) (aX m) (u0 (aX m))=0
   ·simp+decide [aD,dq,dG,cZ,dU,gM,cT,show(kk 3 k).kind=3 from rfl,show(mm 1 m).code=1 from rfl,show(mm 1 m).k2=m.k2 from rfl,show aX (mm 1 m)=aX m from rfl,h1,h2]
   ·simp+decide [aD,dq,dG,cZ,dU,gM,cT,show(kk 3 k).kind=3 from rfl,show(mm 1 m).code=1 from rfl,show(mm 1 m).k2=m.k2 from rfl,show aX (mm 1 m)=aX m from rfl,h1,h2]
  ·simp+decide [aD,dq,dG,cZ,cT,dI,show(kk 3 k).kind=3 from rfl,show(mm 1 m).code=1 from rfl,show(mm 1 m).k2=m.k2 from rfl,h1,dS,fq]
 rw[hX];have e1:∀s,bh.mk 0 s void void void=ia s:=fun _=>rfl
 have e2:∀c,bh.mk c eB void void void=fq c:=fun _=>rfl
 simp only[e1,e2];by_cases h1:m.k2.kind=1
 ·by_cases h2:0<=m.k2.value/\m.k2.value<=2147483647
  ·have hN:aX m=m.k2.value:=by unfold aX;rw[Xv h2]
   have hR:u0 m.k2.value=imax 0 (qJ 32 (64-m.k2.value)):=rfl;have hr:aL .i64 (64-m.k2.value):=by simp only[aL,cg];omega
   rw[hN,hR];simp[h1,h2,hr];grind
  ·have hN:aX m= -1:=by unfold aX;rw[Xu h2]
   have hR:u0 (-1)=imax 0 (qJ 32 65):=rfl;rw[hN,hR];simp[h1];grind
 ·simp[h1]
theorem KC (L:List Sx.Obj) (n:Int) (k:Key) (m:bh) (hL:aq L) (hs:aw m.data):aj Tryz.prog 102 [.lp 0 0] [.ro (.blk nb (gp (.ci .i64 1) m n (.ci .i64 3) k)),.store tS eS L] (kO (aD L n ((kk 3 k)) ((mm 1 m)))) (fun _ _=>False):=
 aK (inl:=(fun f=>f==131||f==142||f==152||f==146||f==202||f==185||f==227||f==177||f==148||f==174||f==173||f==132||f==144||f==184||f==188||f==158)) (ann:=aO) (ab nE (ab ck an)) az (dF bq) (JZ L n k m hL hs) (by kernel_rfl)
theorem Me (L:List Sx.Obj) (n:Int) (k:Key) (m:bh) (hL:aq L) (hs:aw m.data):
 true=true/\true=true/\true=true/\true=true/\true=true/\true=true/\((!decide (m.k2.kind=1))=true->(bh.mk 240 eB void void void,L)=aD L n (kk 3 k) (mm 2 m))/\((!decide
  (m.k2.kind=1))=false->((decide (m.k2.value<0)||decide (2147483647<m.k2.value))=true->true=true/\(aq L/\aw m.data)/\true=true/\true=true/\((!decide (cX L (kk 3 k)
  (-1) m.data=0))=true->(bh.mk (cX L (kk 3 k) (-1) m.data) eB void void void,eR L (kk 3 k) (-1) m.data)=aD L n (kk 3 k) (mm 2 m))/\((!decide (cX L (kk 3 k) (-1) m.data=0))=
  false->(bh.mk 0 eB void void void,eR L (kk 3 k) (-1) m.data)=aD L n (kk 3 k) (mm 2 m)))/\((decide (m.k2.value<0)||decide (2147483647<m.k2.value))=false->true=true/\(aq L/\
  aw m.data)/\true=true/\true=true/\((!decide (cX L (kk 3 k) m.k2.value m.data=0))=true->(bh.mk (cX L (kk 3 k) m.k2.value m.data) eB void void void,eR L (kk 3 k) m.k2.value
  m.data)=aD L n (kk 3 k) (mm 2 m))/\((!decide (cX L (kk 3 k) m.k2.value m.data=0))=false->(bh.mk 0 eB void void void,eR L (kk 3 k) m.k2.value m.data)=aD L n (kk 3 k) (mm 2
  m)))):=by
 simp+decide [aD,dq,dG,cZ,dU,hS,gM,hJ,fS,dI,cT,fw,fU,fq,ia,c8,void,dS,eB,aX,fe,eU,eZ,kk,mm,hL,hs];try grind
theorem HB (L:List Sx.Obj) (n:Int) (k:Key) (m:bh) (hL:aq L) (hs:aw m.data):aj Tryz.prog 102 [.lp 0 0] [.ro (.blk nb (gp (.ci .i64 2) m n (.ci .i64 3) k)),.store tS eS L] (kO (aD L n ((kk 3 k)) ((mm 2 m)))) (fun _ _=>False):=
 aK (inl:=(fun f=>f==131||f==142||f==152||f==146||f==202||f==185||f==227||f==177||f==148||f==174||f==173||f==132||f==144||f==184||f==188||f==159)) (ann:=aO) (ab ck an) (aC zF az) (dF bq) (Me L n k m hL hs) (by kernel_rfl)
theorem JH (L:List Sx.Obj) (n:Int) (k:Key) (m:bh) (hL:aq L) (hs:aw m.data):
 true=true/\true=true/\true=true/\true=true/\aq L/\true=true/\true=true/\((!decide (br L (kk 3 k) true=0))=true->(bh.mk (br L (kk 3 k) true) eB void void void,
  fg L (kk 3 k))=aD L n (kk 3 k) (mm 3 m))/\((!decide (br L (kk 3 k) true=0))=false->(bh.mk 0 eB void void void,fg L (kk 3 k))=aD L n (kk 3 k) (mm 3 m)):=by
 simp+decide [aD,dq,dG,cZ,dU,hS,gM,hJ,fS,dI,cT,fw,fU,fq,ia,c8,void,dS,eB,aX,fe,eU,eZ,kk,mm,hL,hs];try grind
theorem Ix (L:List Sx.Obj) (n:Int) (k:Key) (m:bh) (hL:aq L) (hs:aw m.data):aj Tryz.prog 102 [.lp 0 0] [.ro (.blk nb (gp (.ci .i64 3) m n (.ci .i64 3) k)),.store tS eS L] (kO (aD L n ((kk 3 k)) ((mm 3 m)))) (fun _ _=>False):=
 aK (inl:=(fun f=>f==131||f==142||f==152||f==146||f==202||f==185||f==227||f==177||f==148||f==174||f==173||f==132||f==144||f==184||f==188||f==161)) (ann:=aO) (ab ck an) (aC PT az) (dF bq) (JH L n k m hL hs) (by kernel_rfl)
theorem LR (L:List Sx.Obj) (n:Int) (k:Key) (m:bh) (hL:aq L) (hs:aw m.data):
 true=true/\true=true/\true=true/\true=true/\aq L/\true=true/\true=true/\((!decide (cY L (kk 3 k) m.k0=0))=true->(bh.mk (cY L (kk 3 k) m.k0) eB void void void,fz
  L (kk 3 k) m.k0)=aD L n (kk 3 k) (mm 4 m))/\((!decide (cY L (kk 3 k) m.k0=0))=false->(bh.mk 0 eB void void void,fz L (kk 3 k) m.k0)=aD L n (kk 3 k) (mm 4 m)):=by
 simp+decide [aD,dq,dG,cZ,dU,hS,gM,hJ,fS,dI,cT,fw,fU,fq,ia,c8,void,dS,eB,aX,fe,eU,eZ,kk,mm,hL,hs];try grind
theorem J2 (L:List Sx.Obj) (n:Int) (k:Key) (m:bh) (hL:aq L) (hs:aw m.data):aj Tryz.prog 102 [.lp 0 0] [.ro (.blk nb (gp (.ci .i64 4) m n (.ci .i64 3) k)),.store tS eS L] (kO (aD L n ((kk 3 k)) ((mm 4 m)))) (fun _ _=>False):=
 aK (inl:=(fun f=>f==131||f==142||f==152||f==146||f==202||f==185||f==227||f==177||f==148||f==174||f==173||f==132||f==144||f==184||f==188||f==163)) (ann:=aO) (ab ck an) (aC Sg az) (dF bq) (LR L n k m hL hs) (by kernel_rfl)
theorem LA (L:List Sx.Obj) (n:Int) (k:Key) (m:bh) (hL:aq L) (hs:aw m.data) (hk:aN (kk 3 k)=true):
 true=true/\true=true/\true=true/\true=true/\true=true/\((!decide (m.k2.kind=1))=true->(bh.mk 240 eB void void void,L)=aD L n (kk 3 k) (mm 5 m))/\((!decide (m.k2.kind=1))=
  false->true=true/\((!(decide (0<=m.k2.value)&&decide (m.k2.value<=7)))=true->(bh.mk 2 eB void void void,L)=aD L n (kk 3 k) (mm 5 m))/\((!(decide (0<=m.k2.value)&&decide
  (m.k2.value<=7)))=false->vH (kk 3 k) m.k2.value/\true=true/\true=true/\true=true/\(bh.mk 0 eB (oE (kk 3 k) m.k2.value) void void,L)=aD L n (kk 3 k) (mm 5 m))):=by
 have hX:aD L n (kk 3 k) (mm 5 m)=if m.k2.kind=1 then(if 0<=m.k2.value/\m.k2.value<=7 then(fw (oE (kk 3 k) m.k2.value),L)else(fq 2,L))else(fq 240,L):=by
  by_cases h1:m.k2.kind=1
  ·by_cases h2:0<=m.k2.value/\m.k2.value<=7
   ·simp+decide [aD,dq,dG,cZ,dU,hS,gM,hJ,fS,dI,cT,fw,fU,fq,ia,c8,void,dS,eB,aX,fe,eU,eZ,kk,mm,h1,h2]
   ·simp+decide [aD,dq,dG,cZ,dU,hS,gM,hJ,fS,dI,cT,fw,fU,fq,ia,c8,void,dS,eB,aX,fe,eU,eZ,kk,mm,h1,h2]
  ·simp+decide [aD,dq,dG,cZ,dU,hS,gM,hJ,fS,dI,cT,fw,fU,fq,ia,c8,void,dS,eB,aX,fe,eU,eZ,kk,mm,h1]
 rw[hX];refine⟨rfl,rfl,rfl,rfl,rfl,fun h=>?_,fun h=>⟨rfl,fun h'=>?_,fun h'=>⟨⟨hk,?_⟩,rfl,rfl,rfl,?_⟩⟩⟩
 ·have h:¬m.k2.kind=1:=by simpa using h
  rw[Xu h];rfl
 ·have h:m.k2.kind=1:=by simpa using h
  have h':¬(0<=m.k2.value/\m.k2.value<=7):=fun hh=>by simp[hh.1,hh.2]at h'
  rw[Xv h,Xu h'];rfl
 ·simpa using h'
 ·have h:m.k2.kind=1:=by simpa using h
  have h':0<=m.k2.value/\m.k2.value<=7:=by simpa using h'
  rw[Xv h,Xv h'];rfl
theorem KU (L:List Sx.Obj) (n:Int) (k:Key) (m:bh) (hL:aq L) (hs:aw m.data) (hk:aN (kk 3 k)=true):aj Tryz.prog 102 [.lp 0 0] [.ro (.blk nb (gp (.ci .i64 5) m n (.ci .i64 3) k)),.store tS eS L] (kO (aD L n ((kk 3 k)) ((mm 5 m)))) (fun _ _=>False):=
 aK (inl:=(fun f=>f==131||f==142||f==152||f==146||f==202||f==185||f==227||f==177||f==148||f==174||f==173||f==132||f==144||f==184||f==188||f==156)) (ann:=aO) (ab AZ (ab ck an)) az (dF bq) (LA L n k m hL hs hk) (by kernel_rfl)
theorem L2 (L:List Sx.Obj) (n:Int) (k:Key) (m:bh) (hL:aq L) (hs:aw m.data):
 true=true/\true=true/\true=true/\true=true/\aq L/\true=true/\true=true/\true=true/\((!decide (dw L (kk 4 k) 1=0))=true->(bh.mk (dw L (kk 4 k) 1) eB void void
  void,fi L (kk 4 k) 1)=aD L n (kk 4 k) (mm 1 m))/\((!decide (dw L (kk 4 k) 1=0))=false->(bh.mk 0 eB (ez L (kk 4 k) 1) void void,fi L (kk 4 k) 1)=aD L n (kk 4 k) (mm 1
  m)):=by
 simp+decide [aD,dq,dG,cZ,dU,hS,gM,hJ,fS,dI,cT,fw,fU,fq,ia,c8,void,dS,eB,aX,fe,eU,eZ,kk,mm,hL,hs];try grind
theorem Jw (L:List Sx.Obj) (n:Int) (k:Key) (m:bh) (hL:aq L) (hs:aw m.data):aj Tryz.prog 102 [.lp 0 0] [.ro (.blk nb (gp (.ci .i64 1) m n (.ci .i64 4) k)),.store tS eS L] (kO (aD L n ((kk 4 k)) ((mm 1 m)))) (fun _ _=>False):=
 aK (inl:=(fun f=>f==131||f==142||f==152||f==146||f==202||f==185||f==227||f==177||f==148||f==174||f==173||f==132||f==144||f==184||f==188||f==210)) (ann:=aO) (ab ck an) (aC BF az) (dF bq) (L2 L n k m hL hs) (by kernel_rfl)
theorem JK (L:List Sx.Obj) (n:Int) (k:Key) (m:bh) (hL:aq L) (hs:aw m.data):
 true=true/\true=true/\true=true/\true=true/\aq L/\true=true/\true=true/\true=true/\((!decide (dw L (kk 4 k) 2=0))=true->(bh.mk (dw L (kk 4 k) 2) eB void void
  void,fi L (kk 4 k) 2)=aD L n (kk 4 k) (mm 2 m))/\((!decide (dw L (kk 4 k) 2=0))=false->(bh.mk 0 eB (ez L (kk 4 k) 2) void void,fi L (kk 4 k) 2)=aD L n (kk 4 k) (mm 2
  m)):=by
 simp+decide [aD,dq,dG,cZ,dU,hS,gM,hJ,fS,dI,cT,fw,fU,fq,ia,c8,void,dS,eB,aX,fe,eU,eZ,kk,mm,hL,hs];try grind
theorem Ky (L:List Sx.Obj) (n:Int) (k:Key) (m:bh) (hL:aq L) (hs:aw m.data):aj Tryz.prog 102 [.lp 0 0] [.ro (.blk nb (gp (.ci .i64 2) m n (.ci .i64 4) k)),.store tS eS L] (kO (aD L n ((kk 4 k)) ((mm 2 m)))) (fun _ _=>False):=
 aK (inl:=(fun f=>f==131||f==142||f==152||f==146||f==202||f==185||f==227||f==177||f==148||f==174||f==173||f==132||f==144||f==184||f==188||f==210)) (ann:=aO) (ab ck an) (aC BF az) (dF bq) (JK L n k m hL hs) (by kernel_rfl)
theorem Jv (L:List Sx.Obj) (n:Int) (k:Key) (m:bh) (hL:aq L) (hs:aw m.data):
 true=true/\true=true/\true=true/\true=true/\aq L/\true=true/\true=true/\((!decide (dE L (kk 4 k) m.k0=0))=true->(bh.mk (dE L (kk 4 k) m.k0) eB void void void,h9
  L (kk 4 k) m.k0)=aD L n (kk 4 k) (mm 3 m))/\((!decide (dE L (kk 4 k) m.k0=0))=false->(bh.mk 0 eB void void void,h9 L (kk 4 k) m.k0)=aD L n (kk 4 k) (mm 3 m)):=by
 simp+decide [aD,dq,dG,cZ,dU,hS,gM,hJ,fS,dI,cT,fw,fU,fq,ia,c8,void,dS,eB,aX,fe,eU,eZ,kk,mm,hL,hs];try grind
theorem IC (L:List Sx.Obj) (n:Int) (k:Key) (m:bh) (hL:aq L) (hs:aw m.data):aj Tryz.prog 102 [.lp 0 0] [.ro (.blk nb (gp (.ci .i64 3) m n (.ci .i64 4) k)),.store tS eS L] (kO (aD L n ((kk 4 k)) ((mm 3 m)))) (fun _ _=>False):=
 aK (inl:=(fun f=>f==131||f==142||f==152||f==146||f==202||f==185||f==227||f==177||f==148||f==174||f==173||f==132||f==144||f==184||f==188||f==166)) (ann:=aO) (ab ck an) (aC NY az) (dF bq) (Jv L n k m hL hs) (by kernel_rfl)
theorem HE (L:List Sx.Obj) (n:Int) (k:Key) (m:bh) (hL:aq L) (hs:aw m.data):
 true=true/\true=true/\true=true/\true=true/\true=true/\true=true/\((!decide (m.k2.kind=1))=true->(bh.mk 240 eB void void void,L)=aD L n (kk 4 k) (mm 4 m))/\((!decide
  (m.k2.kind=1))=false->((decide (m.k2.value<0)||decide (2147483647<m.k2.value))=true->true=true/\aq L/\true=true/\true=true/\true=true/\((!decide (b7 L (kk 4 k) (-1)=
  0))=true->(bh.mk (b7 L (kk 4 k) (-1)) eB void void void,bj L (kk 4 k) (-1))=aD L n (kk 4 k) (mm 4 m))/\((!decide (b7 L (kk 4 k) (-1)=0))=false->(bh.mk 0 eB (ca L (kk 4 k)
  (-1)) void void,bj L (kk 4 k) (-1))=aD L n (kk 4 k) (mm 4 m)))/\((decide (m.k2.value<0)||decide (2147483647<m.k2.value))=false->true=true/\aq L/\true=true/\true=true/\
  true=true/\((!decide (b7 L (kk 4 k) m.k2.value=0))=true->(bh.mk (b7 L (kk 4 k) m.k2.value) eB void void void,bj L (kk 4 k) m.k2.value)=aD L n (kk 4 k) (mm 4 m))/\((!decide
  (b7 L (kk 4 k) m.k2.value=0))=false->(bh.mk 0 eB (ca L (kk 4 k) m.k2.value) void void,bj L (kk 4 k) m.k2.value)=aD L n (kk 4 k) (mm 4 m)))):=by
 simp+decide [aD,dq,dG,cZ,dU,hS,gM,hJ,fS,dI,cT,fw,fU,fq,ia,c8,void,dS,eB,aX,fe,eU,eZ,kk,mm,hL,hs];try grind
theorem Iz (L:List Sx.Obj) (n:Int) (k:Key) (m:bh) (hL:aq L) (hs:aw m.data):aj Tryz.prog 102 [.lp 0 0] [.ro (.blk nb (gp (.ci .i64 4) m n (.ci .i64 4) k)),.store tS eS L] (kO (aD L n ((kk 4 k)) ((mm 4 m)))) (fun _ _=>False):=
 aK (inl:=(fun f=>f==131||f==142||f==152||f==146||f==202||f==185||f==227||f==177||f==148||f==174||f==173||f==132||f==144||f==184||f==188||f==168)) (ann:=aO) (ab ck an) (aC GK az) (dF bq) (HE L n k m hL hs) (by kernel_rfl)
theorem H3 (L:List Sx.Obj) (n:Int) (k:Key) (m:bh) (hL:aq L) (hs:aw m.data):
 true=true/\true=true/\true=true/\true=true/\((!decide (aV L (kk 4 k)=0))=true->(bh.mk (aV L (kk 4 k)) eB void void void,L)=aD L n (kk 4 k) (mm 5 m))/\((!decide (aV
  L (kk 4 k)=0))=false->true=true/\(mD L (kk 4 k) m.k0=true->true=true/\true=true/\(bh.mk 0 eB void void (Key.mk 1 void.oid void.count void.call void.rights 1),L)=aD L n (kk 4
  k) (mm 5 m))/\(mD L (kk 4 k) m.k0=false->true=true/\true=true/\(bh.mk 0 eB void void (Key.mk 1 void.oid void.count void.call void.rights 0),L)=aD L n (kk 4 k) (mm 5 m))):=by
 simp+decide [aD,dq,dG,cZ,dU,hS,gM,hJ,fS,dI,cT,fw,fU,fq,ia,c8,void,dS,eB,aX,fe,eU,eZ,kk,mm,hL,hs];try grind
theorem Jh (L:List Sx.Obj) (n:Int) (k:Key) (m:bh) (hL:aq L) (hs:aw m.data):aj Tryz.prog 102 [.lp 0 0] [.ro (.blk nb (gp (.ci .i64 5) m n (.ci .i64 4) k)),.store tS eS L] (kO (aD L n ((kk 4 k)) ((mm 5 m)))) (fun _ _=>False):=
 aK (inl:=(fun f=>f==131||f==142||f==152||f==146||f==202||f==185||f==227||f==177||f==148||f==174||f==173||f==132||f==144||f==184||f==188||f==170)) (ann:=aO) (ab Ie (ab ck an)) az (dF bq) (H3 L n k m hL hs) (by kernel_rfl)
theorem IL (L:List Sx.Obj) (n:Int) (k:Key) (m:bh) (hL:aq L) (hs:aw m.data):
 true=true/\true=true/\true=true/\true=true/\aq L/\true=true/\((!decide (aV L (kk 4 k)=0))=true->(bh.mk (aV L (kk 4 k)) eB void void void,jc L (kk 4 k))=aD L n
  (kk 4 k) (mm 6 m))/\((!decide (aV L (kk 4 k)=0))=false->true=true/\true=true/\(bh.mk 0 eB void void (Key.mk 1 void.oid void.count void.call void.rights (iJ L (kk 4 k))),jc L
  (kk 4 k))=aD L n (kk 4 k) (mm 6 m)):=by
 simp+decide [aD,dq,dG,cZ,dU,hS,gM,hJ,fS,dI,cT,fw,fU,fq,ia,c8,void,dS,eB,aX,fe,eU,eZ,kk,mm,hL,hs];try grind
theorem HW (L:List Sx.Obj) (n:Int) (k:Key) (m:bh) (hL:aq L) (hs:aw m.data):aj Tryz.prog 102 [.lp 0 0] [.ro (.blk nb (gp (.ci .i64 6) m n (.ci .i64 4) k)),.store tS eS L] (kO (aD L n ((kk 4 k)) ((mm 6 m)))) (fun _ _=>False):=
 aK (inl:=(fun f=>f==131||f==142||f==152||f==146||f==202||f==185||f==227||f==177||f==148||f==174||f==173||f==132||f==144||f==184||f==188||f==171)) (ann:=aO) (ab ck an) (aC HZ az) (dF bq) (IL L n k m hL hs) (by kernel_rfl)
theorem Ij (L:List Sx.Obj) (n:Int) (k:Key) (m:bh) (hL:aq L) (hs:aw m.data):
 true=true/\true=true/\true=true/\true=true/\true=true/\true=true/\true=true/\true=true/\((!decide (m.k2.kind=1))=true->(bh.mk 240 eB void void void,L)=aD L n (kk 5
  k) (mm 1 m))/\((!decide (m.k2.kind=1))=false->((decide (m.k2.value<0)||decide (2147483647<m.k2.value))=true->true=true/\(bh.mk 4 eB void void void,L)=aD L n (kk 5 k) (mm 1 m))
  /\((decide (m.k2.value<0)||decide (2147483647<m.k2.value))=false->true=true/\((!(decide (0<=m.k2.value)&&decide (m.k2.value<12)))=true->(bh.mk 4 eB void void void,L)=aD L n
  (kk 5 k) (mm 1 m))/\((!(decide (0<=m.k2.value)&&decide (m.k2.value<12)))=false->aL IntKind.i64 (m.k2.value+4)/\true=true/\true=true/\true=true/\((!decide (cG L (Key.mk 2
  k.oid k.count void.call void.rights void.value) (m.k2.value+4)=0))=true->(bh.mk (cG L (Key.mk 2 k.oid k.count void.call void.rights void.value) (m.k2.value+4)) eB void void void,L)=
  aD L n (kk 5 k) (mm 1 m))/\((!decide (cG L (Key.mk 2 k.oid k.count void.call void.rights void.value) (m.k2.value+4)=0))=false->(bh.mk 0 eB (aH L (Key.mk 2 k.oid k.count void.call
  void.rights void.value) (m.k2.value+4)) void void,L)=aD L n (kk 5 k) (mm 1 m))))):=by
 have hw:Key.mk 2 k.oid k.count void.call void.rights void.value=eZ k:=rfl;have e2:∀c,bh.mk c eB void void void=fq c:=fun _=>rfl
 simp only[hw,e2];have hX:=EL (L:=L) (n:=n) (k:=k) (m:=m) (c:=1) (by omega)
 rw[hX];clear hX;by_cases h1:m.k2.kind=1
 case neg=>simp[h1,show dI 5 1=true by decide,hL,hs]
 have hf:¬(dI 5 1=true/\m.k2.kind≠1):=fun h=>h.2 h1
 rw[Xu hf];have hC:fS L (kk 5 k) (mm 1 m)=(if aX m<0\/11<aX m then 4 else cG L (eZ k) (aX m+4),fw (aH L (eZ k) (aX m+4)),L):=rfl
 rw[hC];clear hC;have e3:∀a,bh.mk 0 eB a void void=fw a:=fun _=>rfl
 simp only[e3];by_cases h2:0<=m.k2.value/\m.k2.value<=2147483647
 ·have hN:aX m=m.k2.value:=by unfold aX;rw[Xv h2]
  have hr:aL .i64 (m.k2.value+4):=by simp only[aL,cg];omega
  rw[hN];by_cases h3:11<m.k2.value
  ·have h4:¬m.k2.value<12:=by omega
   simp[h1,h2,h3,h4,rR,hr]<;>omega
  ·have h4:m.k2.value<12:=by omega
   have h5:¬(m.k2.value<0\/11<m.k2.value):=by omega
   simp[h1,h2,h4,h5,rR,hr,hL];grind
 ·have hN:aX m= -1:=by unfold aX;rw[Xu h2]
  rw[hN];simp[h1,rR]<;>omega
theorem Ji (L:List Sx.Obj) (n:Int) (k:Key) (m:bh) (hL:aq L) (hs:aw m.data):aj Tryz.prog 102 [.lp 0 0] [.ro (.blk nb (gp (.ci .i64 1) m n (.ci .i64 5) k)),.store tS eS L] (kO (aD L n ((kk 5 k)) ((mm 1 m)))) (fun _ _=>False):=
 aK (inl:=(fun f=>f==131||f==142||f==152||f==146||f==202||f==185||f==227||f==177||f==148||f==174||f==173||f==132||f==144||f==184||f==188||f==172)) (ann:=aO) (ab qx (ab ck an)) az (dF bq) (Ij L n k m hL hs) (by kernel_rfl)
theorem Ia (L:List Sx.Obj) (n:Int) (k:Key) (m:bh) (hL:aq L) (hs:aw m.data):
 true=true/\true=true/\true=true/\true=true/\true=true/\true=true/\true=true/\true=true/\((!decide (m.k2.kind=1))=true->(bh.mk 240 eB void void void,L)=aD L n (kk 5
  k) (mm 2 m))/\((!decide (m.k2.kind=1))=false->((decide (m.k2.value<0)||decide (2147483647<m.k2.value))=true->true=true/\(bh.mk 4 eB void void void,L)=aD L n (kk 5 k) (mm 2 m))
  /\((decide (m.k2.value<0)||decide (2147483647<m.k2.value))=false->true=true/\((!(decide (0<=m.k2.value)&&decide (m.k2.value<12)))=true->(bh.mk 4 eB void void void,L)=aD L n
  (kk 5 k) (mm 2 m))/\((!(decide (0<=m.k2.value)&&decide (m.k2.value<12)))=false->aL IntKind.i64 (m.k2.value+4)/\true=true/\aq L/\true=true/\true=true/\true=true/\((!decide
  (bx L (Key.mk 2 k.oid k.count void.call void.rights void.value) (m.k2.value+4) m.k0=0))=true->(bh.mk (bx L (Key.mk 2 k.oid k.count void.call void.rights void.value) (m.k2.value+4)
  m.k0) eB void void void,dg L (Key.mk 2 k.oid k.count void.call void.rights void.value) (m.k2.value+4) m.k0)=aD L n (kk 5 k) (mm 2 m))/\((!decide (bx L (Key.mk 2 k.oid k.count
  void.call void.rights void.value) (m.k2.value+4) m.k0=0))=false->(bh.mk 0 eB (eC L (Key.mk 2 k.oid k.count void.call void.rights void.value) (m.k2.value+4) m.k0) void void,dg L
  (Key.mk 2 k.oid k.count void.call void.rights void.value) (m.k2.value+4) m.k0)=aD L n (kk 5 k) (mm 2 m))))):=by
 have hw:Key.mk 2 k.oid k.count void.call void.rights void.value=eZ k:=rfl;have e2:∀c,bh.mk c eB void void void=fq c:=fun _=>rfl
 simp only[hw,e2];have hX:=EL (L:=L) (n:=n) (k:=k) (m:=m) (c:=2) (by omega)
 rw[hX];clear hX;by_cases h1:m.k2.kind=1
 case neg=>simp[h1,show dI 5 2=true by decide,hL,hs]
 have hf:¬(dI 5 2=true/\m.k2.kind≠1):=fun h=>h.2 h1
 rw[Xu hf];have hC:fS L (kk 5 k) (mm 2 m)=(if aX m<0\/11<aX m then 4 else bx L (eZ k) (aX m+4) m.k0,fw (eC L (eZ k) (aX m+4) m.k0),if aX m<0\/11<aX m then L else dg L (eZ k) (aX m+4) m.k0):=rfl
 rw[hC];clear hC;have e3:∀a,bh.mk 0 eB a void void=fw a:=fun _=>rfl
 simp only[e3];by_cases h2:0<=m.k2.value/\m.k2.value<=2147483647
 ·have hN:aX m=m.k2.value:=by unfold aX;rw[Xv h2]
  have hr:aL .i64 (m.k2.value+4):=by simp only[aL,cg];omega
  rw[hN];by_cases h3:11<m.k2.value
  ·have h4:¬m.k2.value<12:=by omega
   simp[h1,h2,h3,h4,rR,hr]<;>omega
  ·have h4:m.k2.value<12:=by omega
   have h5:¬(m.k2.value<0\/11<m.k2.value):=by omega
   simp[h1,h2,h4,h5,rR,hr,hL];grind
 ·have hN:aX m= -1:=by unfold aX;rw[Xu h2]
  rw[hN];simp[h1,rR]<;>omega
theorem Kr (L:List Sx.Obj) (n:Int) (k:Key) (m:bh) (hL:aq L) (hs:aw m.data):aj Tryz.prog 102 [.lp 0 0] [.ro (.blk nb (gp (.ci .i64 2) m n (.ci .i64 5) k)),.store tS eS L] (kO (aD L n ((kk 5 k)) ((mm 2 m)))) (fun _ _=>False):=
 aK (inl:=(fun f=>f==131||f==142||f==152||f==146||f==202||f==185||f==227||f==177||f==148||f==174||f==173||f==132||f==144||f==184||f==188||f==175)) (ann:=aO) (ab ck an) (aC FE az) (dF bq) (Ia L n k m hL hs) (by kernel_rfl)
theorem J4 (L:List Sx.Obj) (n:Int) (k:Key) (m:bh) (hL:aq L) (hs:aw m.data):
 true=true/\true=true/\true=true/\true=true/\true=true/\((!decide (m.k2.kind=1))=true->(bh.mk 240 eB void void void,L)=aD L n (kk 5 k) (mm 3 m))/\((!decide (m.k2.kind=1))=
  false->true=true/\true=true/\true=true/\(bh.mk 0 eB (Key.mk 6 k.oid k.count void.call void.rights m.k2.value) void void,L)=aD L n (kk 5 k) (mm 3 m)):=by
 simp+decide [aD,dq,dG,cZ,dU,hS,gM,hJ,fS,dI,cT,fw,fU,fq,ia,c8,void,dS,eB,aX,fe,eU,eZ,kk,mm,hL,hs];try grind
theorem HH (L:List Sx.Obj) (n:Int) (k:Key) (m:bh) (hL:aq L) (hs:aw m.data):aj Tryz.prog 102 [.lp 0 0] [.ro (.blk nb (gp (.ci .i64 3) m n (.ci .i64 5) k)),.store tS eS L] (kO (aD L n ((kk 5 k)) ((mm 3 m)))) (fun _ _=>False):=
 aK (inl:=(fun f=>f==131||f==142||f==152||f==146||f==202||f==185||f==227||f==177||f==148||f==174||f==173||f==132||f==144||f==184||f==188||f==176)) (ann:=aO) (ab ck an) az (dF bq) (J4 L n k m hL hs) (by kernel_rfl)
theorem ID (L:List Sx.Obj) (n:Int) (k:Key) (m:bh) (hL:aq L) (hs:aw m.data):
 true=true/\true=true/\true=true/\((!di L k.oid)=true->true=true/\true=true/\(bh.mk 0 eB void void (Key.mk 1 void.oid void.count void.call void.rights (-1)),L)=aD L n (kk 5
  k) (mm 4 m))/\((!di L k.oid)=false->true=true/\true=true/\(bh.mk 0 eB void void (Key.mk 1 void.oid void.count void.call void.rights (gF L k.oid)),L)=aD L n (kk 5 k) (mm 4 m)):=by
 simp+decide [aD,dq,dG,cZ,dU,hS,gM,hJ,fS,dI,cT,fw,fU,fq,ia,c8,void,dS,eB,aX,fe,eU,eZ,kk,mm,hL,hs];unfold gF bV;grind
theorem Lp (L:List Sx.Obj) (n:Int) (k:Key) (m:bh) (hL:aq L) (hs:aw m.data):aj Tryz.prog 102 [.lp 0 0] [.ro (.blk nb (gp (.ci .i64 4) m n (.ci .i64 5) k)),.store tS eS L] (kO (aD L n ((kk 5 k)) ((mm 4 m)))) (fun _ _=>False):=
 aK (inl:=(fun f=>f==131||f==142||f==152||f==146||f==202||f==185||f==227||f==177||f==148||f==174||f==173||f==132||f==144||f==184||f==188||f==178)) (ann:=aO) (ab pD (ab ck an)) az (dF bq) (ID L n k m hL hs) (by kernel_rfl)
theorem It (L:List Sx.Obj) (n:Int) (k:Key) (m:bh) (hL:aq L) (hs:aw m.data):
 true=true/\true=true/\true=true/\true=true/\true=true/\true=true/\((!decide (m.k2.kind=1))=true->(bh.mk 240 eB void void void,L)=aD L n (kk 5 k) (mm 5 m))/\((!decide
  (m.k2.kind=1))=false->((decide (m.k2.value<0)||decide (2147483647<m.k2.value))=true->true=true/\aq L/\true=true/\true=true/\((!decide (ey L k.oid (-1)=0))=true->
  (bh.mk (ey L k.oid (-1)) eB void void void,gZ L k.oid (-1))=aD L n (kk 5 k) (mm 5 m))/\((!decide (ey L k.oid (-1)=0))=false->(bh.mk 0 eB void void void,gZ L k.oid (-1))=
  aD L n (kk 5 k) (mm 5 m)))/\((decide (m.k2.value<0)||decide (2147483647<m.k2.value))=false->true=true/\aq L/\true=true/\true=true/\((!decide (ey L k.oid m.k2.value=0))=
  true->(bh.mk (ey L k.oid m.k2.value) eB void void void,gZ L k.oid m.k2.value)=aD L n (kk 5 k) (mm 5 m))/\((!decide (ey L k.oid m.k2.value=0))=false->(bh.mk 0 eB void void void,
  gZ L k.oid m.k2.value)=aD L n (kk 5 k) (mm 5 m)))):=by
 simp+decide [aD,dq,dG,cZ,dU,hS,gM,hJ,fS,dI,cT,fw,fU,fq,ia,c8,void,dS,eB,aX,fe,eU,eZ,kk,mm,hL,hs];try grind
theorem Jg (L:List Sx.Obj) (n:Int) (k:Key) (m:bh) (hL:aq L) (hs:aw m.data):aj Tryz.prog 102 [.lp 0 0] [.ro (.blk nb (gp (.ci .i64 5) m n (.ci .i64 5) k)),.store tS eS L] (kO (aD L n ((kk 5 k)) ((mm 5 m)))) (fun _ _=>False):=
 aK (inl:=(fun f=>f==131||f==142||f==152||f==146||f==202||f==185||f==227||f==177||f==148||f==174||f==173||f==132||f==144||f==184||f==188||f==179)) (ann:=aO) (ab ck an) (aC Kt az) (dF bq) (It L n k m hL hs) (by kernel_rfl)
theorem Jr (L:List Sx.Obj) (n:Int) (k:Key) (m:bh) (hL:aq L) (hs:aw m.data):
 true=true/\true=true/\true=true/\true=true/\true=true/\true=true/\((!decide (m.k2.kind=1))=true->(bh.mk 240 eB void void void,L)=aD L n (kk 5 k) (mm 6 m))/\((!decide
  (m.k2.kind=1))=false->true=true/\true=true/\((!decide (cD L (aH L (Key.mk 2 k.oid k.count void.call void.rights void.value) 0) m.k2.value 32=0))=true->(bh.mk (cD L (aH L
  (Key.mk 2 k.oid k.count void.call void.rights void.value) 0) m.k2.value 32) eB void void void,L)=aD L n (kk 5 k) (mm 6 m))/\((!decide (cD L (aH L (Key.mk 2 k.oid k.count void.call
  void.rights void.value) 0) m.k2.value 32=0))=false->((!decide (cx L (aH L (Key.mk 2 k.oid k.count void.call void.rights void.value) 0) m.k2.value 32 false=0))=true->aL IntKind.i64
  (1000+cx L (aH L (Key.mk 2 k.oid k.count void.call void.rights void.value) 0) m.k2.value 32 false)/\(bh.mk (1000+cx L (aH L (Key.mk 2 k.oid k.count void.call void.rights void.value)
  0) m.k2.value 32 false) eB void void void,L)=aD L n (kk 5 k) (mm 6 m))/\((!decide (cx L (aH L (Key.mk 2 k.oid k.count void.call void.rights void.value) 0) m.k2.value 32 false=0))=false
  ->true=true/\true=true/\true=true/\(bh.mk 0 (mH L (aH L (Key.mk 2 k.oid k.count void.call void.rights void.value) 0) m.k2.value 32) void void void,L)=aD L n (kk 5 k) (mm 6 m)))):=by
 have hw:Key.mk 2 k.oid k.count void.call void.rights void.value=eZ k:=rfl;have e2:∀c,bh.mk c eB void void void=fq c:=fun _=>rfl
 simp only[hw,e2];have hX:=EL (L:=L) (n:=n) (k:=k) (m:=m) (c:=6) (by omega)
 rw[hX];clear hX;by_cases h1:m.k2.kind=1
 case neg=>simp[h1,show dI 5 6=true by decide,hL,hs]
 have hf:¬(dI 5 6=true/\m.k2.kind≠1):=fun h=>h.2 h1
 rw[Xu hf];have hC:fS L (kk 5 k) (mm 6 m)=(if cD L (eU L k) m.k2.value 32=0 then(if cx L (eU L k) m.k2.value 32 false=0 then 0 else 1000+cx L (eU L k) m.k2.value 32 false)else cD L (eU L k) m.k2.value 32,ia (mH L (eU L k) m.k2.value 32),L):=rfl
 rw[hC];clear hC;have e3:∀s,bh.mk 0 s void void void=ia s:=fun _=>rfl
 have e4:fq 0=dS:=rfl;have hi:=Qo (L:=L) (k:=aH L (eZ k) 0) (a:=m.k2.value) (n:=32) (w:=false);have hr:aL .i64 (1000+cx L (aH L (eZ k) 0) m.k2.value (32) false):=by simp only[aL,cg];omega
 simp only[e3,eU];simp[h1,hr,rR,hL,hs];grind
theorem HR (L:List Sx.Obj) (n:Int) (k:Key) (m:bh) (hL:aq L) (hs:aw m.data):aj Tryz.prog 102 [.lp 0 0] [.ro (.blk nb (gp (.ci .i64 6) m n (.ci .i64 5) k)),.store tS eS L] (kO (aD L n ((kk 5 k)) ((mm 6 m)))) (fun _ _=>False):=
 aK (inl:=(fun f=>f==131||f==142||f==152||f==146||f==202||f==185||f==227||f==177||f==148||f==174||f==173||f==132||f==144||f==184||f==188||f==180)) (ann:=aO) (ab qx (ab T0 (ab ck an))) az (dF bq) (Jr L n k m hL hs) (by kernel_rfl)
theorem Km (L:List Sx.Obj) (n:Int) (k:Key) (m:bh) (hL:aq L) (hs:aw m.data):
 true=true/\true=true/\true=true/\true=true/\true=true/\true=true/\((!decide (m.k2.kind=1))=true->(bh.mk 240 eB void void void,L)=aD L n (kk 5 k) (mm 7 m))/\((!decide
  (m.k2.kind=1))=false->true=true/\aw m.data/\(aq L/\aw m.data)/\true=true/\true=true/\((!decide (cD L (aH L (Key.mk 2 k.oid k.count void.call void.rights void.value)
  0) m.k2.value (cE m.data)=0))=true->(bh.mk (cD L (aH L (Key.mk 2 k.oid k.count void.call void.rights void.value) 0) m.k2.value (cE m.data)) eB void void void,mi L (aH L (Key.mk 2
  k.oid k.count void.call void.rights void.value) 0) m.k2.value m.data)=aD L n (kk 5 k) (mm 7 m))/\((!decide (cD L (aH L (Key.mk 2 k.oid k.count void.call void.rights void.value) 0)
  m.k2.value (cE m.data)=0))=false->((!decide (cx L (aH L (Key.mk 2 k.oid k.count void.call void.rights void.value) 0) m.k2.value (cE m.data) true=0))=true->aL IntKind.i64 (1000+
  cx L (aH L (Key.mk 2 k.oid k.count void.call void.rights void.value) 0) m.k2.value (cE m.data) true)/\(bh.mk (1000+cx L (aH L (Key.mk 2 k.oid k.count void.call void.rights void.value)
  0) m.k2.value (cE m.data) true) eB void void void,mi L (aH L (Key.mk 2 k.oid k.count void.call void.rights void.value) 0) m.k2.value m.data)=aD L n (kk 5 k) (mm 7 m))/\((!decide (cx L
  (aH L (Key.mk 2 k.oid k.count void.call void.rights void.value) 0) m.k2.value (cE m.data) true=0))=false->true=true/\true=true/\(bh.mk 0 eB void void void,mi L (aH L (Key.mk 2
  k.oid k.count void.call void.rights void.value) 0) m.k2.value m.data)=aD L n (kk 5 k) (mm 7 m)))):=by
 have hw:Key.mk 2 k.oid k.count void.call void.rights void.value=eZ k:=rfl;have e2:∀c,bh.mk c eB void void void=fq c:=fun _=>rfl
 simp only[hw,e2];have hX:=EL (L:=L) (n:=n) (k:=k) (m:=m) (c:=7) (by omega)
 rw[hX];clear hX;by_cases h1:m.k2.kind=1
 case neg=>simp[h1,show dI 5 7=true by decide,hL,hs]
 have hf:¬(dI 5 7=true/\m.k2.kind≠1):=fun h=>h.2 h1
 rw[Xu hf];have hC:fS L (kk 5 k) (mm 7 m)=(if cD L (eU L k) m.k2.value (cE m.data)=0 then(if cx L (eU L k) m.k2.value (cE m.data) true=0 then 0 else 1000+cx L (eU L k) m.k2.value (cE m.data) true)else cD L (eU L k) m.k2.value (cE m.data),dS,mi L (eU L k) m.k2.value m.data):=rfl
 rw[hC];clear hC;have e3:∀s,bh.mk 0 s void void void=ia s:=fun _=>rfl
 have e4:fq 0=dS:=rfl;have hi:=Qo (L:=L) (k:=aH L (eZ k) 0) (a:=m.k2.value) (n:=cE m.data) (w:=true);have hr:aL .i64 (1000+cx L (aH L (eZ k) 0) m.k2.value (cE m.data) true):=by simp only[aL,cg];omega
 simp only[e3,eU];simp[h1,hr,rR,hL,hs];grind
theorem JU (L:List Sx.Obj) (n:Int) (k:Key) (m:bh) (hL:aq L) (hs:aw m.data):aj Tryz.prog 102 [.lp 0 0] [.ro (.blk nb (gp (.ci .i64 7) m n (.ci .i64 5) k)),.store tS eS L] (kO (aD L n ((kk 5 k)) ((mm 7 m)))) (fun _ _=>False):=
 aK (inl:=(fun f=>f==131||f==142||f==152||f==146||f==202||f==185||f==227||f==177||f==148||f==174||f==173||f==132||f==144||f==184||f==188||f==181)) (ann:=aO) (ab qx (ab ck an)) (aC SY az) (dF bq) (Km L n k m hL hs) (by kernel_rfl)
theorem HG (L:List Sx.Obj) (n:Int) (k:Key) (m:bh) (hL:aq L) (hs:aw m.data):
 true=true/\true=true/\true=true/\true=true/\true=true/\(bh.mk 0 eB void void (Key.mk 1 void.oid void.count void.call void.rights m.k0.kind),L)=aD L n (kk 8 k) (mm 1 m):=by
 simp+decide [aD,dq,dG,cZ,dU,hS,gM,hJ,fS,dI,cT,fw,fU,fq,ia,c8,void,dS,eB,aX,fe,eU,eZ,kk,mm,hL,hs];try grind
theorem IB (L:List Sx.Obj) (n:Int) (k:Key) (m:bh) (hL:aq L) (hs:aw m.data):aj Tryz.prog 102 [.lp 0 0] [.ro (.blk nb (gp (.ci .i64 1) m n (.ci .i64 8) k)),.store tS eS L] (kO (aD L n ((kk 8 k)) ((mm 1 m)))) (fun _ _=>False):=
 aK (inl:=(fun f=>f==131||f==142||f==152||f==146||f==202||f==185||f==227||f==177||f==148||f==174||f==173||f==132||f==144||f==184||f==188||f==182)) (ann:=aO) (ab ck an) az (dF bq) (HG L n k m hL hs) (by kernel_rfl)
theorem HQ (L:List Sx.Obj) (n:Int) (k:Key) (m:bh) (hL:aq L) (hs:aw m.data):
 true=true/\true=true/\true=true/\true=true/\(od m.k0 m.k1=true->true=true/\true=true/\(bh.mk 0 eB void void (Key.mk 1 void.oid void.count void.call void.rights 1),L)=aD
  L n (kk 8 k) (mm 2 m))/\(od m.k0 m.k1=false->true=true/\true=true/\(bh.mk 0 eB void void (Key.mk 1 void.oid void.count void.call void.rights 0),L)=aD L n (kk 8 k) (mm 2 m)):=by
 simp+decide [aD,dq,dG,cZ,dU,hS,gM,hJ,fS,dI,cT,fw,fU,fq,ia,c8,void,dS,eB,aX,fe,eU,eZ,kk,mm,hL,hs];try grind
theorem KT (L:List Sx.Obj) (n:Int) (k:Key) (m:bh) (hL:aq L) (hs:aw m.data):aj Tryz.prog 102 [.lp 0 0] [.ro (.blk nb (gp (.ci .i64 2) m n (.ci .i64 8) k)),.store tS eS L] (kO (aD L n ((kk 8 k)) ((mm 2 m)))) (fun _ _=>False):=
 aK (inl:=(fun f=>f==131||f==142||f==152||f==146||f==202||f==185||f==227||f==177||f==148||f==174||f==173||f==132||f==144||f==184||f==188||f==183)) (ann:=aO) (ab PN (ab ck an)) az (dF bq) (HQ L n k m hL hs) (by kernel_rfl)
theorem H4 (L:List Sx.Obj) (n:Int) (k:Key) (m:bh) (hL:aq L) (hs:aw m.data):
 true=true/\true=true/\true=true/\true=true/\true=true/\(bh.mk 0 eB void void (Key.mk 1 void.oid void.count void.call void.rights m.k0.rights),L)=aD L n (kk 8 k) (mm 3 m):=by
 simp+decide [aD,dq,dG,cZ,dU,hS,gM,hJ,fS,dI,cT,fw,fU,fq,ia,c8,void,dS,eB,aX,fe,eU,eZ,kk,mm,hL,hs];try grind
theorem HK (L:List Sx.Obj) (n:Int) (k:Key) (m:bh) (hL:aq L) (hs:aw m.data):aj Tryz.prog 102 [.lp 0 0] [.ro (.blk nb (gp (.ci .i64 3) m n (.ci .i64 8) k)),.store tS eS L] (kO (aD L n ((kk 8 k)) ((mm 3 m)))) (fun _ _=>False):=
 aK (inl:=(fun f=>f==131||f==142||f==152||f==146||f==202||f==185||f==227||f==177||f==148||f==174||f==173||f==132||f==144||f==184||f==188||f==187)) (ann:=aO) (ab ck an) az (dF bq) (H4 L n k m hL hs) (by kernel_rfl)
theorem IH (L:List Sx.Obj) (n:Int) (k:Key) (m:bh) (hL:aq L) (hs:aw m.data):
 true=true/\true=true/\true=true/\true=true/\true=true/\(bh.mk 0 eB void void (Key.mk 1 void.oid void.count void.call void.rights n),L)=aD L n (kk 9 k) (mm 1 m):=by
 simp+decide [aD,dq,dG,cZ,dU,hS,gM,hJ,fS,dI,cT,fw,fU,fq,ia,c8,void,dS,eB,aX,fe,eU,eZ,kk,mm,hL,hs];try grind
theorem Mh (L:List Sx.Obj) (n:Int) (k:Key) (m:bh) (hL:aq L) (hs:aw m.data):aj Tryz.prog 102 [.lp 0 0] [.ro (.blk nb (gp (.ci .i64 1) m n (.ci .i64 9) k)),.store tS eS L] (kO (aD L n ((kk 9 k)) ((mm 1 m)))) (fun _ _=>False):=
 aK (inl:=(fun f=>f==131||f==142||f==152||f==146||f==202||f==185||f==227||f==177||f==148||f==174||f==173||f==132||f==144||f==184||f==188||f==189)) (ann:=aO) (ab ck an) az (dF bq) (IH L n k m hL hs) (by kernel_rfl)
theorem Gm (L:List Sx.Obj) (n:Int) (k:Key) (m:bh) (hL:aq L) (hs:aw m.data):
 true=true/\true=true/\true=true/\(bh.mk 0 eB void void void,L)=aD L n (kk 10 k) (mm 1 m):=by
 simp+decide [aD,dq,dG,cZ,dU,hS,gM,hJ,fS,dI,cT,fw,fU,fq,ia,c8,void,dS,eB,aX,fe,eU,eZ,kk,mm,hL,hs];try grind
theorem GA (L:List Sx.Obj) (n:Int) (k:Key) (m:bh) (hL:aq L) (hs:aw m.data):aj Tryz.prog 102 [.lp 0 0] [.ro (.blk nb (gp (.ci .i64 1) m n (.ci .i64 10) k)),.store tS eS L] (kO (aD L n ((kk 10 k)) ((mm 1 m)))) (fun _ _=>False):=
 aK (inl:=(fun f=>f==131||f==142||f==152||f==146||f==202||f==185||f==227||f==177||f==148||f==174||f==173||f==132||f==144||f==184||f==188||f==190)) (ann:=aO) (ab ck an) az (dF bq) (Gm L n k m hL hs) (by kernel_rfl)
end Go.Proofs.YtlblcfaclmpekaaGreat
