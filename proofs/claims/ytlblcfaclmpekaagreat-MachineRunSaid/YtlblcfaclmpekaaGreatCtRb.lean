import Derived.Test.YtlblcfaclmpekaaGreatCtQe
import Derived.Test.YtlblcfaclmpekaaGreatCtRa
import Derived.Test.YtlblcfaclmpekaaGreatCtRo
import Derived.Test.YtlblcfaclmpekaaGreatCV
set_option linter.unusedSimpArgs false
set_option linter.unusedVariables false
namespace Go.Proofs.YtlblcfaclmpekaaGreat
open Go.Sx
set_option maxRecDepth 100000
theorem J6 (L:List Sx.Obj) (n:Int) (k:Key) (m:bh) (hL:ar L) (hs:aw m.data):
 true=true/\true=true/\true=true/\true=true/\true=true/\(bh.mk 0 eB void void (Key.mk 1 void.oid void.count void.call void.rights k.value),L)=aG L n (kk 1 k) (mm 1 m):=by
 simp+decide [aG,dg,dF,dt,ef,iC,gW,iI,ga,dG,cV,fy,fT,fo,gV,c8,void,ee,eB,aZ,fc,eP,fe,kk,mm,hL,hs];try grind
theorem J3 (L:List Sx.Obj) (n:Int) (k:Key) (m:bh) (hL:ar L) (hs:aw m.data):aj Tryz.prog 102 [.lp 0 0] [.ro (.blk m9 (gj (.ci .i64 1) m n (.ci .i64 1) k)),.store tS eS L] (kO (aG L n ((kk 1 k)) ((mm 1 m)))) (fun _ _=>False):=
 aL (inl:=(fun f=>f==131||f==142||f==152||f==146||f==202||f==185||f==227||f==177||f==148||f==174||f==173||f==132||f==144||f==184||f==188||f==143)) (ann:=aR) (ab cc au) aA (dD bx) (J6 L n k m hL hs) (by kernel_rfl)
theorem KK (L:List Sx.Obj) (n:Int) (k:Key) (m:bh) (hL:ar L) (hs:aw m.data):
 true=true/\true=true/\true=true/\true=true/\true=true/\true=true/\((!decide (m.k2.kind=1))=true->(bh.mk 240 eB void void void,L)=aG L n (kk 2 k) (mm 1 m))/\((!decide
  (m.k2.kind=1))=false->((decide (m.k2.value<0)||decide (2147483647<m.k2.value))=true->true=true/\true=true/\true=true/\((!decide (cG L (kk 2 k) (-1)=0))=true->(bh.mk
  (cG L (kk 2 k) (-1)) eB void void void,L)=aG L n (kk 2 k) (mm 1 m))/\((!decide (cG L (kk 2 k) (-1)=0))=false->(bh.mk 0 eB (aJ L (kk 2 k) (-1)) void void,L)=aG L n (kk 2
  k) (mm 1 m)))/\((decide (m.k2.value<0)||decide (2147483647<m.k2.value))=false->true=true/\true=true/\true=true/\((!decide (cG L (kk 2 k) m.k2.value=0))=true->(bh.mk
  (cG L (kk 2 k) m.k2.value) eB void void void,L)=aG L n (kk 2 k) (mm 1 m))/\((!decide (cG L (kk 2 k) m.k2.value=0))=false->(bh.mk 0 eB (aJ L (kk 2 k) m.k2.value) void void,L)
  =aG L n (kk 2 k) (mm 1 m)))):=by
 simp+decide [aG,dg,dF,dt,ef,iC,gW,iI,ga,dG,cV,fy,fT,fo,gV,c8,void,ee,eB,aZ,fc,eP,fe,kk,mm,hL,hs];try grind
theorem HL (L:List Sx.Obj) (n:Int) (k:Key) (m:bh) (hL:ar L) (hs:aw m.data):aj Tryz.prog 102 [.lp 0 0] [.ro (.blk m9 (gj (.ci .i64 1) m n (.ci .i64 2) k)),.store tS eS L] (kO (aG L n ((kk 2 k)) ((mm 1 m)))) (fun _ _=>False):=
 aL (inl:=(fun f=>f==131||f==142||f==152||f==146||f==202||f==185||f==227||f==177||f==148||f==174||f==173||f==132||f==144||f==184||f==188||f==145)) (ann:=aR) (ab qt (ab cc au)) aA (dD bx) (KK L n k m hL hs) (by kernel_rfl)
theorem KW (L:List Sx.Obj) (n:Int) (k:Key) (m:bh) (hL:ar L) (hs:aw m.data):
 true=true/\true=true/\true=true/\true=true/\true=true/\true=true/\((!decide (m.k2.kind=1))=true->(bh.mk 240 eB void void void,L)=aG L n (kk 2 k) (mm 2 m))/\((!decide
  (m.k2.kind=1))=false->((decide (m.k2.value<0)||decide (2147483647<m.k2.value))=true->true=true/\ar L/\true=true/\true=true/\true=true/\((!decide (bB L (kk 2 k) (-1)
  m.k0=0))=true->(bh.mk (bB L (kk 2 k) (-1) m.k0) eB void void void,dN L (kk 2 k) (-1) m.k0)=aG L n (kk 2 k) (mm 2 m))/\((!decide (bB L (kk 2 k) (-1) m.k0=0))=false->
  (bh.mk 0 eB (ew L (kk 2 k) (-1) m.k0) void void,dN L (kk 2 k) (-1) m.k0)=aG L n (kk 2 k) (mm 2 m)))/\((decide (m.k2.value<0)||decide (2147483647<m.k2.value))=false->true=
  true/\ar L/\true=true/\true=true/\true=true/\((!decide (bB L (kk 2 k) m.k2.value m.k0=0))=true->(bh.mk (bB L (kk 2 k) m.k2.value m.k0) eB void void void,dN L (kk 2
  k) m.k2.value m.k0)=aG L n (kk 2 k) (mm 2 m))/\((!decide (bB L (kk 2 k) m.k2.value m.k0=0))=false->(bh.mk 0 eB (ew L (kk 2 k) m.k2.value m.k0) void void,dN L (kk 2 k)
  m.k2.value m.k0)=aG L n (kk 2 k) (mm 2 m)))):=by
 simp+decide [aG,dg,dF,dt,ef,iC,gW,iI,ga,dG,cV,fy,fT,fo,gV,c8,void,ee,eB,aZ,fc,eP,fe,kk,mm,hL,hs];try grind
theorem Iu (L:List Sx.Obj) (n:Int) (k:Key) (m:bh) (hL:ar L) (hs:aw m.data):aj Tryz.prog 102 [.lp 0 0] [.ro (.blk m9 (gj (.ci .i64 2) m n (.ci .i64 2) k)),.store tS eS L] (kO (aG L n ((kk 2 k)) ((mm 2 m)))) (fun _ _=>False):=
 aL (inl:=(fun f=>f==131||f==142||f==152||f==146||f==202||f==185||f==227||f==177||f==148||f==174||f==173||f==132||f==144||f==184||f==188||f==149)) (ann:=aR) (ab cc au) (aE Eh aA) (dD bx) (KW L n k m hL hs) (by kernel_rfl)
theorem I3 (L:List Sx.Obj) (n:Int) (k:Key) (m:bh) (hL:ar L) (hs:aw m.data):
 true=true/\true=true/\true=true/\true=true/\ar L/\true=true/\true=true/\((!decide (aO L (kk 2 k) 2 true=0))=true->(bh.mk (aO L (kk 2 k) 2 true) eB void void void,
  gd L (kk 2 k))=aG L n (kk 2 k) (mm 3 m))/\((!decide (aO L (kk 2 k) 2 true=0))=false->(bh.mk 0 eB void void void,gd L (kk 2 k))=aG L n (kk 2 k) (mm 3 m)):=by
 simp+decide [aG,dg,dF,dt,ef,iC,gW,iI,ga,dG,cV,fy,fT,fo,gV,c8,void,ee,eB,aZ,fc,eP,fe,kk,mm,hL,hs];try grind
theorem Kk (L:List Sx.Obj) (n:Int) (k:Key) (m:bh) (hL:ar L) (hs:aw m.data):aj Tryz.prog 102 [.lp 0 0] [.ro (.blk m9 (gj (.ci .i64 3) m n (.ci .i64 2) k)),.store tS eS L] (kO (aG L n ((kk 2 k)) ((mm 3 m)))) (fun _ _=>False):=
 aL (inl:=(fun f=>f==131||f==142||f==152||f==146||f==202||f==185||f==227||f==177||f==148||f==174||f==173||f==132||f==144||f==184||f==188||f==151)) (ann:=aR) (ab cc au) (aE LP aA) (dD bx) (I3 L n k m hL hs) (by kernel_rfl)
theorem KY (L:List Sx.Obj) (n:Int) (k:Key) (m:bh) (hL:ar L) (hs:aw m.data):
 true=true/\true=true/\true=true/\true=true/\ar L/\true=true/\true=true/\((!decide (cg L (kk 2 k) m.k0=0))=true->(bh.mk (cg L (kk 2 k) m.k0) eB void void void,
  fA L (kk 2 k) m.k0)=aG L n (kk 2 k) (mm 4 m))/\((!decide (cg L (kk 2 k) m.k0=0))=false->(bh.mk 0 eB void void void,fA L (kk 2 k) m.k0)=aG L n (kk 2 k) (mm 4 m)):=by
 simp+decide [aG,dg,dF,dt,ef,iC,gW,iI,ga,dG,cV,fy,fT,fo,gV,c8,void,ee,eB,aZ,fc,eP,fe,kk,mm,hL,hs];try grind
theorem JI (L:List Sx.Obj) (n:Int) (k:Key) (m:bh) (hL:ar L) (hs:aw m.data):aj Tryz.prog 102 [.lp 0 0] [.ro (.blk m9 (gj (.ci .i64 4) m n (.ci .i64 2) k)),.store tS eS L] (kO (aG L n ((kk 2 k)) ((mm 4 m)))) (fun _ _=>False):=
 aL (inl:=(fun f=>f==131||f==142||f==152||f==146||f==202||f==185||f==227||f==177||f==148||f==174||f==173||f==132||f==144||f==184||f==188||f==154)) (ann:=aR) (ab cc au) (aE LH aA) (dD bx) (KY L n k m hL hs) (by kernel_rfl)
theorem JF (L:List Sx.Obj) (n:Int) (k:Key) (m:bh) (hL:ar L) (hs:aw m.data) (hk:aS (kk 2 k)=true):
 true=true/\true=true/\true=true/\true=true/\true=true/\((!decide (m.k2.kind=1))=true->(bh.mk 240 eB void void void,L)=aG L n (kk 2 k) (mm 5 m))/\((!decide (m.k2.kind=1))=
  false->true=true/\((!(decide (0<=m.k2.value)&&decide (m.k2.value<=7)))=true->(bh.mk 2 eB void void void,L)=aG L n (kk 2 k) (mm 5 m))/\((!(decide (0<=m.k2.value)&&decide
  (m.k2.value<=7)))=false->vq (kk 2 k) m.k2.value/\true=true/\true=true/\true=true/\(bh.mk 0 eB (ou (kk 2 k) m.k2.value) void void,L)=aG L n (kk 2 k) (mm 5 m))):=by
 have hX:aG L n (kk 2 k) (mm 5 m)=if m.k2.kind=1 then(if 0<=m.k2.value/\m.k2.value<=7 then(fy (ou (kk 2 k) m.k2.value),L)else(fo 2,L))else(fo 240,L):=by
  by_cases h1:m.k2.kind=1
  ·by_cases h2:0<=m.k2.value/\m.k2.value<=7
   ·simp+decide [aG,dg,dF,dt,ef,iC,gW,iI,ga,dG,cV,fy,fT,fo,gV,c8,void,ee,eB,aZ,fc,eP,fe,kk,mm,h1,h2]
   ·simp+decide [aG,dg,dF,dt,ef,iC,gW,iI,ga,dG,cV,fy,fT,fo,gV,c8,void,ee,eB,aZ,fc,eP,fe,kk,mm,h1,h2]
  ·simp+decide [aG,dg,dF,dt,ef,iC,gW,iI,ga,dG,cV,fy,fT,fo,gV,c8,void,ee,eB,aZ,fc,eP,fe,kk,mm,h1]
 rw[hX];refine⟨rfl,rfl,rfl,rfl,rfl,fun h=>?_,fun h=>⟨rfl,fun h'=>?_,fun h'=>⟨⟨hk,?_⟩,rfl,rfl,rfl,?_⟩⟩⟩
 ·have h:¬m.k2.kind=1:=by simpa using h
  rw[VM h];rfl
 ·have h:m.k2.kind=1:=by simpa using h
  have h':¬(0<=m.k2.value/\m.k2.value<=7):=fun hh=>by simp[hh.1,hh.2]at h'
  rw[VN h,VM h'];rfl
 ·simpa using h'
 ·have h:m.k2.kind=1:=by simpa using h
  have h':0<=m.k2.value/\m.k2.value<=7:=by simpa using h'
  rw[VN h,VN h'];rfl
theorem JQ (L:List Sx.Obj) (n:Int) (k:Key) (m:bh) (hL:ar L) (hs:aw m.data) (hk:aS (kk 2 k)=true):aj Tryz.prog 102 [.lp 0 0] [.ro (.blk m9 (gj (.ci .i64 5) m n (.ci .i64 2) k)),.store tS eS L] (kO (aG L n ((kk 2 k)) ((mm 5 m)))) (fun _ _=>False):=
 aL (inl:=(fun f=>f==131||f==142||f==152||f==146||f==202||f==185||f==227||f==177||f==148||f==174||f==173||f==132||f==144||f==184||f==188||f==156)) (ann:=aR) (ab AQ (ab cc au)) aA (dD bx) (JF L n k m hL hs hk) (by kernel_rfl)
theorem Ij (L:List Sx.Obj) (n:Int) (k:Key) (m:bh) (hL:ar L) (hs:aw m.data):
 true=true/\true=true/\true=true/\true=true/\((!decide (k.rights=0))=true->(bh.mk 191 eB void void void,L)=aG L n (kk 2 k) (mm 6 m))/\((!decide (k.rights=0))=false->true=
  true/\true=true/\true=true/\(bh.mk 0 eB (Key.mk 5 k.oid k.count void.call void.rights void.value) void void,L)=aG L n (kk 2 k) (mm 6 m)):=by
 simp+decide [aG,dg,dF,dt,ef,iC,gW,iI,ga,dG,cV,fy,fT,fo,gV,c8,void,ee,eB,aZ,fc,eP,fe,kk,mm,hL,hs];try grind
theorem GU (L:List Sx.Obj) (n:Int) (k:Key) (m:bh) (hL:ar L) (hs:aw m.data):aj Tryz.prog 102 [.lp 0 0] [.ro (.blk m9 (gj (.ci .i64 6) m n (.ci .i64 2) k)),.store tS eS L] (kO (aG L n ((kk 2 k)) ((mm 6 m)))) (fun _ _=>False):=
 aL (inl:=(fun f=>f==131||f==142||f==152||f==146||f==202||f==185||f==227||f==177||f==148||f==174||f==173||f==132||f==144||f==184||f==188||f==157)) (ann:=aR) (ab cc au) aA (dD bx) (Ij L n k m hL hs) (by kernel_rfl)
theorem Ic (L:List Sx.Obj) (n:Int) (k:Key) (m:bh) (hL:ar L) (hs:aw m.data):
 true=true/\true=true/\true=true/\true=true/\true=true/\true=true/\((!decide (m.k2.kind=1))=true->(bh.mk 240 eB void void void,L)=aG L n (kk 3 k) (mm 1 m))/\((!decide
  (m.k2.kind=1))=false->((decide (m.k2.value<0)||decide (2147483647<m.k2.value))=true->true=true/\true=true/\true=true/\((!decide (bZ L (kk 3 k) (-1) (imax 0 (qw 32
  (Int.ofNat (64+Nat.succ 0))))=0))=true->(bh.mk (bZ L (kk 3 k) (-1) (imax 0 (qw 32 (Int.ofNat (64+Nat.succ 0))))) eB void void void,L)=aG L n (kk 3 k) (mm 1 m))/\((!decide
  (bZ L (kk 3 k) (-1) (imax 0 (qw 32 (Int.ofNat (64+Nat.succ 0))))=0))=false->(bh.mk 0 (dV L (kk 3 k) (-1) (imax 0 (qw 32 (Int.ofNat (64+Nat.succ 0))))) void void void,L)=
  aG L n (kk 3 k) (mm 1 m)))/\((decide (m.k2.value<0)||decide (2147483647<m.k2.value))=false->aM IntKind.i64 (64-m.k2.value)/\true=true/\true=true/\true=true/\((!decide
  (bZ L (kk 3 k) m.k2.value (imax 0 (qw 32 (64-m.k2.value)))=0))=true->(bh.mk (bZ L (kk 3 k) m.k2.value (imax 0 (qw 32 (64-m.k2.value)))) eB void void void,L)=aG L n (kk 3
  k) (mm 1 m))/\((!decide (bZ L (kk 3 k) m.k2.value (imax 0 (qw 32 (64-m.k2.value)))=0))=false->(bh.mk 0 (dV L (kk 3 k) m.k2.value (imax 0 (qw 32 (64-m.k2.value)))) void void
  void,L)=aG L n (kk 3 k) (mm 1 m)))):=by
 have hX:aG L n (kk 3 k) (mm 1 m)=if m.k2.kind=1 then(if bZ L (kk 3 k) (aZ m) (uo (aZ m))=0 then(gV (dV L (kk 3 k) (aZ m) (uo (aZ m))),L)else(fo (bZ L (kk 3 k) (aZ m) (uo (aZ m))),L))else(fo 240,L):=by
  by_cases h1:m.k2.kind=1
  ·by_cases h2:bZ L (kk 3 k) (aZ m) (uo (aZ m))=0
   ·simp+decide [aG,dg,dF,dt,ef,gW,cV,show(kk 3 k).kind=3 from rfl,show(mm 1 m).code=1 from rfl,show(mm 1 m).k2=m.k2 from rfl,show aZ (mm 1 m)=aZ m from rfl,h1,h2]
   ·simp+decide [aG,dg,dF,dt,ef,gW,cV,show(kk 3 k).kind=3 from rfl,show(mm 1 m).code=1 from rfl,show(mm 1 m).k2=m.k2 from rfl,show aZ (mm 1 m)=aZ m from rfl,h1,h2]
  ·simp+decide [aG,dg,dF,dt,cV,dG,show(kk 3 k).kind=3 from rfl,show(mm 1 m).code=1 from rfl,show(mm 1 m).k2=m.k2 from rfl,h1,ee,fo]
 rw[hX];have e1:∀s,bh.mk 0 s void void void=gV s:=fun _=>rfl
 have e2:∀c,bh.mk c eB void void void=fo c:=fun _=>rfl
 simp only[e1,e2];by_cases h1:m.k2.kind=1
 ·by_cases h2:0<=m.k2.value/\m.k2.value<=2147483647
  ·have hN:aZ m=m.k2.value:=by unfold aZ;rw[VN h2]
   have hR:uo m.k2.value=imax 0 (qw 32 (64-m.k2.value)):=rfl;have hr:aM .i64 (64-m.k2.value):=by simp only[aM,cj];omega
   rw[hN,hR];simp[h1,h2,hr];grind
  ·have hN:aZ m= -1:=by unfold aZ;rw[VM h2]
   have hR:uo (-1)=imax 0 (qw 32 65):=rfl;rw[hN,hR];simp[h1];grind
 ·simp[h1]
theorem IU (L:List Sx.Obj) (n:Int) (k:Key) (m:bh) (hL:ar L) (hs:aw m.data):aj Tryz.prog 102 [.lp 0 0] [.ro (.blk m9 (gj (.ci .i64 1) m n (.ci .i64 3) k)),.store tS eS L] (kO (aG L n ((kk 3 k)) ((mm 1 m)))) (fun _ _=>False):=
 aL (inl:=(fun f=>f==131||f==142||f==152||f==146||f==202||f==185||f==227||f==177||f==148||f==174||f==173||f==132||f==144||f==184||f==188||f==158)) (ann:=aR) (ab nF (ab cc au)) aA (dD bx) (Ic L n k m hL hs) (by kernel_rfl)
theorem Kb (L:List Sx.Obj) (n:Int) (k:Key) (m:bh) (hL:ar L) (hs:aw m.data):
 true=true/\true=true/\true=true/\true=true/\true=true/\true=true/\((!decide (m.k2.kind=1))=true->(bh.mk 240 eB void void void,L)=aG L n (kk 3 k) (mm 2 m))/\((!decide
  (m.k2.kind=1))=false->((decide (m.k2.value<0)||decide (2147483647<m.k2.value))=true->true=true/\(ar L/\aw m.data)/\true=true/\true=true/\((!decide (cY L (kk 3 k)
  (-1) m.data=0))=true->(bh.mk (cY L (kk 3 k) (-1) m.data) eB void void void,ff L (kk 3 k) (-1) m.data)=aG L n (kk 3 k) (mm 2 m))/\((!decide (cY L (kk 3 k) (-1) m.data=0))=
  false->(bh.mk 0 eB void void void,ff L (kk 3 k) (-1) m.data)=aG L n (kk 3 k) (mm 2 m)))/\((decide (m.k2.value<0)||decide (2147483647<m.k2.value))=false->true=true/\(ar L/\
  aw m.data)/\true=true/\true=true/\((!decide (cY L (kk 3 k) m.k2.value m.data=0))=true->(bh.mk (cY L (kk 3 k) m.k2.value m.data) eB void void void,ff L (kk 3 k) m.k2.value
  m.data)=aG L n (kk 3 k) (mm 2 m))/\((!decide (cY L (kk 3 k) m.k2.value m.data=0))=false->(bh.mk 0 eB void void void,ff L (kk 3 k) m.k2.value m.data)=aG L n (kk 3 k) (mm 2
  m)))):=by
 simp+decide [aG,dg,dF,dt,ef,iC,gW,iI,ga,dG,cV,fy,fT,fo,gV,c8,void,ee,eB,aZ,fc,eP,fe,kk,mm,hL,hs];try grind
theorem KG (L:List Sx.Obj) (n:Int) (k:Key) (m:bh) (hL:ar L) (hs:aw m.data):aj Tryz.prog 102 [.lp 0 0] [.ro (.blk m9 (gj (.ci .i64 2) m n (.ci .i64 3) k)),.store tS eS L] (kO (aG L n ((kk 3 k)) ((mm 2 m)))) (fun _ _=>False):=
 aL (inl:=(fun f=>f==131||f==142||f==152||f==146||f==202||f==185||f==227||f==177||f==148||f==174||f==173||f==132||f==144||f==184||f==188||f==159)) (ann:=aR) (ab cc au) (aE zd aA) (dD bx) (Kb L n k m hL hs) (by kernel_rfl)
theorem Jg (L:List Sx.Obj) (n:Int) (k:Key) (m:bh) (hL:ar L) (hs:aw m.data):
 true=true/\true=true/\true=true/\true=true/\ar L/\true=true/\true=true/\((!decide (bz L (kk 3 k) true=0))=true->(bh.mk (bz L (kk 3 k) true) eB void void void,
  fP L (kk 3 k))=aG L n (kk 3 k) (mm 3 m))/\((!decide (bz L (kk 3 k) true=0))=false->(bh.mk 0 eB void void void,fP L (kk 3 k))=aG L n (kk 3 k) (mm 3 m)):=by
 simp+decide [aG,dg,dF,dt,ef,iC,gW,iI,ga,dG,cV,fy,fT,fo,gV,c8,void,ee,eB,aZ,fc,eP,fe,kk,mm,hL,hs];try grind
theorem Is (L:List Sx.Obj) (n:Int) (k:Key) (m:bh) (hL:ar L) (hs:aw m.data):aj Tryz.prog 102 [.lp 0 0] [.ro (.blk m9 (gj (.ci .i64 3) m n (.ci .i64 3) k)),.store tS eS L] (kO (aG L n ((kk 3 k)) ((mm 3 m)))) (fun _ _=>False):=
 aL (inl:=(fun f=>f==131||f==142||f==152||f==146||f==202||f==185||f==227||f==177||f==148||f==174||f==173||f==132||f==144||f==184||f==188||f==161)) (ann:=aR) (ab cc au) (aE Mm aA) (dD bx) (Jg L n k m hL hs) (by kernel_rfl)
theorem Ke (L:List Sx.Obj) (n:Int) (k:Key) (m:bh) (hL:ar L) (hs:aw m.data):
 true=true/\true=true/\true=true/\true=true/\ar L/\true=true/\true=true/\((!decide (cW L (kk 3 k) m.k0=0))=true->(bh.mk (cW L (kk 3 k) m.k0) eB void void void,fW
  L (kk 3 k) m.k0)=aG L n (kk 3 k) (mm 4 m))/\((!decide (cW L (kk 3 k) m.k0=0))=false->(bh.mk 0 eB void void void,fW L (kk 3 k) m.k0)=aG L n (kk 3 k) (mm 4 m)):=by
 simp+decide [aG,dg,dF,dt,ef,iC,gW,iI,ga,dG,cV,fy,fT,fo,gV,c8,void,ee,eB,aZ,fc,eP,fe,kk,mm,hL,hs];try grind
theorem Jv (L:List Sx.Obj) (n:Int) (k:Key) (m:bh) (hL:ar L) (hs:aw m.data):aj Tryz.prog 102 [.lp 0 0] [.ro (.blk m9 (gj (.ci .i64 4) m n (.ci .i64 3) k)),.store tS eS L] (kO (aG L n ((kk 3 k)) ((mm 4 m)))) (fun _ _=>False):=
 aL (inl:=(fun f=>f==131||f==142||f==152||f==146||f==202||f==185||f==227||f==177||f==148||f==174||f==173||f==132||f==144||f==184||f==188||f==163)) (ann:=aR) (ab cc au) (aE Rd aA) (dD bx) (Ke L n k m hL hs) (by kernel_rfl)
theorem Jo (L:List Sx.Obj) (n:Int) (k:Key) (m:bh) (hL:ar L) (hs:aw m.data) (hk:aS (kk 3 k)=true):
 true=true/\true=true/\true=true/\true=true/\true=true/\((!decide (m.k2.kind=1))=true->(bh.mk 240 eB void void void,L)=aG L n (kk 3 k) (mm 5 m))/\((!decide (m.k2.kind=1))=
  false->true=true/\((!(decide (0<=m.k2.value)&&decide (m.k2.value<=7)))=true->(bh.mk 2 eB void void void,L)=aG L n (kk 3 k) (mm 5 m))/\((!(decide (0<=m.k2.value)&&decide
  (m.k2.value<=7)))=false->vq (kk 3 k) m.k2.value/\true=true/\true=true/\true=true/\(bh.mk 0 eB (ou (kk 3 k) m.k2.value) void void,L)=aG L n (kk 3 k) (mm 5 m))):=by
 have hX:aG L n (kk 3 k) (mm 5 m)=if m.k2.kind=1 then(if 0<=m.k2.value/\m.k2.value<=7 then(fy (ou (kk 3 k) m.k2.value),L)else(fo 2,L))else(fo 240,L):=by
  by_cases h1:m.k2.kind=1
  ·by_cases h2:0<=m.k2.value/\m.k2.value<=7
   ·simp+decide [aG,dg,dF,dt,ef,iC,gW,iI,ga,dG,cV,fy,fT,fo,gV,c8,void,ee,eB,aZ,fc,eP,fe,kk,mm,h1,h2]
   ·simp+decide [aG,dg,dF,dt,ef,iC,gW,iI,ga,dG,cV,fy,fT,fo,gV,c8,void,ee,eB,aZ,fc,eP,fe,kk,mm,h1,h2]
  ·simp+decide [aG,dg,dF,dt,ef,iC,gW,iI,ga,dG,cV,fy,fT,fo,gV,c8,void,ee,eB,aZ,fc,eP,fe,kk,mm,h1]
 rw[hX];refine⟨rfl,rfl,rfl,rfl,rfl,fun h=>?_,fun h=>⟨rfl,fun h'=>?_,fun h'=>⟨⟨hk,?_⟩,rfl,rfl,rfl,?_⟩⟩⟩
 ·have h:¬m.k2.kind=1:=by simpa using h
  rw[VM h];rfl
 ·have h:m.k2.kind=1:=by simpa using h
  have h':¬(0<=m.k2.value/\m.k2.value<=7):=fun hh=>by simp[hh.1,hh.2]at h'
  rw[VN h,VM h'];rfl
 ·simpa using h'
 ·have h:m.k2.kind=1:=by simpa using h
  have h':0<=m.k2.value/\m.k2.value<=7:=by simpa using h'
  rw[VN h,VN h'];rfl
theorem G5 (L:List Sx.Obj) (n:Int) (k:Key) (m:bh) (hL:ar L) (hs:aw m.data) (hk:aS (kk 3 k)=true):aj Tryz.prog 102 [.lp 0 0] [.ro (.blk m9 (gj (.ci .i64 5) m n (.ci .i64 3) k)),.store tS eS L] (kO (aG L n ((kk 3 k)) ((mm 5 m)))) (fun _ _=>False):=
 aL (inl:=(fun f=>f==131||f==142||f==152||f==146||f==202||f==185||f==227||f==177||f==148||f==174||f==173||f==132||f==144||f==184||f==188||f==156)) (ann:=aR) (ab AQ (ab cc au)) aA (dD bx) (Jo L n k m hL hs hk) (by kernel_rfl)
theorem HR (L:List Sx.Obj) (n:Int) (k:Key) (m:bh) (hL:ar L) (hs:aw m.data):
 true=true/\true=true/\true=true/\true=true/\ar L/\true=true/\true=true/\true=true/\((!decide (dv L (kk 4 k) 1=0))=true->(bh.mk (dv L (kk 4 k) 1) eB void void
  void,fG L (kk 4 k) 1)=aG L n (kk 4 k) (mm 1 m))/\((!decide (dv L (kk 4 k) 1=0))=false->(bh.mk 0 eB (ev L (kk 4 k) 1) void void,fG L (kk 4 k) 1)=aG L n (kk 4 k) (mm 1
  m)):=by
 simp+decide [aG,dg,dF,dt,ef,iC,gW,iI,ga,dG,cV,fy,fT,fo,gV,c8,void,ee,eB,aZ,fc,eP,fe,kk,mm,hL,hs];try grind
theorem IE (L:List Sx.Obj) (n:Int) (k:Key) (m:bh) (hL:ar L) (hs:aw m.data):aj Tryz.prog 102 [.lp 0 0] [.ro (.blk m9 (gj (.ci .i64 1) m n (.ci .i64 4) k)),.store tS eS L] (kO (aG L n ((kk 4 k)) ((mm 1 m)))) (fun _ _=>False):=
 aL (inl:=(fun f=>f==131||f==142||f==152||f==146||f==202||f==185||f==227||f==177||f==148||f==174||f==173||f==132||f==144||f==184||f==188||f==210)) (ann:=aR) (ab cc au) (aE Bc aA) (dD bx) (HR L n k m hL hs) (by kernel_rfl)
theorem Kz (L:List Sx.Obj) (n:Int) (k:Key) (m:bh) (hL:ar L) (hs:aw m.data):
 true=true/\true=true/\true=true/\true=true/\ar L/\true=true/\true=true/\true=true/\((!decide (dv L (kk 4 k) 2=0))=true->(bh.mk (dv L (kk 4 k) 2) eB void void
  void,fG L (kk 4 k) 2)=aG L n (kk 4 k) (mm 2 m))/\((!decide (dv L (kk 4 k) 2=0))=false->(bh.mk 0 eB (ev L (kk 4 k) 2) void void,fG L (kk 4 k) 2)=aG L n (kk 4 k) (mm 2
  m)):=by
 simp+decide [aG,dg,dF,dt,ef,iC,gW,iI,ga,dG,cV,fy,fT,fo,gV,c8,void,ee,eB,aZ,fc,eP,fe,kk,mm,hL,hs];try grind
theorem Ho (L:List Sx.Obj) (n:Int) (k:Key) (m:bh) (hL:ar L) (hs:aw m.data):aj Tryz.prog 102 [.lp 0 0] [.ro (.blk m9 (gj (.ci .i64 2) m n (.ci .i64 4) k)),.store tS eS L] (kO (aG L n ((kk 4 k)) ((mm 2 m)))) (fun _ _=>False):=
 aL (inl:=(fun f=>f==131||f==142||f==152||f==146||f==202||f==185||f==227||f==177||f==148||f==174||f==173||f==132||f==144||f==184||f==188||f==210)) (ann:=aR) (ab cc au) (aE Bc aA) (dD bx) (Kz L n k m hL hs) (by kernel_rfl)
theorem Hs (L:List Sx.Obj) (n:Int) (k:Key) (m:bh) (hL:ar L) (hs:aw m.data):
 true=true/\true=true/\true=true/\true=true/\ar L/\true=true/\true=true/\((!decide (dJ L (kk 4 k) m.k0=0))=true->(bh.mk (dJ L (kk 4 k) m.k0) eB void void void,iW
  L (kk 4 k) m.k0)=aG L n (kk 4 k) (mm 3 m))/\((!decide (dJ L (kk 4 k) m.k0=0))=false->(bh.mk 0 eB void void void,iW L (kk 4 k) m.k0)=aG L n (kk 4 k) (mm 3 m)):=by
 simp+decide [aG,dg,dF,dt,ef,iC,gW,iI,ga,dG,cV,fy,fT,fo,gV,c8,void,ee,eB,aZ,fc,eP,fe,kk,mm,hL,hs];try grind
theorem Lo (L:List Sx.Obj) (n:Int) (k:Key) (m:bh) (hL:ar L) (hs:aw m.data):aj Tryz.prog 102 [.lp 0 0] [.ro (.blk m9 (gj (.ci .i64 3) m n (.ci .i64 4) k)),.store tS eS L] (kO (aG L n ((kk 4 k)) ((mm 3 m)))) (fun _ _=>False):=
 aL (inl:=(fun f=>f==131||f==142||f==152||f==146||f==202||f==185||f==227||f==177||f==148||f==174||f==173||f==132||f==144||f==184||f==188||f==166)) (ann:=aR) (ab cc au) (aE Nv aA) (dD bx) (Hs L n k m hL hs) (by kernel_rfl)
theorem Hy (L:List Sx.Obj) (n:Int) (k:Key) (m:bh) (hL:ar L) (hs:aw m.data):
 true=true/\true=true/\true=true/\true=true/\true=true/\true=true/\((!decide (m.k2.kind=1))=true->(bh.mk 240 eB void void void,L)=aG L n (kk 4 k) (mm 4 m))/\((!decide
  (m.k2.kind=1))=false->((decide (m.k2.value<0)||decide (2147483647<m.k2.value))=true->true=true/\ar L/\true=true/\true=true/\true=true/\((!decide (bY L (kk 4 k) (-1)=
  0))=true->(bh.mk (bY L (kk 4 k) (-1)) eB void void void,bk L (kk 4 k) (-1))=aG L n (kk 4 k) (mm 4 m))/\((!decide (bY L (kk 4 k) (-1)=0))=false->(bh.mk 0 eB (b9 L (kk 4 k)
  (-1)) void void,bk L (kk 4 k) (-1))=aG L n (kk 4 k) (mm 4 m)))/\((decide (m.k2.value<0)||decide (2147483647<m.k2.value))=false->true=true/\ar L/\true=true/\true=true/\
  true=true/\((!decide (bY L (kk 4 k) m.k2.value=0))=true->(bh.mk (bY L (kk 4 k) m.k2.value) eB void void void,bk L (kk 4 k) m.k2.value)=aG L n (kk 4 k) (mm 4 m))/\((!decide
  (bY L (kk 4 k) m.k2.value=0))=false->(bh.mk 0 eB (b9 L (kk 4 k) m.k2.value) void void,bk L (kk 4 k) m.k2.value)=aG L n (kk 4 k) (mm 4 m)))):=by
 simp+decide [aG,dg,dF,dt,ef,iC,gW,iI,ga,dG,cV,fy,fT,fo,gV,c8,void,ee,eB,aZ,fc,eP,fe,kk,mm,hL,hs];try grind
theorem Il (L:List Sx.Obj) (n:Int) (k:Key) (m:bh) (hL:ar L) (hs:aw m.data):aj Tryz.prog 102 [.lp 0 0] [.ro (.blk m9 (gj (.ci .i64 4) m n (.ci .i64 4) k)),.store tS eS L] (kO (aG L n ((kk 4 k)) ((mm 4 m)))) (fun _ _=>False):=
 aL (inl:=(fun f=>f==131||f==142||f==152||f==146||f==202||f==185||f==227||f==177||f==148||f==174||f==173||f==132||f==144||f==184||f==188||f==168)) (ann:=aR) (ab cc au) (aE FI aA) (dD bx) (Hy L n k m hL hs) (by kernel_rfl)
theorem Hk (L:List Sx.Obj) (n:Int) (k:Key) (m:bh) (hL:ar L) (hs:aw m.data):
 true=true/\true=true/\true=true/\true=true/\((!decide (aY L (kk 4 k)=0))=true->(bh.mk (aY L (kk 4 k)) eB void void void,L)=aG L n (kk 4 k) (mm 5 m))/\((!decide (aY
  L (kk 4 k)=0))=false->true=true/\(mi L (kk 4 k) m.k0=true->true=true/\true=true/\(bh.mk 0 eB void void (Key.mk 1 void.oid void.count void.call void.rights 1),L)=aG L n (kk 4
  k) (mm 5 m))/\(mi L (kk 4 k) m.k0=false->true=true/\true=true/\(bh.mk 0 eB void void (Key.mk 1 void.oid void.count void.call void.rights 0),L)=aG L n (kk 4 k) (mm 5 m))):=by
 simp+decide [aG,dg,dF,dt,ef,iC,gW,iI,ga,dG,cV,fy,fT,fo,gV,c8,void,ee,eB,aZ,fc,eP,fe,kk,mm,hL,hs];try grind
theorem HE (L:List Sx.Obj) (n:Int) (k:Key) (m:bh) (hL:ar L) (hs:aw m.data):aj Tryz.prog 102 [.lp 0 0] [.ro (.blk m9 (gj (.ci .i64 5) m n (.ci .i64 4) k)),.store tS eS L] (kO (aG L n ((kk 4 k)) ((mm 5 m)))) (fun _ _=>False):=
 aL (inl:=(fun f=>f==131||f==142||f==152||f==146||f==202||f==185||f==227||f==177||f==148||f==174||f==173||f==132||f==144||f==184||f==188||f==170)) (ann:=aR) (ab HF (ab cc au)) aA (dD bx) (Hk L n k m hL hs) (by kernel_rfl)
theorem JP (L:List Sx.Obj) (n:Int) (k:Key) (m:bh) (hL:ar L) (hs:aw m.data):
 true=true/\true=true/\true=true/\true=true/\ar L/\true=true/\((!decide (aY L (kk 4 k)=0))=true->(bh.mk (aY L (kk 4 k)) eB void void void,jH L (kk 4 k))=aG L n
  (kk 4 k) (mm 6 m))/\((!decide (aY L (kk 4 k)=0))=false->true=true/\true=true/\(bh.mk 0 eB void void (Key.mk 1 void.oid void.count void.call void.rights (iu L (kk 4 k))),jH L
  (kk 4 k))=aG L n (kk 4 k) (mm 6 m)):=by
 simp+decide [aG,dg,dF,dt,ef,iC,gW,iI,ga,dG,cV,fy,fT,fo,gV,c8,void,ee,eB,aZ,fc,eP,fe,kk,mm,hL,hs];try grind
theorem JC (L:List Sx.Obj) (n:Int) (k:Key) (m:bh) (hL:ar L) (hs:aw m.data):aj Tryz.prog 102 [.lp 0 0] [.ro (.blk m9 (gj (.ci .i64 6) m n (.ci .i64 4) k)),.store tS eS L] (kO (aG L n ((kk 4 k)) ((mm 6 m)))) (fun _ _=>False):=
 aL (inl:=(fun f=>f==131||f==142||f==152||f==146||f==202||f==185||f==227||f==177||f==148||f==174||f==173||f==132||f==144||f==184||f==188||f==171)) (ann:=aR) (ab cc au) (aE KR aA) (dD bx) (JP L n k m hL hs) (by kernel_rfl)
theorem Kn (L:List Sx.Obj) (n:Int) (k:Key) (m:bh) (hL:ar L) (hs:aw m.data):
 true=true/\true=true/\true=true/\true=true/\true=true/\true=true/\true=true/\true=true/\((!decide (m.k2.kind=1))=true->(bh.mk 240 eB void void void,L)=aG L n (kk 5
  k) (mm 1 m))/\((!decide (m.k2.kind=1))=false->((decide (m.k2.value<0)||decide (2147483647<m.k2.value))=true->true=true/\(bh.mk 4 eB void void void,L)=aG L n (kk 5 k) (mm 1 m))
  /\((decide (m.k2.value<0)||decide (2147483647<m.k2.value))=false->true=true/\((!(decide (0<=m.k2.value)&&decide (m.k2.value<12)))=true->(bh.mk 4 eB void void void,L)=aG L n
  (kk 5 k) (mm 1 m))/\((!(decide (0<=m.k2.value)&&decide (m.k2.value<12)))=false->aM IntKind.i64 (m.k2.value+4)/\true=true/\true=true/\true=true/\((!decide (cG L (Key.mk 2
  k.oid k.count void.call void.rights void.value) (m.k2.value+4)=0))=true->(bh.mk (cG L (Key.mk 2 k.oid k.count void.call void.rights void.value) (m.k2.value+4)) eB void void void,L)=
  aG L n (kk 5 k) (mm 1 m))/\((!decide (cG L (Key.mk 2 k.oid k.count void.call void.rights void.value) (m.k2.value+4)=0))=false->(bh.mk 0 eB (aJ L (Key.mk 2 k.oid k.count void.call
  void.rights void.value) (m.k2.value+4)) void void,L)=aG L n (kk 5 k) (mm 1 m))))):=by
 have hw:Key.mk 2 k.oid k.count void.call void.rights void.value=fe k:=rfl;have e2:∀c,bh.mk c eB void void void=fo c:=fun _=>rfl
 simp only[hw,e2];have hX:=EV (L:=L) (n:=n) (k:=k) (m:=m) (c:=1) (by omega)
 rw[hX];clear hX;by_cases h1:m.k2.kind=1
 case neg=>simp[h1,show dG 5 1=true by decide,hL,hs]
 have hf:¬(dG 5 1=true/\m.k2.kind≠1):=fun h=>h.2 h1
 rw[VM hf];have hC:ga L (kk 5 k) (mm 1 m)=(if aZ m<0\/11<aZ m then 4 else cG L (fe k) (aZ m+4),fy (aJ L (fe k) (aZ m+4)),L):=rfl
 rw[hC];clear hC;have e3:∀a,bh.mk 0 eB a void void=fy a:=fun _=>rfl
 simp only[e3];by_cases h2:0<=m.k2.value/\m.k2.value<=2147483647
 ·have hN:aZ m=m.k2.value:=by unfold aZ;rw[VN h2]
  have hr:aM .i64 (m.k2.value+4):=by simp only[aM,cj];omega
  rw[hN];by_cases h3:11<m.k2.value
  ·have h4:¬m.k2.value<12:=by omega
   simp[h1,h2,h3,h4,rV,hr]<;>omega
  ·have h4:m.k2.value<12:=by omega
   have h5:¬(m.k2.value<0\/11<m.k2.value):=by omega
   simp[h1,h2,h4,h5,rV,hr,hL];grind
 ·have hN:aZ m= -1:=by unfold aZ;rw[VM h2]
  rw[hN];simp[h1,rV]<;>omega
theorem Ju (L:List Sx.Obj) (n:Int) (k:Key) (m:bh) (hL:ar L) (hs:aw m.data):aj Tryz.prog 102 [.lp 0 0] [.ro (.blk m9 (gj (.ci .i64 1) m n (.ci .i64 5) k)),.store tS eS L] (kO (aG L n ((kk 5 k)) ((mm 1 m)))) (fun _ _=>False):=
 aL (inl:=(fun f=>f==131||f==142||f==152||f==146||f==202||f==185||f==227||f==177||f==148||f==174||f==173||f==132||f==144||f==184||f==188||f==172)) (ann:=aR) (ab qt (ab cc au)) aA (dD bx) (Kn L n k m hL hs) (by kernel_rfl)
theorem HD (L:List Sx.Obj) (n:Int) (k:Key) (m:bh) (hL:ar L) (hs:aw m.data):
 true=true/\true=true/\true=true/\true=true/\true=true/\true=true/\true=true/\true=true/\((!decide (m.k2.kind=1))=true->(bh.mk 240 eB void void void,L)=aG L n (kk 5
  k) (mm 2 m))/\((!decide (m.k2.kind=1))=false->((decide (m.k2.value<0)||decide (2147483647<m.k2.value))=true->true=true/\(bh.mk 4 eB void void void,L)=aG L n (kk 5 k) (mm 2 m))
  /\((decide (m.k2.value<0)||decide (2147483647<m.k2.value))=false->true=true/\((!(decide (0<=m.k2.value)&&decide (m.k2.value<12)))=true->(bh.mk 4 eB void void void,L)=aG L n
  (kk 5 k) (mm 2 m))/\((!(decide (0<=m.k2.value)&&decide (m.k2.value<12)))=false->aM IntKind.i64 (m.k2.value+4)/\true=true/\ar L/\true=true/\true=true/\true=true/\((!decide
  (bB L (Key.mk 2 k.oid k.count void.call void.rights void.value) (m.k2.value+4) m.k0=0))=true->(bh.mk (bB L (Key.mk 2 k.oid k.count void.call void.rights void.value) (m.k2.value+4)
  m.k0) eB void void void,dN L (Key.mk 2 k.oid k.count void.call void.rights void.value) (m.k2.value+4) m.k0)=aG L n (kk 5 k) (mm 2 m))/\((!decide (bB L (Key.mk 2 k.oid k.count
  void.call void.rights void.value) (m.k2.value+4) m.k0=0))=false->(bh.mk 0 eB (ew L (Key.mk 2 k.oid k.count void.call void.rights void.value) (m.k2.value+4) m.k0) void void,dN L
  (Key.mk 2 k.oid k.count void.call void.rights void.value) (m.k2.value+4) m.k0)=aG L n (kk 5 k) (mm 2 m))))):=by
 have hw:Key.mk 2 k.oid k.count void.call void.rights void.value=fe k:=rfl;have e2:∀c,bh.mk c eB void void void=fo c:=fun _=>rfl
 simp only[hw,e2];have hX:=EV (L:=L) (n:=n) (k:=k) (m:=m) (c:=2) (by omega)
 rw[hX];clear hX;by_cases h1:m.k2.kind=1
 case neg=>simp[h1,show dG 5 2=true by decide,hL,hs]
 have hf:¬(dG 5 2=true/\m.k2.kind≠1):=fun h=>h.2 h1
 rw[VM hf];have hC:ga L (kk 5 k) (mm 2 m)=(if aZ m<0\/11<aZ m then 4 else bB L (fe k) (aZ m+4) m.k0,fy (ew L (fe k) (aZ m+4) m.k0),if aZ m<0\/11<aZ m then L else dN L (fe k) (aZ m+4) m.k0):=rfl
 rw[hC];clear hC;have e3:∀a,bh.mk 0 eB a void void=fy a:=fun _=>rfl
 simp only[e3];by_cases h2:0<=m.k2.value/\m.k2.value<=2147483647
 ·have hN:aZ m=m.k2.value:=by unfold aZ;rw[VN h2]
  have hr:aM .i64 (m.k2.value+4):=by simp only[aM,cj];omega
  rw[hN];by_cases h3:11<m.k2.value
  ·have h4:¬m.k2.value<12:=by omega
   simp[h1,h2,h3,h4,rV,hr]<;>omega
  ·have h4:m.k2.value<12:=by omega
   have h5:¬(m.k2.value<0\/11<m.k2.value):=by omega
   simp[h1,h2,h4,h5,rV,hr,hL];grind
 ·have hN:aZ m= -1:=by unfold aZ;rw[VM h2]
  rw[hN];simp[h1,rV]<;>omega
theorem Lj (L:List Sx.Obj) (n:Int) (k:Key) (m:bh) (hL:ar L) (hs:aw m.data):aj Tryz.prog 102 [.lp 0 0] [.ro (.blk m9 (gj (.ci .i64 2) m n (.ci .i64 5) k)),.store tS eS L] (kO (aG L n ((kk 5 k)) ((mm 2 m)))) (fun _ _=>False):=
 aL (inl:=(fun f=>f==131||f==142||f==152||f==146||f==202||f==185||f==227||f==177||f==148||f==174||f==173||f==132||f==144||f==184||f==188||f==175)) (ann:=aR) (ab cc au) (aE Eh aA) (dD bx) (HD L n k m hL hs) (by kernel_rfl)
theorem GY (L:List Sx.Obj) (n:Int) (k:Key) (m:bh) (hL:ar L) (hs:aw m.data):
 true=true/\true=true/\true=true/\true=true/\true=true/\((!decide (m.k2.kind=1))=true->(bh.mk 240 eB void void void,L)=aG L n (kk 5 k) (mm 3 m))/\((!decide (m.k2.kind=1))=
  false->true=true/\true=true/\true=true/\(bh.mk 0 eB (Key.mk 6 k.oid k.count void.call void.rights m.k2.value) void void,L)=aG L n (kk 5 k) (mm 3 m)):=by
 simp+decide [aG,dg,dF,dt,ef,iC,gW,iI,ga,dG,cV,fy,fT,fo,gV,c8,void,ee,eB,aZ,fc,eP,fe,kk,mm,hL,hs];try grind
theorem Hz (L:List Sx.Obj) (n:Int) (k:Key) (m:bh) (hL:ar L) (hs:aw m.data):aj Tryz.prog 102 [.lp 0 0] [.ro (.blk m9 (gj (.ci .i64 3) m n (.ci .i64 5) k)),.store tS eS L] (kO (aG L n ((kk 5 k)) ((mm 3 m)))) (fun _ _=>False):=
 aL (inl:=(fun f=>f==131||f==142||f==152||f==146||f==202||f==185||f==227||f==177||f==148||f==174||f==173||f==132||f==144||f==184||f==188||f==176)) (ann:=aR) (ab cc au) aA (dD bx) (GY L n k m hL hs) (by kernel_rfl)
theorem HM (L:List Sx.Obj) (n:Int) (k:Key) (m:bh) (hL:ar L) (hs:aw m.data):
 true=true/\true=true/\true=true/\((!dc L k.oid)=true->true=true/\true=true/\(bh.mk 0 eB void void (Key.mk 1 void.oid void.count void.call void.rights (-1)),L)=aG L n (kk 5
  k) (mm 4 m))/\((!dc L k.oid)=false->true=true/\true=true/\(bh.mk 0 eB void void (Key.mk 1 void.oid void.count void.call void.rights (gE L k.oid)),L)=aG L n (kk 5 k) (mm 4 m)):=by
 simp+decide [aG,dg,dF,dt,ef,iC,gW,iI,ga,dG,cV,fy,fT,fo,gV,c8,void,ee,eB,aZ,fc,eP,fe,kk,mm,hL,hs];unfold gE bV;grind
theorem Js (L:List Sx.Obj) (n:Int) (k:Key) (m:bh) (hL:ar L) (hs:aw m.data):aj Tryz.prog 102 [.lp 0 0] [.ro (.blk m9 (gj (.ci .i64 4) m n (.ci .i64 5) k)),.store tS eS L] (kO (aG L n ((kk 5 k)) ((mm 4 m)))) (fun _ _=>False):=
 aL (inl:=(fun f=>f==131||f==142||f==152||f==146||f==202||f==185||f==227||f==177||f==148||f==174||f==173||f==132||f==144||f==184||f==188||f==178)) (ann:=aR) (ab pt (ab cc au)) aA (dD bx) (HM L n k m hL hs) (by kernel_rfl)
theorem Jl (L:List Sx.Obj) (n:Int) (k:Key) (m:bh) (hL:ar L) (hs:aw m.data):
 true=true/\true=true/\true=true/\true=true/\true=true/\true=true/\((!decide (m.k2.kind=1))=true->(bh.mk 240 eB void void void,L)=aG L n (kk 5 k) (mm 5 m))/\((!decide
  (m.k2.kind=1))=false->((decide (m.k2.value<0)||decide (2147483647<m.k2.value))=true->true=true/\ar L/\true=true/\true=true/\((!decide (eC L k.oid (-1)=0))=true->
  (bh.mk (eC L k.oid (-1)) eB void void void,iw L k.oid (-1))=aG L n (kk 5 k) (mm 5 m))/\((!decide (eC L k.oid (-1)=0))=false->(bh.mk 0 eB void void void,iw L k.oid (-1))=
  aG L n (kk 5 k) (mm 5 m)))/\((decide (m.k2.value<0)||decide (2147483647<m.k2.value))=false->true=true/\ar L/\true=true/\true=true/\((!decide (eC L k.oid m.k2.value=0))=
  true->(bh.mk (eC L k.oid m.k2.value) eB void void void,iw L k.oid m.k2.value)=aG L n (kk 5 k) (mm 5 m))/\((!decide (eC L k.oid m.k2.value=0))=false->(bh.mk 0 eB void void void,
  iw L k.oid m.k2.value)=aG L n (kk 5 k) (mm 5 m)))):=by
 simp+decide [aG,dg,dF,dt,ef,iC,gW,iI,ga,dG,cV,fy,fT,fo,gV,c8,void,ee,eB,aZ,fc,eP,fe,kk,mm,hL,hs];try grind
theorem IV (L:List Sx.Obj) (n:Int) (k:Key) (m:bh) (hL:ar L) (hs:aw m.data):aj Tryz.prog 102 [.lp 0 0] [.ro (.blk m9 (gj (.ci .i64 5) m n (.ci .i64 5) k)),.store tS eS L] (kO (aG L n ((kk 5 k)) ((mm 5 m)))) (fun _ _=>False):=
 aL (inl:=(fun f=>f==131||f==142||f==152||f==146||f==202||f==185||f==227||f==177||f==148||f==174||f==173||f==132||f==144||f==184||f==188||f==179)) (ann:=aR) (ab cc au) (aE Hn aA) (dD bx) (Jl L n k m hL hs) (by kernel_rfl)
theorem Jk (L:List Sx.Obj) (n:Int) (k:Key) (m:bh) (hL:ar L) (hs:aw m.data):
 true=true/\true=true/\true=true/\true=true/\true=true/\true=true/\((!decide (m.k2.kind=1))=true->(bh.mk 240 eB void void void,L)=aG L n (kk 5 k) (mm 6 m))/\((!decide
  (m.k2.kind=1))=false->true=true/\true=true/\((!decide (cB L (aJ L (Key.mk 2 k.oid k.count void.call void.rights void.value) 0) m.k2.value 32=0))=true->(bh.mk (cB L (aJ L
  (Key.mk 2 k.oid k.count void.call void.rights void.value) 0) m.k2.value 32) eB void void void,L)=aG L n (kk 5 k) (mm 6 m))/\((!decide (cB L (aJ L (Key.mk 2 k.oid k.count void.call
  void.rights void.value) 0) m.k2.value 32=0))=false->((!decide (cm L (aJ L (Key.mk 2 k.oid k.count void.call void.rights void.value) 0) m.k2.value 32 false=0))=true->aM IntKind.i64
  (1000+cm L (aJ L (Key.mk 2 k.oid k.count void.call void.rights void.value) 0) m.k2.value 32 false)/\(bh.mk (1000+cm L (aJ L (Key.mk 2 k.oid k.count void.call void.rights void.value)
  0) m.k2.value 32 false) eB void void void,L)=aG L n (kk 5 k) (mm 6 m))/\((!decide (cm L (aJ L (Key.mk 2 k.oid k.count void.call void.rights void.value) 0) m.k2.value 32 false=0))=false
  ->true=true/\true=true/\true=true/\(bh.mk 0 (mI L (aJ L (Key.mk 2 k.oid k.count void.call void.rights void.value) 0) m.k2.value 32) void void void,L)=aG L n (kk 5 k) (mm 6 m)))):=by
 have hw:Key.mk 2 k.oid k.count void.call void.rights void.value=fe k:=rfl;have e2:∀c,bh.mk c eB void void void=fo c:=fun _=>rfl
 simp only[hw,e2];have hX:=EV (L:=L) (n:=n) (k:=k) (m:=m) (c:=6) (by omega)
 rw[hX];clear hX;by_cases h1:m.k2.kind=1
 case neg=>simp[h1,show dG 5 6=true by decide,hL,hs]
 have hf:¬(dG 5 6=true/\m.k2.kind≠1):=fun h=>h.2 h1
 rw[VM hf];have hC:ga L (kk 5 k) (mm 6 m)=(if cB L (eP L k) m.k2.value 32=0 then(if cm L (eP L k) m.k2.value 32 false=0 then 0 else 1000+cm L (eP L k) m.k2.value 32 false)else cB L (eP L k) m.k2.value 32,gV (mI L (eP L k) m.k2.value 32),L):=rfl
 rw[hC];clear hC;have e3:∀s,bh.mk 0 s void void void=gV s:=fun _=>rfl
 have e4:fo 0=ee:=rfl;have hi:=OO (L:=L) (k:=aJ L (fe k) 0) (a:=m.k2.value) (n:=32) (w:=false);have hr:aM .i64 (1000+cm L (aJ L (fe k) 0) m.k2.value (32) false):=by simp only[aM,cj];omega
 simp only[e3,eP];simp[h1,hr,rV,hL,hs];grind
theorem Ht (L:List Sx.Obj) (n:Int) (k:Key) (m:bh) (hL:ar L) (hs:aw m.data):aj Tryz.prog 102 [.lp 0 0] [.ro (.blk m9 (gj (.ci .i64 6) m n (.ci .i64 5) k)),.store tS eS L] (kO (aG L n ((kk 5 k)) ((mm 6 m)))) (fun _ _=>False):=
 aL (inl:=(fun f=>f==131||f==142||f==152||f==146||f==202||f==185||f==227||f==177||f==148||f==174||f==173||f==132||f==144||f==184||f==188||f==180)) (ann:=aR) (ab qt (ab S1 (ab cc au))) aA (dD bx) (Jk L n k m hL hs) (by kernel_rfl)
theorem HZ (L:List Sx.Obj) (n:Int) (k:Key) (m:bh) (hL:ar L) (hs:aw m.data):
 true=true/\true=true/\true=true/\true=true/\true=true/\true=true/\((!decide (m.k2.kind=1))=true->(bh.mk 240 eB void void void,L)=aG L n (kk 5 k) (mm 7 m))/\((!decide
  (m.k2.kind=1))=false->true=true/\aw m.data/\(ar L/\aw m.data)/\true=true/\true=true/\((!decide (cB L (aJ L (Key.mk 2 k.oid k.count void.call void.rights void.value)
  0) m.k2.value (cC m.data)=0))=true->(bh.mk (cB L (aJ L (Key.mk 2 k.oid k.count void.call void.rights void.value) 0) m.k2.value (cC m.data)) eB void void void,nz L (aJ L (Key.mk 2
  k.oid k.count void.call void.rights void.value) 0) m.k2.value m.data)=aG L n (kk 5 k) (mm 7 m))/\((!decide (cB L (aJ L (Key.mk 2 k.oid k.count void.call void.rights void.value) 0)
  m.k2.value (cC m.data)=0))=false->((!decide (cm L (aJ L (Key.mk 2 k.oid k.count void.call void.rights void.value) 0) m.k2.value (cC m.data) true=0))=true->aM IntKind.i64 (1000+
  cm L (aJ L (Key.mk 2 k.oid k.count void.call void.rights void.value) 0) m.k2.value (cC m.data) true)/\(bh.mk (1000+cm L (aJ L (Key.mk 2 k.oid k.count void.call void.rights void.value)
  0) m.k2.value (cC m.data) true) eB void void void,nz L (aJ L (Key.mk 2 k.oid k.count void.call void.rights void.value) 0) m.k2.value m.data)=aG L n (kk 5 k) (mm 7 m))/\((!decide (cm L
  (aJ L (Key.mk 2 k.oid k.count void.call void.rights void.value) 0) m.k2.value (cC m.data) true=0))=false->true=true/\true=true/\(bh.mk 0 eB void void void,nz L (aJ L (Key.mk 2
  k.oid k.count void.call void.rights void.value) 0) m.k2.value m.data)=aG L n (kk 5 k) (mm 7 m)))):=by
 have hw:Key.mk 2 k.oid k.count void.call void.rights void.value=fe k:=rfl;have e2:∀c,bh.mk c eB void void void=fo c:=fun _=>rfl
 simp only[hw,e2];have hX:=EV (L:=L) (n:=n) (k:=k) (m:=m) (c:=7) (by omega)
 rw[hX];clear hX;by_cases h1:m.k2.kind=1
 case neg=>simp[h1,show dG 5 7=true by decide,hL,hs]
 have hf:¬(dG 5 7=true/\m.k2.kind≠1):=fun h=>h.2 h1
 rw[VM hf];have hC:ga L (kk 5 k) (mm 7 m)=(if cB L (eP L k) m.k2.value (cC m.data)=0 then(if cm L (eP L k) m.k2.value (cC m.data) true=0 then 0 else 1000+cm L (eP L k) m.k2.value (cC m.data) true)else cB L (eP L k) m.k2.value (cC m.data),ee,nz L (eP L k) m.k2.value m.data):=rfl
 rw[hC];clear hC;have e3:∀s,bh.mk 0 s void void void=gV s:=fun _=>rfl
 have e4:fo 0=ee:=rfl;have hi:=OO (L:=L) (k:=aJ L (fe k) 0) (a:=m.k2.value) (n:=cC m.data) (w:=true);have hr:aM .i64 (1000+cm L (aJ L (fe k) 0) m.k2.value (cC m.data) true):=by simp only[aM,cj];omega
 simp only[e3,eP];simp[h1,hr,rV,hL,hs];grind
theorem Le (L:List Sx.Obj) (n:Int) (k:Key) (m:bh) (hL:ar L) (hs:aw m.data):aj Tryz.prog 102 [.lp 0 0] [.ro (.blk m9 (gj (.ci .i64 7) m n (.ci .i64 5) k)),.store tS eS L] (kO (aG L n ((kk 5 k)) ((mm 7 m)))) (fun _ _=>False):=
 aL (inl:=(fun f=>f==131||f==142||f==152||f==146||f==202||f==185||f==227||f==177||f==148||f==174||f==173||f==132||f==144||f==184||f==188||f==181)) (ann:=aR) (ab qt (ab cc au)) (aE Rx aA) (dD bx) (HZ L n k m hL hs) (by kernel_rfl)
theorem Kl (L:List Sx.Obj) (n:Int) (k:Key) (m:bh) (hL:ar L) (hs:aw m.data):
 true=true/\true=true/\true=true/\true=true/\true=true/\(bh.mk 0 eB void void (Key.mk 1 void.oid void.count void.call void.rights m.k0.kind),L)=aG L n (kk 8 k) (mm 1 m):=by
 simp+decide [aG,dg,dF,dt,ef,iC,gW,iI,ga,dG,cV,fy,fT,fo,gV,c8,void,ee,eB,aZ,fc,eP,fe,kk,mm,hL,hs];try grind
theorem GS (L:List Sx.Obj) (n:Int) (k:Key) (m:bh) (hL:ar L) (hs:aw m.data):aj Tryz.prog 102 [.lp 0 0] [.ro (.blk m9 (gj (.ci .i64 1) m n (.ci .i64 8) k)),.store tS eS L] (kO (aG L n ((kk 8 k)) ((mm 1 m)))) (fun _ _=>False):=
 aL (inl:=(fun f=>f==131||f==142||f==152||f==146||f==202||f==185||f==227||f==177||f==148||f==174||f==173||f==132||f==144||f==184||f==188||f==182)) (ann:=aR) (ab cc au) aA (dD bx) (Kl L n k m hL hs) (by kernel_rfl)
theorem Kg (L:List Sx.Obj) (n:Int) (k:Key) (m:bh) (hL:ar L) (hs:aw m.data):
 true=true/\true=true/\true=true/\true=true/\(ow m.k0 m.k1=true->true=true/\true=true/\(bh.mk 0 eB void void (Key.mk 1 void.oid void.count void.call void.rights 1),L)=aG
  L n (kk 8 k) (mm 2 m))/\(ow m.k0 m.k1=false->true=true/\true=true/\(bh.mk 0 eB void void (Key.mk 1 void.oid void.count void.call void.rights 0),L)=aG L n (kk 8 k) (mm 2 m)):=by
 simp+decide [aG,dg,dF,dt,ef,iC,gW,iI,ga,dG,cV,fy,fT,fo,gV,c8,void,ee,eB,aZ,fc,eP,fe,kk,mm,hL,hs];try grind
theorem HB (L:List Sx.Obj) (n:Int) (k:Key) (m:bh) (hL:ar L) (hs:aw m.data):aj Tryz.prog 102 [.lp 0 0] [.ro (.blk m9 (gj (.ci .i64 2) m n (.ci .i64 8) k)),.store tS eS L] (kO (aG L n ((kk 8 k)) ((mm 2 m)))) (fun _ _=>False):=
 aL (inl:=(fun f=>f==131||f==142||f==152||f==146||f==202||f==185||f==227||f==177||f==148||f==174||f==173||f==132||f==144||f==184||f==188||f==183)) (ann:=aR) (ab NT (ab cc au)) aA (dD bx) (Kg L n k m hL hs) (by kernel_rfl)
theorem KZ (L:List Sx.Obj) (n:Int) (k:Key) (m:bh) (hL:ar L) (hs:aw m.data):
 true=true/\true=true/\true=true/\true=true/\true=true/\(bh.mk 0 eB void void (Key.mk 1 void.oid void.count void.call void.rights m.k0.rights),L)=aG L n (kk 8 k) (mm 3 m):=by
 simp+decide [aG,dg,dF,dt,ef,iC,gW,iI,ga,dG,cV,fy,fT,fo,gV,c8,void,ee,eB,aZ,fc,eP,fe,kk,mm,hL,hs];try grind
theorem Lm (L:List Sx.Obj) (n:Int) (k:Key) (m:bh) (hL:ar L) (hs:aw m.data):aj Tryz.prog 102 [.lp 0 0] [.ro (.blk m9 (gj (.ci .i64 3) m n (.ci .i64 8) k)),.store tS eS L] (kO (aG L n ((kk 8 k)) ((mm 3 m)))) (fun _ _=>False):=
 aL (inl:=(fun f=>f==131||f==142||f==152||f==146||f==202||f==185||f==227||f==177||f==148||f==174||f==173||f==132||f==144||f==184||f==188||f==187)) (ann:=aR) (ab cc au) aA (dD bx) (KZ L n k m hL hs) (by kernel_rfl)
theorem Hx (L:List Sx.Obj) (n:Int) (k:Key) (m:bh) (hL:ar L) (hs:aw m.data):
 true=true/\true=true/\true=true/\true=true/\true=true/\(bh.mk 0 eB void void (Key.mk 1 void.oid void.count void.call void.rights n),L)=aG L n (kk 9 k) (mm 1 m):=by
 simp+decide [aG,dg,dF,dt,ef,iC,gW,iI,ga,dG,cV,fy,fT,fo,gV,c8,void,ee,eB,aZ,fc,eP,fe,kk,mm,hL,hs];try grind
theorem H2 (L:List Sx.Obj) (n:Int) (k:Key) (m:bh) (hL:ar L) (hs:aw m.data):aj Tryz.prog 102 [.lp 0 0] [.ro (.blk m9 (gj (.ci .i64 1) m n (.ci .i64 9) k)),.store tS eS L] (kO (aG L n ((kk 9 k)) ((mm 1 m)))) (fun _ _=>False):=
 aL (inl:=(fun f=>f==131||f==142||f==152||f==146||f==202||f==185||f==227||f==177||f==148||f==174||f==173||f==132||f==144||f==184||f==188||f==189)) (ann:=aR) (ab cc au) aA (dD bx) (Hx L n k m hL hs) (by kernel_rfl)
theorem Gi (L:List Sx.Obj) (n:Int) (k:Key) (m:bh) (hL:ar L) (hs:aw m.data):
 true=true/\true=true/\true=true/\(bh.mk 0 eB void void void,L)=aG L n (kk 10 k) (mm 1 m):=by
 simp+decide [aG,dg,dF,dt,ef,iC,gW,iI,ga,dG,cV,fy,fT,fo,gV,c8,void,ee,eB,aZ,fc,eP,fe,kk,mm,hL,hs];try grind
theorem FD (L:List Sx.Obj) (n:Int) (k:Key) (m:bh) (hL:ar L) (hs:aw m.data):aj Tryz.prog 102 [.lp 0 0] [.ro (.blk m9 (gj (.ci .i64 1) m n (.ci .i64 10) k)),.store tS eS L] (kO (aG L n ((kk 10 k)) ((mm 1 m)))) (fun _ _=>False):=
 aL (inl:=(fun f=>f==131||f==142||f==152||f==146||f==202||f==185||f==227||f==177||f==148||f==174||f==173||f==132||f==144||f==184||f==188||f==190)) (ann:=aR) (ab cc au) aA (dD bx) (Gi L n k m hL hs) (by kernel_rfl)
end Go.Proofs.YtlblcfaclmpekaaGreat
