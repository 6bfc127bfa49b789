import Derived.Test.YtghpaegglbbocaaGreatCP
import Derived.Test.YtghpaegglbbocaaGreatSpP
import Derived.Test.YtghpaegglbbocaaGreatKS
set_option linter.unusedSimpArgs false
set_option linter.unusedVariables false
namespace Go.Sx
def aY (h:Int):Int:=64*16^(h-1).toNat
def jb (h:Int):Prop:=0<=h/\h<=9
def Av (h g:Int):Prop:=0<=g/\(g=0\/g<=h-1)
def Aq (h g:Int):Prop:=1<=g/\(g=1\/g<=h)
def MN:Ct:=tB (bk iA iI) (fun x=>some (jb x.1)) fun x=> .it .i64 (aY x.1)
structure Wk where
 pos:Key
 adr:Int
 rts:Int
 kpr:Key
 dep:Int
 hi:Int
structure Wr where
 kd:Int
 pos:Key
 adr:Int
 kpr:Key
 dep:Int
def Un:Wr:=⟨0,void,0,void,0⟩
def fi (r m g:Int):Int:=r+(if 2<=g/\(fU m 1&& !fU r 1)=true then 1 else 0)+(if 4<=g/\(fU m 2&& !fU r 2)=true then 2 else 0)+(if 8<=g/\(fU m 4&& !fU r 4)=true then 4 else 0)
def mB (r m:Int):Int:=fi r m 8
def nw (r:Int) (p:Key):Key:=if r.tmod 4=0 then p else cL p 1
def o7 (w:Wk) (h:Key):Bool:=decide (h.kind=1)&&decide (1<=h.value)&&decide (h.value<=8)&&(decide (w.dep=0)||decide (h.value<w.hi))
def uL (r:Int) (k was:Key):Key:=if k.kind=6/\r<4 then k else was
def kY (L:List Obj) (w:Wk) (p:Key) (h k:Key):Wr×Option Wk:=
 if 8<=w.dep then(⟨3,void,0,w.kpr,0⟩,none)
 else if o7 w h then
  (if w.adr.tdiv (aY h.value)<14 then(Un,some ⟨cN L p (w.adr.tdiv (aY h.value)),w.adr.tmod (aY h.value),mB w.rts p.rights,uL (mB w.rts p.rights) k w.kpr,w.dep+1,h.value⟩)
   else(⟨2,void,0,uL (mB w.rts p.rights) k w.kpr,0⟩,none))
 else(⟨4,void,0,w.kpr,0⟩,none)
def Nl (L:List Obj):Nat->Wk->Wr
 |0,w=>⟨3,void,0,w.kpr,0⟩
 |n+1,w=>
  if(ab L w.pos).kind=3 then(if w.adr<64 then⟨0,nw w.rts (ab L w.pos),w.adr,w.kpr,w.dep⟩else⟨2,void,0,w.kpr,0⟩)
  else if(ab L w.pos).kind=2 then match kY L w (ab L w.pos) (cN L (cL (ab L w.pos) 0) 15) (cN L (cL (ab L w.pos) 0) 14)with
   | (r,none)=>r
   | (_,some w')=>Nl L n w'
  else⟨1,void,0,w.kpr,0⟩
def hJ (L:List Obj) (n:Nat) (w:Wk):Wr:=Nl L n w
def vF (k:Key) (a hi:Int):Wk:=⟨k,a,0,void,0,hi⟩
def de (L:List Obj) (k:Key) (a:Int):Int:=if aj L=0 then 1 else if cZ L k then(if a<0 then 4 else 0)else 2
def ar (L:List Obj) (k:Key) (a:Int):Wr:=if de L k a=0 then hJ L 9 (vF k a 0)else Un
def bV (r:Wr):Key:=if r.kd=0 then r.pos else void
def bU (r:Wr):Int:=if r.kd=0 then r.adr else 0
def cO (r:Wr):Key:=if r.kd=0 then r.kpr else void
def dc (r:Wr):Int:=if r.kd=0 then r.dep else 0
def e9 (r:Wr):Key:=if r.kd=0 then void else r.kpr
def fa (r:Wr) (a:Int):Int:=if r.kd=0 then 0 else a
def ei (r:Wr):Int:=r.kd
def VY (r:Wr):V:= .ag [.key (bV r),.it .i64 (bU r),.key (cO r),.it .i64 (dc r)]
def WI (r:Wr) (a:Int):V:= .ag [.it .i64 (ei r),.key (e9 r),.it .i64 (fa r a)]
def Da (L:List Obj) (k:Key) (a:Int):V:= .tp [VY (ar L k a),WI (ar L k a) a,.it .i64 (de L k a)]
abbrev tW:Nat:=246
def Xf (s:V) (g:Wk):V:= .ag [s,.key g.pos,.it .i64 g.adr,.it .i64 g.rts,.key g.kpr,.it .i64 g.dep,.it .i64 g.hi,.cb false]
def mN (L:List Obj) (k:Key) (a hi:Int) (g:Wk):Prop:=
 (0<=g.adr/\g.adr<=a)/\(0<=g.rts/\g.rts<=7)/\(0<=g.dep/\g.dep<=8)/\(g.dep=0->g.hi=hi)/\(g.dep≠0->g.hi<=8)/\hJ L (9-g.dep).toNat g=hJ L 9 (vF k a hi)
def nU (g:Wk):Nat:=(9-g.dep).toNat
def WT (iT:List Nat) (inv:Int->Prop) (m:Int):dE:=
 {γ:=Int,head:=fun U g=>match bN U.slots 11 with
   | .v x=>match x with
     | .it _ r=>match ay U.res 4 with
       | .blk _ c=>match c with
         | .key k=> {U with slots:=G8 iT [(11,.it .i64 (fi r k.rights g)),(16,.it .i64 g)] 0 U.slots}
         |_=>U
       |_=>U
     |_=>U
   |_=>U,inv:=inv,μ:=fun g=>ot (rW m g)}
def TH:Ct:=tB (bk sA (bk kA (bk iA iI))) (fun _=>none) fun x=>Da (D9 x.1) x.2.1 x.2.2.1
def Oh:Ct:=tB (bk A6 (bk kA (bk iA iI))) (fun x=>some (aq x.1)) fun x=>Da x.1 x.2.1 x.2.2.1
def XA (nid:Nat):V:= .mp nid
def Xw (nid:Nat):List aH:= [.mp .i64 [3,2] [.fn 206 [],.fn 207 []]]
theorem zg {g:Int} (h:1<=g):aY g*16=aY (g+1):=by
 unfold aY;have e:(g+1-1).toNat=(g-1).toNat+1:=by omega
 rw[e,Int.pow_succ];generalize (16:Int)^(g-1).toNat=x
 omega
theorem mM {h:Int} (hh:h<=1):aY h=64:=by
 unfold aY;have e:(h-1).toNat=0:=by omega
 rw[e];rfl
theorem qs {h:Int} (hh:h<=9):64<=aY h/\aY h<=274877906944:=by
 by_cases h1:h<=1
 ·rw[mM h1];omega
 have:h=2\/h=3\/h=4\/h=5\/h=6\/h=7\/h=8\/h=9:=by omega
 rcases this with rfl|rfl|rfl|rfl|rfl|rfl|rfl|rfl<;>decide
theorem SO:∀r m:Fin 8,bd .or .i64 (r.val:Int) (m.val:Int)=mB (r.val:Int) (m.val:Int)/\0<=mB (r.val:Int) (m.val:Int)/\mB (r.val:Int) (m.val:Int)<=7:=by decide
theorem xq {r:Int} (h0:0<=r) (h1:r<=7):∃x:Fin 8,(x.val:Int)=r:=⟨⟨r.toNat,by omega⟩,by simp;omega⟩
theorem Te {r m:Int} (h0:0<=r) (h1:r<=7) (m0:0<=m) (m1:m<=7):bd .or .i64 r m=mB r m/\0<=mB r m/\mB r m<=7:=by
 obtain⟨x,rfl⟩:=xq h0 h1;obtain⟨y,rfl⟩:=xq m0 m1;exact SO x y
theorem K3:∀r:Fin 8,decide (bd .and .i64 (r.val:Int) 4=0)=decide ((r.val:Int)<4):=by decide
theorem W5 {r:Int} (h0:0<=r) (h1:r<=7):decide (bd .and .i64 r 4=0)=decide (r<4):=by
 obtain⟨x,rfl⟩:=xq h0 h1;exact K3 x
theorem ON:∀r m:Fin 8,∀g∈ [(1:Int),2,4],(0<=fi (r.val:Int) (m.val:Int) g/\fi (r.val:Int) (m.val:Int) g<=7)/\
  ((decide (((m.val:Int).tdiv g).tmod 2=1)&&decide (((fi (r.val:Int) (m.val:Int) g).tdiv g).tmod 2=0))=true->fi (r.val:Int) (m.val:Int) g+g=fi (r.val:Int) (m.val:Int) (g*2))/\
  ((decide (((m.val:Int).tdiv g).tmod 2=1)&&decide (((fi (r.val:Int) (m.val:Int) g).tdiv g).tmod 2=0))=false->fi (r.val:Int) (m.val:Int) g=fi (r.val:Int) (m.val:Int) (g*2)):=by decide
theorem Vq {r m g:Int} (h0:0<=r) (h1:r<=7) (m0:0<=m) (m1:m<=7) (hg:g=1\/g=2\/g=4):(0<=fi r m g/\fi r m g<=7)/\
  ((decide ((m.tdiv g).tmod 2=1)&&decide (((fi r m g).tdiv g).tmod 2=0))=true->fi r m g+g=fi r m (g*2))/\
  ((decide ((m.tdiv g).tmod 2=1)&&decide (((fi r m g).tdiv g).tmod 2=0))=false->fi r m g=fi r m (g*2)):=by
 obtain⟨x,rfl⟩:=xq h0 h1;obtain⟨y,rfl⟩:=xq m0 m1;exact ON x y g (by rcases hg with rfl|rfl|rfl<;>simp)
theorem Vk {r m:Int}:fi r m 1=r:=by simp[fi]
theorem An {L:List Obj} {k:Key} (h:(ab L k).kind=2\/(ab L k).kind=3):ab L k=k/\aU L k=true:=by
 unfold ab at h⊢;split at h
 ·simp[void]at h
 ·rename_i hn;rw[XQ hn];refine⟨rfl,?_⟩;simp only[Bool.or_eq_true,Bool.not_eq_true',XK,not_or,Bool.not_eq_true,not_and]at hn;obtain⟨⟨h1,h2⟩,h3⟩:=hn;have hk:aT k=true:=by simpa using h2
  have:bg k=true:=by
   unfold bg dH;rw[hk];rcases h with h|h<;>simp[h]
  have:=h3 this;simpa using this
theorem Qa {L:List Obj} {k:Key} (h:aU L k=true):ab L k=k:=by
 unfold ab;have h':=dB h;rw[XQ];have hl:L≠ []:=fun e=>by have:=h'.2.1;have:=h'.2.2.1;simp[e]at *;omega
 have hs:bC L=false:=by
  unfold bC;cases L with
  |nil=>exact absurd rfl hl
  |cons x l=>simp[aj]
 rw[hs,h'.1,h];simp
theorem TJ {k:Key} (h:aT k=true) (h2:k.kind=2):Key.mk 2 k.oid k.count void.call void.rights void.value=cL k 0:=by
 obtain⟨a,b,c,d,e,f⟩:=k;simp only at h2;subst h2;simp[aT,fF,dH,fY,jZ]at h;simp[cL,void];omega
theorem Tj {L:List Obj} {k:Key} (h:aU L k=true) (h2:k.kind=2):aU L (cL k 0)=true:=by
 have hk:=(dB h).1
 have hk':aT (cL k 0)=true:=by
  have hk1:=hk;simp only[aT,XK,XL]at hk1⊢;obtain⟨⟨⟨⟨⟨⟨⟨x1,x2⟩,x3⟩,x4⟩,x5⟩,x6⟩,x7⟩,x8⟩:=hk1;exact⟨⟨⟨⟨⟨⟨⟨x1,x2⟩,Int.le_refl 0⟩,by show 0<=eN k.kind;omega⟩,x5⟩,x6⟩,x7⟩,x8⟩
 have hn:aX (cL k 0)=aX k:=by unfold aX;rw[hk,hk'];rfl
 have hw:fN (cL k 0)=fN k:=by unfold fN;rw[hn];rfl
 have hc:∀o,b7 (cL k 0) o=b7 k o:=fun o=>by unfold b7;rw[hn,hw,hk,hk'];rfl
 have hd:bg (cL k 0)=bg k:=by unfold bg;rw[hk,hk'];rfl
 unfold aU at h⊢;rw[hd,hc];exact h
theorem DA {L:List Obj} {k:Key} {i:Int} (h:aU L k=true) (h2:k.kind=2) (h0:0<=i) (h1:i<16):aE L k i=cN L k i:=by
 have hl:=dB h
 have hA:aw L k 2 false=0:=by
  unfold aw;rw[XQ (by have:=hl.2.1;have:=hl.2.2.1;unfold aj;omega),XQ (by rw[h,h2];simp),XQ (by simp)]
 unfold aE bI jm;rw[hA,XR rfl,decide_eq_true h0,decide_eq_true h1];rfl
theorem IZ {L:List Obj} {k:Key} {i:Int} (h:aU L k=true) (h2:k.kind=2) (h0:0<=i) (h1:i<16):aE L (Key.mk 2 k.oid k.count void.call void.rights void.value) i=cN L (cL k 0) i:=by
 rw[TJ (dB h).1 h2];exact DA (Tj h h2) h2 h0 h1
theorem go_eq {L:List Obj} {g:Wk} (h0:0<=g.dep) (h8:g.dep<=8):hJ L (9-g.dep).toNat g=
  if(ab L g.pos).kind=3 then(if g.adr<64 then⟨0,nw g.rts (ab L g.pos),g.adr,g.kpr,g.dep⟩else⟨2,void,0,g.kpr,0⟩)
  else if(ab L g.pos).kind=2 then match kY L g (ab L g.pos) (cN L (cL (ab L g.pos) 0) 15) (cN L (cL (ab L g.pos) 0) 14)with
   | (r,none)=>r
   | (_,some w')=>hJ L (8-g.dep).toNat w'
  else⟨1,void,0,g.kpr,0⟩:=by
 have e:(9-g.dep).toNat=(8-g.dep).toNat+1:=by omega
 rw[e];rfl
theorem FM {L:List Obj} {g:Wk} (h0:0<=g.dep) (h8:g.dep<=8) (h3:(ab L g.pos).kind≠3) (h2:(ab L g.pos).kind≠2):hJ L (9-g.dep).toNat g=⟨1,void,0,g.kpr,0⟩:=by
 rw[go_eq h0 h8,XQ h3,XQ h2]
theorem JU {L:List Obj} {g:Wk} (h0:0<=g.dep) (h8:g.dep<=8) (h3:(ab L g.pos).kind=3) (h:¬g.adr<64):hJ L (9-g.dep).toNat g=⟨2,void,0,g.kpr,0⟩:=by
 rw[go_eq h0 h8,XR h3,XQ h]
theorem wa {L:List Obj} {g:Wk} (h0:0<=g.dep) (h8:g.dep<=8) (h3:(ab L g.pos).kind=3) (h:g.adr<64):hJ L (9-g.dep).toNat g=⟨0,nw g.rts (ab L g.pos),g.adr,g.kpr,g.dep⟩:=by
 rw[go_eq h0 h8,XR h3,XR h]
theorem I4 {L:List Obj} {g:Wk} (h0:0<=g.dep) (h8:g.dep<=8) (h2:(ab L g.pos).kind=2) (h:¬g.dep<8):hJ L (9-g.dep).toNat g=⟨3,void,0,g.kpr,0⟩:=by
 rw[go_eq h0 h8,XQ (by omega),XR h2,kY,XR (by omega)]
theorem FW {L:List Obj} {g:Wk} (h0:0<=g.dep) (h8:g.dep<=8) (h2:(ab L g.pos).kind=2) (h:g.dep<8) (hf:o7 g (cN L (cL (ab L g.pos) 0) 15)=false):hJ L (9-g.dep).toNat g=⟨4,void,0,g.kpr,0⟩:=by
 rw[go_eq h0 h8,XQ (by omega),XR h2,kY,XQ (by omega),hf]
 rfl
theorem Aa {L:List Obj} {g:Wk} (h0:0<=g.dep) (h8:g.dep<=8) (h2:(ab L g.pos).kind=2) (h:g.dep<8) (hf:o7 g (cN L (cL (ab L g.pos) 0) 15)=true)
  (hs:¬g.adr.tdiv (aY (cN L (cL (ab L g.pos) 0) 15).value)<14):hJ L (9-g.dep).toNat g=⟨2,void,0,uL (mB g.rts (ab L g.pos).rights) (cN L (cL (ab L g.pos) 0) 14) g.kpr,0⟩:=by
 rw[go_eq h0 h8,XQ (by omega),XR h2,kY,XQ (by omega),hf,XR rfl,XQ hs]
def KS (L:List Obj) (g:Wk):Wk:=⟨cN L (ab L g.pos) (g.adr.tdiv (aY (cN L (cL (ab L g.pos) 0) 15).value)),g.adr.tmod (aY (cN L (cL (ab L g.pos) 0) 15).value),mB g.rts (ab L g.pos).rights,
 uL (mB g.rts (ab L g.pos).rights) (cN L (cL (ab L g.pos) 0) 14) g.kpr,g.dep+1,(cN L (cL (ab L g.pos) 0) 15).value⟩
theorem Qb {L:List Obj} {g:Wk} (h0:0<=g.dep) (h8:g.dep<=8) (h2:(ab L g.pos).kind=2) (h:g.dep<8) (hf:o7 g (cN L (cL (ab L g.pos) 0) 15)=true)
  (hs:g.adr.tdiv (aY (cN L (cL (ab L g.pos) 0) 15).value)<14):hJ L (9-g.dep).toNat g=hJ L (9-(g.dep+1)).toNat (KS L g):=by
 rw[go_eq h0 h8,XQ (by omega),XR h2,kY,XQ (by omega),hf,XR rfl,XR hs]
 have e:(9-(g.dep+1)).toNat=(8-g.dep).toNat:=by omega
 rw[e];rfl
theorem tD {g:Wk} {h:Key}:o7 g h=true↔h.kind=1/\1<=h.value/\h.value<=8/\(g.dep=0\/h.value<g.hi):=by
 simp[o7,and_assoc]
theorem qG {a e:Int} (h0:0<=a) (he:64<=e):0<=a.tdiv e/\a.tdiv e<=a/\0<=a.tmod e/\a.tmod e<=a:=by
 rw[Int.tdiv_eq_ediv_of_nonneg h0,Int.tmod_eq_emod_of_nonneg h0];have h1:=Int.ediv_nonneg h0 (show 0<=e by omega)
 have h2:=Int.ediv_le_self e h0;have h3:=Int.emod_nonneg a (show e≠0 by omega)
 have h4:=Int.emod_add_mul_ediv a e;have h5:=Int.mul_nonneg (show 0<=e by omega) h1
 omega
theorem KX {L:List Obj} {k:Key} {a hi:Int} {g:Wk} (hI:mN L k a hi g) (h2:(ab L g.pos).kind=2) (h:g.dep<8) (hf:o7 g (cN L (cL (ab L g.pos) 0) 15)=true)
  (hs:g.adr.tdiv (aY (cN L (cL (ab L g.pos) 0) 15).value)<14):mN L k a hi (KS L g)/\nU (KS L g)<nU g:=by
 obtain⟨⟨a1,a2⟩,⟨r1,r2⟩,⟨d1,d2⟩,e1,e2,e3⟩:=hI;have hf':=tD.1 hf;have he:=qs (show(cN L (cL (ab L g.pos) 0) 15).value<=9 by omega)
 have hd:=qG a1 he.1;have hp:=nJ (oM L g.pos);have ho:=Te r1 r2 hp.1 hp.2;refine⟨⟨⟨hd.2.2.1,by have:=hd.2.2.2;simp only[KS];omega⟩,ho.2,⟨by simp only[KS];omega,by simp only[KS];omega⟩,fun h=>?_,fun _=>hf'.2.2.1,?_⟩,?_⟩
 ·simp only[KS]at h;omega
 ·rw[<-e3,Qb d1 d2 h2 h hf hs];rfl
 ·unfold nU;simp only[KS];omega
theorem SL {L:List Obj} {k:Key} {a:Int} (x y:Int):hJ L 9 (vF k a x)=hJ L 9 (vF k a y):=by
 show Nl L (8+1) _=Nl L (8+1) _
 unfold Nl;simp only[vF,kY,o7];rfl
theorem VC {L:List Obj} {k:Key} {a:Int} (h:¬a<0) (hi:Int):mN L k a hi (vF k a hi):=
 ⟨⟨by simp only[vF];omega,by simp only[vF];omega⟩,by simp[vF],by simp[vF],fun _=>rfl,fun h=>absurd rfl h,rfl⟩
theorem VJ {L:List Obj} {k:Key} {a hi:Int} {g:Wk} (hI:mN L k a hi g) (hE:de L k a=0):ar L k a=hJ L (9-g.dep).toNat g:=by
 unfold ar;rw[XR hE,hI.2.2.2.2.2];exact SL _ _
theorem wJ {L:List Obj} {k:Key} {a e:Int} (h:de L k a=e) (he:e≠0):void=bV (ar L k a)/\0=bU (ar L k a)/\void=cO (ar L k a)/\0=dc (ar L k a)/\0=ei (ar L k a)/\void=e9 (ar L k a)/\0=fa (ar L k a) a/\e=de L k a:=by
 have:ar L k a=Un:=by unfold ar;rw[XQ (by omega)]
 rw[this,h];exact⟨rfl,rfl,rfl,rfl,rfl,rfl,rfl,rfl⟩
theorem oY {L:List Obj} {k:Key} {a hi d:Int} {g:Wk} {p:Key} (hI:mN L k a hi g) (hE:de L k a=0) (h:hJ L (9-g.dep).toNat g=⟨d,void,0,p,0⟩) (hd:d≠0):
  void=bV (ar L k a)/\0=bU (ar L k a)/\void=cO (ar L k a)/\0=dc (ar L k a)/\d=ei (ar L k a)/\p=e9 (ar L k a)/\a=fa (ar L k a) a/\0=de L k a:=by
 rw[VJ hI hE,h,hE];simp only[bV,bU,cO,dc,ei,e9,fa,XQ hd];simp
theorem E7 {L:List Obj} {k:Key} {a hi ad dp:Int} {g:Wk} {q p:Key} (hI:mN L k a hi g) (hE:de L k a=0) (h:hJ L (9-g.dep).toNat g=⟨0,q,ad,p,dp⟩):
  q=bV (ar L k a)/\ad=bU (ar L k a)/\p=cO (ar L k a)/\dp=dc (ar L k a)/\0=ei (ar L k a)/\void=e9 (ar L k a)/\0=fa (ar L k a) a/\0=de L k a:=by
 rw[VJ hI hE,h,hE];exact⟨rfl,rfl,rfl,rfl,rfl,rfl,rfl,rfl⟩
theorem zW (L:List Obj) (v:Key):(!decide (bD v=0)||bg v&&decide (ak L<=cR v))= !cZ L v:=by
 rw[<-AB]
 have:decide (ak L<=cR v)= !decide (cR v<ak L):=by
  rw[Bool.eq_iff_iff];simp
 rw[this];cases decide (bD v=0)<;>cases bg v<;>cases decide (cR v<ak L)<;>rfl
theorem VI {L:List Obj} {k:Key} {a:Int} (h:decide (ak L=0)=true):de L k a=1:=by
 have h:=XO h;unfold ak at h;unfold de;rw[XR (by omega)]
theorem Oc {L:List Obj} {k:Key} {a:Int} (h:decide (ak L=0)=false):de L k a=if cZ L k then(if a<0 then 4 else 0)else 2:=by
 have h:=XN h;unfold ak at h;unfold de;rw[XQ (by omega)]
theorem OM {L:List Obj} {k:Key} (hk:aT k=true) (hL:0<L.length):(k.kind=1->ab L k=k)/\(k.kind≠1->(ab L k).kind≠1):=by
 refine⟨fun h=>?_,fun h=>?_⟩
 ·unfold ab;rw[XQ]
  have hs:bC L=false:=by
   unfold bC aj;rw[decide_eq_false];omega
  have hn:bg k=false:=by unfold bg dH;rw[h,hk];rfl
  rw[hs,hk,hn];simp
 ·unfold ab;split
  ·simp[void]
  ·exact h
end Go.Sx
namespace Go.Sx
def bR (L:List Obj) (k:Key) (a n:Int):Int:=if de L k a=0 then(if n<0\/64<n then 4 else 0)else de L k a
def bH (L:List Obj) (k:Key) (a n:Int) (w:Bool):Int:=if bR L k a n=0 then(if(ar L k a).kd=0 then(if 64<(ar L k a).adr+n then 5 else if(w&& !decide ((ar L k a).pos.rights=0))=true then 6 else 0)else(ar L k a).kd)else 0
def eU (L:List Obj) (k:Key) (a n:Int) (w:Bool):Key:=if bH L k a n w=0 then void else(ar L k a).kpr
def eL (L:List Obj) (k:Key) (a n:Int) (w:Bool):Int:=if bH L k a n w=0 then 0 else a
def kH (L:List Obj) (k:Key) (a n:Int) (w:Bool):Bool:=decide (bR L k a n=0)&&decide (bH L k a n w=0)
def bz (L:List Obj) (k:Key) (a n:Int) (w:Bool):Wr:=if kH L k a n w=true then ar L k a else Un
def Tp (L:List Obj) (k:Key) (a n:Int) (w:Bool):V:= .ag [.it .i64 (bH L k a n w),.key (eU L k a n w),.it .i64 (eL L k a n w)]
def jz (L:List Obj) (k:Key) (a n:Int):ByteArray:=if kH L k a n false=true then dO L (bV (bz L k a n false)) (bU (bz L k a n false)) n else⟨#[]⟩
def ju (L:List Obj) (k:Key) (a:Int) (s:ByteArray):List Obj:=if kH L k a (cc s) true=true then ea L (bV (bz L k a (cc s) true)) (bU (bz L k a (cc s) true)) s else L
def UE (L:List Obj) (k:Key) (a n:Int) (w:Bool):V:= .tp [VY (bz L k a n w),Tp L k a n w,.it .i64 (bR L k a n)]
def Ux:Ct:=tB (bk sA (bk kA (bk iA (bk iA (bk bA iI))))) (fun _=>none) fun x=>UE (D9 x.1) x.2.1 x.2.2.1 x.2.2.2.1 x.2.2.2.2.1
def SZ:Ct:=tB (bk A6 (bk kA (bk iA (bk iA (bk bA iI))))) (fun x=>some (aq x.1)) fun x=>UE x.1 x.2.1 x.2.2.1 x.2.2.2.1 x.2.2.2.2.1
def jl (L:List Obj) (k:Key) (i:Int) (s:ByteArray):Bool:=decide (cm L k i s=0)
def UU:kz:=yW yL (fun L x=>aq L/\aA x.2.2) (fun L x=>jl L x.1 x.2.1 x.2.2) (fun L x=>ea L x.1 x.2.1 x.2.2) fun L x=> [.it .i64 (cm L x.1 x.2.1 x.2.2)]
def Xd:Ct:=tB (bk sA (bk kA (bk iA (bk iA iI)))) (fun _=>none) fun x=> .tp [.st (jz (D9 x.1) x.2.1 x.2.2.1 x.2.2.2.1),Tp (D9 x.1) x.2.1 x.2.2.1 x.2.2.2.1 false,.it .i64 (bR (D9 x.1) x.2.1 x.2.2.1 x.2.2.2.1)]
def VM:Ct:=tB (bk A6 (bk kA (bk iA (bk iA iI)))) (fun x=>some (aq x.1)) fun x=> .tp [.st (jz x.1 x.2.1 x.2.2.1 x.2.2.2.1),Tp x.1 x.2.1 x.2.2.1 x.2.2.2.1 false,.it .i64 (bR x.1 x.2.1 x.2.2.1 x.2.2.2.1)]
def VR:kz:=Wl yL (fun x=>aA x.2.2) (fun L x=>aq L/\aA x.2.2) (fun L x=> .tp [Tp L x.1 x.2.1 (cc x.2.2) true,.it .i64 (bR L x.1 x.2.1 (cc x.2.2))]) fun L x=>ju L x.1 x.2.1 x.2.2
def Vu:kz:=yW yL (fun L x=>aq L/\aA x.2.2) (fun L x=>kH L x.1 x.2.1 (cc x.2.2) true) (fun L x=>ju L x.1 x.2.1 x.2.2) fun L x=> [Tp L x.1 x.2.1 (cc x.2.2) true,.it .i64 (bR L x.1 x.2.1 (cc x.2.2))]
theorem O9 {L:List Obj} {k:Key} {r:Int} (h:aU L k=true) (h3:k.kind=3):aU L (nw r k)=true/\(nw r k).kind=3:=by
 unfold nw;split
 ·exact⟨h,h3⟩
 ·refine⟨?_,h3⟩;have hk:=(dB h).1;have hm:eN k.kind=1:=by rw[h3];rfl
  have hk':aT (cL k 1)=true:=by
   have hk1:=hk;simp only[aT,XK,XL]at hk1⊢;obtain⟨⟨⟨⟨⟨⟨⟨x1,x2⟩,x3⟩,x4⟩,x5⟩,x6⟩,x7⟩,x8⟩:=hk1;exact⟨⟨⟨⟨⟨⟨⟨x1,x2⟩,by show(0:Int)<=1;omega⟩,by show 1<=eN k.kind;omega⟩,x5⟩,x6⟩,x7⟩,x8⟩
  have hn:aX (cL k 1)=aX k:=by unfold aX;rw[hk,hk'];rfl
  have hw:fN (cL k 1)=fN k:=by unfold fN;rw[hn];rfl
  have hc:∀o,b7 (cL k 1) o=b7 k o:=fun o=>by unfold b7;rw[hn,hw,hk,hk'];rfl
  have hd:bg (cL k 1)=bg k:=by unfold bg;rw[hk,hk'];rfl
  unfold aU at h⊢;rw[hd,hc];exact h
theorem E6 {L:List Obj}:∀(n:Nat) (w:Wk),0<=w.adr->(hJ L n w).kd=0->(aU L (hJ L n w).pos=true/\(hJ L n w).pos.kind=3)/\0<=(hJ L n w).adr/\(hJ L n w).adr<64
 |0,w,_,h=>absurd h (by show¬(3:Int)=0;omega)
 |n+1,w,ha,h=>by
  unfold hJ Nl at h⊢;split at h
  ·rename_i h3;split at h
   ·rename_i hlt;rw[XR h3,XR hlt];obtain⟨pe,pi⟩:=An (.inr h3);rw[pe]at h3⊢;exact⟨O9 pi h3,ha,hlt⟩
   ·exact absurd h (by show¬(2:Int)=0;omega)
  ·rename_i h3;rw[XQ h3];split at h
   ·rename_i h2;rw[XR h2];split at h
    ·rename_i r hr;unfold kY at hr;split at hr
     ·simp only[XJ,and_true]at hr;subst hr;exact absurd h (by show¬(3:Int)=0;omega)
     ·split at hr
      ·split at hr<;>simp only[XJ,and_true,reduceCtorEq,and_false]at hr
       subst hr;exact absurd h (by show¬(2:Int)=0;omega)
      ·simp only[XJ,and_true]at hr;subst hr;exact absurd h (by show¬(4:Int)=0;omega)
    ·rename_i r w' hr;refine E6 n w' ?_ h;unfold kY at hr;split at hr
     ·simp at hr
     ·split at hr
      ·rename_i hf;split at hr<;>simp only[XJ,XI,reduceCtorEq,and_false]at hr
       obtain⟨_,rfl⟩:=hr;have hf':=tD.1 hf;have he:=qs (show(cN L (cL (ab L w.pos) 0) 15).value<=9 by omega)
       exact(qG ha he.1).2.2.1
      ·simp at hr
   ·exact absurd h (by show¬(1:Int)=0;omega)
theorem Eh {L:List Obj} {k:Key} {a:Int} (hE:de L k a=0) (h:(ar L k a).kd=0):(aU L (ar L k a).pos=true/\(ar L k a).pos.kind=3)/\0<=(ar L k a).adr/\(ar L k a).adr<64:=by
 have ha:0<=a:=by
  unfold de at hE;split at hE
  ·omega
  ·split at hE
   ·split at hE<;>omega
   ·omega
 unfold ar at h⊢;rw[XR hE]at h⊢;exact E6 9 _ ha h
theorem rJ {L:List Obj} {k:Key} {a n:Int} {w:Bool}:(!decide (bR L k a n=0)|| !decide (bH L k a n w=0))= !kH L k a n w:=by
 unfold kH;cases decide (bR L k a n=0)<;>cases decide (bH L k a n w=0)<;>rfl
theorem r7 {L:List Obj} {k:Key} {a n:Int} {w:Bool} (h:kH L k a n w=true):bR L k a n=0/\bH L k a n w=0:=by
 unfold kH at h;simpa using h
theorem Mj {L:List Obj} {k:Key} {a n e:Int} (h:de L k a=e) (he:e≠0):bR L k a n=e:=by unfold bR;rw[h,XQ he]
theorem VK {L:List Obj} {k:Key} {a n:Int} (h:de L k a=0) (hr:(decide (n<0)||decide (64<n))=true):bR L k a n=4:=by
 unfold bR;rw[XR h,XR (by simpa using hr)]
theorem TS {L:List Obj} {k:Key} {a n:Int} (h:de L k a=0) (hr:(decide (n<0)||decide (64<n))=false):bR L k a n=0:=by
 unfold bR;rw[XR h,XQ (by simpa using hr)]
theorem xn {L:List Obj} {k:Key} {a n:Int} (h:bR L k a n=0):de L k a=0/\0<=n/\n<=64:=by
 unfold bR at h;split at h
 ·rename_i hw;split at h
  ·omega
  ·exact⟨hw,by omega,by omega⟩
 ·rename_i hw;exact absurd h hw
theorem R3 {L:List Obj} {k:Key} {a n:Int} {w:Bool} (h:kH L k a n w=true):de L k a=0/\(ar L k a).kd=0/\0<=n/\(ar L k a).adr+n<=64/\(w=true->(ar L k a).pos.rights=0):=by
 unfold kH at h;rw[XK,XL,XL]at h;obtain⟨hE,hF⟩:=h;obtain⟨h1,h2,h3⟩:=xn hE;unfold bH at hF;rw[XR hE]at hF;split at hF
 ·rename_i hk;split at hF
  ·omega
  ·split at hF
   ·omega
   ·rename_i h4 h5;exact⟨h1,hk,h2,by omega,fun hw=>by rw[hw]at h5;simpa using h5⟩
 ·rename_i hk;exact absurd hF hk
theorem oT {L:List Obj} {k:Key} {a n e:Int} {w:Bool} (h:bR L k a n=e) (he:e≠0):void=bV (bz L k a n w)/\0=bU (bz L k a n w)/\void=cO (bz L k a n w)/\0=dc (bz L k a n w)/\0=bH L k a n w/\void=eU L k a n w/\0=eL L k a n w/\e=bR L k a n:=by
 have hF:bH L k a n w=0:=by unfold bH;rw[h,XQ he]
 have hC:kH L k a n w=false:=by unfold kH;rw[h,decide_eq_false he];rfl
 unfold bz eU eL;rw[hC,hF,h];exact⟨rfl,rfl,rfl,rfl,rfl,rfl,rfl,rfl⟩
theorem qv {L:List Obj} {k:Key} {a n d:Int} {w:Bool} (hE:bR L k a n=0) (h:bH L k a n w=d) (hd:d≠0):void=bV (bz L k a n w)/\0=bU (bz L k a n w)/\void=cO (bz L k a n w)/\0=dc (bz L k a n w)/\d=bH L k a n w/\(ar L k a).kpr=eU L k a n w/\a=eL L k a n w/\0=bR L k a n:=by
 have hC:kH L k a n w=false:=by unfold kH;rw[h,decide_eq_false hd,Bool.and_false]
 unfold bz eU eL;rw[hC,h,hE,XQ hd,XQ hd];exact⟨rfl,rfl,rfl,rfl,rfl,rfl,rfl,rfl⟩
theorem Ff {L:List Obj} {k:Key} {a n:Int} {w:Bool} (hE:bR L k a n=0) (h:bH L k a n w=0):bV (ar L k a)=bV (bz L k a n w)/\bU (ar L k a)=bU (bz L k a n w)/\cO (ar L k a)=cO (bz L k a n w)/\dc (ar L k a)=dc (bz L k a n w)/\0=bH L k a n w/\void=eU L k a n w/\0=eL L k a n w/\0=bR L k a n:=by
 have hC:kH L k a n w=true:=by unfold kH;rw[h,hE];rfl
 unfold bz eU eL;rw[hC,h,hE];exact⟨rfl,rfl,rfl,rfl,rfl,rfl,rfl,rfl⟩
theorem JM {r:Wr} (h:r.kd=0):bV r=r.pos/\bU r=r.adr/\cO r=r.kpr:=by
 unfold bV bU cO;rw[XR h,XR h,XR h];exact⟨rfl,rfl,rfl⟩
theorem Uv {r:Wr} {a:Int} (h:r.kd≠0):ei r=r.kd/\e9 r=r.kpr/\fa r a=a:=by
 unfold e9 fa;rw[XQ h,XQ h];exact⟨rfl,rfl,rfl⟩
theorem Va {L:List Obj} {k:Key} {a n:Int} {w:Bool} (hE:bR L k a n=0) (h:(ar L k a).kd≠0):bH L k a n w=(ar L k a).kd:=by unfold bH;rw[XR hE,XQ h]
theorem U4 {L:List Obj} {k:Key} {a n:Int} {w:Bool} (hE:bR L k a n=0) (h:(ar L k a).kd=0) (h5:64<(ar L k a).adr+n):bH L k a n w=5:=by unfold bH;rw[XR hE,XR h,XR h5]
theorem U8 {L:List Obj} {k:Key} {a n:Int} {w:Bool} (hE:bR L k a n=0) (h:(ar L k a).kd=0) (h5:¬64<(ar L k a).adr+n) (h6:(w&& !decide ((ar L k a).pos.rights=0))=true):bH L k a n w=6:=by unfold bH;rw[XR hE,XR h,XQ h5,XR h6]
theorem V0 {L:List Obj} {k:Key} {a n:Int} {w:Bool} (hE:bR L k a n=0) (h:(ar L k a).kd=0) (h5:¬64<(ar L k a).adr+n) (h6:(w&& !decide ((ar L k a).pos.rights=0))=false):bH L k a n w=0:=by unfold bH;rw[XR hE,XR h,XQ h5,XQ (by rw[h6];simp)]
theorem MY {L:List Obj} {k:Key} {a n:Int} {w:Bool} (h:kH L k a n w=true):(aU L (bV (bz L k a n w))=true/\(bV (bz L k a n w)).kind=3)/\aS L (bV (bz L k a n w)) w=0/\bY (bU (bz L k a n w)) n=true:=by
 obtain⟨h1,h2,h3,h4,h5⟩:=R3 h;obtain⟨⟨e1,e2⟩,e3,e4⟩:=Eh h1 h2;obtain⟨f1,f2,_⟩:=JM h2;unfold bz;rw[XR h,f1,f2];have hl:=dB e1
 have hA:aw L (ar L k a).pos 3 false=0:=by
  unfold aw;rw[XQ (by have:=hl.2.1;have:=hl.2.2.1;unfold aj;omega),XQ (by rw[e1,e2];simp),XQ (by simp)]
 refine⟨⟨e1,e2⟩,?_,mi.2 ⟨e3,h3,by omega,by omega⟩⟩
 unfold aS;rw[XR hA,XQ];cases w
 ·simp
 ·simp[h5 rfl]
theorem Fx {L:List Obj} {k:Key} {i:Int} {s:ByteArray} (hL:aq L):aq (ea L k i s):=by
 unfold ea;split
 ·rename_i h;unfold cm at h;split at h
  ·rename_i hp;obtain⟨a1,a2,_⟩:=lO hp;exact(pR hL a1 a2).2.2
  ·rename_i hp;exact absurd h hp
 ·exact hL
theorem T9 {L:List Obj} {k:Key} {a:Int} {s:ByteArray} (hL:aq L):aq (ju L k a s):=by
 unfold ju;split
 ·exact Fx hL
 ·exact hL
structure XG where
 kind:Int
 num:Int
 root:Key
 adr:Int
 bytes:ByteArray
structure XH where
 hgt:Int
 slot:Int
 rts:Int
 kept:Bool
theorem So {L:List Obj} {k:Key} {a:Int} {s:ByteArray} (h:kH L k a (cc s) true=false):ju L k a s=L:=by unfold ju;rw[h];rfl
end Go.Sx
