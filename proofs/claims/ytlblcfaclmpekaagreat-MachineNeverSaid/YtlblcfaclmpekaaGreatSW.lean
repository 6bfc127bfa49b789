import Derived.Test.YtlblcfaclmpekaaGreatCP
import Derived.Test.YtlblcfaclmpekaaGreatSpP
import Derived.Test.YtlblcfaclmpekaaGreatKS
set_option linter.unusedSimpArgs false
set_option linter.unusedVariables false
namespace Go.Sx
def bp (h:Int):Int:=64*16^(h-1).toNat
def nU (h:Int):Prop:=0<=h/\h<=9
def zT (h g:Int):Prop:=0<=g/\(g=0\/g<=h-1)
def Q6:Ct:=CP (bE iA kz) (fun x=>some (nU x.1)) fun x=> .it .i64 (bp x.1)
structure Wk where
 pos:Key
 adr:Int
 rts:Int
 kpr:Key
 dep:Int
 hi:Int
structure Wr where
 kd:Int
 pos:Key
 adr:Int
 kpr:Key
 dep:Int
def TM:Wr:=⟨0,void,0,void,0⟩
def Uv (r m g:Int):Int:=r+(if 2<=g/\(ju m 1&& !ju r 1)=true then 1 else 0)+(if 4<=g/\(ju m 2&& !ju r 2)=true then 2 else 0)+(if 8<=g/\(ju m 4&& !ju r 4)=true then 4 else 0)
def r8 (r m:Int):Int:=Uv r m 8
def o0 (r:Int) (p:Key):Key:=if r.tmod 4=0 then p else cC p 1
def py (w:Wk) (h:Key):Bool:=decide (h.kind=1)&&decide (1<=h.value)&&decide (h.value<=8)&&(decide (w.dep=0)||decide (h.value<w.hi))
def Cy (r:Int) (k was:Key):Key:=if k.kind=6/\r<4 then k else was
def kJ (L:List Obj) (w:Wk) (p:Key) (h k:Key):Wr×Option Wk:=
 if 8<=w.dep then(⟨3,void,0,w.kpr,0⟩,none)
 else if py w h then
  (if w.adr.tdiv (bp h.value)<14 then(TM,some ⟨ef L p (w.adr.tdiv (bp h.value)),w.adr.tmod (bp h.value),r8 w.rts p.rights,Cy (r8 w.rts p.rights) k w.kpr,w.dep+1,h.value⟩)
   else(⟨2,void,0,Cy (r8 w.rts p.rights) k w.kpr,0⟩,none))
 else(⟨4,void,0,w.kpr,0⟩,none)
def MB (L:List Obj):Nat->Wk->Wr
 |0,w=>⟨3,void,0,w.kpr,0⟩
 |n+1,w=>
  if(ae L w.pos).kind=3 then(if w.adr<64 then⟨0,o0 w.rts (ae L w.pos),w.adr,w.kpr,w.dep⟩else⟨2,void,0,w.kpr,0⟩)
  else if(ae L w.pos).kind=2 then match kJ L w (ae L w.pos) (ef L (cC (ae L w.pos) 0) 15) (ef L (cC (ae L w.pos) 0) 14)with
   | (r,none)=>r
   | (_,some w')=>MB L n w'
  else⟨1,void,0,w.kpr,0⟩
def iu (L:List Obj) (n:Nat) (w:Wk):Wr:=MB L n w
def xK (k:Key) (a hi:Int):Wk:=⟨k,a,0,void,0,hi⟩
def eh (L:List Obj) (k:Key) (a:Int):Int:=if ak L=0 then 1 else if bQ L k then(if a<0 then 4 else 0)else 2
def ay (L:List Obj) (k:Key) (a:Int):Wr:=if eh L k a=0 then iu L 9 (xK k a 0)else TM
def dc (r:Wr):Key:=if r.kd=0 then r.pos else void
def cS (r:Wr):Int:=if r.kd=0 then r.adr else 0
def dD (r:Wr):Key:=if r.kd=0 then r.kpr else void
def dZ (r:Wr):Int:=if r.kd=0 then r.dep else 0
def fY (r:Wr):Key:=if r.kd=0 then void else r.kpr
def fV (r:Wr) (a:Int):Int:=if r.kd=0 then 0 else a
def fo (r:Wr):Int:=r.kd
def U3 (r:Wr):V:= .ag [.key (dc r),.it .i64 (cS r),.key (dD r),.it .i64 (dZ r)]
def VP (r:Wr) (a:Int):V:= .ag [.it .i64 (fo r),.key (fY r),.it .i64 (fV r a)]
def LF (L:List Obj) (k:Key) (a:Int):V:= .tp [U3 (ay L k a),VP (ay L k a) a,.it .i64 (eh L k a)]
abbrev tW:Nat:=296
def WX (s:V) (g:Wk):V:= .ag [s,.key g.pos,.it .i64 g.adr,.it .i64 g.rts,.key g.kpr,.it .i64 g.dep,.it .i64 g.hi,.cb false]
def qP (L:List Obj) (k:Key) (a hi:Int) (g:Wk):Prop:=
 (0<=g.adr/\g.adr<=a)/\(0<=g.rts/\g.rts<=7)/\(0<=g.dep/\g.dep<=8)/\(g.dep=0->g.hi=hi)/\(g.dep≠0->g.hi<=8)/\iu L (9-g.dep).toNat g=iu L 9 (xK k a hi)
def ub (g:Wk):Nat:=(9-g.dep).toNat
def RY:Ct:=CP (bE sA (bE kA (bE iA kz))) (fun _=>none) fun x=>LF (AX x.1) x.2.1 x.2.2.1
def Xa (nid:Nat):V:= .mp nid
def Xg (nid:Nat):List aA:= [.mp .i64 [3,2] [.fn 245 [],.fn 246 []]]
theorem Hi {g:Int} (h:1<=g):bp g*16=bp (g+1):=by
 unfold bp;have e:(g+1-1).toNat=(g-1).toNat+1:=by omega
 rw[e,Int.pow_succ];generalize (16:Int)^(g-1).toNat=x
 omega
theorem rX {h:Int} (hh:h<=1):bp h=64:=by
 unfold bp;have e:(h-1).toNat=0:=by omega
 rw[e];rfl
theorem vv {h:Int} (hh:h<=9):64<=bp h/\bp h<=274877906944:=by
 by_cases h1:h<=1
 ·rw[rX h1];omega
 have:h=2\/h=3\/h=4\/h=5\/h=6\/h=7\/h=8\/h=9:=by omega
 rcases this with rfl|rfl|rfl|rfl|rfl|rfl|rfl|rfl<;>decide
theorem S5:∀r m:Fin 8,aT .or .i64 (r.val:Int) (m.val:Int)=r8 (r.val:Int) (m.val:Int)/\0<=r8 (r.val:Int) (m.val:Int)/\r8 (r.val:Int) (m.val:Int)<=7:=by decide
theorem DE {r:Int} (h0:0<=r) (h1:r<=7):∃x:Fin 8,(x.val:Int)=r:=⟨⟨r.toNat,by omega⟩,by simp;omega⟩
theorem U1 {r m:Int} (h0:0<=r) (h1:r<=7) (m0:0<=m) (m1:m<=7):aT .or .i64 r m=r8 r m/\0<=r8 r m/\r8 r m<=7:=by
 obtain⟨x,rfl⟩:=DE h0 h1;obtain⟨y,rfl⟩:=DE m0 m1;exact S5 x y
theorem L8:∀r:Fin 8,decide (aT .and .i64 (r.val:Int) 4=0)=decide ((r.val:Int)<4):=by decide
theorem VI {r:Int} (h0:0<=r) (h1:r<=7):decide (aT .and .i64 r 4=0)=decide (r<4):=by
 obtain⟨x,rfl⟩:=DE h0 h1;exact L8 x
theorem Er {L:List Obj} {k:Key} (h:(ae L k).kind=2\/(ae L k).kind=3):ae L k=k/\aI L k=true:=by
 unfold ae at h⊢;split at h
 ·simp[void]at h
 ·rename_i hn;rw[Xu hn];refine⟨rfl,?_⟩;simp only[Bool.or_eq_true,Bool.not_eq_true',Xo,not_or,Bool.not_eq_true,not_and]at hn;obtain⟨⟨h1,h2⟩,h3⟩:=hn;have hk:aN k=true:=by simpa using h2
  have:aR k=true:=by
   unfold aR c9;rw[hk];rcases h with h|h<;>simp[h]
  have:=h3 this;simpa using this
theorem Rh {k:Key} (h:aN k=true) (h2:k.kind=2):Key.mk 2 k.oid k.count void.call void.rights void.value=cC k 0:=by
 obtain⟨a,b,c,d,e,f⟩:=k;simp only at h2;subst h2;simp[aN,eO,c9,ft,jl]at h;simp[cC,void];omega
theorem Rf {L:List Obj} {k:Key} (h:aI L k=true) (h2:k.kind=2):aI L (cC k 0)=true:=by
 have hk:=(ej h).1
 have hk':aN (cC k 0)=true:=by
  have hk1:=hk;simp only[aN,Xo,Xp]at hk1⊢;obtain⟨⟨⟨⟨⟨⟨⟨x1,x2⟩,x3⟩,x4⟩,x5⟩,x6⟩,x7⟩,x8⟩:=hk1;exact⟨⟨⟨⟨⟨⟨⟨x1,x2⟩,Int.le_refl 0⟩,by show 0<=ec k.kind;omega⟩,x5⟩,x6⟩,x7⟩,x8⟩
 have hn:bF (cC k 0)=bF k:=by unfold bF;rw[hk,hk'];rfl
 have hw:gK (cC k 0)=gK k:=by unfold gK;rw[hn];rfl
 have hc:∀o,bL (cC k 0) o=bL k o:=fun o=>by unfold bL;rw[hn,hw,hk,hk'];rfl
 have hd:aR (cC k 0)=aR k:=by unfold aR;rw[hk,hk'];rfl
 unfold aI at h⊢;rw[hd,hc];exact h
theorem Db {L:List Obj} {k:Key} {i:Int} (h:aI L k=true) (h2:k.kind=2) (h0:0<=i) (h1:i<16):aH L k i=ef L k i:=by
 have hl:=ej h
 have hA:aQ L k 2 false=0:=by
  unfold aQ;rw[Xu (by have:=hl.2.1;have:=hl.2.2.1;unfold ak;omega),Xu (by rw[h,h2];simp),Xu (by simp)]
 unfold aH cG my;rw[hA,Xv rfl,decide_eq_true h0,decide_eq_true h1];rfl
theorem Jy {L:List Obj} {k:Key} {i:Int} (h:aI L k=true) (h2:k.kind=2) (h0:0<=i) (h1:i<16):aH L (Key.mk 2 k.oid k.count void.call void.rights void.value) i=ef L (cC k 0) i:=by
 rw[Rh (ej h).1 h2];exact Db (Rf h h2) h2 h0 h1
theorem go_eq {L:List Obj} {g:Wk} (h0:0<=g.dep) (h8:g.dep<=8):iu L (9-g.dep).toNat g=
  if(ae L g.pos).kind=3 then(if g.adr<64 then⟨0,o0 g.rts (ae L g.pos),g.adr,g.kpr,g.dep⟩else⟨2,void,0,g.kpr,0⟩)
  else if(ae L g.pos).kind=2 then match kJ L g (ae L g.pos) (ef L (cC (ae L g.pos) 0) 15) (ef L (cC (ae L g.pos) 0) 14)with
   | (r,none)=>r
   | (_,some w')=>iu L (8-g.dep).toNat w'
  else⟨1,void,0,g.kpr,0⟩:=by
 have e:(9-g.dep).toNat=(8-g.dep).toNat+1:=by omega
 rw[e];rfl
theorem Nt {L:List Obj} {g:Wk} (h0:0<=g.dep) (h8:g.dep<=8) (h3:(ae L g.pos).kind≠3) (h2:(ae L g.pos).kind≠2):iu L (9-g.dep).toNat g=⟨1,void,0,g.kpr,0⟩:=by
 rw[go_eq h0 h8,Xu h3,Xu h2]
theorem SV {L:List Obj} {g:Wk} (h0:0<=g.dep) (h8:g.dep<=8) (h3:(ae L g.pos).kind=3) (h:¬g.adr<64):iu L (9-g.dep).toNat g=⟨2,void,0,g.kpr,0⟩:=by
 rw[go_eq h0 h8,Xv h3,Xu h]
theorem FL {L:List Obj} {g:Wk} (h0:0<=g.dep) (h8:g.dep<=8) (h3:(ae L g.pos).kind=3) (h:g.adr<64):iu L (9-g.dep).toNat g=⟨0,o0 g.rts (ae L g.pos),g.adr,g.kpr,g.dep⟩:=by
 rw[go_eq h0 h8,Xv h3,Xv h]
theorem R8 {L:List Obj} {g:Wk} (h0:0<=g.dep) (h8:g.dep<=8) (h2:(ae L g.pos).kind=2) (h:¬g.dep<8):iu L (9-g.dep).toNat g=⟨3,void,0,g.kpr,0⟩:=by
 rw[go_eq h0 h8,Xu (by omega),Xv h2,kJ,Xv (by omega)]
theorem Pk {L:List Obj} {g:Wk} (h0:0<=g.dep) (h8:g.dep<=8) (h2:(ae L g.pos).kind=2) (h:g.dep<8) (hf:py g (ef L (cC (ae L g.pos) 0) 15)=false):iu L (9-g.dep).toNat g=⟨4,void,0,g.kpr,0⟩:=by
 rw[go_eq h0 h8,Xu (by omega),Xv h2,kJ,Xu (by omega),hf]
 rfl
theorem E2 {L:List Obj} {g:Wk} (h0:0<=g.dep) (h8:g.dep<=8) (h2:(ae L g.pos).kind=2) (h:g.dep<8) (hf:py g (ef L (cC (ae L g.pos) 0) 15)=true)
  (hs:¬g.adr.tdiv (bp (ef L (cC (ae L g.pos) 0) 15).value)<14):iu L (9-g.dep).toNat g=⟨2,void,0,Cy (r8 g.rts (ae L g.pos).rights) (ef L (cC (ae L g.pos) 0) 14) g.kpr,0⟩:=by
 rw[go_eq h0 h8,Xu (by omega),Xv h2,kJ,Xu (by omega),hf,Xv rfl,Xu hs]
def MF (L:List Obj) (g:Wk):Wk:=⟨ef L (ae L g.pos) (g.adr.tdiv (bp (ef L (cC (ae L g.pos) 0) 15).value)),g.adr.tmod (bp (ef L (cC (ae L g.pos) 0) 15).value),r8 g.rts (ae L g.pos).rights,
 Cy (r8 g.rts (ae L g.pos).rights) (ef L (cC (ae L g.pos) 0) 14) g.kpr,g.dep+1,(ef L (cC (ae L g.pos) 0) 15).value⟩
theorem P3 {L:List Obj} {g:Wk} (h0:0<=g.dep) (h8:g.dep<=8) (h2:(ae L g.pos).kind=2) (h:g.dep<8) (hf:py g (ef L (cC (ae L g.pos) 0) 15)=true)
  (hs:g.adr.tdiv (bp (ef L (cC (ae L g.pos) 0) 15).value)<14):iu L (9-g.dep).toNat g=iu L (9-(g.dep+1)).toNat (MF L g):=by
 rw[go_eq h0 h8,Xu (by omega),Xv h2,kJ,Xu (by omega),hf,Xv rfl,Xv hs]
 have e:(9-(g.dep+1)).toNat=(8-g.dep).toNat:=by omega
 rw[e];rfl
theorem AD {g:Wk} {h:Key}:py g h=true↔h.kind=1/\1<=h.value/\h.value<=8/\(g.dep=0\/h.value<g.hi):=by
 simp[py,and_assoc]
theorem uf {a e:Int} (h0:0<=a) (he:64<=e):0<=a.tdiv e/\a.tdiv e<=a/\0<=a.tmod e/\a.tmod e<=a:=by
 rw[Int.tdiv_eq_ediv_of_nonneg h0,Int.tmod_eq_emod_of_nonneg h0];have h1:=Int.ediv_nonneg h0 (show 0<=e by omega)
 have h2:=Int.ediv_le_self e h0;have h3:=Int.emod_nonneg a (show e≠0 by omega)
 have h4:=Int.emod_add_mul_ediv a e;have h5:=Int.mul_nonneg (show 0<=e by omega) h1
 omega
theorem Qj {L:List Obj} {k:Key} {a hi:Int} {g:Wk} (hI:qP L k a hi g) (h2:(ae L g.pos).kind=2) (h:g.dep<8) (hf:py g (ef L (cC (ae L g.pos) 0) 15)=true)
  (hs:g.adr.tdiv (bp (ef L (cC (ae L g.pos) 0) 15).value)<14):qP L k a hi (MF L g)/\ub (MF L g)<ub g:=by
 obtain⟨⟨a1,a2⟩,⟨r1,r2⟩,⟨d1,d2⟩,e1,e2,e3⟩:=hI;have hf':=AD.1 hf;have he:=vv (show(ef L (cC (ae L g.pos) 0) 15).value<=9 by omega)
 have hd:=uf a1 he.1;have hp:=pt (oi L g.pos);have ho:=U1 r1 r2 hp.1 hp.2;refine⟨⟨⟨hd.2.2.1,by have:=hd.2.2.2;simp only[MF];omega⟩,ho.2,⟨by simp only[MF];omega,by simp only[MF];omega⟩,fun h=>?_,fun _=>hf'.2.2.1,?_⟩,?_⟩
 ·simp only[MF]at h;omega
 ·rw[<-e3,P3 d1 d2 h2 h hf hs];rfl
 ·unfold ub;simp only[MF];omega
theorem RM {L:List Obj} {k:Key} {a:Int} (x y:Int):iu L 9 (xK k a x)=iu L 9 (xK k a y):=by
 show MB L (8+1) _=MB L (8+1) _
 unfold MB;simp only[xK,kJ,py];rfl
theorem VR {L:List Obj} {k:Key} {a:Int} (h:¬a<0) (hi:Int):qP L k a hi (xK k a hi):=
 ⟨⟨by simp only[xK];omega,by simp only[xK];omega⟩,by simp[xK],by simp[xK],fun _=>rfl,fun h=>absurd rfl h,rfl⟩
theorem T7 {L:List Obj} {k:Key} {a hi:Int} {g:Wk} (hI:qP L k a hi g) (hE:eh L k a=0):ay L k a=iu L (9-g.dep).toNat g:=by
 unfold ay;rw[Xv hE,hI.2.2.2.2.2];exact RM _ _
theorem ED {L:List Obj} {k:Key} {a e:Int} (h:eh L k a=e) (he:e≠0):void=dc (ay L k a)/\0=cS (ay L k a)/\void=dD (ay L k a)/\0=dZ (ay L k a)/\0=fo (ay L k a)/\void=fY (ay L k a)/\0=fV (ay L k a) a/\e=eh L k a:=by
 have:ay L k a=TM:=by unfold ay;rw[Xu (by omega)]
 rw[this,h];exact⟨rfl,rfl,rfl,rfl,rfl,rfl,rfl,rfl⟩
theorem yP {L:List Obj} {k:Key} {a hi d:Int} {g:Wk} {p:Key} (hI:qP L k a hi g) (hE:eh L k a=0) (h:iu L (9-g.dep).toNat g=⟨d,void,0,p,0⟩) (hd:d≠0):
  void=dc (ay L k a)/\0=cS (ay L k a)/\void=dD (ay L k a)/\0=dZ (ay L k a)/\d=fo (ay L k a)/\p=fY (ay L k a)/\a=fV (ay L k a) a/\0=eh L k a:=by
 rw[T7 hI hE,h,hE];simp only[dc,cS,dD,dZ,fo,fY,fV,Xu hd];simp
theorem Qc {L:List Obj} {k:Key} {a hi ad dp:Int} {g:Wk} {q p:Key} (hI:qP L k a hi g) (hE:eh L k a=0) (h:iu L (9-g.dep).toNat g=⟨0,q,ad,p,dp⟩):
  q=dc (ay L k a)/\ad=cS (ay L k a)/\p=dD (ay L k a)/\dp=dZ (ay L k a)/\0=fo (ay L k a)/\void=fY (ay L k a)/\0=fV (ay L k a) a/\0=eh L k a:=by
 rw[T7 hI hE,h,hE];exact⟨rfl,rfl,rfl,rfl,rfl,rfl,rfl,rfl⟩
theorem zb (L:List Obj) (v:Key):(!decide (bg v=0)||aR v&&decide (ah L<=bG v))= !bQ L v:=by
 rw[<-rQ]
 have:decide (ah L<=bG v)= !decide (bG v<ah L):=by
  rw[Bool.eq_iff_iff];simp
 rw[this];cases decide (bg v=0)<;>cases aR v<;>cases decide (bG v<ah L)<;>rfl
theorem Vm {L:List Obj} {k:Key} {a:Int} (h:decide (ah L=0)=true):eh L k a=1:=by
 have h:=Xs h;unfold ah at h;unfold eh;rw[Xv (by omega)]
theorem To {L:List Obj} {k:Key} {a:Int} (h:decide (ah L=0)=false):eh L k a=if bQ L k then(if a<0 then 4 else 0)else 2:=by
 have h:=Xr h;unfold ah at h;unfold eh;rw[Xu (by omega)]
end Go.Sx
namespace Go.Sx
def cD (L:List Obj) (k:Key) (a n:Int):Int:=if eh L k a=0 then(if n<0\/64<n then 4 else 0)else eh L k a
def cx (L:List Obj) (k:Key) (a n:Int) (w:Bool):Int:=if cD L k a n=0 then(if(ay L k a).kd=0 then(if 64<(ay L k a).adr+n then 5 else if(w&& !decide ((ay L k a).pos.rights=0))=true then 6 else 0)else(ay L k a).kd)else 0
def gB (L:List Obj) (k:Key) (a n:Int) (w:Bool):Key:=if cx L k a n w=0 then void else(ay L k a).kpr
def gC (L:List Obj) (k:Key) (a n:Int) (w:Bool):Int:=if cx L k a n w=0 then 0 else a
def uz (L:List Obj) (k:Key) (a n:Int) (w:Bool):Bool:=decide (cD L k a n=0)&&decide (cx L k a n w=0)
def bW (L:List Obj) (k:Key) (a n:Int) (w:Bool):Wr:=if uz L k a n w=true then ay L k a else TM
def Vj (L:List Obj) (k:Key) (a n:Int) (w:Bool):V:= .ag [.it .i64 (cx L k a n w),.key (gB L k a n w),.it .i64 (gC L k a n w)]
def mH (L:List Obj) (k:Key) (a n:Int):ByteArray:=if uz L k a n false=true then dW L (dc (bW L k a n false)) (cS (bW L k a n false)) n else⟨#[]⟩
def mi (L:List Obj) (k:Key) (a:Int) (s:ByteArray):List Obj:=if uz L k a (cE s) true=true then eR L (dc (bW L k a (cE s) true)) (cS (bW L k a (cE s) true)) s else L
def Wc (L:List Obj) (k:Key) (a n:Int) (w:Bool):V:= .tp [U3 (bW L k a n w),Vj L k a n w,.it .i64 (cD L k a n)]
def U5:Ct:=CP (bE sA (bE kA (bE iA (bE iA (bE bA kz))))) (fun _=>none) fun x=>Wc (AX x.1) x.2.1 x.2.2.1 x.2.2.2.1 x.2.2.2.2.1
def VT:Ct:=CP (bE sA (bE kA (bE iA (bE iA kz)))) (fun _=>none) fun x=> .tp [.st (mH (AX x.1) x.2.1 x.2.2.1 x.2.2.2.1),Vj (AX x.1) x.2.1 x.2.2.1 x.2.2.2.1 false,.it .i64 (cD (AX x.1) x.2.1 x.2.2.1 x.2.2.2.1)]
def T8:ng:=Tk Fl (fun x=>aw x.2.2) (fun L x=>aq L/\aw x.2.2) (fun L x=> .tp [Vj L x.1 x.2.1 (cE x.2.2) true,.it .i64 (cD L x.1 x.2.1 (cE x.2.2))]) fun L x=>mi L x.1 x.2.1 x.2.2
theorem PL {L:List Obj} {k:Key} {r:Int} (h:aI L k=true) (h3:k.kind=3):aI L (o0 r k)=true/\(o0 r k).kind=3:=by
 unfold o0;split
 ·exact⟨h,h3⟩
 ·refine⟨?_,h3⟩;have hk:=(ej h).1;have hm:ec k.kind=1:=by rw[h3];rfl
  have hk':aN (cC k 1)=true:=by
   have hk1:=hk;simp only[aN,Xo,Xp]at hk1⊢;obtain⟨⟨⟨⟨⟨⟨⟨x1,x2⟩,x3⟩,x4⟩,x5⟩,x6⟩,x7⟩,x8⟩:=hk1;exact⟨⟨⟨⟨⟨⟨⟨x1,x2⟩,by show(0:Int)<=1;omega⟩,by show 1<=ec k.kind;omega⟩,x5⟩,x6⟩,x7⟩,x8⟩
  have hn:bF (cC k 1)=bF k:=by unfold bF;rw[hk,hk'];rfl
  have hw:gK (cC k 1)=gK k:=by unfold gK;rw[hn];rfl
  have hc:∀o,bL (cC k 1) o=bL k o:=fun o=>by unfold bL;rw[hn,hw,hk,hk'];rfl
  have hd:aR (cC k 1)=aR k:=by unfold aR;rw[hk,hk'];rfl
  unfold aI at h⊢;rw[hd,hc];exact h
theorem Fv {L:List Obj}:∀(n:Nat) (w:Wk),0<=w.adr->(iu L n w).kd=0->(aI L (iu L n w).pos=true/\(iu L n w).pos.kind=3)/\0<=(iu L n w).adr/\(iu L n w).adr<64
 |0,w,_,h=>absurd h (by show¬(3:Int)=0;omega)
 |n+1,w,ha,h=>by
  unfold iu MB at h⊢;split at h
  ·rename_i h3;split at h
   ·rename_i hlt;rw[Xv h3,Xv hlt];obtain⟨pe,pi⟩:=Er (.inr h3);rw[pe]at h3⊢;exact⟨PL pi h3,ha,hlt⟩
   ·exact absurd h (by show¬(2:Int)=0;omega)
  ·rename_i h3;rw[Xu h3];split at h
   ·rename_i h2;rw[Xv h2];split at h
    ·rename_i r hr;unfold kJ at hr;split at hr
     ·simp only[Xn,and_true]at hr;subst hr;exact absurd h (by show¬(3:Int)=0;omega)
     ·split at hr
      ·split at hr<;>simp only[Xn,and_true,reduceCtorEq,and_false]at hr
       subst hr;exact absurd h (by show¬(2:Int)=0;omega)
      ·simp only[Xn,and_true]at hr;subst hr;exact absurd h (by show¬(4:Int)=0;omega)
    ·rename_i r w' hr;refine Fv n w' ?_ h;unfold kJ at hr;split at hr
     ·simp at hr
     ·split at hr
      ·rename_i hf;split at hr<;>simp only[Xn,Xm,reduceCtorEq,and_false]at hr
       obtain⟨_,rfl⟩:=hr;have hf':=AD.1 hf;have he:=vv (show(ef L (cC (ae L w.pos) 0) 15).value<=9 by omega)
       exact(uf ha he.1).2.2.1
      ·simp at hr
   ·exact absurd h (by show¬(1:Int)=0;omega)
theorem S6 {L:List Obj} {k:Key} {a:Int} (hE:eh L k a=0) (h:(ay L k a).kd=0):(aI L (ay L k a).pos=true/\(ay L k a).pos.kind=3)/\0<=(ay L k a).adr/\(ay L k a).adr<64:=by
 have ha:0<=a:=by
  unfold eh at hE;split at hE
  ·omega
  ·split at hE
   ·split at hE<;>omega
   ·omega
 unfold ay at h⊢;rw[Xv hE]at h⊢;exact Fv 9 _ ha h
theorem xC {L:List Obj} {k:Key} {a n:Int} {w:Bool}:(!decide (cD L k a n=0)|| !decide (cx L k a n w=0))= !uz L k a n w:=by
 unfold uz;cases decide (cD L k a n=0)<;>cases decide (cx L k a n w=0)<;>rfl
theorem v7 {L:List Obj} {k:Key} {a n:Int} {w:Bool} (h:uz L k a n w=true):cD L k a n=0/\cx L k a n w=0:=by
 unfold uz at h;simpa using h
theorem PI {L:List Obj} {k:Key} {a n e:Int} (h:eh L k a=e) (he:e≠0):cD L k a n=e:=by unfold cD;rw[h,Xu he]
theorem VY {L:List Obj} {k:Key} {a n:Int} (h:eh L k a=0) (hr:(decide (n<0)||decide (64<n))=true):cD L k a n=4:=by
 unfold cD;rw[Xv h,Xv (by simpa using hr)]
theorem VK {L:List Obj} {k:Key} {a n:Int} (h:eh L k a=0) (hr:(decide (n<0)||decide (64<n))=false):cD L k a n=0:=by
 unfold cD;rw[Xv h,Xu (by simpa using hr)]
theorem CT {L:List Obj} {k:Key} {a n:Int} (h:cD L k a n=0):eh L k a=0/\0<=n/\n<=64:=by
 unfold cD at h;split at h
 ·rename_i hw;split at h
  ·omega
  ·exact⟨hw,by omega,by omega⟩
 ·rename_i hw;exact absurd h hw
theorem s9 {L:List Obj} {k:Key} {a n e:Int} {w:Bool} (h:cD L k a n=e) (he:e≠0):void=dc (bW L k a n w)/\0=cS (bW L k a n w)/\void=dD (bW L k a n w)/\0=dZ (bW L k a n w)/\0=cx L k a n w/\void=gB L k a n w/\0=gC L k a n w/\e=cD L k a n:=by
 have hF:cx L k a n w=0:=by unfold cx;rw[h,Xu he]
 have hC:uz L k a n w=false:=by unfold uz;rw[h,decide_eq_false he];rfl
 unfold bW gB gC;rw[hC,hF,h];exact⟨rfl,rfl,rfl,rfl,rfl,rfl,rfl,rfl⟩
theorem zU {L:List Obj} {k:Key} {a n d:Int} {w:Bool} (hE:cD L k a n=0) (h:cx L k a n w=d) (hd:d≠0):void=dc (bW L k a n w)/\0=cS (bW L k a n w)/\void=dD (bW L k a n w)/\0=dZ (bW L k a n w)/\d=cx L k a n w/\(ay L k a).kpr=gB L k a n w/\a=gC L k a n w/\0=cD L k a n:=by
 have hC:uz L k a n w=false:=by unfold uz;rw[h,decide_eq_false hd,Bool.and_false]
 unfold bW gB gC;rw[hC,h,hE,Xu hd,Xu hd];exact⟨rfl,rfl,rfl,rfl,rfl,rfl,rfl,rfl⟩
theorem Nv {L:List Obj} {k:Key} {a n:Int} {w:Bool} (hE:cD L k a n=0) (h:cx L k a n w=0):dc (ay L k a)=dc (bW L k a n w)/\cS (ay L k a)=cS (bW L k a n w)/\dD (ay L k a)=dD (bW L k a n w)/\dZ (ay L k a)=dZ (bW L k a n w)/\0=cx L k a n w/\void=gB L k a n w/\0=gC L k a n w/\0=cD L k a n:=by
 have hC:uz L k a n w=true:=by unfold uz;rw[h,hE];rfl
 unfold bW gB gC;rw[hC,h,hE];exact⟨rfl,rfl,rfl,rfl,rfl,rfl,rfl,rfl⟩
theorem UQ {r:Wr} (h:r.kd=0):dc r=r.pos/\cS r=r.adr/\dD r=r.kpr:=by
 unfold dc cS dD;rw[Xv h,Xv h,Xv h];exact⟨rfl,rfl,rfl⟩
theorem Wo {r:Wr} {a:Int} (h:r.kd≠0):fo r=r.kd/\fY r=r.kpr/\fV r a=a:=by
 unfold fY fV;rw[Xu h,Xu h];exact⟨rfl,rfl,rfl⟩
theorem VN {L:List Obj} {k:Key} {a n:Int} {w:Bool} (hE:cD L k a n=0) (h:(ay L k a).kd≠0):cx L k a n w=(ay L k a).kd:=by unfold cx;rw[Xv hE,Xu h]
theorem VO {L:List Obj} {k:Key} {a n:Int} {w:Bool} (hE:cD L k a n=0) (h:(ay L k a).kd=0) (h5:64<(ay L k a).adr+n):cx L k a n w=5:=by unfold cx;rw[Xv hE,Xv h,Xv h5]
theorem Wz {L:List Obj} {k:Key} {a n:Int} {w:Bool} (hE:cD L k a n=0) (h:(ay L k a).kd=0) (h5:¬64<(ay L k a).adr+n) (h6:(w&& !decide ((ay L k a).pos.rights=0))=true):cx L k a n w=6:=by unfold cx;rw[Xv hE,Xv h,Xu h5,Xv h6]
theorem VV {L:List Obj} {k:Key} {a n:Int} {w:Bool} (hE:cD L k a n=0) (h:(ay L k a).kd=0) (h5:¬64<(ay L k a).adr+n) (h6:(w&& !decide ((ay L k a).pos.rights=0))=false):cx L k a n w=0:=by unfold cx;rw[Xv hE,Xv h,Xu h5,Xu (by rw[h6];simp)]
theorem EX {L:List Obj} {k:Key} {i:Int} {s:ByteArray} (hL:aq L):aq (eR L k i s):=by
 unfold eR;split
 ·rename_i h;unfold cX at h;split at h
  ·rename_i hp;obtain⟨a1,a2,_⟩:=vQ hp;exact(pP hL a1 a2).2.2
  ·rename_i hp;exact absurd h hp
 ·exact hL
theorem Ra {L:List Obj} {k:Key} {a:Int} {s:ByteArray} (hL:aq L):aq (mi L k a s):=by
 unfold mi;split
 ·exact EX hL
 ·exact hL
structure Xl where
 kind:Int
 num:Int
 root:Key
 adr:Int
 bytes:ByteArray
structure Xi where
 hgt:Int
 slot:Int
 rts:Int
 kept:Bool
end Go.Sx
