import Derived.Test.YtlblcfaclmpekaaGreatCP
import Derived.Test.YtlblcfaclmpekaaGreatSpP
import Derived.Test.YtlblcfaclmpekaaGreatKS
set_option linter.unusedSimpArgs false
set_option linter.unusedVariables false
namespace Go.Sx
def bk (h:Int):Int:=64*16^(h-1).toNat
def nk (h:Int):Prop:=0<=h/\h<=9
def zW (h g:Int):Prop:=0<=g/\(g=0\/g<=h-1)
def P8:Ct:=BW (bD iA kc) (fun x=>some (nk x.1)) fun x=> .it .i64 (bk x.1)
structure Wk where
 pos:Key
 adr:Int
 rts:Int
 kpr:Key
 dep:Int
 hi:Int
structure Wr where
 kd:Int
 pos:Key
 adr:Int
 kpr:Key
 dep:Int
def RE:Wr:=⟨0,void,0,void,0⟩
def R0 (r m g:Int):Int:=r+(if 2<=g/\(jb m 1&& !jb r 1)=true then 1 else 0)+(if 4<=g/\(jb m 2&& !jb r 2)=true then 2 else 0)+(if 8<=g/\(jb m 4&& !jb r 4)=true then 4 else 0)
def ri (r m:Int):Int:=R0 r m 8
def oR (r:Int) (p:Key):Key:=if r.tmod 4=0 then p else cg p 1
def oU (w:Wk) (h:Key):Bool:=decide (h.kind=1)&&decide (1<=h.value)&&decide (h.value<=8)&&(decide (w.dep=0)||decide (h.value<w.hi))
def AS (r:Int) (k was:Key):Key:=if k.kind=6/\r<4 then k else was
def j6 (L:List Obj) (w:Wk) (p:Key) (h k:Key):Wr×Option Wk:=
 if 8<=w.dep then(⟨3,void,0,w.kpr,0⟩,none)
 else if oU w h then
  (if w.adr.tdiv (bk h.value)<14 then(RE,some ⟨dT L p (w.adr.tdiv (bk h.value)),w.adr.tmod (bk h.value),ri w.rts p.rights,AS (ri w.rts p.rights) k w.kpr,w.dep+1,h.value⟩)
   else(⟨2,void,0,AS (ri w.rts p.rights) k w.kpr,0⟩,none))
 else(⟨4,void,0,w.kpr,0⟩,none)
def KX (L:List Obj):Nat->Wk->Wr
 |0,w=>⟨3,void,0,w.kpr,0⟩
 |n+1,w=>
  if(ae L w.pos).kind=3 then(if w.adr<64 then⟨0,oR w.rts (ae L w.pos),w.adr,w.kpr,w.dep⟩else⟨2,void,0,w.kpr,0⟩)
  else if(ae L w.pos).kind=2 then match j6 L w (ae L w.pos) (dT L (cg (ae L w.pos) 0) 15) (dT L (cg (ae L w.pos) 0) 14)with
   | (r,none)=>r
   | (_,some w')=>KX L n w'
  else⟨1,void,0,w.kpr,0⟩
def gW (L:List Obj) (n:Nat) (w:Wk):Wr:=KX L n w
def vr (k:Key) (a hi:Int):Wk:=⟨k,a,0,void,0,hi⟩
def dX (L:List Obj) (k:Key) (a:Int):Int:=if ar L=0 then 1 else if bJ L k then(if a<0 then 4 else 0)else 2
def aw (L:List Obj) (k:Key) (a:Int):Wr:=if dX L k a=0 then gW L 9 (vr k a 0)else RE
def cQ (r:Wr):Key:=if r.kd=0 then r.pos else void
def cK (r:Wr):Int:=if r.kd=0 then r.adr else 0
def dh (r:Wr):Key:=if r.kd=0 then r.kpr else void
def dS (r:Wr):Int:=if r.kd=0 then r.dep else 0
def fP (r:Wr):Key:=if r.kd=0 then void else r.kpr
def fM (r:Wr) (a:Int):Int:=if r.kd=0 then 0 else a
def fc (r:Wr):Int:=r.kd
def RY (r:Wr):V:= .ag [.key (cQ r),.it .i64 (cK r),.key (dh r),.it .i64 (dS r)]
def Tr (r:Wr) (a:Int):V:= .ag [.it .i64 (fc r),.key (fP r),.it .i64 (fM r a)]
def GD (L:List Obj) (k:Key) (a:Int):V:= .tp [RY (aw L k a),Tr (aw L k a) a,.it .i64 (dX L k a)]
abbrev tW:Nat:=296
def Ul (s:V) (g:Wk):V:= .ag [s,.key g.pos,.it .i64 g.adr,.it .i64 g.rts,.key g.kpr,.it .i64 g.dep,.it .i64 g.hi,.cb false]
def qf (L:List Obj) (k:Key) (a hi:Int) (g:Wk):Prop:=
 (0<=g.adr/\g.adr<=a)/\(0<=g.rts/\g.rts<=7)/\(0<=g.dep/\g.dep<=8)/\(g.dep=0->g.hi=hi)/\(g.dep≠0->g.hi<=8)/\gW L (9-g.dep).toNat g=gW L 9 (vr k a hi)
def tq (g:Wk):Nat:=(9-g.dep).toNat
def Pe:Ct:=BW (bD sA (bD kA (bD iA kc))) (fun _=>none) fun x=>GD (zY x.1) x.2.1 x.2.2.1
def UE (nid:Nat):V:= .mp nid
def UA (nid:Nat):List aA:= [.mp .i64 [3,2] [.fn 245 [],.fn 246 []]]
theorem EX {g:Int} (h:1<=g):bk g*16=bk (g+1):=by
 unfold bk;have e:(g+1-1).toNat=(g-1).toNat+1:=by omega
 rw[e,Int.pow_succ];generalize (16:Int)^(g-1).toNat=x
 omega
theorem rG {h:Int} (hh:h<=1):bk h=64:=by
 unfold bk;have e:(h-1).toNat=0:=by omega
 rw[e];rfl
theorem u4 {h:Int} (hh:h<=9):64<=bk h/\bk h<=274877906944:=by
 by_cases h1:h<=1
 ·rw[rG h1];omega
 have:h=2\/h=3\/h=4\/h=5\/h=6\/h=7\/h=8\/h=9:=by omega
 rcases this with rfl|rfl|rfl|rfl|rfl|rfl|rfl|rfl<;>decide
theorem PT:∀r m:Fin 8,aS .or .i64 (r.val:Int) (m.val:Int)=ri (r.val:Int) (m.val:Int)/\0<=ri (r.val:Int) (m.val:Int)/\ri (r.val:Int) (m.val:Int)<=7:=by decide
theorem Dh {r:Int} (h0:0<=r) (h1:r<=7):∃x:Fin 8,(x.val:Int)=r:=⟨⟨r.toNat,by omega⟩,by simp;omega⟩
theorem SM {r m:Int} (h0:0<=r) (h1:r<=7) (m0:0<=m) (m1:m<=7):aS .or .i64 r m=ri r m/\0<=ri r m/\ri r m<=7:=by
 obtain⟨x,rfl⟩:=Dh h0 h1;obtain⟨y,rfl⟩:=Dh m0 m1;exact PT x y
theorem Ig:∀r:Fin 8,decide (aS .and .i64 (r.val:Int) 4=0)=decide ((r.val:Int)<4):=by decide
theorem Ud {r:Int} (h0:0<=r) (h1:r<=7):decide (aS .and .i64 r 4=0)=decide (r<4):=by
 obtain⟨x,rfl⟩:=Dh h0 h1;exact Ig x
theorem DB {L:List Obj} {k:Key} (h:(ae L k).kind=2\/(ae L k).kind=3):ae L k=k/\aO L k=true:=by
 unfold ae at h⊢;split at h
 ·simp[void]at h
 ·rename_i hn;rw[UZ hn];refine⟨rfl,?_⟩;simp only[Bool.or_eq_true,Bool.not_eq_true',US,not_or,Bool.not_eq_true,not_and]at hn;obtain⟨⟨h1,h2⟩,h3⟩:=hn;have hk:aP k=true:=by simpa using h2
  have:aN k=true:=by
   unfold aN gm;rw[hk];rcases h with h|h<;>simp[h]
  have:=h3 this;simpa using this
theorem PL {k:Key} (h:aP k=true) (h2:k.kind=2):Key.mk 2 k.oid k.count void.call void.rights void.value=cg k 0:=by
 obtain⟨a,b,c,d,e,f⟩:=k;simp only at h2;subst h2;simp[aP,eT,gm,n9,qj]at h;simp[cg,void];omega
theorem OH {L:List Obj} {k:Key} (h:aO L k=true) (h2:k.kind=2):aO L (cg k 0)=true:=by
 have hk:=(er h).1
 have hk':aP (cg k 0)=true:=by
  have hk1:=hk;simp only[aP,US,UT]at hk1⊢;obtain⟨⟨⟨⟨⟨⟨⟨x1,x2⟩,x3⟩,x4⟩,x5⟩,x6⟩,x7⟩,x8⟩:=hk1;exact⟨⟨⟨⟨⟨⟨⟨x1,x2⟩,Int.le_refl 0⟩,by show 0<=dZ k.kind;omega⟩,x5⟩,x6⟩,x7⟩,x8⟩
 have hn:cF (cg k 0)=cF k:=by unfold cF;rw[hk,hk'];rfl
 have hw:iE (cg k 0)=iE k:=by unfold iE;rw[hn];rfl
 have hc:∀o,b9 (cg k 0) o=b9 k o:=fun o=>by unfold b9;rw[hn,hw,hk,hk'];rfl
 have hd:aN (cg k 0)=aN k:=by unfold aN;rw[hk,hk'];rfl
 unfold aO at h⊢;rw[hd,hc];exact h
theorem Cp {L:List Obj} {k:Key} {i:Int} (h:aO L k=true) (h2:k.kind=2) (h0:0<=i) (h1:i<16):aH L k i=dT L k i:=by
 have hl:=er h
 have hA:aM L k 2 false=0:=by
  unfold aM;rw[UZ (by have:=hl.2.1;have:=hl.2.2.1;unfold ar;omega),UZ (by rw[h,h2];simp),UZ (by simp)]
 unfold aH cA lK;rw[hA,U0 rfl,decide_eq_true h0,decide_eq_true h1];rfl
theorem KG {L:List Obj} {k:Key} {i:Int} (h:aO L k=true) (h2:k.kind=2) (h0:0<=i) (h1:i<16):aH L (Key.mk 2 k.oid k.count void.call void.rights void.value) i=dT L (cg k 0) i:=by
 rw[PL (er h).1 h2];exact Cp (OH h h2) h2 h0 h1
theorem go_eq {L:List Obj} {g:Wk} (h0:0<=g.dep) (h8:g.dep<=8):gW L (9-g.dep).toNat g=
  if(ae L g.pos).kind=3 then(if g.adr<64 then⟨0,oR g.rts (ae L g.pos),g.adr,g.kpr,g.dep⟩else⟨2,void,0,g.kpr,0⟩)
  else if(ae L g.pos).kind=2 then match j6 L g (ae L g.pos) (dT L (cg (ae L g.pos) 0) 15) (dT L (cg (ae L g.pos) 0) 14)with
   | (r,none)=>r
   | (_,some w')=>gW L (8-g.dep).toNat w'
  else⟨1,void,0,g.kpr,0⟩:=by
 have e:(9-g.dep).toNat=(8-g.dep).toNat+1:=by omega
 rw[e];rfl
theorem NH {L:List Obj} {g:Wk} (h0:0<=g.dep) (h8:g.dep<=8) (h3:(ae L g.pos).kind≠3) (h2:(ae L g.pos).kind≠2):gW L (9-g.dep).toNat g=⟨1,void,0,g.kpr,0⟩:=by
 rw[go_eq h0 h8,UZ h3,UZ h2]
theorem O6 {L:List Obj} {g:Wk} (h0:0<=g.dep) (h8:g.dep<=8) (h3:(ae L g.pos).kind=3) (h:¬g.adr<64):gW L (9-g.dep).toNat g=⟨2,void,0,g.kpr,0⟩:=by
 rw[go_eq h0 h8,U0 h3,UZ h]
theorem Eo {L:List Obj} {g:Wk} (h0:0<=g.dep) (h8:g.dep<=8) (h3:(ae L g.pos).kind=3) (h:g.adr<64):gW L (9-g.dep).toNat g=⟨0,oR g.rts (ae L g.pos),g.adr,g.kpr,g.dep⟩:=by
 rw[go_eq h0 h8,U0 h3,U0 h]
theorem Qk {L:List Obj} {g:Wk} (h0:0<=g.dep) (h8:g.dep<=8) (h2:(ae L g.pos).kind=2) (h:¬g.dep<8):gW L (9-g.dep).toNat g=⟨3,void,0,g.kpr,0⟩:=by
 rw[go_eq h0 h8,UZ (by omega),U0 h2,j6,U0 (by omega)]
theorem Ms {L:List Obj} {g:Wk} (h0:0<=g.dep) (h8:g.dep<=8) (h2:(ae L g.pos).kind=2) (h:g.dep<8) (hf:oU g (dT L (cg (ae L g.pos) 0) 15)=false):gW L (9-g.dep).toNat g=⟨4,void,0,g.kpr,0⟩:=by
 rw[go_eq h0 h8,UZ (by omega),U0 h2,j6,UZ (by omega),hf]
 rfl
theorem D3 {L:List Obj} {g:Wk} (h0:0<=g.dep) (h8:g.dep<=8) (h2:(ae L g.pos).kind=2) (h:g.dep<8) (hf:oU g (dT L (cg (ae L g.pos) 0) 15)=true)
  (hs:¬g.adr.tdiv (bk (dT L (cg (ae L g.pos) 0) 15).value)<14):gW L (9-g.dep).toNat g=⟨2,void,0,AS (ri g.rts (ae L g.pos).rights) (dT L (cg (ae L g.pos) 0) 14) g.kpr,0⟩:=by
 rw[go_eq h0 h8,UZ (by omega),U0 h2,j6,UZ (by omega),hf,U0 rfl,UZ hs]
def K2 (L:List Obj) (g:Wk):Wk:=⟨dT L (ae L g.pos) (g.adr.tdiv (bk (dT L (cg (ae L g.pos) 0) 15).value)),g.adr.tmod (bk (dT L (cg (ae L g.pos) 0) 15).value),ri g.rts (ae L g.pos).rights,
 AS (ri g.rts (ae L g.pos).rights) (dT L (cg (ae L g.pos) 0) 14) g.kpr,g.dep+1,(dT L (cg (ae L g.pos) 0) 15).value⟩
theorem Nl {L:List Obj} {g:Wk} (h0:0<=g.dep) (h8:g.dep<=8) (h2:(ae L g.pos).kind=2) (h:g.dep<8) (hf:oU g (dT L (cg (ae L g.pos) 0) 15)=true)
  (hs:g.adr.tdiv (bk (dT L (cg (ae L g.pos) 0) 15).value)<14):gW L (9-g.dep).toNat g=gW L (9-(g.dep+1)).toNat (K2 L g):=by
 rw[go_eq h0 h8,UZ (by omega),U0 h2,j6,UZ (by omega),hf,U0 rfl,U0 hs]
 have e:(9-(g.dep+1)).toNat=(8-g.dep).toNat:=by omega
 rw[e];rfl
theorem zT {g:Wk} {h:Key}:oU g h=true↔h.kind=1/\1<=h.value/\h.value<=8/\(g.dep=0\/h.value<g.hi):=by
 simp[oU,and_assoc]
theorem tv {a e:Int} (h0:0<=a) (he:64<=e):0<=a.tdiv e/\a.tdiv e<=a/\0<=a.tmod e/\a.tmod e<=a:=by
 rw[Int.tdiv_eq_ediv_of_nonneg h0,Int.tmod_eq_emod_of_nonneg h0];have h1:=Int.ediv_nonneg h0 (show 0<=e by omega)
 have h2:=Int.ediv_le_self e h0;have h3:=Int.emod_nonneg a (show e≠0 by omega)
 have h4:=Int.emod_add_mul_ediv a e;have h5:=Int.mul_nonneg (show 0<=e by omega) h1
 omega
theorem Om {L:List Obj} {k:Key} {a hi:Int} {g:Wk} (hI:qf L k a hi g) (h2:(ae L g.pos).kind=2) (h:g.dep<8) (hf:oU g (dT L (cg (ae L g.pos) 0) 15)=true)
  (hs:g.adr.tdiv (bk (dT L (cg (ae L g.pos) 0) 15).value)<14):qf L k a hi (K2 L g)/\tq (K2 L g)<tq g:=by
 obtain⟨⟨a1,a2⟩,⟨r1,r2⟩,⟨d1,d2⟩,e1,e2,e3⟩:=hI;have hf':=zT.1 hf;have he:=u4 (show(dT L (cg (ae L g.pos) 0) 15).value<=9 by omega)
 have hd:=tv a1 he.1;have hp:=o7 (nm L g.pos);have ho:=SM r1 r2 hp.1 hp.2;refine⟨⟨⟨hd.2.2.1,by have:=hd.2.2.2;simp only[K2];omega⟩,ho.2,⟨by simp only[K2];omega,by simp only[K2];omega⟩,fun h=>?_,fun _=>hf'.2.2.1,?_⟩,?_⟩
 ·simp only[K2]at h;omega
 ·rw[<-e3,Nl d1 d2 h2 h hf hs];rfl
 ·unfold tq;simp only[K2];omega
theorem Qz {L:List Obj} {k:Key} {a:Int} (x y:Int):gW L 9 (vr k a x)=gW L 9 (vr k a y):=by
 show KX L (8+1) _=KX L (8+1) _
 unfold KX;simp only[vr,j6,oU];rfl
theorem TZ {L:List Obj} {k:Key} {a:Int} (h:¬a<0) (hi:Int):qf L k a hi (vr k a hi):=
 ⟨⟨by simp only[vr];omega,by simp only[vr];omega⟩,by simp[vr],by simp[vr],fun _=>rfl,fun h=>absurd rfl h,rfl⟩
theorem R9 {L:List Obj} {k:Key} {a hi:Int} {g:Wk} (hI:qf L k a hi g) (hE:dX L k a=0):aw L k a=gW L (9-g.dep).toNat g:=by
 unfold aw;rw[U0 hE,hI.2.2.2.2.2];exact Qz _ _
theorem Dp {L:List Obj} {k:Key} {a e:Int} (h:dX L k a=e) (he:e≠0):void=cQ (aw L k a)/\0=cK (aw L k a)/\void=dh (aw L k a)/\0=dS (aw L k a)/\0=fc (aw L k a)/\void=fP (aw L k a)/\0=fM (aw L k a) a/\e=dX L k a:=by
 have:aw L k a=RE:=by unfold aw;rw[UZ (by omega)]
 rw[this,h];exact⟨rfl,rfl,rfl,rfl,rfl,rfl,rfl,rfl⟩
theorem yz {L:List Obj} {k:Key} {a hi d:Int} {g:Wk} {p:Key} (hI:qf L k a hi g) (hE:dX L k a=0) (h:gW L (9-g.dep).toNat g=⟨d,void,0,p,0⟩) (hd:d≠0):
  void=cQ (aw L k a)/\0=cK (aw L k a)/\void=dh (aw L k a)/\0=dS (aw L k a)/\d=fc (aw L k a)/\p=fP (aw L k a)/\a=fM (aw L k a) a/\0=dX L k a:=by
 rw[R9 hI hE,h,hE];simp only[cQ,cK,dh,dS,fc,fP,fM,UZ hd];simp
theorem On {L:List Obj} {k:Key} {a hi ad dp:Int} {g:Wk} {q p:Key} (hI:qf L k a hi g) (hE:dX L k a=0) (h:gW L (9-g.dep).toNat g=⟨0,q,ad,p,dp⟩):
  q=cQ (aw L k a)/\ad=cK (aw L k a)/\p=dh (aw L k a)/\dp=dS (aw L k a)/\0=fc (aw L k a)/\void=fP (aw L k a)/\0=fM (aw L k a) a/\0=dX L k a:=by
 rw[R9 hI hE,h,hE];exact⟨rfl,rfl,rfl,rfl,rfl,rfl,rfl,rfl⟩
theorem xi (L:List Obj) (v:Key):(!decide (bM v=0)||aN v&&decide (ah L<=bE v))= !bJ L v:=by
 rw[<-rN]
 have:decide (ah L<=bE v)= !decide (bE v<ah L):=by
  rw[Bool.eq_iff_iff];simp
 rw[this];cases decide (bM v=0)<;>cases aN v<;>cases decide (bE v<ah L)<;>rfl
theorem Th {L:List Obj} {k:Key} {a:Int} (h:decide (ah L=0)=true):dX L k a=1:=by
 have h:=UX h;unfold ah at h;unfold dX;rw[U0 (by omega)]
theorem Q9 {L:List Obj} {k:Key} {a:Int} (h:decide (ah L=0)=false):dX L k a=if bJ L k then(if a<0 then 4 else 0)else 2:=by
 have h:=UW h;unfold ah at h;unfold dX;rw[UZ (by omega)]
end Go.Sx
namespace Go.Sx
def ck (L:List Obj) (k:Key) (a n:Int):Int:=if dX L k a=0 then(if n<0\/64<n then 4 else 0)else dX L k a
def b8 (L:List Obj) (k:Key) (a n:Int) (w:Bool):Int:=if ck L k a n=0 then(if(aw L k a).kd=0 then(if 64<(aw L k a).adr+n then 5 else if(w&& !decide ((aw L k a).pos.rights=0))=true then 6 else 0)else(aw L k a).kd)else 0
def gi (L:List Obj) (k:Key) (a n:Int) (w:Bool):Key:=if b8 L k a n w=0 then void else(aw L k a).kpr
def gk (L:List Obj) (k:Key) (a n:Int) (w:Bool):Int:=if b8 L k a n w=0 then 0 else a
def tx (L:List Obj) (k:Key) (a n:Int) (w:Bool):Bool:=decide (ck L k a n=0)&&decide (b8 L k a n w=0)
def bQ (L:List Obj) (k:Key) (a n:Int) (w:Bool):Wr:=if tx L k a n w=true then aw L k a else RE
def Tg (L:List Obj) (k:Key) (a n:Int) (w:Bool):V:= .ag [.it .i64 (b8 L k a n w),.key (gi L k a n w),.it .i64 (gk L k a n w)]
def me (L:List Obj) (k:Key) (a n:Int):ByteArray:=if tx L k a n false=true then dN L (cQ (bQ L k a n false)) (cK (bQ L k a n false)) n else⟨#[]⟩
def mS (L:List Obj) (k:Key) (a:Int) (s:ByteArray):List Obj:=if tx L k a (ca s) true=true then eW L (cQ (bQ L k a (ca s) true)) (cK (bQ L k a (ca s) true)) s else L
def Tt (L:List Obj) (k:Key) (a n:Int) (w:Bool):V:= .tp [RY (bQ L k a n w),Tg L k a n w,.it .i64 (ck L k a n)]
def RA:Ct:=BW (bD sA (bD kA (bD iA (bD iA (bD bA kc))))) (fun _=>none) fun x=>Tt (zY x.1) x.2.1 x.2.2.1 x.2.2.2.1 x.2.2.2.2.1
def Tx:Ct:=BW (bD sA (bD kA (bD iA (bD iA kc)))) (fun _=>none) fun x=> .tp [.st (me (zY x.1) x.2.1 x.2.2.1 x.2.2.2.1),Tg (zY x.1) x.2.1 x.2.2.1 x.2.2.2.1 false,.it .i64 (ck (zY x.1) x.2.1 x.2.2.1 x.2.2.2.1)]
def RC:nf:=Q6 EF (fun x=>au x.2.2) (fun L x=>an L/\au x.2.2) (fun L x=> .tp [Tg L x.1 x.2.1 (ca x.2.2) true,.it .i64 (ck L x.1 x.2.1 (ca x.2.2))]) fun L x=>mS L x.1 x.2.1 x.2.2
theorem Md {L:List Obj} {k:Key} {r:Int} (h:aO L k=true) (h3:k.kind=3):aO L (oR r k)=true/\(oR r k).kind=3:=by
 unfold oR;split
 ·exact⟨h,h3⟩
 ·refine⟨?_,h3⟩;have hk:=(er h).1;have hm:dZ k.kind=1:=by rw[h3];rfl
  have hk':aP (cg k 1)=true:=by
   have hk1:=hk;simp only[aP,US,UT]at hk1⊢;obtain⟨⟨⟨⟨⟨⟨⟨x1,x2⟩,x3⟩,x4⟩,x5⟩,x6⟩,x7⟩,x8⟩:=hk1;exact⟨⟨⟨⟨⟨⟨⟨x1,x2⟩,by show(0:Int)<=1;omega⟩,by show 1<=dZ k.kind;omega⟩,x5⟩,x6⟩,x7⟩,x8⟩
  have hn:cF (cg k 1)=cF k:=by unfold cF;rw[hk,hk'];rfl
  have hw:iE (cg k 1)=iE k:=by unfold iE;rw[hn];rfl
  have hc:∀o,b9 (cg k 1) o=b9 k o:=fun o=>by unfold b9;rw[hn,hw,hk,hk'];rfl
  have hd:aN (cg k 1)=aN k:=by unfold aN;rw[hk,hk'];rfl
  unfold aO at h⊢;rw[hd,hc];exact h
theorem EC {L:List Obj}:∀(n:Nat) (w:Wk),0<=w.adr->(gW L n w).kd=0->(aO L (gW L n w).pos=true/\(gW L n w).pos.kind=3)/\0<=(gW L n w).adr/\(gW L n w).adr<64
 |0,w,_,h=>absurd h (by show¬(3:Int)=0;omega)
 |n+1,w,ha,h=>by
  unfold gW KX at h⊢;split at h
  ·rename_i h3;split at h
   ·rename_i hlt;rw[U0 h3,U0 hlt];obtain⟨pe,pi⟩:=DB (.inr h3);rw[pe]at h3⊢;exact⟨Md pi h3,ha,hlt⟩
   ·exact absurd h (by show¬(2:Int)=0;omega)
  ·rename_i h3;rw[UZ h3];split at h
   ·rename_i h2;rw[U0 h2];split at h
    ·rename_i r hr;unfold j6 at hr;split at hr
     ·simp only[UR,and_true]at hr;subst hr;exact absurd h (by show¬(3:Int)=0;omega)
     ·split at hr
      ·split at hr<;>simp only[UR,and_true,reduceCtorEq,and_false]at hr
       subst hr;exact absurd h (by show¬(2:Int)=0;omega)
      ·simp only[UR,and_true]at hr;subst hr;exact absurd h (by show¬(4:Int)=0;omega)
    ·rename_i r w' hr;refine EC n w' ?_ h;unfold j6 at hr;split at hr
     ·simp at hr
     ·split at hr
      ·rename_i hf;split at hr<;>simp only[UR,UQ,reduceCtorEq,and_false]at hr
       obtain⟨_,rfl⟩:=hr;have hf':=zT.1 hf;have he:=u4 (show(dT L (cg (ae L w.pos) 0) 15).value<=9 by omega)
       exact(tv ha he.1).2.2.1
      ·simp at hr
   ·exact absurd h (by show¬(1:Int)=0;omega)
theorem Pq {L:List Obj} {k:Key} {a:Int} (hE:dX L k a=0) (h:(aw L k a).kd=0):(aO L (aw L k a).pos=true/\(aw L k a).pos.kind=3)/\0<=(aw L k a).adr/\(aw L k a).adr<64:=by
 have ha:0<=a:=by
  unfold dX at hE;split at hE
  ·omega
  ·split at hE
   ·split at hE<;>omega
   ·omega
 unfold aw at h⊢;rw[U0 hE]at h⊢;exact EC 9 _ ha h
theorem vL {L:List Obj} {k:Key} {a n:Int} {w:Bool}:(!decide (ck L k a n=0)|| !decide (b8 L k a n w=0))= !tx L k a n w:=by
 unfold tx;cases decide (ck L k a n=0)<;>cases decide (b8 L k a n w=0)<;>rfl
theorem wa {L:List Obj} {k:Key} {a n:Int} {w:Bool} (h:tx L k a n w=true):ck L k a n=0/\b8 L k a n w=0:=by
 unfold tx at h;simpa using h
theorem NC {L:List Obj} {k:Key} {a n e:Int} (h:dX L k a=e) (he:e≠0):ck L k a n=e:=by unfold ck;rw[h,UZ he]
theorem Tw {L:List Obj} {k:Key} {a n:Int} (h:dX L k a=0) (hr:(decide (n<0)||decide (64<n))=true):ck L k a n=4:=by
 unfold ck;rw[U0 h,U0 (by simpa using hr)]
theorem TC {L:List Obj} {k:Key} {a n:Int} (h:dX L k a=0) (hr:(decide (n<0)||decide (64<n))=false):ck L k a n=0:=by
 unfold ck;rw[U0 h,UZ (by simpa using hr)]
theorem CL {L:List Obj} {k:Key} {a n:Int} (h:ck L k a n=0):dX L k a=0/\0<=n/\n<=64:=by
 unfold ck at h;split at h
 ·rename_i hw;split at h
  ·omega
  ·exact⟨hw,by omega,by omega⟩
 ·rename_i hw;exact absurd h hw
theorem rY {L:List Obj} {k:Key} {a n e:Int} {w:Bool} (h:ck L k a n=e) (he:e≠0):void=cQ (bQ L k a n w)/\0=cK (bQ L k a n w)/\void=dh (bQ L k a n w)/\0=dS (bQ L k a n w)/\0=b8 L k a n w/\void=gi L k a n w/\0=gk L k a n w/\e=ck L k a n:=by
 have hF:b8 L k a n w=0:=by unfold b8;rw[h,UZ he]
 have hC:tx L k a n w=false:=by unfold tx;rw[h,decide_eq_false he];rfl
 unfold bQ gi gk;rw[hC,hF,h];exact⟨rfl,rfl,rfl,rfl,rfl,rfl,rfl,rfl⟩
theorem yX {L:List Obj} {k:Key} {a n d:Int} {w:Bool} (hE:ck L k a n=0) (h:b8 L k a n w=d) (hd:d≠0):void=cQ (bQ L k a n w)/\0=cK (bQ L k a n w)/\void=dh (bQ L k a n w)/\0=dS (bQ L k a n w)/\d=b8 L k a n w/\(aw L k a).kpr=gi L k a n w/\a=gk L k a n w/\0=ck L k a n:=by
 have hC:tx L k a n w=false:=by unfold tx;rw[h,decide_eq_false hd,Bool.and_false]
 unfold bQ gi gk;rw[hC,h,hE,UZ hd,UZ hd];exact⟨rfl,rfl,rfl,rfl,rfl,rfl,rfl,rfl⟩
theorem NX {L:List Obj} {k:Key} {a n:Int} {w:Bool} (hE:ck L k a n=0) (h:b8 L k a n w=0):cQ (aw L k a)=cQ (bQ L k a n w)/\cK (aw L k a)=cK (bQ L k a n w)/\dh (aw L k a)=dh (bQ L k a n w)/\dS (aw L k a)=dS (bQ L k a n w)/\0=b8 L k a n w/\void=gi L k a n w/\0=gk L k a n w/\0=ck L k a n:=by
 have hC:tx L k a n w=true:=by unfold tx;rw[h,hE];rfl
 unfold bQ gi gk;rw[hC,h,hE];exact⟨rfl,rfl,rfl,rfl,rfl,rfl,rfl,rfl⟩
theorem Sj {r:Wr} (h:r.kd=0):cQ r=r.pos/\cK r=r.adr/\dh r=r.kpr:=by
 unfold cQ cK dh;rw[U0 h,U0 h,U0 h];exact⟨rfl,rfl,rfl⟩
theorem TA {r:Wr} {a:Int} (h:r.kd≠0):fc r=r.kd/\fP r=r.kpr/\fM r a=a:=by
 unfold fP fM;rw[UZ h,UZ h];exact⟨rfl,rfl,rfl⟩
theorem Uf {L:List Obj} {k:Key} {a n:Int} {w:Bool} (hE:ck L k a n=0) (h:(aw L k a).kd≠0):b8 L k a n w=(aw L k a).kd:=by unfold b8;rw[U0 hE,UZ h]
theorem Ua {L:List Obj} {k:Key} {a n:Int} {w:Bool} (hE:ck L k a n=0) (h:(aw L k a).kd=0) (h5:64<(aw L k a).adr+n):b8 L k a n w=5:=by unfold b8;rw[U0 hE,U0 h,U0 h5]
theorem TV {L:List Obj} {k:Key} {a n:Int} {w:Bool} (hE:ck L k a n=0) (h:(aw L k a).kd=0) (h5:¬64<(aw L k a).adr+n) (h6:(w&& !decide ((aw L k a).pos.rights=0))=true):b8 L k a n w=6:=by unfold b8;rw[U0 hE,U0 h,UZ h5,U0 h6]
theorem T4 {L:List Obj} {k:Key} {a n:Int} {w:Bool} (hE:ck L k a n=0) (h:(aw L k a).kd=0) (h5:¬64<(aw L k a).adr+n) (h6:(w&& !decide ((aw L k a).pos.rights=0))=false):b8 L k a n w=0:=by unfold b8;rw[U0 hE,U0 h,UZ h5,UZ (by rw[h6];simp)]
theorem D6 {L:List Obj} {k:Key} {i:Int} {s:ByteArray} (hL:an L):an (eW L k i s):=by
 unfold eW;split
 ·rename_i h;unfold cM at h;split at h
  ·rename_i hp;obtain⟨a1,a2,_⟩:=u0 hp;exact(om hL a1 a2).2.2
  ·rename_i hp;exact absurd h hp
 ·exact hL
theorem QC {L:List Obj} {k:Key} {a:Int} {s:ByteArray} (hL:an L):an (mS L k a s):=by
 unfold mS;split
 ·exact D6 hL
 ·exact hL
structure UO where
 kind:Int
 num:Int
 root:Key
 adr:Int
 bytes:ByteArray
structure UN where
 hgt:Int
 slot:Int
 rts:Int
 kept:Bool
end Go.Sx
