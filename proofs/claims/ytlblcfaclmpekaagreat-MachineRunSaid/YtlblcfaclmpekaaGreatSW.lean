import Derived.Test.YtlblcfaclmpekaaGreatCP
import Derived.Test.YtlblcfaclmpekaaGreatSpP
import Derived.Test.YtlblcfaclmpekaaGreatKS
set_option linter.unusedSimpArgs false
set_option linter.unusedVariables false
namespace Go.Sx
def bw (h:Int):Int:=64*16^(h-1).toNat
def nT (h:Int):Prop:=0<=h/\h<=9
def z6 (h g:Int):Prop:=0<=g/\(g=0\/g<=h-1)
def QJ:Ct:=Cj (bG iA kD) (fun x=>some (nT x.1)) fun x=> .it .i64 (bw x.1)
structure Wk where
 pos:Key
 adr:Int
 rts:Int
 kpr:Key
 dep:Int
 hi:Int
structure Wr where
 kd:Int
 pos:Key
 adr:Int
 kpr:Key
 dep:Int
def Tw:Wr:=⟨0,void,0,void,0⟩
def Tl (r m g:Int):Int:=r+(if 2<=g/\(ji m 1&& !ji r 1)=true then 1 else 0)+(if 4<=g/\(ji m 2&& !ji r 2)=true then 2 else 0)+(if 8<=g/\(ji m 4&& !ji r 4)=true then 4 else 0)
def su (r m:Int):Int:=Tl r m 8
def pB (r:Int) (p:Key):Key:=if r.tmod 4=0 then p else cz p 1
def pO (w:Wk) (h:Key):Bool:=decide (h.kind=1)&&decide (1<=h.value)&&decide (h.value<=8)&&(decide (w.dep=0)||decide (h.value<w.hi))
def BM (r:Int) (k was:Key):Key:=if k.kind=6/\r<4 then k else was
def kx (L:List Obj) (w:Wk) (p:Key) (h k:Key):Wr×Option Wk:=
 if 8<=w.dep then(⟨3,void,0,w.kpr,0⟩,none)
 else if pO w h then
  (if w.adr.tdiv (bw h.value)<14 then(Tw,some ⟨ec L p (w.adr.tdiv (bw h.value)),w.adr.tmod (bw h.value),su w.rts p.rights,BM (su w.rts p.rights) k w.kpr,w.dep+1,h.value⟩)
   else(⟨2,void,0,BM (su w.rts p.rights) k w.kpr,0⟩,none))
 else(⟨4,void,0,w.kpr,0⟩,none)
def Lv (L:List Obj):Nat->Wk->Wr
 |0,w=>⟨3,void,0,w.kpr,0⟩
 |n+1,w=>
  if(ae L w.pos).kind=3 then(if w.adr<64 then⟨0,pB w.rts (ae L w.pos),w.adr,w.kpr,w.dep⟩else⟨2,void,0,w.kpr,0⟩)
  else if(ae L w.pos).kind=2 then match kx L w (ae L w.pos) (ec L (cz (ae L w.pos) 0) 15) (ec L (cz (ae L w.pos) 0) 14)with
   | (r,none)=>r
   | (_,some w')=>Lv L n w'
  else⟨1,void,0,w.kpr,0⟩
def g8 (L:List Obj) (n:Nat) (w:Wk):Wr:=Lv L n w
def xj (k:Key) (a hi:Int):Wk:=⟨k,a,0,void,0,hi⟩
def eh (L:List Obj) (k:Key) (a:Int):Int:=if aq L=0 then 1 else if bQ L k then(if a<0 then 4 else 0)else 2
def ay (L:List Obj) (k:Key) (a:Int):Wr:=if eh L k a=0 then g8 L 9 (xj k a 0)else Tw
def c9 (r:Wr):Key:=if r.kd=0 then r.pos else void
def cS (r:Wr):Int:=if r.kd=0 then r.adr else 0
def dB (r:Wr):Key:=if r.kd=0 then r.kpr else void
def dZ (r:Wr):Int:=if r.kd=0 then r.dep else 0
def fU (r:Wr):Key:=if r.kd=0 then void else r.kpr
def fX (r:Wr) (a:Int):Int:=if r.kd=0 then 0 else a
def fq (r:Wr):Int:=r.kd
def Th (r:Wr):V:= .ag [.key (c9 r),.it .i64 (cS r),.key (dB r),.it .i64 (dZ r)]
def Ue (r:Wr) (a:Int):V:= .ag [.it .i64 (fq r),.key (fU r),.it .i64 (fX r a)]
def GZ (L:List Obj) (k:Key) (a:Int):V:= .tp [Th (ay L k a),Ue (ay L k a) a,.it .i64 (eh L k a)]
abbrev tW:Nat:=296
def U5 (s:V) (g:Wk):V:= .ag [s,.key g.pos,.it .i64 g.adr,.it .i64 g.rts,.key g.kpr,.it .i64 g.dep,.it .i64 g.hi,.cb false]
def qx (L:List Obj) (k:Key) (a hi:Int) (g:Wk):Prop:=
 (0<=g.adr/\g.adr<=a)/\(0<=g.rts/\g.rts<=7)/\(0<=g.dep/\g.dep<=8)/\(g.dep=0->g.hi=hi)/\(g.dep≠0->g.hi<=8)/\g8 L (9-g.dep).toNat g=g8 L 9 (xj k a hi)
def tA (g:Wk):Nat:=(9-g.dep).toNat
def PY:Ct:=Cj (bG sA (bG kA (bG iA kD))) (fun _=>none) fun x=>GZ (As x.1) x.2.1 x.2.2.1
def Vx (nid:Nat):V:= .mp nid
def Vu (nid:Nat):List aB:= [.mp .i64 [3,2] [.fn 245 [],.fn 246 []]]
theorem FE {g:Int} (h:1<=g):bw g*16=bw (g+1):=by
 unfold bw;have e:(g+1-1).toNat=(g-1).toNat+1:=by omega
 rw[e,Int.pow_succ];generalize (16:Int)^(g-1).toNat=x
 omega
theorem sq {h:Int} (hh:h<=1):bw h=64:=by
 unfold bw;have e:(h-1).toNat=0:=by omega
 rw[e];rfl
theorem vg {h:Int} (hh:h<=9):64<=bw h/\bw h<=274877906944:=by
 by_cases h1:h<=1
 ·rw[sq h1];omega
 have:h=2\/h=3\/h=4\/h=5\/h=6\/h=7\/h=8\/h=9:=by omega
 rcases this with rfl|rfl|rfl|rfl|rfl|rfl|rfl|rfl<;>decide
theorem Qg:∀r m:Fin 8,aV .or .i64 (r.val:Int) (m.val:Int)=su (r.val:Int) (m.val:Int)/\0<=su (r.val:Int) (m.val:Int)/\su (r.val:Int) (m.val:Int)<=7:=by decide
theorem Du {r:Int} (h0:0<=r) (h1:r<=7):∃x:Fin 8,(x.val:Int)=r:=⟨⟨r.toNat,by omega⟩,by simp;omega⟩
theorem S5 {r m:Int} (h0:0<=r) (h1:r<=7) (m0:0<=m) (m1:m<=7):aV .or .i64 r m=su r m/\0<=su r m/\su r m<=7:=by
 obtain⟨x,rfl⟩:=Du h0 h1;obtain⟨y,rfl⟩:=Du m0 m1;exact Qg x y
theorem IF:∀r:Fin 8,decide (aV .and .i64 (r.val:Int) 4=0)=decide ((r.val:Int)<4):=by decide
theorem Uo {r:Int} (h0:0<=r) (h1:r<=7):decide (aV .and .i64 r 4=0)=decide (r<4):=by
 obtain⟨x,rfl⟩:=Du h0 h1;exact IF x
theorem ET {L:List Obj} {k:Key} (h:(ae L k).kind=2\/(ae L k).kind=3):ae L k=k/\aQ L k=true:=by
 unfold ae at h⊢;split at h
 ·simp[void]at h
 ·rename_i hn;rw[VM hn];refine⟨rfl,?_⟩;simp only[Bool.or_eq_true,Bool.not_eq_true',VG,not_or,Bool.not_eq_true,not_and]at hn;obtain⟨⟨h1,h2⟩,h3⟩:=hn;have hk:aS k=true:=by simpa using h2
  have:aP k=true:=by
   unfold aP gD;rw[hk];rcases h with h|h<;>simp[h]
  have:=h3 this;simpa using this
theorem Qp {k:Key} (h:aS k=true) (h2:k.kind=2):Key.mk 2 k.oid k.count void.call void.rights void.value=cz k 0:=by
 obtain⟨a,b,c,d,e,f⟩:=k;simp only at h2;subst h2;simp[aS,eZ,gD,oJ,qB]at h;simp[cz,void];omega
theorem Pk {L:List Obj} {k:Key} (h:aQ L k=true) (h2:k.kind=2):aQ L (cz k 0)=true:=by
 have hk:=(eH h).1
 have hk':aS (cz k 0)=true:=by
  have hk1:=hk;simp only[aS,VG,VH]at hk1⊢;obtain⟨⟨⟨⟨⟨⟨⟨x1,x2⟩,x3⟩,x4⟩,x5⟩,x6⟩,x7⟩,x8⟩:=hk1;exact⟨⟨⟨⟨⟨⟨⟨x1,x2⟩,Int.le_refl 0⟩,by show 0<=ei k.kind;omega⟩,x5⟩,x6⟩,x7⟩,x8⟩
 have hn:cO (cz k 0)=cO k:=by unfold cO;rw[hk,hk'];rfl
 have hw:iK (cz k 0)=iK k:=by unfold iK;rw[hn];rfl
 have hc:∀o,ck (cz k 0) o=ck k o:=fun o=>by unfold ck;rw[hn,hw,hk,hk'];rfl
 have hd:aP (cz k 0)=aP k:=by unfold aP;rw[hk,hk'];rfl
 unfold aQ at h⊢;rw[hd,hc];exact h
theorem Dv {L:List Obj} {k:Key} {i:Int} (h:aQ L k=true) (h2:k.kind=2) (h0:0<=i) (h1:i<16):aJ L k i=ec L k i:=by
 have hl:=eH h
 have hA:aO L k 2 false=0:=by
  unfold aO;rw[VM (by have:=hl.2.1;have:=hl.2.2.1;unfold aq;omega),VM (by rw[h,h2];simp),VM (by simp)]
 unfold aJ cG mo;rw[hA,VN rfl,decide_eq_true h0,decide_eq_true h1];rfl
theorem Kw {L:List Obj} {k:Key} {i:Int} (h:aQ L k=true) (h2:k.kind=2) (h0:0<=i) (h1:i<16):aJ L (Key.mk 2 k.oid k.count void.call void.rights void.value) i=ec L (cz k 0) i:=by
 rw[Qp (eH h).1 h2];exact Dv (Pk h h2) h2 h0 h1
theorem go_eq {L:List Obj} {g:Wk} (h0:0<=g.dep) (h8:g.dep<=8):g8 L (9-g.dep).toNat g=
  if(ae L g.pos).kind=3 then(if g.adr<64 then⟨0,pB g.rts (ae L g.pos),g.adr,g.kpr,g.dep⟩else⟨2,void,0,g.kpr,0⟩)
  else if(ae L g.pos).kind=2 then match kx L g (ae L g.pos) (ec L (cz (ae L g.pos) 0) 15) (ec L (cz (ae L g.pos) 0) 14)with
   | (r,none)=>r
   | (_,some w')=>g8 L (8-g.dep).toNat w'
  else⟨1,void,0,g.kpr,0⟩:=by
 have e:(9-g.dep).toNat=(8-g.dep).toNat+1:=by omega
 rw[e];rfl
theorem Nb {L:List Obj} {g:Wk} (h0:0<=g.dep) (h8:g.dep<=8) (h3:(ae L g.pos).kind≠3) (h2:(ae L g.pos).kind≠2):g8 L (9-g.dep).toNat g=⟨1,void,0,g.kpr,0⟩:=by
 rw[go_eq h0 h8,VM h3,VM h2]
theorem Qh {L:List Obj} {g:Wk} (h0:0<=g.dep) (h8:g.dep<=8) (h3:(ae L g.pos).kind=3) (h:¬g.adr<64):g8 L (9-g.dep).toNat g=⟨2,void,0,g.kpr,0⟩:=by
 rw[go_eq h0 h8,VN h3,VM h]
theorem DZ {L:List Obj} {g:Wk} (h0:0<=g.dep) (h8:g.dep<=8) (h3:(ae L g.pos).kind=3) (h:g.adr<64):g8 L (9-g.dep).toNat g=⟨0,pB g.rts (ae L g.pos),g.adr,g.kpr,g.dep⟩:=by
 rw[go_eq h0 h8,VN h3,VN h]
theorem Rp {L:List Obj} {g:Wk} (h0:0<=g.dep) (h8:g.dep<=8) (h2:(ae L g.pos).kind=2) (h:¬g.dep<8):g8 L (9-g.dep).toNat g=⟨3,void,0,g.kpr,0⟩:=by
 rw[go_eq h0 h8,VM (by omega),VN h2,kx,VN (by omega)]
theorem NL {L:List Obj} {g:Wk} (h0:0<=g.dep) (h8:g.dep<=8) (h2:(ae L g.pos).kind=2) (h:g.dep<8) (hf:pO g (ec L (cz (ae L g.pos) 0) 15)=false):g8 L (9-g.dep).toNat g=⟨4,void,0,g.kpr,0⟩:=by
 rw[go_eq h0 h8,VM (by omega),VN h2,kx,VM (by omega),hf]
 rfl
theorem DN {L:List Obj} {g:Wk} (h0:0<=g.dep) (h8:g.dep<=8) (h2:(ae L g.pos).kind=2) (h:g.dep<8) (hf:pO g (ec L (cz (ae L g.pos) 0) 15)=true)
  (hs:¬g.adr.tdiv (bw (ec L (cz (ae L g.pos) 0) 15).value)<14):g8 L (9-g.dep).toNat g=⟨2,void,0,BM (su g.rts (ae L g.pos).rights) (ec L (cz (ae L g.pos) 0) 14) g.kpr,0⟩:=by
 rw[go_eq h0 h8,VM (by omega),VN h2,kx,VM (by omega),hf,VN rfl,VM hs]
def Lt (L:List Obj) (g:Wk):Wk:=⟨ec L (ae L g.pos) (g.adr.tdiv (bw (ec L (cz (ae L g.pos) 0) 15).value)),g.adr.tmod (bw (ec L (cz (ae L g.pos) 0) 15).value),su g.rts (ae L g.pos).rights,
 BM (su g.rts (ae L g.pos).rights) (ec L (cz (ae L g.pos) 0) 14) g.kpr,g.dep+1,(ec L (cz (ae L g.pos) 0) 15).value⟩
theorem Lx {L:List Obj} {g:Wk} (h0:0<=g.dep) (h8:g.dep<=8) (h2:(ae L g.pos).kind=2) (h:g.dep<8) (hf:pO g (ec L (cz (ae L g.pos) 0) 15)=true)
  (hs:g.adr.tdiv (bw (ec L (cz (ae L g.pos) 0) 15).value)<14):g8 L (9-g.dep).toNat g=g8 L (9-(g.dep+1)).toNat (Lt L g):=by
 rw[go_eq h0 h8,VM (by omega),VN h2,kx,VM (by omega),hf,VN rfl,VN hs]
 have e:(9-(g.dep+1)).toNat=(8-g.dep).toNat:=by omega
 rw[e];rfl
theorem zm {g:Wk} {h:Key}:pO g h=true↔h.kind=1/\1<=h.value/\h.value<=8/\(g.dep=0\/h.value<g.hi):=by
 simp[pO,and_assoc]
theorem tB {a e:Int} (h0:0<=a) (he:64<=e):0<=a.tdiv e/\a.tdiv e<=a/\0<=a.tmod e/\a.tmod e<=a:=by
 rw[Int.tdiv_eq_ediv_of_nonneg h0,Int.tmod_eq_emod_of_nonneg h0];have h1:=Int.ediv_nonneg h0 (show 0<=e by omega)
 have h2:=Int.ediv_le_self e h0;have h3:=Int.emod_nonneg a (show e≠0 by omega)
 have h4:=Int.emod_add_mul_ediv a e;have h5:=Int.mul_nonneg (show 0<=e by omega) h1
 omega
theorem Pb {L:List Obj} {k:Key} {a hi:Int} {g:Wk} (hI:qx L k a hi g) (h2:(ae L g.pos).kind=2) (h:g.dep<8) (hf:pO g (ec L (cz (ae L g.pos) 0) 15)=true)
  (hs:g.adr.tdiv (bw (ec L (cz (ae L g.pos) 0) 15).value)<14):qx L k a hi (Lt L g)/\tA (Lt L g)<tA g:=by
 obtain⟨⟨a1,a2⟩,⟨r1,r2⟩,⟨d1,d2⟩,e1,e2,e3⟩:=hI;have hf':=zm.1 hf;have he:=vg (show(ec L (cz (ae L g.pos) 0) 15).value<=9 by omega)
 have hd:=tB a1 he.1;have hp:=pD (nN L g.pos);have ho:=S5 r1 r2 hp.1 hp.2;refine⟨⟨⟨hd.2.2.1,by have:=hd.2.2.2;simp only[Lt];omega⟩,ho.2,⟨by simp only[Lt];omega,by simp only[Lt];omega⟩,fun h=>?_,fun _=>hf'.2.2.1,?_⟩,?_⟩
 ·simp only[Lt]at h;omega
 ·rw[<-e3,Lx d1 d2 h2 h hf hs];rfl
 ·unfold tA;simp only[Lt];omega
theorem Qe {L:List Obj} {k:Key} {a:Int} (x y:Int):g8 L 9 (xj k a x)=g8 L 9 (xj k a y):=by
 show Lv L (8+1) _=Lv L (8+1) _
 unfold Lv;simp only[xj,kx,pO];rfl
theorem UL {L:List Obj} {k:Key} {a:Int} (h:¬a<0) (hi:Int):qx L k a hi (xj k a hi):=
 ⟨⟨by simp only[xj];omega,by simp only[xj];omega⟩,by simp[xj],by simp[xj],fun _=>rfl,fun h=>absurd rfl h,rfl⟩
theorem R9 {L:List Obj} {k:Key} {a hi:Int} {g:Wk} (hI:qx L k a hi g) (hE:eh L k a=0):ay L k a=g8 L (9-g.dep).toNat g:=by
 unfold ay;rw[VN hE,hI.2.2.2.2.2];exact Qe _ _
theorem Ev {L:List Obj} {k:Key} {a e:Int} (h:eh L k a=e) (he:e≠0):void=c9 (ay L k a)/\0=cS (ay L k a)/\void=dB (ay L k a)/\0=dZ (ay L k a)/\0=fq (ay L k a)/\void=fU (ay L k a)/\0=fX (ay L k a) a/\e=eh L k a:=by
 have:ay L k a=Tw:=by unfold ay;rw[VM (by omega)]
 rw[this,h];exact⟨rfl,rfl,rfl,rfl,rfl,rfl,rfl,rfl⟩
theorem yd {L:List Obj} {k:Key} {a hi d:Int} {g:Wk} {p:Key} (hI:qx L k a hi g) (hE:eh L k a=0) (h:g8 L (9-g.dep).toNat g=⟨d,void,0,p,0⟩) (hd:d≠0):
  void=c9 (ay L k a)/\0=cS (ay L k a)/\void=dB (ay L k a)/\0=dZ (ay L k a)/\d=fq (ay L k a)/\p=fU (ay L k a)/\a=fX (ay L k a) a/\0=eh L k a:=by
 rw[R9 hI hE,h,hE];simp only[c9,cS,dB,dZ,fq,fU,fX,VM hd];simp
theorem ON {L:List Obj} {k:Key} {a hi ad dp:Int} {g:Wk} {q p:Key} (hI:qx L k a hi g) (hE:eh L k a=0) (h:g8 L (9-g.dep).toNat g=⟨0,q,ad,p,dp⟩):
  q=c9 (ay L k a)/\ad=cS (ay L k a)/\p=dB (ay L k a)/\dp=dZ (ay L k a)/\0=fq (ay L k a)/\void=fU (ay L k a)/\0=fX (ay L k a) a/\0=eh L k a:=by
 rw[R9 hI hE,h,hE];exact⟨rfl,rfl,rfl,rfl,rfl,rfl,rfl,rfl⟩
theorem x9 (L:List Obj) (v:Key):(!decide (bT v=0)||aP v&&decide (ah L<=bH v))= !bQ L v:=by
 rw[<-rv]
 have:decide (ah L<=bH v)= !decide (bH v<ah L):=by
  rw[Bool.eq_iff_iff];simp
 rw[this];cases decide (bT v=0)<;>cases aP v<;>cases decide (bH v<ah L)<;>rfl
theorem TW {L:List Obj} {k:Key} {a:Int} (h:decide (ah L=0)=true):eh L k a=1:=by
 have h:=VK h;unfold ah at h;unfold eh;rw[VN (by omega)]
theorem RL {L:List Obj} {k:Key} {a:Int} (h:decide (ah L=0)=false):eh L k a=if bQ L k then(if a<0 then 4 else 0)else 2:=by
 have h:=VJ h;unfold ah at h;unfold eh;rw[VM (by omega)]
end Go.Sx
namespace Go.Sx
def cB (L:List Obj) (k:Key) (a n:Int):Int:=if eh L k a=0 then(if n<0\/64<n then 4 else 0)else eh L k a
def cm (L:List Obj) (k:Key) (a n:Int) (w:Bool):Int:=if cB L k a n=0 then(if(ay L k a).kd=0 then(if 64<(ay L k a).adr+n then 5 else if(w&& !decide ((ay L k a).pos.rights=0))=true then 6 else 0)else(ay L k a).kd)else 0
def gw (L:List Obj) (k:Key) (a n:Int) (w:Bool):Key:=if cm L k a n w=0 then void else(ay L k a).kpr
def gy (L:List Obj) (k:Key) (a n:Int) (w:Bool):Int:=if cm L k a n w=0 then 0 else a
def tc (L:List Obj) (k:Key) (a n:Int) (w:Bool):Bool:=decide (cB L k a n=0)&&decide (cm L k a n w=0)
def bW (L:List Obj) (k:Key) (a n:Int) (w:Bool):Wr:=if tc L k a n w=true then ay L k a else Tw
def TB (L:List Obj) (k:Key) (a n:Int) (w:Bool):V:= .ag [.it .i64 (cm L k a n w),.key (gw L k a n w),.it .i64 (gy L k a n w)]
def mI (L:List Obj) (k:Key) (a n:Int):ByteArray:=if tc L k a n false=true then dV L (c9 (bW L k a n false)) (cS (bW L k a n false)) n else⟨#[]⟩
def nz (L:List Obj) (k:Key) (a:Int) (s:ByteArray):List Obj:=if tc L k a (cC s) true=true then ff L (c9 (bW L k a (cC s) true)) (cS (bW L k a (cC s) true)) s else L
def Uz (L:List Obj) (k:Key) (a n:Int) (w:Bool):V:= .tp [Th (bW L k a n w),TB L k a n w,.it .i64 (cB L k a n)]
def SI:Ct:=Cj (bG sA (bG kA (bG iA (bG iA (bG bA kD))))) (fun _=>none) fun x=>Uz (As x.1) x.2.1 x.2.2.1 x.2.2.2.1 x.2.2.2.2.1
def Ul:Ct:=Cj (bG sA (bG kA (bG iA (bG iA kD)))) (fun _=>none) fun x=> .tp [.st (mI (As x.1) x.2.1 x.2.2.1 x.2.2.2.1),TB (As x.1) x.2.1 x.2.2.1 x.2.2.2.1 false,.it .i64 (cB (As x.1) x.2.1 x.2.2.1 x.2.2.2.1)]
def Sj:np:=RX D1 (fun x=>aw x.2.2) (fun L x=>ar L/\aw x.2.2) (fun L x=> .tp [TB L x.1 x.2.1 (cC x.2.2) true,.it .i64 (cB L x.1 x.2.1 (cC x.2.2))]) fun L x=>nz L x.1 x.2.1 x.2.2
theorem M7 {L:List Obj} {k:Key} {r:Int} (h:aQ L k=true) (h3:k.kind=3):aQ L (pB r k)=true/\(pB r k).kind=3:=by
 unfold pB;split
 ·exact⟨h,h3⟩
 ·refine⟨?_,h3⟩;have hk:=(eH h).1;have hm:ei k.kind=1:=by rw[h3];rfl
  have hk':aS (cz k 1)=true:=by
   have hk1:=hk;simp only[aS,VG,VH]at hk1⊢;obtain⟨⟨⟨⟨⟨⟨⟨x1,x2⟩,x3⟩,x4⟩,x5⟩,x6⟩,x7⟩,x8⟩:=hk1;exact⟨⟨⟨⟨⟨⟨⟨x1,x2⟩,by show(0:Int)<=1;omega⟩,by show 1<=ei k.kind;omega⟩,x5⟩,x6⟩,x7⟩,x8⟩
  have hn:cO (cz k 1)=cO k:=by unfold cO;rw[hk,hk'];rfl
  have hw:iK (cz k 1)=iK k:=by unfold iK;rw[hn];rfl
  have hc:∀o,ck (cz k 1) o=ck k o:=fun o=>by unfold ck;rw[hn,hw,hk,hk'];rfl
  have hd:aP (cz k 1)=aP k:=by unfold aP;rw[hk,hk'];rfl
  unfold aQ at h⊢;rw[hd,hc];exact h
theorem Ej {L:List Obj}:∀(n:Nat) (w:Wk),0<=w.adr->(g8 L n w).kd=0->(aQ L (g8 L n w).pos=true/\(g8 L n w).pos.kind=3)/\0<=(g8 L n w).adr/\(g8 L n w).adr<64
 |0,w,_,h=>absurd h (by show¬(3:Int)=0;omega)
 |n+1,w,ha,h=>by
  unfold g8 Lv at h⊢;split at h
  ·rename_i h3;split at h
   ·rename_i hlt;rw[VN h3,VN hlt];obtain⟨pe,pi⟩:=ET (.inr h3);rw[pe]at h3⊢;exact⟨M7 pi h3,ha,hlt⟩
   ·exact absurd h (by show¬(2:Int)=0;omega)
  ·rename_i h3;rw[VM h3];split at h
   ·rename_i h2;rw[VN h2];split at h
    ·rename_i r hr;unfold kx at hr;split at hr
     ·simp only[VF,and_true]at hr;subst hr;exact absurd h (by show¬(3:Int)=0;omega)
     ·split at hr
      ·split at hr<;>simp only[VF,and_true,reduceCtorEq,and_false]at hr
       subst hr;exact absurd h (by show¬(2:Int)=0;omega)
      ·simp only[VF,and_true]at hr;subst hr;exact absurd h (by show¬(4:Int)=0;omega)
    ·rename_i r w' hr;refine Ej n w' ?_ h;unfold kx at hr;split at hr
     ·simp at hr
     ·split at hr
      ·rename_i hf;split at hr<;>simp only[VF,VE,reduceCtorEq,and_false]at hr
       obtain⟨_,rfl⟩:=hr;have hf':=zm.1 hf;have he:=vg (show(ec L (cz (ae L w.pos) 0) 15).value<=9 by omega)
       exact(tB ha he.1).2.2.1
      ·simp at hr
   ·exact absurd h (by show¬(1:Int)=0;omega)
theorem P8 {L:List Obj} {k:Key} {a:Int} (hE:eh L k a=0) (h:(ay L k a).kd=0):(aQ L (ay L k a).pos=true/\(ay L k a).pos.kind=3)/\0<=(ay L k a).adr/\(ay L k a).adr<64:=by
 have ha:0<=a:=by
  unfold eh at hE;split at hE
  ·omega
  ·split at hE
   ·split at hE<;>omega
   ·omega
 unfold ay at h⊢;rw[VN hE]at h⊢;exact Ej 9 _ ha h
theorem wu {L:List Obj} {k:Key} {a n:Int} {w:Bool}:(!decide (cB L k a n=0)|| !decide (cm L k a n w=0))= !tc L k a n w:=by
 unfold tc;cases decide (cB L k a n=0)<;>cases decide (cm L k a n w=0)<;>rfl
theorem wL {L:List Obj} {k:Key} {a n:Int} {w:Bool} (h:tc L k a n w=true):cB L k a n=0/\cm L k a n w=0:=by
 unfold tc at h;simpa using h
theorem LN {L:List Obj} {k:Key} {a n e:Int} (h:eh L k a=e) (he:e≠0):cB L k a n=e:=by unfold cB;rw[h,VM he]
theorem Uj {L:List Obj} {k:Key} {a n:Int} (h:eh L k a=0) (hr:(decide (n<0)||decide (64<n))=true):cB L k a n=4:=by
 unfold cB;rw[VN h,VN (by simpa using hr)]
theorem T9 {L:List Obj} {k:Key} {a n:Int} (h:eh L k a=0) (hr:(decide (n<0)||decide (64<n))=false):cB L k a n=0:=by
 unfold cB;rw[VN h,VM (by simpa using hr)]
theorem Co {L:List Obj} {k:Key} {a n:Int} (h:cB L k a n=0):eh L k a=0/\0<=n/\n<=64:=by
 unfold cB at h;split at h
 ·rename_i hw;split at h
  ·omega
  ·exact⟨hw,by omega,by omega⟩
 ·rename_i hw;exact absurd h hw
theorem r7 {L:List Obj} {k:Key} {a n e:Int} {w:Bool} (h:cB L k a n=e) (he:e≠0):void=c9 (bW L k a n w)/\0=cS (bW L k a n w)/\void=dB (bW L k a n w)/\0=dZ (bW L k a n w)/\0=cm L k a n w/\void=gw L k a n w/\0=gy L k a n w/\e=cB L k a n:=by
 have hF:cm L k a n w=0:=by unfold cm;rw[h,VM he]
 have hC:tc L k a n w=false:=by unfold tc;rw[h,decide_eq_false he];rfl
 unfold bW gw gy;rw[hC,hF,h];exact⟨rfl,rfl,rfl,rfl,rfl,rfl,rfl,rfl⟩
theorem Ah {L:List Obj} {k:Key} {a n d:Int} {w:Bool} (hE:cB L k a n=0) (h:cm L k a n w=d) (hd:d≠0):void=c9 (bW L k a n w)/\0=cS (bW L k a n w)/\void=dB (bW L k a n w)/\0=dZ (bW L k a n w)/\d=cm L k a n w/\(ay L k a).kpr=gw L k a n w/\a=gy L k a n w/\0=cB L k a n:=by
 have hC:tc L k a n w=false:=by unfold tc;rw[h,decide_eq_false hd,Bool.and_false]
 unfold bW gw gy;rw[hC,h,hE,VM hd,VM hd];exact⟨rfl,rfl,rfl,rfl,rfl,rfl,rfl,rfl⟩
theorem Nf {L:List Obj} {k:Key} {a n:Int} {w:Bool} (hE:cB L k a n=0) (h:cm L k a n w=0):c9 (ay L k a)=c9 (bW L k a n w)/\cS (ay L k a)=cS (bW L k a n w)/\dB (ay L k a)=dB (bW L k a n w)/\dZ (ay L k a)=dZ (bW L k a n w)/\0=cm L k a n w/\void=gw L k a n w/\0=gy L k a n w/\0=cB L k a n:=by
 have hC:tc L k a n w=true:=by unfold tc;rw[h,hE];rfl
 unfold bW gw gy;rw[hC,h,hE];exact⟨rfl,rfl,rfl,rfl,rfl,rfl,rfl,rfl⟩
theorem Sm {r:Wr} (h:r.kd=0):c9 r=r.pos/\cS r=r.adr/\dB r=r.kpr:=by
 unfold c9 cS dB;rw[VN h,VN h,VN h];exact⟨rfl,rfl,rfl⟩
theorem Us {r:Wr} {a:Int} (h:r.kd≠0):fq r=r.kd/\fU r=r.kpr/\fX r a=a:=by
 unfold fU fX;rw[VM h,VM h];exact⟨rfl,rfl,rfl⟩
theorem Ud {L:List Obj} {k:Key} {a n:Int} {w:Bool} (hE:cB L k a n=0) (h:(ay L k a).kd≠0):cm L k a n w=(ay L k a).kd:=by unfold cm;rw[VN hE,VM h]
theorem U2 {L:List Obj} {k:Key} {a n:Int} {w:Bool} (hE:cB L k a n=0) (h:(ay L k a).kd=0) (h5:64<(ay L k a).adr+n):cm L k a n w=5:=by unfold cm;rw[VN hE,VN h,VN h5]
theorem UY {L:List Obj} {k:Key} {a n:Int} {w:Bool} (hE:cB L k a n=0) (h:(ay L k a).kd=0) (h5:¬64<(ay L k a).adr+n) (h6:(w&& !decide ((ay L k a).pos.rights=0))=true):cm L k a n w=6:=by unfold cm;rw[VN hE,VN h,VM h5,VN h6]
theorem Ut {L:List Obj} {k:Key} {a n:Int} {w:Bool} (hE:cB L k a n=0) (h:(ay L k a).kd=0) (h5:¬64<(ay L k a).adr+n) (h6:(w&& !decide ((ay L k a).pos.rights=0))=false):cm L k a n w=0:=by unfold cm;rw[VN hE,VN h,VM h5,VM (by rw[h6];simp)]
theorem D9 {L:List Obj} {k:Key} {i:Int} {s:ByteArray} (hL:ar L):ar (ff L k i s):=by
 unfold ff;split
 ·rename_i h;unfold cY at h;split at h
  ·rename_i hp;obtain⟨a1,a2,_⟩:=vj hp;exact(pU hL a1 a2).2.2
  ·rename_i hp;exact absurd h hp
 ·exact hL
theorem PV {L:List Obj} {k:Key} {a:Int} {s:ByteArray} (hL:ar L):ar (nz L k a s):=by
 unfold nz;split
 ·exact D9 hL
 ·exact hL
structure VD where
 kind:Int
 num:Int
 root:Key
 adr:Int
 bytes:ByteArray
structure VC where
 hgt:Int
 slot:Int
 rts:Int
 kept:Bool
end Go.Sx
