import Derived.Test.YtlblcfaclmpekaaGreatCP
import Derived.Test.YtlblcfaclmpekaaGreatSpP
import Derived.Test.YtlblcfaclmpekaaGreatKS
set_option linter.unusedSimpArgs false
set_option linter.unusedVariables false
namespace Go.Sx
def bz (h:Int):Int:=64*16^(h-1).toNat
def nR (h:Int):Prop:=0<=h/\h<=9
def y8 (h g:Int):Prop:=0<=g/\(g=0\/g<=h-1)
def Pr:Ct:=Ci (bI iA kK) (fun x=>some (nR x.1)) fun x=> .it .i64 (bz x.1)
structure Wk where
 pos:Key
 adr:Int
 rts:Int
 kpr:Key
 dep:Int
 hi:Int
structure Wr where
 kd:Int
 pos:Key
 adr:Int
 kpr:Key
 dep:Int
def SN:Wr:=⟨0,void,0,void,0⟩
def Tq (r m g:Int):Int:=r+(if 2<=g/\(jq m 1&& !jq r 1)=true then 1 else 0)+(if 4<=g/\(jq m 2&& !jq r 2)=true then 2 else 0)+(if 8<=g/\(jq m 4&& !jq r 4)=true then 4 else 0)
def sN (r m:Int):Int:=Tq r m 8
def pB (r:Int) (p:Key):Key:=if r.tmod 4=0 then p else cA p 1
def o8 (w:Wk) (h:Key):Bool:=decide (h.kind=1)&&decide (1<=h.value)&&decide (h.value<=8)&&(decide (w.dep=0)||decide (h.value<w.hi))
def A1 (r:Int) (k was:Key):Key:=if k.kind=6/\r<4 then k else was
def kD (L:List Obj) (w:Wk) (p:Key) (h k:Key):Wr×Option Wk:=
 if 8<=w.dep then(⟨3,void,0,w.kpr,0⟩,none)
 else if o8 w h then
  (if w.adr.tdiv (bz h.value)<14 then(SN,some ⟨ea L p (w.adr.tdiv (bz h.value)),w.adr.tmod (bz h.value),sN w.rts p.rights,A1 (sN w.rts p.rights) k w.kpr,w.dep+1,h.value⟩)
   else(⟨2,void,0,A1 (sN w.rts p.rights) k w.kpr,0⟩,none))
 else(⟨4,void,0,w.kpr,0⟩,none)
def Lw (L:List Obj):Nat->Wk->Wr
 |0,w=>⟨3,void,0,w.kpr,0⟩
 |n+1,w=>
  if(ah L w.pos).kind=3 then(if w.adr<64 then⟨0,pB w.rts (ah L w.pos),w.adr,w.kpr,w.dep⟩else⟨2,void,0,w.kpr,0⟩)
  else if(ah L w.pos).kind=2 then match kD L w (ah L w.pos) (ea L (cA (ah L w.pos) 0) 15) (ea L (cA (ah L w.pos) 0) 14)with
   | (r,none)=>r
   | (_,some w')=>Lw L n w'
  else⟨1,void,0,w.kpr,0⟩
def gW (L:List Obj) (n:Nat) (w:Wk):Wr:=Lw L n w
def vy (k:Key) (a hi:Int):Wk:=⟨k,a,0,void,0,hi⟩
def eh (L:List Obj) (k:Key) (a:Int):Int:=if an L=0 then 1 else if bQ L k then(if a<0 then 4 else 0)else 2
def aA (L:List Obj) (k:Key) (a:Int):Wr:=if eh L k a=0 then gW L 9 (vy k a 0)else SN
def c9 (r:Wr):Key:=if r.kd=0 then r.pos else void
def cR (r:Wr):Int:=if r.kd=0 then r.adr else 0
def dC (r:Wr):Key:=if r.kd=0 then r.kpr else void
def dX (r:Wr):Int:=if r.kd=0 then r.dep else 0
def fU (r:Wr):Key:=if r.kd=0 then void else r.kpr
def fV (r:Wr) (a:Int):Int:=if r.kd=0 then 0 else a
def fm (r:Wr):Int:=r.kd
def SD (r:Wr):V:= .ag [.key (c9 r),.it .i64 (cR r),.key (dC r),.it .i64 (dX r)]
def Ut (r:Wr) (a:Int):V:= .ag [.it .i64 (fm r),.key (fU r),.it .i64 (fV r a)]
def Jj (L:List Obj) (k:Key) (a:Int):V:= .tp [SD (aA L k a),Ut (aA L k a) a,.it .i64 (eh L k a)]
abbrev tW:Nat:=296
def Vm (s:V) (g:Wk):V:= .ag [s,.key g.pos,.it .i64 g.adr,.it .i64 g.rts,.key g.kpr,.it .i64 g.dep,.it .i64 g.hi,.cb false]
def qu (L:List Obj) (k:Key) (a hi:Int) (g:Wk):Prop:=
 (0<=g.adr/\g.adr<=a)/\(0<=g.rts/\g.rts<=7)/\(0<=g.dep/\g.dep<=8)/\(g.dep=0->g.hi=hi)/\(g.dep≠0->g.hi<=8)/\gW L (9-g.dep).toNat g=gW L 9 (vy k a hi)
def s8 (g:Wk):Nat:=(9-g.dep).toNat
def PB:Ct:=Ci (bI sA (bI kA (bI iA kK))) (fun _=>none) fun x=>Jj (An x.1) x.2.1 x.2.2.1
def Vr (nid:Nat):V:= .mp nid
def Vx (nid:Nat):List aC:= [.mp .i64 [3,2] [.fn 245 [],.fn 246 []]]
theorem Fl {g:Int} (h:1<=g):bz g*16=bz (g+1):=by
 unfold bz;have e:(g+1-1).toNat=(g-1).toNat+1:=by omega
 rw[e,Int.pow_succ];generalize (16:Int)^(g-1).toNat=x
 omega
theorem sL {h:Int} (hh:h<=1):bz h=64:=by
 unfold bz;have e:(h-1).toNat=0:=by omega
 rw[e];rfl
theorem vd {h:Int} (hh:h<=9):64<=bz h/\bz h<=274877906944:=by
 by_cases h1:h<=1
 ·rw[sL h1];omega
 have:h=2\/h=3\/h=4\/h=5\/h=6\/h=7\/h=8\/h=9:=by omega
 rcases this with rfl|rfl|rfl|rfl|rfl|rfl|rfl|rfl<;>decide
theorem Pt:∀r m:Fin 8,aY .or .i64 (r.val:Int) (m.val:Int)=sN (r.val:Int) (m.val:Int)/\0<=sN (r.val:Int) (m.val:Int)/\sN (r.val:Int) (m.val:Int)<=7:=by decide
theorem CK {r:Int} (h0:0<=r) (h1:r<=7):∃x:Fin 8,(x.val:Int)=r:=⟨⟨r.toNat,by omega⟩,by simp;omega⟩
theorem Sg {r m:Int} (h0:0<=r) (h1:r<=7) (m0:0<=m) (m1:m<=7):aY .or .i64 r m=sN r m/\0<=sN r m/\sN r m<=7:=by
 obtain⟨x,rfl⟩:=CK h0 h1;obtain⟨y,rfl⟩:=CK m0 m1;exact Pt x y
theorem KG:∀r:Fin 8,decide (aY .and .i64 (r.val:Int) 4=0)=decide ((r.val:Int)<4):=by decide
theorem UW {r:Int} (h0:0<=r) (h1:r<=7):decide (aY .and .i64 r 4=0)=decide (r<4):=by
 obtain⟨x,rfl⟩:=CK h0 h1;exact KG x
theorem Ew {L:List Obj} {k:Key} (h:(ah L k).kind=2\/(ah L k).kind=3):ah L k=k/\aT L k=true:=by
 unfold ah at h⊢;split at h
 ·simp[void]at h
 ·rename_i hn;rw[VQ hn];refine⟨rfl,?_⟩;simp only[Bool.or_eq_true,Bool.not_eq_true',VK,not_or,Bool.not_eq_true,not_and]at hn;obtain⟨⟨h1,h2⟩,h3⟩:=hn;have hk:aW k=true:=by simpa using h2
  have:aU k=true:=by
   unfold aU gw;rw[hk];rcases h with h|h<;>simp[h]
  have:=h3 this;simpa using this
theorem Rc {k:Key} (h:aW k=true) (h2:k.kind=2):Key.mk 2 k.oid k.count void.call void.rights void.value=cA k 0:=by
 obtain⟨a,b,c,d,e,f⟩:=k;simp only at h2;subst h2;simp[aW,fa,gw,oJ,qA]at h;simp[cA,void];omega
theorem Rp {L:List Obj} {k:Key} (h:aT L k=true) (h2:k.kind=2):aT L (cA k 0)=true:=by
 have hk:=(eF h).1
 have hk':aW (cA k 0)=true:=by
  have hk1:=hk;simp only[aW,VK,VL]at hk1⊢;obtain⟨⟨⟨⟨⟨⟨⟨x1,x2⟩,x3⟩,x4⟩,x5⟩,x6⟩,x7⟩,x8⟩:=hk1;exact⟨⟨⟨⟨⟨⟨⟨x1,x2⟩,Int.le_refl 0⟩,by show 0<=ef k.kind;omega⟩,x5⟩,x6⟩,x7⟩,x8⟩
 have hn:cM (cA k 0)=cM k:=by unfold cM;rw[hk,hk'];rfl
 have hw:iJ (cA k 0)=iJ k:=by unfold iJ;rw[hn];rfl
 have hc:∀o,cw (cA k 0) o=cw k o:=fun o=>by unfold cw;rw[hn,hw,hk,hk'];rfl
 have hd:aU (cA k 0)=aU k:=by unfold aU;rw[hk,hk'];rfl
 unfold aT at h⊢;rw[hd,hc];exact h
theorem Cs {L:List Obj} {k:Key} {i:Int} (h:aT L k=true) (h2:k.kind=2) (h0:0<=i) (h1:i<16):aK L k i=ea L k i:=by
 have hl:=eF h
 have hA:aS L k 2 false=0:=by
  unfold aS;rw[VQ (by have:=hl.2.1;have:=hl.2.2.1;unfold an;omega),VQ (by rw[h,h2];simp),VQ (by simp)]
 unfold aK cH me;rw[hA,VR rfl,decide_eq_true h0,decide_eq_true h1];rfl
theorem Lq {L:List Obj} {k:Key} {i:Int} (h:aT L k=true) (h2:k.kind=2) (h0:0<=i) (h1:i<16):aK L (Key.mk 2 k.oid k.count void.call void.rights void.value) i=ea L (cA k 0) i:=by
 rw[Rc (eF h).1 h2];exact Cs (Rp h h2) h2 h0 h1
theorem go_eq {L:List Obj} {g:Wk} (h0:0<=g.dep) (h8:g.dep<=8):gW L (9-g.dep).toNat g=
  if(ah L g.pos).kind=3 then(if g.adr<64 then⟨0,pB g.rts (ah L g.pos),g.adr,g.kpr,g.dep⟩else⟨2,void,0,g.kpr,0⟩)
  else if(ah L g.pos).kind=2 then match kD L g (ah L g.pos) (ea L (cA (ah L g.pos) 0) 15) (ea L (cA (ah L g.pos) 0) 14)with
   | (r,none)=>r
   | (_,some w')=>gW L (8-g.dep).toNat w'
  else⟨1,void,0,g.kpr,0⟩:=by
 have e:(9-g.dep).toNat=(8-g.dep).toNat+1:=by omega
 rw[e];rfl
theorem Mt {L:List Obj} {g:Wk} (h0:0<=g.dep) (h8:g.dep<=8) (h3:(ah L g.pos).kind≠3) (h2:(ah L g.pos).kind≠2):gW L (9-g.dep).toNat g=⟨1,void,0,g.kpr,0⟩:=by
 rw[go_eq h0 h8,VQ h3,VQ h2]
theorem Rm {L:List Obj} {g:Wk} (h0:0<=g.dep) (h8:g.dep<=8) (h3:(ah L g.pos).kind=3) (h:¬g.adr<64):gW L (9-g.dep).toNat g=⟨2,void,0,g.kpr,0⟩:=by
 rw[go_eq h0 h8,VR h3,VQ h]
theorem Ez {L:List Obj} {g:Wk} (h0:0<=g.dep) (h8:g.dep<=8) (h3:(ah L g.pos).kind=3) (h:g.adr<64):gW L (9-g.dep).toNat g=⟨0,pB g.rts (ah L g.pos),g.adr,g.kpr,g.dep⟩:=by
 rw[go_eq h0 h8,VR h3,VR h]
theorem PJ {L:List Obj} {g:Wk} (h0:0<=g.dep) (h8:g.dep<=8) (h2:(ah L g.pos).kind=2) (h:¬g.dep<8):gW L (9-g.dep).toNat g=⟨3,void,0,g.kpr,0⟩:=by
 rw[go_eq h0 h8,VQ (by omega),VR h2,kD,VR (by omega)]
theorem MH {L:List Obj} {g:Wk} (h0:0<=g.dep) (h8:g.dep<=8) (h2:(ah L g.pos).kind=2) (h:g.dep<8) (hf:o8 g (ea L (cA (ah L g.pos) 0) 15)=false):gW L (9-g.dep).toNat g=⟨4,void,0,g.kpr,0⟩:=by
 rw[go_eq h0 h8,VQ (by omega),VR h2,kD,VQ (by omega),hf]
 rfl
theorem Eu {L:List Obj} {g:Wk} (h0:0<=g.dep) (h8:g.dep<=8) (h2:(ah L g.pos).kind=2) (h:g.dep<8) (hf:o8 g (ea L (cA (ah L g.pos) 0) 15)=true)
  (hs:¬g.adr.tdiv (bz (ea L (cA (ah L g.pos) 0) 15).value)<14):gW L (9-g.dep).toNat g=⟨2,void,0,A1 (sN g.rts (ah L g.pos).rights) (ea L (cA (ah L g.pos) 0) 14) g.kpr,0⟩:=by
 rw[go_eq h0 h8,VQ (by omega),VR h2,kD,VQ (by omega),hf,VR rfl,VQ hs]
def Ly (L:List Obj) (g:Wk):Wk:=⟨ea L (ah L g.pos) (g.adr.tdiv (bz (ea L (cA (ah L g.pos) 0) 15).value)),g.adr.tmod (bz (ea L (cA (ah L g.pos) 0) 15).value),sN g.rts (ah L g.pos).rights,
 A1 (sN g.rts (ah L g.pos).rights) (ea L (cA (ah L g.pos) 0) 14) g.kpr,g.dep+1,(ea L (cA (ah L g.pos) 0) 15).value⟩
theorem MU {L:List Obj} {g:Wk} (h0:0<=g.dep) (h8:g.dep<=8) (h2:(ah L g.pos).kind=2) (h:g.dep<8) (hf:o8 g (ea L (cA (ah L g.pos) 0) 15)=true)
  (hs:g.adr.tdiv (bz (ea L (cA (ah L g.pos) 0) 15).value)<14):gW L (9-g.dep).toNat g=gW L (9-(g.dep+1)).toNat (Ly L g):=by
 rw[go_eq h0 h8,VQ (by omega),VR h2,kD,VQ (by omega),hf,VR rfl,VR hs]
 have e:(9-(g.dep+1)).toNat=(8-g.dep).toNat:=by omega
 rw[e];rfl
theorem Ah {g:Wk} {h:Key}:o8 g h=true↔h.kind=1/\1<=h.value/\h.value<=8/\(g.dep=0\/h.value<g.hi):=by
 simp[o8,and_assoc]
theorem tE {a e:Int} (h0:0<=a) (he:64<=e):0<=a.tdiv e/\a.tdiv e<=a/\0<=a.tmod e/\a.tmod e<=a:=by
 rw[Int.tdiv_eq_ediv_of_nonneg h0,Int.tmod_eq_emod_of_nonneg h0];have h1:=Int.ediv_nonneg h0 (show 0<=e by omega)
 have h2:=Int.ediv_le_self e h0;have h3:=Int.emod_nonneg a (show e≠0 by omega)
 have h4:=Int.emod_add_mul_ediv a e;have h5:=Int.mul_nonneg (show 0<=e by omega) h1
 omega
theorem Ph {L:List Obj} {k:Key} {a hi:Int} {g:Wk} (hI:qu L k a hi g) (h2:(ah L g.pos).kind=2) (h:g.dep<8) (hf:o8 g (ea L (cA (ah L g.pos) 0) 15)=true)
  (hs:g.adr.tdiv (bz (ea L (cA (ah L g.pos) 0) 15).value)<14):qu L k a hi (Ly L g)/\s8 (Ly L g)<s8 g:=by
 obtain⟨⟨a1,a2⟩,⟨r1,r2⟩,⟨d1,d2⟩,e1,e2,e3⟩:=hI;have hf':=Ah.1 hf;have he:=vd (show(ea L (cA (ah L g.pos) 0) 15).value<=9 by omega)
 have hd:=tE a1 he.1;have hp:=oZ (nH L g.pos);have ho:=Sg r1 r2 hp.1 hp.2;refine⟨⟨⟨hd.2.2.1,by have:=hd.2.2.2;simp only[Ly];omega⟩,ho.2,⟨by simp only[Ly];omega,by simp only[Ly];omega⟩,fun h=>?_,fun _=>hf'.2.2.1,?_⟩,?_⟩
 ·simp only[Ly]at h;omega
 ·rw[<-e3,MU d1 d2 h2 h hf hs];rfl
 ·unfold s8;simp only[Ly];omega
theorem Qo {L:List Obj} {k:Key} {a:Int} (x y:Int):gW L 9 (vy k a x)=gW L 9 (vy k a y):=by
 show Lw L (8+1) _=Lw L (8+1) _
 unfold Lw;simp only[vy,kD,o8];rfl
theorem UQ {L:List Obj} {k:Key} {a:Int} (h:¬a<0) (hi:Int):qu L k a hi (vy k a hi):=
 ⟨⟨by simp only[vy];omega,by simp only[vy];omega⟩,by simp[vy],by simp[vy],fun _=>rfl,fun h=>absurd rfl h,rfl⟩
theorem R6 {L:List Obj} {k:Key} {a hi:Int} {g:Wk} (hI:qu L k a hi g) (hE:eh L k a=0):aA L k a=gW L (9-g.dep).toNat g:=by
 unfold aA;rw[VR hE,hI.2.2.2.2.2];exact Qo _ _
theorem EV {L:List Obj} {k:Key} {a e:Int} (h:eh L k a=e) (he:e≠0):void=c9 (aA L k a)/\0=cR (aA L k a)/\void=dC (aA L k a)/\0=dX (aA L k a)/\0=fm (aA L k a)/\void=fU (aA L k a)/\0=fV (aA L k a) a/\e=eh L k a:=by
 have:aA L k a=SN:=by unfold aA;rw[VQ (by omega)]
 rw[this,h];exact⟨rfl,rfl,rfl,rfl,rfl,rfl,rfl,rfl⟩
theorem xM {L:List Obj} {k:Key} {a hi d:Int} {g:Wk} {p:Key} (hI:qu L k a hi g) (hE:eh L k a=0) (h:gW L (9-g.dep).toNat g=⟨d,void,0,p,0⟩) (hd:d≠0):
  void=c9 (aA L k a)/\0=cR (aA L k a)/\void=dC (aA L k a)/\0=dX (aA L k a)/\d=fm (aA L k a)/\p=fU (aA L k a)/\a=fV (aA L k a) a/\0=eh L k a:=by
 rw[R6 hI hE,h,hE];simp only[c9,cR,dC,dX,fm,fU,fV,VQ hd];simp
theorem O4 {L:List Obj} {k:Key} {a hi ad dp:Int} {g:Wk} {q p:Key} (hI:qu L k a hi g) (hE:eh L k a=0) (h:gW L (9-g.dep).toNat g=⟨0,q,ad,p,dp⟩):
  q=c9 (aA L k a)/\ad=cR (aA L k a)/\p=dC (aA L k a)/\dp=dX (aA L k a)/\0=fm (aA L k a)/\void=fU (aA L k a)/\0=fV (aA L k a) a/\0=eh L k a:=by
 rw[R6 hI hE,h,hE];exact⟨rfl,rfl,rfl,rfl,rfl,rfl,rfl,rfl⟩
theorem yx (L:List Obj) (v:Key):(!decide (bT v=0)||aU v&&decide (aj L<=bJ v))= !bQ L v:=by
 rw[<-sG]
 have:decide (aj L<=bJ v)= !decide (bJ v<aj L):=by
  rw[Bool.eq_iff_iff];simp
 rw[this];cases decide (bT v=0)<;>cases aU v<;>cases decide (bJ v<aj L)<;>rfl
theorem TX {L:List Obj} {k:Key} {a:Int} (h:decide (aj L=0)=true):eh L k a=1:=by
 have h:=VO h;unfold aj at h;unfold eh;rw[VR (by omega)]
theorem RZ {L:List Obj} {k:Key} {a:Int} (h:decide (aj L=0)=false):eh L k a=if bQ L k then(if a<0 then 4 else 0)else 2:=by
 have h:=VN h;unfold aj at h;unfold eh;rw[VQ (by omega)]
end Go.Sx
namespace Go.Sx
def cB (L:List Obj) (k:Key) (a n:Int):Int:=if eh L k a=0 then(if n<0\/64<n then 4 else 0)else eh L k a
def cq (L:List Obj) (k:Key) (a n:Int) (w:Bool):Int:=if cB L k a n=0 then(if(aA L k a).kd=0 then(if 64<(aA L k a).adr+n then 5 else if(w&& !decide ((aA L k a).pos.rights=0))=true then 6 else 0)else(aA L k a).kd)else 0
def gr (L:List Obj) (k:Key) (a n:Int) (w:Bool):Key:=if cq L k a n w=0 then void else(aA L k a).kpr
def gq (L:List Obj) (k:Key) (a n:Int) (w:Bool):Int:=if cq L k a n w=0 then 0 else a
def tn (L:List Obj) (k:Key) (a n:Int) (w:Bool):Bool:=decide (cB L k a n=0)&&decide (cq L k a n w=0)
def bX (L:List Obj) (k:Key) (a n:Int) (w:Bool):Wr:=if tn L k a n w=true then aA L k a else SN
def T7 (L:List Obj) (k:Key) (a n:Int) (w:Bool):V:= .ag [.it .i64 (cq L k a n w),.key (gr L k a n w),.it .i64 (gq L k a n w)]
def mH (L:List Obj) (k:Key) (a n:Int):ByteArray:=if tn L k a n false=true then dV L (c9 (bX L k a n false)) (cR (bX L k a n false)) n else⟨#[]⟩
def np (L:List Obj) (k:Key) (a:Int) (s:ByteArray):List Obj:=if tn L k a (cC s) true=true then fb L (c9 (bX L k a (cC s) true)) (cR (bX L k a (cC s) true)) s else L
def U0 (L:List Obj) (k:Key) (a n:Int) (w:Bool):V:= .tp [SD (bX L k a n w),T7 L k a n w,.it .i64 (cB L k a n)]
def S0:Ct:=Ci (bI sA (bI kA (bI iA (bI iA (bI bA kK))))) (fun _=>none) fun x=>U0 (An x.1) x.2.1 x.2.2.1 x.2.2.2.1 x.2.2.2.2.1
def UE:Ct:=Ci (bI sA (bI kA (bI iA (bI iA kK)))) (fun _=>none) fun x=> .tp [.st (mH (An x.1) x.2.1 x.2.2.1 x.2.2.2.1),T7 (An x.1) x.2.1 x.2.2.1 x.2.2.2.1 false,.it .i64 (cB (An x.1) x.2.1 x.2.2.1 x.2.2.2.1)]
def Ta:nz:=RM EB (fun x=>az x.2.2) (fun L x=>aw L/\az x.2.2) (fun L x=> .tp [T7 L x.1 x.2.1 (cC x.2.2) true,.it .i64 (cB L x.1 x.2.1 (cC x.2.2))]) fun L x=>np L x.1 x.2.1 x.2.2
theorem ND {L:List Obj} {k:Key} {r:Int} (h:aT L k=true) (h3:k.kind=3):aT L (pB r k)=true/\(pB r k).kind=3:=by
 unfold pB;split
 ·exact⟨h,h3⟩
 ·refine⟨?_,h3⟩;have hk:=(eF h).1;have hm:ef k.kind=1:=by rw[h3];rfl
  have hk':aW (cA k 1)=true:=by
   have hk1:=hk;simp only[aW,VK,VL]at hk1⊢;obtain⟨⟨⟨⟨⟨⟨⟨x1,x2⟩,x3⟩,x4⟩,x5⟩,x6⟩,x7⟩,x8⟩:=hk1;exact⟨⟨⟨⟨⟨⟨⟨x1,x2⟩,by show(0:Int)<=1;omega⟩,by show 1<=ef k.kind;omega⟩,x5⟩,x6⟩,x7⟩,x8⟩
  have hn:cM (cA k 1)=cM k:=by unfold cM;rw[hk,hk'];rfl
  have hw:iJ (cA k 1)=iJ k:=by unfold iJ;rw[hn];rfl
  have hc:∀o,cw (cA k 1) o=cw k o:=fun o=>by unfold cw;rw[hn,hw,hk,hk'];rfl
  have hd:aU (cA k 1)=aU k:=by unfold aU;rw[hk,hk'];rfl
  unfold aT at h⊢;rw[hd,hc];exact h
theorem Eh {L:List Obj}:∀(n:Nat) (w:Wk),0<=w.adr->(gW L n w).kd=0->(aT L (gW L n w).pos=true/\(gW L n w).pos.kind=3)/\0<=(gW L n w).adr/\(gW L n w).adr<64
 |0,w,_,h=>absurd h (by show¬(3:Int)=0;omega)
 |n+1,w,ha,h=>by
  unfold gW Lw at h⊢;split at h
  ·rename_i h3;split at h
   ·rename_i hlt;rw[VR h3,VR hlt];obtain⟨pe,pi⟩:=Ew (.inr h3);rw[pe]at h3⊢;exact⟨ND pi h3,ha,hlt⟩
   ·exact absurd h (by show¬(2:Int)=0;omega)
  ·rename_i h3;rw[VQ h3];split at h
   ·rename_i h2;rw[VR h2];split at h
    ·rename_i r hr;unfold kD at hr;split at hr
     ·simp only[VJ,and_true]at hr;subst hr;exact absurd h (by show¬(3:Int)=0;omega)
     ·split at hr
      ·split at hr<;>simp only[VJ,and_true,reduceCtorEq,and_false]at hr
       subst hr;exact absurd h (by show¬(2:Int)=0;omega)
      ·simp only[VJ,and_true]at hr;subst hr;exact absurd h (by show¬(4:Int)=0;omega)
    ·rename_i r w' hr;refine Eh n w' ?_ h;unfold kD at hr;split at hr
     ·simp at hr
     ·split at hr
      ·rename_i hf;split at hr<;>simp only[VJ,VI,reduceCtorEq,and_false]at hr
       obtain⟨_,rfl⟩:=hr;have hf':=Ah.1 hf;have he:=vd (show(ea L (cA (ah L w.pos) 0) 15).value<=9 by omega)
       exact(tE ha he.1).2.2.1
      ·simp at hr
   ·exact absurd h (by show¬(1:Int)=0;omega)
theorem RF {L:List Obj} {k:Key} {a:Int} (hE:eh L k a=0) (h:(aA L k a).kd=0):(aT L (aA L k a).pos=true/\(aA L k a).pos.kind=3)/\0<=(aA L k a).adr/\(aA L k a).adr<64:=by
 have ha:0<=a:=by
  unfold eh at hE;split at hE
  ·omega
  ·split at hE
   ·split at hE<;>omega
   ·omega
 unfold aA at h⊢;rw[VR hE]at h⊢;exact Eh 9 _ ha h
theorem wX {L:List Obj} {k:Key} {a n:Int} {w:Bool}:(!decide (cB L k a n=0)|| !decide (cq L k a n w=0))= !tn L k a n w:=by
 unfold tn;cases decide (cB L k a n=0)<;>cases decide (cq L k a n w=0)<;>rfl
theorem v9 {L:List Obj} {k:Key} {a n:Int} {w:Bool} (h:tn L k a n w=true):cB L k a n=0/\cq L k a n w=0:=by
 unfold tn at h;simpa using h
theorem Nm {L:List Obj} {k:Key} {a n e:Int} (h:eh L k a=e) (he:e≠0):cB L k a n=e:=by unfold cB;rw[h,VQ he]
theorem Uz {L:List Obj} {k:Key} {a n:Int} (h:eh L k a=0) (hr:(decide (n<0)||decide (64<n))=true):cB L k a n=4:=by
 unfold cB;rw[VR h,VR (by simpa using hr)]
theorem UY {L:List Obj} {k:Key} {a n:Int} (h:eh L k a=0) (hr:(decide (n<0)||decide (64<n))=false):cB L k a n=0:=by
 unfold cB;rw[VR h,VQ (by simpa using hr)]
theorem CQ {L:List Obj} {k:Key} {a n:Int} (h:cB L k a n=0):eh L k a=0/\0<=n/\n<=64:=by
 unfold cB at h;split at h
 ·rename_i hw;split at h
  ·omega
  ·exact⟨hw,by omega,by omega⟩
 ·rename_i hw;exact absurd h hw
theorem sT {L:List Obj} {k:Key} {a n e:Int} {w:Bool} (h:cB L k a n=e) (he:e≠0):void=c9 (bX L k a n w)/\0=cR (bX L k a n w)/\void=dC (bX L k a n w)/\0=dX (bX L k a n w)/\0=cq L k a n w/\void=gr L k a n w/\0=gq L k a n w/\e=cB L k a n:=by
 have hF:cq L k a n w=0:=by unfold cq;rw[h,VQ he]
 have hC:tn L k a n w=false:=by unfold tn;rw[h,decide_eq_false he];rfl
 unfold bX gr gq;rw[hC,hF,h];exact⟨rfl,rfl,rfl,rfl,rfl,rfl,rfl,rfl⟩
theorem ze {L:List Obj} {k:Key} {a n d:Int} {w:Bool} (hE:cB L k a n=0) (h:cq L k a n w=d) (hd:d≠0):void=c9 (bX L k a n w)/\0=cR (bX L k a n w)/\void=dC (bX L k a n w)/\0=dX (bX L k a n w)/\d=cq L k a n w/\(aA L k a).kpr=gr L k a n w/\a=gq L k a n w/\0=cB L k a n:=by
 have hC:tn L k a n w=false:=by unfold tn;rw[h,decide_eq_false hd,Bool.and_false]
 unfold bX gr gq;rw[hC,h,hE,VQ hd,VQ hd];exact⟨rfl,rfl,rfl,rfl,rfl,rfl,rfl,rfl⟩
theorem Mm {L:List Obj} {k:Key} {a n:Int} {w:Bool} (hE:cB L k a n=0) (h:cq L k a n w=0):c9 (aA L k a)=c9 (bX L k a n w)/\cR (aA L k a)=cR (bX L k a n w)/\dC (aA L k a)=dC (bX L k a n w)/\dX (aA L k a)=dX (bX L k a n w)/\0=cq L k a n w/\void=gr L k a n w/\0=gq L k a n w/\0=cB L k a n:=by
 have hC:tn L k a n w=true:=by unfold tn;rw[h,hE];rfl
 unfold bX gr gq;rw[hC,h,hE];exact⟨rfl,rfl,rfl,rfl,rfl,rfl,rfl,rfl⟩
theorem TA {r:Wr} (h:r.kd=0):c9 r=r.pos/\cR r=r.adr/\dC r=r.kpr:=by
 unfold c9 cR dC;rw[VR h,VR h,VR h];exact⟨rfl,rfl,rfl⟩
theorem Ul {r:Wr} {a:Int} (h:r.kd≠0):fm r=r.kd/\fU r=r.kpr/\fV r a=a:=by
 unfold fU fV;rw[VQ h,VQ h];exact⟨rfl,rfl,rfl⟩
theorem Um {L:List Obj} {k:Key} {a n:Int} {w:Bool} (hE:cB L k a n=0) (h:(aA L k a).kd≠0):cq L k a n w=(aA L k a).kd:=by unfold cq;rw[VR hE,VQ h]
theorem UM {L:List Obj} {k:Key} {a n:Int} {w:Bool} (hE:cB L k a n=0) (h:(aA L k a).kd=0) (h5:64<(aA L k a).adr+n):cq L k a n w=5:=by unfold cq;rw[VR hE,VR h,VR h5]
theorem Uv {L:List Obj} {k:Key} {a n:Int} {w:Bool} (hE:cB L k a n=0) (h:(aA L k a).kd=0) (h5:¬64<(aA L k a).adr+n) (h6:(w&& !decide ((aA L k a).pos.rights=0))=true):cq L k a n w=6:=by unfold cq;rw[VR hE,VR h,VQ h5,VR h6]
theorem U2 {L:List Obj} {k:Key} {a n:Int} {w:Bool} (hE:cB L k a n=0) (h:(aA L k a).kd=0) (h5:¬64<(aA L k a).adr+n) (h6:(w&& !decide ((aA L k a).pos.rights=0))=false):cq L k a n w=0:=by unfold cq;rw[VR hE,VR h,VQ h5,VQ (by rw[h6];simp)]
theorem Em {L:List Obj} {k:Key} {i:Int} {s:ByteArray} (hL:aw L):aw (fb L k i s):=by
 unfold fb;split
 ·rename_i h;unfold cZ at h;split at h
  ·rename_i hp;obtain⟨a1,a2,_⟩:=vj hp;exact(pC hL a1 a2).2.2
  ·rename_i hp;exact absurd h hp
 ·exact hL
theorem PN {L:List Obj} {k:Key} {a:Int} {s:ByteArray} (hL:aw L):aw (np L k a s):=by
 unfold np;split
 ·exact Em hL
 ·exact hL
structure VG where
 kind:Int
 num:Int
 root:Key
 adr:Int
 bytes:ByteArray
structure VE where
 hgt:Int
 slot:Int
 rts:Int
 kept:Bool
end Go.Sx
