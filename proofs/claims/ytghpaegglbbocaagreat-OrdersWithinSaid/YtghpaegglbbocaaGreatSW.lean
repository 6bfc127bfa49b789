import Derived.Test.YtghpaegglbbocaaGreatCP
import Derived.Test.YtghpaegglbbocaaGreatSpP
import Derived.Test.YtghpaegglbbocaaGreatKS
set_option linter.unusedSimpArgs false
set_option linter.unusedVariables false
namespace Go.Sx
def bj (h:Int):Int:=64*16^(h-1).toNat
def m7 (h:Int):Prop:=0<=h/\h<=9
def yv (h g:Int):Prop:=0<=g/\(g=0\/g<=h-1)
def OB:Ct:=EY (cO iA na) (fun x=>some (m7 x.1)) fun x=> .it .i64 (bj x.1)
structure Wk where
 pos:Key
 adr:Int
 rts:Int
 kpr:Key
 dep:Int
 hi:Int
structure Wr where
 kd:Int
 pos:Key
 adr:Int
 kpr:Key
 dep:Int
def Qh:Wr:=⟨0,void,0,void,0⟩
def P8 (r m g:Int):Int:=r+(if 2<=g/\(ff m 1&& !ff r 1)=true then 1 else 0)+(if 4<=g/\(ff m 2&& !ff r 2)=true then 2 else 0)+(if 8<=g/\(ff m 4&& !ff r 4)=true then 4 else 0)
def qR (r m:Int):Int:=P8 r m 8
def oB (r:Int) (p:Key):Key:=if r.tmod 4=0 then p else bR p 1
def oy (w:Wk) (h:Key):Bool:=decide (h.kind=1)&&decide (1<=h.value)&&decide (h.value<=8)&&(decide (w.dep=0)||decide (h.value<w.hi))
def AB (r:Int) (k was:Key):Key:=if k.kind=6/\r<4 then k else was
def jG (L:List Obj) (w:Wk) (p:Key) (h k:Key):Wr×Option Wk:=
 if 8<=w.dep then(⟨3,void,0,w.kpr,0⟩,none)
 else if oy w h then
  (if w.adr.tdiv (bj h.value)<14 then(Qh,some ⟨cM L p (w.adr.tdiv (bj h.value)),w.adr.tmod (bj h.value),qR w.rts p.rights,AB (qR w.rts p.rights) k w.kpr,w.dep+1,h.value⟩)
   else(⟨2,void,0,AB (qR w.rts p.rights) k w.kpr,0⟩,none))
 else(⟨4,void,0,w.kpr,0⟩,none)
def JX (L:List Obj):Nat->Wk->Wr
 |0,w=>⟨3,void,0,w.kpr,0⟩
 |n+1,w=>
  if(ae L w.pos).kind=3 then(if w.adr<64 then⟨0,oB w.rts (ae L w.pos),w.adr,w.kpr,w.dep⟩else⟨2,void,0,w.kpr,0⟩)
  else if(ae L w.pos).kind=2 then match jG L w (ae L w.pos) (cM L (bR (ae L w.pos) 0) 15) (cM L (bR (ae L w.pos) 0) 14)with
   | (r,none)=>r
   | (_,some w')=>JX L n w'
  else⟨1,void,0,w.kpr,0⟩
def gE (L:List Obj) (n:Nat) (w:Wk):Wr:=JX L n w
def vv (k:Key) (a hi:Int):Wk:=⟨k,a,0,void,0,hi⟩
def dU (L:List Obj) (k:Key) (a:Int):Int:=if aE L=0 then 1 else if eH L k then(if a<0 then 4 else 0)else 2
def ar (L:List Obj) (k:Key) (a:Int):Wr:=if dU L k a=0 then gE L 9 (vv k a 0)else Qh
def cP (r:Wr):Key:=if r.kd=0 then r.pos else void
def cH (r:Wr):Int:=if r.kd=0 then r.adr else 0
def di (r:Wr):Key:=if r.kd=0 then r.kpr else void
def dM (r:Wr):Int:=if r.kd=0 then r.dep else 0
def fD (r:Wr):Key:=if r.kd=0 then void else r.kpr
def fE (r:Wr) (a:Int):Int:=if r.kd=0 then 0 else a
def eX (r:Wr):Int:=r.kd
def QO (r:Wr):V:= .ag [.key (cP r),.it .i64 (cH r),.key (di r),.it .i64 (dM r)]
def Sk (r:Wr) (a:Int):V:= .ag [.it .i64 (eX r),.key (fD r),.it .i64 (fE r a)]
def Fo (L:List Obj) (k:Key) (a:Int):V:= .tp [QO (ar L k a),Sk (ar L k a) a,.it .i64 (dU L k a)]
abbrev tW:Nat:=246
def SY (s:V) (g:Wk):V:= .ag [s,.key g.pos,.it .i64 g.adr,.it .i64 g.rts,.key g.kpr,.it .i64 g.dep,.it .i64 g.hi,.cb false]
def pw (L:List Obj) (k:Key) (a hi:Int) (g:Wk):Prop:=
 (0<=g.adr/\g.adr<=a)/\(0<=g.rts/\g.rts<=7)/\(0<=g.dep/\g.dep<=8)/\(g.dep=0->g.hi=hi)/\(g.dep≠0->g.hi<=8)/\gE L (9-g.dep).toNat g=gE L 9 (vv k a hi)
def sD (g:Wk):Nat:=(9-g.dep).toNat
def OR:Ct:=EY (cO sA (cO kA (cO iA na))) (fun _=>none) fun x=>Fo (BK x.1) x.2.1 x.2.2.1
def S5 (nid:Nat):V:= .mp nid
def S8 (nid:Nat):List aw:= [.mp .i64 [3,2] [.fn 206 [],.fn 207 []]]
theorem DZ {g:Int} (h:1<=g):bj g*16=bj (g+1):=by
 unfold bj;have e:(g+1-1).toNat=(g-1).toNat+1:=by omega
 rw[e,Int.pow_succ];generalize (16:Int)^(g-1).toNat=x
 omega
theorem rk {h:Int} (hh:h<=1):bj h=64:=by
 unfold bj;have e:(h-1).toNat=0:=by omega
 rw[e];rfl
theorem uq {h:Int} (hh:h<=9):64<=bj h/\bj h<=274877906944:=by
 by_cases h1:h<=1
 ·rw[rk h1];omega
 have:h=2\/h=3\/h=4\/h=5\/h=6\/h=7\/h=8\/h=9:=by omega
 rcases this with rfl|rfl|rfl|rfl|rfl|rfl|rfl|rfl<;>decide
theorem PD:∀r m:Fin 8,aO .or .i64 (r.val:Int) (m.val:Int)=qR (r.val:Int) (m.val:Int)/\0<=qR (r.val:Int) (m.val:Int)/\qR (r.val:Int) (m.val:Int)<=7:=by decide
theorem BA {r:Int} (h0:0<=r) (h1:r<=7):∃x:Fin 8,(x.val:Int)=r:=⟨⟨r.toNat,by omega⟩,by simp;omega⟩
theorem Qt {r m:Int} (h0:0<=r) (h1:r<=7) (m0:0<=m) (m1:m<=7):aO .or .i64 r m=qR r m/\0<=qR r m/\qR r m<=7:=by
 obtain⟨x,rfl⟩:=BA h0 h1;obtain⟨y,rfl⟩:=BA m0 m1;exact PD x y
theorem Hx:∀r:Fin 8,decide (aO .and .i64 (r.val:Int) 4=0)=decide ((r.val:Int)<4):=by decide
theorem Sm {r:Int} (h0:0<=r) (h1:r<=7):decide (aO .and .i64 r 4=0)=decide (r<4):=by
 obtain⟨x,rfl⟩:=BA h0 h1;exact Hx x
theorem DC {L:List Obj} {k:Key} (h:(ae L k).kind=2\/(ae L k).kind=3):ae L k=k/\aM L k=true:=by
 unfold ae at h⊢;split at h
 ·simp[void]at h
 ·rename_i hn;rw[Tn hn];refine⟨rfl,?_⟩;simp only[Bool.or_eq_true,Bool.not_eq_true',Th,not_or,Bool.not_eq_true,not_and]at hn;obtain⟨⟨h1,h2⟩,h3⟩:=hn;have hk:aB k=true:=by simpa using h2
  have:aU k=true:=by
   unfold aU cA;rw[hk];rcases h with h|h<;>simp[h]
  have:=h3 this;simpa using this
theorem Ow {k:Key} (h:aB k=true) (h2:k.kind=2):Key.mk 2 k.oid k.count void.call void.rights void.value=bR k 0:=by
 obtain⟨a,b,c,d,e,f⟩:=k;simp only at h2;subst h2;simp[aB,dV,cA,eI,gY]at h;simp[bR,void];omega
theorem Pu {L:List Obj} {k:Key} (h:aM L k=true) (h2:k.kind=2):aM L (bR k 0)=true:=by
 have hk:=(ea h).1
 have hk':aB (bR k 0)=true:=by
  have hk1:=hk;simp only[aB,Th,Ti]at hk1⊢;obtain⟨⟨⟨⟨⟨⟨⟨x1,x2⟩,x3⟩,x4⟩,x5⟩,x6⟩,x7⟩,x8⟩:=hk1;exact⟨⟨⟨⟨⟨⟨⟨x1,x2⟩,Int.le_refl 0⟩,by show 0<=cm k.kind;omega⟩,x5⟩,x6⟩,x7⟩,x8⟩
 have hn:bn (bR k 0)=bn k:=by unfold bn;rw[hk,hk'];rfl
 have hw:gZ (bR k 0)=gZ k:=by unfold gZ;rw[hn];rfl
 have hc:∀o,ca (bR k 0) o=ca k o:=fun o=>by unfold ca;rw[hn,hw,hk,hk'];rfl
 have hd:aU (bR k 0)=aU k:=by unfold aU;rw[hk,hk'];rfl
 unfold aM at h⊢;rw[hd,hc];exact h
theorem BT {L:List Obj} {k:Key} {i:Int} (h:aM L k=true) (h2:k.kind=2) (h0:0<=i) (h1:i<16):aC L k i=cM L k i:=by
 have hl:=ea h
 have hA:aJ L k 2 false=0:=by
  unfold aJ;rw[Tn (by have:=hl.2.1;have:=hl.2.2.1;unfold aE;omega),Tn (by rw[h,h2];simp),Tn (by simp)]
 unfold aC bF jS;rw[hA,To rfl,decide_eq_true h0,decide_eq_true h1];rfl
theorem GO {L:List Obj} {k:Key} {i:Int} (h:aM L k=true) (h2:k.kind=2) (h0:0<=i) (h1:i<16):aC L (Key.mk 2 k.oid k.count void.call void.rights void.value) i=cM L (bR k 0) i:=by
 rw[Ow (ea h).1 h2];exact BT (Pu h h2) h2 h0 h1
theorem go_eq {L:List Obj} {g:Wk} (h0:0<=g.dep) (h8:g.dep<=8):gE L (9-g.dep).toNat g=
  if(ae L g.pos).kind=3 then(if g.adr<64 then⟨0,oB g.rts (ae L g.pos),g.adr,g.kpr,g.dep⟩else⟨2,void,0,g.kpr,0⟩)
  else if(ae L g.pos).kind=2 then match jG L g (ae L g.pos) (cM L (bR (ae L g.pos) 0) 15) (cM L (bR (ae L g.pos) 0) 14)with
   | (r,none)=>r
   | (_,some w')=>gE L (8-g.dep).toNat w'
  else⟨1,void,0,g.kpr,0⟩:=by
 have e:(9-g.dep).toNat=(8-g.dep).toNat+1:=by omega
 rw[e];rfl
theorem La {L:List Obj} {g:Wk} (h0:0<=g.dep) (h8:g.dep<=8) (h3:(ae L g.pos).kind≠3) (h2:(ae L g.pos).kind≠2):gE L (9-g.dep).toNat g=⟨1,void,0,g.kpr,0⟩:=by
 rw[go_eq h0 h8,Tn h3,Tn h2]
theorem NR {L:List Obj} {g:Wk} (h0:0<=g.dep) (h8:g.dep<=8) (h3:(ae L g.pos).kind=3) (h:¬g.adr<64):gE L (9-g.dep).toNat g=⟨2,void,0,g.kpr,0⟩:=by
 rw[go_eq h0 h8,To h3,Tn h]
theorem CO {L:List Obj} {g:Wk} (h0:0<=g.dep) (h8:g.dep<=8) (h3:(ae L g.pos).kind=3) (h:g.adr<64):gE L (9-g.dep).toNat g=⟨0,oB g.rts (ae L g.pos),g.adr,g.kpr,g.dep⟩:=by
 rw[go_eq h0 h8,To h3,To h]
theorem OL {L:List Obj} {g:Wk} (h0:0<=g.dep) (h8:g.dep<=8) (h2:(ae L g.pos).kind=2) (h:¬g.dep<8):gE L (9-g.dep).toNat g=⟨3,void,0,g.kpr,0⟩:=by
 rw[go_eq h0 h8,Tn (by omega),To h2,jG,To (by omega)]
theorem Mo {L:List Obj} {g:Wk} (h0:0<=g.dep) (h8:g.dep<=8) (h2:(ae L g.pos).kind=2) (h:g.dep<8) (hf:oy g (cM L (bR (ae L g.pos) 0) 15)=false):gE L (9-g.dep).toNat g=⟨4,void,0,g.kpr,0⟩:=by
 rw[go_eq h0 h8,Tn (by omega),To h2,jG,Tn (by omega),hf]
 rfl
theorem CN {L:List Obj} {g:Wk} (h0:0<=g.dep) (h8:g.dep<=8) (h2:(ae L g.pos).kind=2) (h:g.dep<8) (hf:oy g (cM L (bR (ae L g.pos) 0) 15)=true)
  (hs:¬g.adr.tdiv (bj (cM L (bR (ae L g.pos) 0) 15).value)<14):gE L (9-g.dep).toNat g=⟨2,void,0,AB (qR g.rts (ae L g.pos).rights) (cM L (bR (ae L g.pos) 0) 14) g.kpr,0⟩:=by
 rw[go_eq h0 h8,Tn (by omega),To h2,jG,Tn (by omega),hf,To rfl,Tn hs]
def JY (L:List Obj) (g:Wk):Wk:=⟨cM L (ae L g.pos) (g.adr.tdiv (bj (cM L (bR (ae L g.pos) 0) 15).value)),g.adr.tmod (bj (cM L (bR (ae L g.pos) 0) 15).value),qR g.rts (ae L g.pos).rights,
 AB (qR g.rts (ae L g.pos).rights) (cM L (bR (ae L g.pos) 0) 14) g.kpr,g.dep+1,(cM L (bR (ae L g.pos) 0) 15).value⟩
theorem L4 {L:List Obj} {g:Wk} (h0:0<=g.dep) (h8:g.dep<=8) (h2:(ae L g.pos).kind=2) (h:g.dep<8) (hf:oy g (cM L (bR (ae L g.pos) 0) 15)=true)
  (hs:g.adr.tdiv (bj (cM L (bR (ae L g.pos) 0) 15).value)<14):gE L (9-g.dep).toNat g=gE L (9-(g.dep+1)).toNat (JY L g):=by
 rw[go_eq h0 h8,Tn (by omega),To h2,jG,Tn (by omega),hf,To rfl,To hs]
 have e:(9-(g.dep+1)).toNat=(8-g.dep).toNat:=by omega
 rw[e];rfl
theorem x9 {g:Wk} {h:Key}:oy g h=true↔h.kind=1/\1<=h.value/\h.value<=8/\(g.dep=0\/h.value<g.hi):=by
 simp[oy,and_assoc]
theorem sQ {a e:Int} (h0:0<=a) (he:64<=e):0<=a.tdiv e/\a.tdiv e<=a/\0<=a.tmod e/\a.tmod e<=a:=by
 rw[Int.tdiv_eq_ediv_of_nonneg h0,Int.tmod_eq_emod_of_nonneg h0];have h1:=Int.ediv_nonneg h0 (show 0<=e by omega)
 have h2:=Int.ediv_le_self e h0;have h3:=Int.emod_nonneg a (show e≠0 by omega)
 have h4:=Int.emod_add_mul_ediv a e;have h5:=Int.mul_nonneg (show 0<=e by omega) h1
 omega
theorem Nk {L:List Obj} {k:Key} {a hi:Int} {g:Wk} (hI:pw L k a hi g) (h2:(ae L g.pos).kind=2) (h:g.dep<8) (hf:oy g (cM L (bR (ae L g.pos) 0) 15)=true)
  (hs:g.adr.tdiv (bj (cM L (bR (ae L g.pos) 0) 15).value)<14):pw L k a hi (JY L g)/\sD (JY L g)<sD g:=by
 obtain⟨⟨a1,a2⟩,⟨r1,r2⟩,⟨d1,d2⟩,e1,e2,e3⟩:=hI;have hf':=x9.1 hf;have he:=uq (show(cM L (bR (ae L g.pos) 0) 15).value<=9 by omega)
 have hd:=sQ a1 he.1;have hp:=nJ (mG L g.pos);have ho:=Qt r1 r2 hp.1 hp.2;refine⟨⟨⟨hd.2.2.1,by have:=hd.2.2.2;simp only[JY];omega⟩,ho.2,⟨by simp only[JY];omega,by simp only[JY];omega⟩,fun h=>?_,fun _=>hf'.2.2.1,?_⟩,?_⟩
 ·simp only[JY]at h;omega
 ·rw[<-e3,L4 d1 d2 h2 h hf hs];rfl
 ·unfold sD;simp only[JY];omega
theorem OA {L:List Obj} {k:Key} {a:Int} (x y:Int):gE L 9 (vv k a x)=gE L 9 (vv k a y):=by
 show JX L (8+1) _=JX L (8+1) _
 unfold JX;simp only[vv,jG,oy];rfl
theorem SD {L:List Obj} {k:Key} {a:Int} (h:¬a<0) (hi:Int):pw L k a hi (vv k a hi):=
 ⟨⟨by simp only[vv];omega,by simp only[vv];omega⟩,by simp[vv],by simp[vv],fun _=>rfl,fun h=>absurd rfl h,rfl⟩
theorem Qe {L:List Obj} {k:Key} {a hi:Int} {g:Wk} (hI:pw L k a hi g) (hE:dU L k a=0):ar L k a=gE L (9-g.dep).toNat g:=by
 unfold ar;rw[To hE,hI.2.2.2.2.2];exact OA _ _
theorem CS {L:List Obj} {k:Key} {a e:Int} (h:dU L k a=e) (he:e≠0):void=cP (ar L k a)/\0=cH (ar L k a)/\void=di (ar L k a)/\0=dM (ar L k a)/\0=eX (ar L k a)/\void=fD (ar L k a)/\0=fE (ar L k a) a/\e=dU L k a:=by
 have:ar L k a=Qh:=by unfold ar;rw[Tn (by omega)]
 rw[this,h];exact⟨rfl,rfl,rfl,rfl,rfl,rfl,rfl,rfl⟩
theorem xw {L:List Obj} {k:Key} {a hi d:Int} {g:Wk} {p:Key} (hI:pw L k a hi g) (hE:dU L k a=0) (h:gE L (9-g.dep).toNat g=⟨d,void,0,p,0⟩) (hd:d≠0):
  void=cP (ar L k a)/\0=cH (ar L k a)/\void=di (ar L k a)/\0=dM (ar L k a)/\d=eX (ar L k a)/\p=fD (ar L k a)/\a=fE (ar L k a) a/\0=dU L k a:=by
 rw[Qe hI hE,h,hE];simp only[cP,cH,di,dM,eX,fD,fE,Tn hd];simp
theorem MW {L:List Obj} {k:Key} {a hi ad dp:Int} {g:Wk} {q p:Key} (hI:pw L k a hi g) (hE:dU L k a=0) (h:gE L (9-g.dep).toNat g=⟨0,q,ad,p,dp⟩):
  q=cP (ar L k a)/\ad=cH (ar L k a)/\p=di (ar L k a)/\dp=dM (ar L k a)/\0=eX (ar L k a)/\void=fD (ar L k a)/\0=fE (ar L k a) a/\0=dU L k a:=by
 rw[Qe hI hE,h,hE];exact⟨rfl,rfl,rfl,rfl,rfl,rfl,rfl,rfl⟩
theorem xa (L:List Obj) (v:Key):(!decide (bf v=0)||aU v&&decide (ah L<=bW v))= !eH L v:=by
 rw[<-yy]
 have:decide (ah L<=bW v)= !decide (bW v<ah L):=by
  rw[Bool.eq_iff_iff];simp
 rw[this];cases decide (bf v=0)<;>cases aU v<;>cases decide (bW v<ah L)<;>rfl
theorem RA {L:List Obj} {k:Key} {a:Int} (h:decide (ah L=0)=true):dU L k a=1:=by
 have h:=Tl h;unfold ah at h;unfold dU;rw[To (by omega)]
theorem P0 {L:List Obj} {k:Key} {a:Int} (h:decide (ah L=0)=false):dU L k a=if eH L k then(if a<0 then 4 else 0)else 2:=by
 have h:=Tk h;unfold ah at h;unfold dU;rw[Tn (by omega)]
end Go.Sx
namespace Go.Sx
def b9 (L:List Obj) (k:Key) (a n:Int):Int:=if dU L k a=0 then(if n<0\/64<n then 4 else 0)else dU L k a
def bU (L:List Obj) (k:Key) (a n:Int) (w:Bool):Int:=if b9 L k a n=0 then(if(ar L k a).kd=0 then(if 64<(ar L k a).adr+n then 5 else if(w&& !decide ((ar L k a).pos.rights=0))=true then 6 else 0)else(ar L k a).kd)else 0
def fW (L:List Obj) (k:Key) (a n:Int) (w:Bool):Key:=if bU L k a n w=0 then void else(ar L k a).kpr
def fV (L:List Obj) (k:Key) (a n:Int) (w:Bool):Int:=if bU L k a n w=0 then 0 else a
def qi (L:List Obj) (k:Key) (a n:Int) (w:Bool):Bool:=decide (b9 L k a n=0)&&decide (bU L k a n w=0)
def bO (L:List Obj) (k:Key) (a n:Int) (w:Bool):Wr:=if qi L k a n w=true then ar L k a else Qh
def RY (L:List Obj) (k:Key) (a n:Int) (w:Bool):V:= .ag [.it .i64 (bU L k a n w),.key (fW L k a n w),.it .i64 (fV L k a n w)]
def nz (L:List Obj) (k:Key) (a n:Int):ByteArray:=if qi L k a n false=true then ec L (cP (bO L k a n false)) (cH (bO L k a n false)) n else⟨#[]⟩
def j3 (L:List Obj) (k:Key) (a:Int) (s:ByteArray):List Obj:=if qi L k a (dK s) true=true then ew L (cP (bO L k a (dK s) true)) (cH (bO L k a (dK s) true)) s else L
def SA (L:List Obj) (k:Key) (a n:Int) (w:Bool):V:= .tp [QO (bO L k a n w),RY L k a n w,.it .i64 (b9 L k a n)]
def Qu:Ct:=EY (cO sA (cO kA (cO iA (cO iA (cO bA na))))) (fun _=>none) fun x=>SA (BK x.1) x.2.1 x.2.2.1 x.2.2.2.1 x.2.2.2.2.1
def SP:Ct:=EY (cO sA (cO kA (cO iA (cO iA na)))) (fun _=>none) fun x=> .tp [.st (nz (BK x.1) x.2.1 x.2.2.1 x.2.2.2.1),RY (BK x.1) x.2.1 x.2.2.1 x.2.2.2.1 false,.it .i64 (b9 (BK x.1) x.2.1 x.2.2.1 x.2.2.2.1)]
def Re:nD:=RU C9 (fun x=>az x.2.2) (fun L x=>an L/\az x.2.2) (fun L x=> .tp [RY L x.1 x.2.1 (dK x.2.2) true,.it .i64 (b9 L x.1 x.2.1 (dK x.2.2))]) fun L x=>j3 L x.1 x.2.1 x.2.2
theorem MG {L:List Obj} {k:Key} {r:Int} (h:aM L k=true) (h3:k.kind=3):aM L (oB r k)=true/\(oB r k).kind=3:=by
 unfold oB;split
 ·exact⟨h,h3⟩
 ·refine⟨?_,h3⟩;have hk:=(ea h).1;have hm:cm k.kind=1:=by rw[h3];rfl
  have hk':aB (bR k 1)=true:=by
   have hk1:=hk;simp only[aB,Th,Ti]at hk1⊢;obtain⟨⟨⟨⟨⟨⟨⟨x1,x2⟩,x3⟩,x4⟩,x5⟩,x6⟩,x7⟩,x8⟩:=hk1;exact⟨⟨⟨⟨⟨⟨⟨x1,x2⟩,by show(0:Int)<=1;omega⟩,by show 1<=cm k.kind;omega⟩,x5⟩,x6⟩,x7⟩,x8⟩
  have hn:bn (bR k 1)=bn k:=by unfold bn;rw[hk,hk'];rfl
  have hw:gZ (bR k 1)=gZ k:=by unfold gZ;rw[hn];rfl
  have hc:∀o,ca (bR k 1) o=ca k o:=fun o=>by unfold ca;rw[hn,hw,hk,hk'];rfl
  have hd:aU (bR k 1)=aU k:=by unfold aU;rw[hk,hk'];rfl
  unfold aM at h⊢;rw[hd,hc];exact h
theorem CM {L:List Obj}:∀(n:Nat) (w:Wk),0<=w.adr->(gE L n w).kd=0->(aM L (gE L n w).pos=true/\(gE L n w).pos.kind=3)/\0<=(gE L n w).adr/\(gE L n w).adr<64
 |0,w,_,h=>absurd h (by show¬(3:Int)=0;omega)
 |n+1,w,ha,h=>by
  unfold gE JX at h⊢;split at h
  ·rename_i h3;split at h
   ·rename_i hlt;rw[To h3,To hlt];obtain⟨pe,pi⟩:=DC (.inr h3);rw[pe]at h3⊢;exact⟨MG pi h3,ha,hlt⟩
   ·exact absurd h (by show¬(2:Int)=0;omega)
  ·rename_i h3;rw[Tn h3];split at h
   ·rename_i h2;rw[To h2];split at h
    ·rename_i r hr;unfold jG at hr;split at hr
     ·simp only[Tg,and_true]at hr;subst hr;exact absurd h (by show¬(3:Int)=0;omega)
     ·split at hr
      ·split at hr<;>simp only[Tg,and_true,reduceCtorEq,and_false]at hr
       subst hr;exact absurd h (by show¬(2:Int)=0;omega)
      ·simp only[Tg,and_true]at hr;subst hr;exact absurd h (by show¬(4:Int)=0;omega)
    ·rename_i r w' hr;refine CM n w' ?_ h;unfold jG at hr;split at hr
     ·simp at hr
     ·split at hr
      ·rename_i hf;split at hr<;>simp only[Tg,Tf,reduceCtorEq,and_false]at hr
       obtain⟨_,rfl⟩:=hr;have hf':=x9.1 hf;have he:=uq (show(cM L (bR (ae L w.pos) 0) 15).value<=9 by omega)
       exact(sQ ha he.1).2.2.1
      ·simp at hr
   ·exact absurd h (by show¬(1:Int)=0;omega)
theorem OJ {L:List Obj} {k:Key} {a:Int} (hE:dU L k a=0) (h:(ar L k a).kd=0):(aM L (ar L k a).pos=true/\(ar L k a).pos.kind=3)/\0<=(ar L k a).adr/\(ar L k a).adr<64:=by
 have ha:0<=a:=by
  unfold dU at hE;split at hE
  ·omega
  ·split at hE
   ·split at hE<;>omega
   ·omega
 unfold ar at h⊢;rw[To hE]at h⊢;exact CM 9 _ ha h
theorem vQ {L:List Obj} {k:Key} {a n:Int} {w:Bool}:(!decide (b9 L k a n=0)|| !decide (bU L k a n w=0))= !qi L k a n w:=by
 unfold qi;cases decide (b9 L k a n=0)<;>cases decide (bU L k a n w=0)<;>rfl
theorem vA {L:List Obj} {k:Key} {a n:Int} {w:Bool} (h:qi L k a n w=true):b9 L k a n=0/\bU L k a n w=0:=by
 unfold qi at h;simpa using h
theorem KZ {L:List Obj} {k:Key} {a n e:Int} (h:dU L k a=e) (he:e≠0):b9 L k a n=e:=by unfold b9;rw[h,Tn he]
theorem Sa {L:List Obj} {k:Key} {a n:Int} (h:dU L k a=0) (hr:(decide (n<0)||decide (64<n))=true):b9 L k a n=4:=by
 unfold b9;rw[To h,To (by simpa using hr)]
theorem Sp {L:List Obj} {k:Key} {a n:Int} (h:dU L k a=0) (hr:(decide (n<0)||decide (64<n))=false):b9 L k a n=0:=by
 unfold b9;rw[To h,Tn (by simpa using hr)]
theorem Ce {L:List Obj} {k:Key} {a n:Int} (h:b9 L k a n=0):dU L k a=0/\0<=n/\n<=64:=by
 unfold b9 at h;split at h
 ·rename_i hw;split at h
  ·omega
  ·exact⟨hw,by omega,by omega⟩
 ·rename_i hw;exact absurd h hw
theorem rh {L:List Obj} {k:Key} {a n e:Int} {w:Bool} (h:b9 L k a n=e) (he:e≠0):void=cP (bO L k a n w)/\0=cH (bO L k a n w)/\void=di (bO L k a n w)/\0=dM (bO L k a n w)/\0=bU L k a n w/\void=fW L k a n w/\0=fV L k a n w/\e=b9 L k a n:=by
 have hF:bU L k a n w=0:=by unfold bU;rw[h,Tn he]
 have hC:qi L k a n w=false:=by unfold qi;rw[h,decide_eq_false he];rfl
 unfold bO fW fV;rw[hC,hF,h];exact⟨rfl,rfl,rfl,rfl,rfl,rfl,rfl,rfl⟩
theorem yK {L:List Obj} {k:Key} {a n d:Int} {w:Bool} (hE:b9 L k a n=0) (h:bU L k a n w=d) (hd:d≠0):void=cP (bO L k a n w)/\0=cH (bO L k a n w)/\void=di (bO L k a n w)/\0=dM (bO L k a n w)/\d=bU L k a n w/\(ar L k a).kpr=fW L k a n w/\a=fV L k a n w/\0=b9 L k a n:=by
 have hC:qi L k a n w=false:=by unfold qi;rw[h,decide_eq_false hd,Bool.and_false]
 unfold bO fW fV;rw[hC,h,hE,Tn hd,Tn hd];exact⟨rfl,rfl,rfl,rfl,rfl,rfl,rfl,rfl⟩
theorem MN {L:List Obj} {k:Key} {a n:Int} {w:Bool} (hE:b9 L k a n=0) (h:bU L k a n w=0):cP (ar L k a)=cP (bO L k a n w)/\cH (ar L k a)=cH (bO L k a n w)/\di (ar L k a)=di (bO L k a n w)/\dM (ar L k a)=dM (bO L k a n w)/\0=bU L k a n w/\void=fW L k a n w/\0=fV L k a n w/\0=b9 L k a n:=by
 have hC:qi L k a n w=true:=by unfold qi;rw[h,hE];rfl
 unfold bO fW fV;rw[hC,h,hE];exact⟨rfl,rfl,rfl,rfl,rfl,rfl,rfl,rfl⟩
theorem QE {r:Wr} (h:r.kd=0):cP r=r.pos/\cH r=r.adr/\di r=r.kpr:=by
 unfold cP cH di;rw[To h,To h,To h];exact⟨rfl,rfl,rfl⟩
theorem R7 {r:Wr} {a:Int} (h:r.kd≠0):eX r=r.kd/\fD r=r.kpr/\fE r a=a:=by
 unfold fD fE;rw[Tn h,Tn h];exact⟨rfl,rfl,rfl⟩
theorem SB {L:List Obj} {k:Key} {a n:Int} {w:Bool} (hE:b9 L k a n=0) (h:(ar L k a).kd≠0):bU L k a n w=(ar L k a).kd:=by unfold bU;rw[To hE,Tn h]
theorem Sz {L:List Obj} {k:Key} {a n:Int} {w:Bool} (hE:b9 L k a n=0) (h:(ar L k a).kd=0) (h5:64<(ar L k a).adr+n):bU L k a n w=5:=by unfold bU;rw[To hE,To h,To h5]
theorem Sg {L:List Obj} {k:Key} {a n:Int} {w:Bool} (hE:b9 L k a n=0) (h:(ar L k a).kd=0) (h5:¬64<(ar L k a).adr+n) (h6:(w&& !decide ((ar L k a).pos.rights=0))=true):bU L k a n w=6:=by unfold bU;rw[To hE,To h,Tn h5,To h6]
theorem Sn {L:List Obj} {k:Key} {a n:Int} {w:Bool} (hE:b9 L k a n=0) (h:(ar L k a).kd=0) (h5:¬64<(ar L k a).adr+n) (h6:(w&& !decide ((ar L k a).pos.rights=0))=false):bU L k a n w=0:=by unfold bU;rw[To hE,To h,Tn h5,Tn (by rw[h6];simp)]
theorem CX {L:List Obj} {k:Key} {i:Int} {s:ByteArray} (hL:an L):an (ew L k i s):=by
 unfold ew;split
 ·rename_i h;unfold cJ at h;split at h
  ·rename_i hp;obtain⟨a1,a2,_⟩:=uC hp;exact(oH hL a1 a2).2.2
  ·rename_i hp;exact absurd h hp
 ·exact hL
theorem NY {L:List Obj} {k:Key} {a:Int} {s:ByteArray} (hL:an L):an (j3 L k a s):=by
 unfold j3;split
 ·exact CX hL
 ·exact hL
structure Td where
 kind:Int
 num:Int
 root:Key
 adr:Int
 bytes:ByteArray
structure Te where
 hgt:Int
 slot:Int
 rts:Int
 kept:Bool
theorem Po {L:List Obj} {k:Key} {a:Int} {s:ByteArray} (h:qi L k a (dK s) true=false):j3 L k a s=L:=by unfold j3;rw[h];rfl
end Go.Sx
