import Derived.Test.YtlblcfaclmpekaaGreatMa12
set_option linter.unusedSimpArgs false
set_option linter.unusedVariables false
set_option maxRecDepth 100000
namespace Go.Sx
def bf (h:Int):Int:=64*16^(h-1).toNat
def j5 (h:Int):Prop:=0<=h/\h<=9
def Cb (h g:Int):Prop:=0<=g/\(g=0\/g<=h-1)
def C2 (h g:Int):Prop:=1<=g/\(g=1\/g<=h)
def Mk:Ct:=ti (bc iA gK) (fun x=>some (j5 x.1)) fun x=> .it .i64 (bf x.1)
structure Wk where
 pos:Key
 adr:Int
 rts:Int
 kpr:Key
 dep:Int
 hi:Int
structure Wr where
 kd:Int
 pos:Key
 adr:Int
 kpr:Key
 dep:Int
def YE:Wr:=⟨0,void,0,void,0⟩
def fW (r m g:Int):Int:=r+(if 2<=g/\(gU m 1&& !gU r 1)=true then 1 else 0)+(if 4<=g/\(gU m 2&& !gU r 2)=true then 2 else 0)+(if 8<=g/\(gU m 4&& !gU r 4)=true then 4 else 0)
def nJ (r m:Int):Int:=fW r m 8
def oY (r:Int) (p:Key):Key:=if r.tmod 4=0 then p else di p 1
def qu (w:Wk) (h:Key):Bool:=decide (h.kind=1)&&decide (1<=h.value)&&decide (h.value<=8)&&(decide (w.dep=0)||decide (h.value<w.hi))
def wP (r:Int) (k was:Key):Key:=if k.kind=6/\r<4 then k else was
def mn (L:List Obj) (w:Wk) (p:Key) (h k:Key):Wr×Option Wk:=
 if 8<=w.dep then(⟨3,void,0,w.kpr,0⟩,none)
 else if qu w h then
  (if w.adr.tdiv (bf h.value)<14 then(YE,some ⟨dh L p (w.adr.tdiv (bf h.value)),w.adr.tmod (bf h.value),nJ w.rts p.rights,wP (nJ w.rts p.rights) k w.kpr,w.dep+1,h.value⟩)
   else(⟨2,void,0,wP (nJ w.rts p.rights) k w.kpr,0⟩,none))
 else(⟨4,void,0,w.kpr,0⟩,none)
def QC (L:List Obj):Nat->Wk->Wr
 |0,w=>⟨3,void,0,w.kpr,0⟩
 |n+1,w=>
  if(ah L w.pos).kind=3 then(if w.adr<64 then⟨0,oY w.rts (ah L w.pos),w.adr,w.kpr,w.dep⟩else⟨2,void,0,w.kpr,0⟩)
  else if(ah L w.pos).kind=2 then match mn L w (ah L w.pos) (dh L (di (ah L w.pos) 0) 15) (dh L (di (ah L w.pos) 0) 14)with
   | (r,none)=>r
   | (_,some w')=>QC L n w'
  else⟨1,void,0,w.kpr,0⟩
def ji (L:List Obj) (n:Nat) (w:Wk):Wr:=QC L n w
def xC (k:Key) (a hi:Int):Wk:=⟨k,a,0,void,0,hi⟩
def dL (L:List Obj) (k:Key) (a:Int):Int:=if ai L=0 then 1 else if bJ L k then(if a<0 then 4 else 0)else 2
def au (L:List Obj) (k:Key) (a:Int):Wr:=if dL L k a=0 then ji L 9 (xC k a 0)else YE
def cm (r:Wr):Key:=if r.kd=0 then r.pos else void
def ck (r:Wr):Int:=if r.kd=0 then r.adr else 0
def dn (r:Wr):Key:=if r.kd=0 then r.kpr else void
def dK (r:Wr):Int:=if r.kd=0 then r.dep else 0
def fQ (r:Wr):Key:=if r.kd=0 then void else r.kpr
def fO (r:Wr) (a:Int):Int:=if r.kd=0 then 0 else a
def e9 (r:Wr):Int:=r.kd
def aaj (r:Wr):V:= .ag [.key (cm r),.it .i64 (ck r),.key (dn r),.it .i64 (dK r)]
def aaI (r:Wr) (a:Int):V:= .ag [.it .i64 (e9 r),.key (fQ r),.it .i64 (fO r a)]
def Fi (L:List Obj) (k:Key) (a:Int):V:= .tp [aaj (au L k a),aaI (au L k a) a,.it .i64 (dL L k a)]
abbrev tW:Nat:=296
def wkV (s:V) (g:Wk):V:= .ag [s,.key g.pos,.it .i64 g.adr,.it .i64 g.rts,.key g.kpr,.it .i64 g.dep,.it .i64 g.hi,.cb false]
def n8 (L:List Obj) (k:Key) (a hi:Int) (g:Wk):Prop:=
 (0<=g.adr/\g.adr<=a)/\(0<=g.rts/\g.rts<=7)/\(0<=g.dep/\g.dep<=8)/\(g.dep=0->g.hi=hi)/\(g.dep≠0->g.hi<=8)/\ji L (9-g.dep).toNat g=ji L 9 (xC k a hi)
def pA (g:Wk):Nat:=(9-g.dep).toNat
def aaG (jH:List Nat) (inv:Int->Prop) (m:Int):dv:=
 {γ:=Int,head:=fun U g=>match b9 U.slots 11 with
   | .v x=>match x with
     | .it _ r=>match ay U.res 4 with
       | .blk _ c=>match c with
         | .key k=> {U with slots:=H8 jH [(11,.it .i64 (fW r k.rights g)),(16,.it .i64 g)] 0 U.slots}
         |_=>U
       |_=>U
     |_=>U
   |_=>U,inv:=inv,μ:=fun g=>pH (sU m g)}
def VU:Ct:=ti (bc sA (bc kA (bc iA gK))) (fun _=>none) fun x=>Fi (Dx x.1) x.2.1 x.2.2.1
def Sp:Ct:=ti (bc As (bc kA (bc iA gK))) (fun x=>some (ar x.1)) fun x=>Fi x.1 x.2.1 x.2.2.1
def spX (nid:Nat):V:= .mp nid
def spN (nid:Nat):List aK:= [.mp .i64 [3,2] [.fn 245 [],.fn 246 []]]
theorem Bm {g:Int} (h:1<=g):bf g*16=bf (g+1):=by
 unfold bf;have e:(g+1-1).toNat=(g-1).toNat+1:=by omega
 rw[e,Int.pow_succ];generalize (16:Int)^(g-1).toNat=x
 omega
theorem nT {h:Int} (hh:h<=1):bf h=64:=by
 unfold bf;have e:(h-1).toNat=0:=by omega
 rw[e];rfl
theorem r7 {h:Int} (hh:h<=9):64<=bf h/\bf h<=274877906944:=by
 by_cases h1:h<=1
 ·rw[nT h1];omega
 have:h=2\/h=3\/h=4\/h=5\/h=6\/h=7\/h=8\/h=9:=by omega
 rcases this with rfl|rfl|rfl|rfl|rfl|rfl|rfl|rfl<;>decide
theorem VJ:∀r m:Fin 8,bm .or .i64 (r.val:Int) (m.val:Int)=nJ (r.val:Int) (m.val:Int)/\0<=nJ (r.val:Int) (m.val:Int)/\nJ (r.val:Int) (m.val:Int)<=7:=by decide
theorem zC {r:Int} (h0:0<=r) (h1:r<=7):∃x:Fin 8,(x.val:Int)=r:=⟨⟨r.toNat,by omega⟩,by simp;omega⟩
theorem Yt {r m:Int} (h0:0<=r) (h1:r<=7) (m0:0<=m) (m1:m<=7):bm .or .i64 r m=nJ r m/\0<=nJ r m/\nJ r m<=7:=by
 obtain⟨x,rfl⟩:=zC h0 h1;obtain⟨y,rfl⟩:=zC m0 m1;exact VJ x y
theorem LR:∀r:Fin 8,decide (bm .and .i64 (r.val:Int) 4=0)=decide ((r.val:Int)<4):=by decide
theorem aaT {r:Int} (h0:0<=r) (h1:r<=7):decide (bm .and .i64 r 4=0)=decide (r<4):=by
 obtain⟨x,rfl⟩:=zC h0 h1;exact LR x
theorem Ug:∀r m:Fin 8,∀g∈ [(1:Int),2,4],(0<=fW (r.val:Int) (m.val:Int) g/\fW (r.val:Int) (m.val:Int) g<=7)/\
  ((decide (((m.val:Int).tdiv g).tmod 2=1)&&decide (((fW (r.val:Int) (m.val:Int) g).tdiv g).tmod 2=0))=true->fW (r.val:Int) (m.val:Int) g+g=fW (r.val:Int) (m.val:Int) (g*2))/\
  ((decide (((m.val:Int).tdiv g).tmod 2=1)&&decide (((fW (r.val:Int) (m.val:Int) g).tdiv g).tmod 2=0))=false->fW (r.val:Int) (m.val:Int) g=fW (r.val:Int) (m.val:Int) (g*2)):=by decide
theorem Zq {r m g:Int} (h0:0<=r) (h1:r<=7) (m0:0<=m) (m1:m<=7) (hg:g=1\/g=2\/g=4):(0<=fW r m g/\fW r m g<=7)/\
  ((decide ((m.tdiv g).tmod 2=1)&&decide (((fW r m g).tdiv g).tmod 2=0))=true->fW r m g+g=fW r m (g*2))/\
  ((decide ((m.tdiv g).tmod 2=1)&&decide (((fW r m g).tdiv g).tmod 2=0))=false->fW r m g=fW r m (g*2)):=by
 obtain⟨x,rfl⟩:=zC h0 h1;obtain⟨y,rfl⟩:=zC m0 m1;exact Ug x y g (by rcases hg with rfl|rfl|rfl<;>simp)
theorem aax {r m:Int}:fW r m 1=r:=by simp[fW]
theorem Cd {L:List Obj} {k:Key} (h:(ah L k).kind=2\/(ah L k).kind=3):ah L k=k/\aU L k=true:=by
 unfold ah at h⊢;split at h
 ·simp[void]at h
 ·rename_i hn;rw[aa8 hn];refine⟨rfl,?_⟩;simp only[Bool.or_eq_true,Bool.not_eq_true',aa2,not_or,Bool.not_eq_true,not_and]at hn;obtain⟨⟨h1,h2⟩,h3⟩:=hn;have hk:aV k=true:=by simpa using h2
  have:aZ k=true:=by
   unfold aZ ee;rw[hk];rcases h with h|h<;>simp[h]
  have:=h3 this;simpa using this
theorem Tj {L:List Obj} {k:Key} (h:aU L k=true):ah L k=k:=by
 unfold ah;have h':=eg h;rw[aa8];have hl:L≠ []:=fun e=>by have:=h'.2.1;have:=h'.2.2.1;simp[e]at *;omega
 have hs:bn L=false:=by
  unfold bn;cases L with
  |nil=>exact absurd rfl hl
  |cons x l=>simp[ai]
 rw[hs,h'.1,h];simp
theorem WC {k:Key} (h:aV k=true) (h2:k.kind=2):Key.mk 2 k.oid k.count void.call void.rights void.value=di k 0:=by
 obtain⟨a,b,c,d,e,f⟩:=k;simp only at h2;subst h2;simp[aV,fX,ee,gM,kx]at h;simp[di,void];omega
theorem Wh {L:List Obj} {k:Key} (h:aU L k=true) (h2:k.kind=2):aU L (di k 0)=true:=by
 have hk:=(eg h).1
 have hk':aV (di k 0)=true:=by
  have hk1:=hk;simp only[aV,aa2,aa3]at hk1⊢;obtain⟨⟨⟨⟨⟨⟨⟨x1,x2⟩,x3⟩,x4⟩,x5⟩,x6⟩,x7⟩,x8⟩:=hk1;exact⟨⟨⟨⟨⟨⟨⟨x1,x2⟩,Int.le_refl 0⟩,by show 0<=fq k.kind;omega⟩,x5⟩,x6⟩,x7⟩,x8⟩
 have hn:bd (di k 0)=bd k:=by unfold bd;rw[hk,hk'];rfl
 have hw:gB (di k 0)=gB k:=by unfold gB;rw[hn];rfl
 have hc:∀o,cG (di k 0) o=cG k o:=fun o=>by unfold cG;rw[hn,hw,hk,hk'];rfl
 have hd:aZ (di k 0)=aZ k:=by unfold aZ;rw[hk,hk'];rfl
 unfold aU at h⊢;rw[hd,hc];exact h
theorem Gw {L:List Obj} {k:Key} {i:Int} (h:aU L k=true) (h2:k.kind=2) (h0:0<=i) (h1:i<16):aJ L k i=dh L k i:=by
 have hl:=eg h
 have hA:aC L k 2 false=0:=by
  unfold aC;rw[aa8 (by have:=hl.2.1;have:=hl.2.2.1;unfold ai;omega),aa8 (by rw[h,h2];simp),aa8 (by simp)]
 unfold aJ bW kh;rw[hA,aa9 rfl,decide_eq_true h0,decide_eq_true h1];rfl
theorem Nx {L:List Obj} {k:Key} {i:Int} (h:aU L k=true) (h2:k.kind=2) (h0:0<=i) (h1:i<16):aJ L (Key.mk 2 k.oid k.count void.call void.rights void.value) i=dh L (di k 0) i:=by
 rw[WC (eg h).1 h2];exact Gw (Wh h h2) h2 h0 h1
theorem go_eq {L:List Obj} {g:Wk} (h0:0<=g.dep) (h8:g.dep<=8):ji L (9-g.dep).toNat g=
  if(ah L g.pos).kind=3 then(if g.adr<64 then⟨0,oY g.rts (ah L g.pos),g.adr,g.kpr,g.dep⟩else⟨2,void,0,g.kpr,0⟩)
  else if(ah L g.pos).kind=2 then match mn L g (ah L g.pos) (dh L (di (ah L g.pos) 0) 15) (dh L (di (ah L g.pos) 0) 14)with
   | (r,none)=>r
   | (_,some w')=>ji L (8-g.dep).toNat w'
  else⟨1,void,0,g.kpr,0⟩:=by
 have e:(9-g.dep).toNat=(8-g.dep).toNat+1:=by omega
 rw[e];rfl
theorem HV {L:List Obj} {g:Wk} (h0:0<=g.dep) (h8:g.dep<=8) (h3:(ah L g.pos).kind≠3) (h2:(ah L g.pos).kind≠2):ji L (9-g.dep).toNat g=⟨1,void,0,g.kpr,0⟩:=by
 rw[go_eq h0 h8,aa8 h3,aa8 h2]
theorem Lk {L:List Obj} {g:Wk} (h0:0<=g.dep) (h8:g.dep<=8) (h3:(ah L g.pos).kind=3) (h:¬g.adr<64):ji L (9-g.dep).toNat g=⟨2,void,0,g.kpr,0⟩:=by
 rw[go_eq h0 h8,aa9 h3,aa8 h]
theorem xV {L:List Obj} {g:Wk} (h0:0<=g.dep) (h8:g.dep<=8) (h3:(ah L g.pos).kind=3) (h:g.adr<64):ji L (9-g.dep).toNat g=⟨0,oY g.rts (ah L g.pos),g.adr,g.kpr,g.dep⟩:=by
 rw[go_eq h0 h8,aa9 h3,aa9 h]
theorem O2 {L:List Obj} {g:Wk} (h0:0<=g.dep) (h8:g.dep<=8) (h2:(ah L g.pos).kind=2) (h:¬g.dep<8):ji L (9-g.dep).toNat g=⟨3,void,0,g.kpr,0⟩:=by
 rw[go_eq h0 h8,aa8 (by omega),aa9 h2,mn,aa9 (by omega)]
theorem Ik {L:List Obj} {g:Wk} (h0:0<=g.dep) (h8:g.dep<=8) (h2:(ah L g.pos).kind=2) (h:g.dep<8) (hf:qu g (dh L (di (ah L g.pos) 0) 15)=false):ji L (9-g.dep).toNat g=⟨4,void,0,g.kpr,0⟩:=by
 rw[go_eq h0 h8,aa8 (by omega),aa9 h2,mn,aa8 (by omega),hf]
 rfl
theorem Cz {L:List Obj} {g:Wk} (h0:0<=g.dep) (h8:g.dep<=8) (h2:(ah L g.pos).kind=2) (h:g.dep<8) (hf:qu g (dh L (di (ah L g.pos) 0) 15)=true)
  (hs:¬g.adr.tdiv (bf (dh L (di (ah L g.pos) 0) 15).value)<14):ji L (9-g.dep).toNat g=⟨2,void,0,wP (nJ g.rts (ah L g.pos).rights) (dh L (di (ah L g.pos) 0) 14) g.kpr,0⟩:=by
 rw[go_eq h0 h8,aa8 (by omega),aa9 h2,mn,aa8 (by omega),hf,aa9 rfl,aa8 hs]
def LB (L:List Obj) (g:Wk):Wk:=⟨dh L (ah L g.pos) (g.adr.tdiv (bf (dh L (di (ah L g.pos) 0) 15).value)),g.adr.tmod (bf (dh L (di (ah L g.pos) 0) 15).value),nJ g.rts (ah L g.pos).rights,
 wP (nJ g.rts (ah L g.pos).rights) (dh L (di (ah L g.pos) 0) 14) g.kpr,g.dep+1,(dh L (di (ah L g.pos) 0) 15).value⟩
theorem Rg {L:List Obj} {g:Wk} (h0:0<=g.dep) (h8:g.dep<=8) (h2:(ah L g.pos).kind=2) (h:g.dep<8) (hf:qu g (dh L (di (ah L g.pos) 0) 15)=true)
  (hs:g.adr.tdiv (bf (dh L (di (ah L g.pos) 0) 15).value)<14):ji L (9-g.dep).toNat g=ji L (9-(g.dep+1)).toNat (LB L g):=by
 rw[go_eq h0 h8,aa8 (by omega),aa9 h2,mn,aa8 (by omega),hf,aa9 rfl,aa9 hs]
 have e:(9-(g.dep+1)).toNat=(8-g.dep).toNat:=by omega
 rw[e];rfl
theorem uW {g:Wk} {h:Key}:qu g h=true↔h.kind=1/\1<=h.value/\h.value<=8/\(g.dep=0\/h.value<g.hi):=by
 simp[qu,and_assoc]
theorem rW {a e:Int} (h0:0<=a) (he:64<=e):0<=a.tdiv e/\a.tdiv e<=a/\0<=a.tmod e/\a.tmod e<=a:=by
 rw[Int.tdiv_eq_ediv_of_nonneg h0,Int.tmod_eq_emod_of_nonneg h0];have h1:=Int.ediv_nonneg h0 (show 0<=e by omega)
 have h2:=Int.ediv_le_self e h0;have h3:=Int.emod_nonneg a (show e≠0 by omega)
 have h4:=Int.emod_add_mul_ediv a e;have h5:=Int.mul_nonneg (show 0<=e by omega) h1
 omega
theorem NJ {L:List Obj} {k:Key} {a hi:Int} {g:Wk} (hI:n8 L k a hi g) (h2:(ah L g.pos).kind=2) (h:g.dep<8) (hf:qu g (dh L (di (ah L g.pos) 0) 15)=true)
  (hs:g.adr.tdiv (bf (dh L (di (ah L g.pos) 0) 15).value)<14):n8 L k a hi (LB L g)/\pA (LB L g)<pA g:=by
 obtain⟨⟨a1,a2⟩,⟨r1,r2⟩,⟨d1,d2⟩,e1,e2,e3⟩:=hI;have hf':=uW.1 hf;have he:=r7 (show(dh L (di (ah L g.pos) 0) 15).value<=9 by omega)
 have hd:=rW a1 he.1;have hp:=pn (qg L g.pos);have ho:=Yt r1 r2 hp.1 hp.2;refine⟨⟨⟨hd.2.2.1,by have:=hd.2.2.2;simp only[LB];omega⟩,ho.2,⟨by simp only[LB];omega,by simp only[LB];omega⟩,fun h=>?_,fun _=>hf'.2.2.1,?_⟩,?_⟩
 ·simp only[LB]at h;omega
 ·rw[<-e3,Rg d1 d2 h2 h hf hs];rfl
 ·unfold pA;simp only[LB];omega
theorem WH {L:List Obj} {k:Key} {a:Int} (x y:Int):ji L 9 (xC k a x)=ji L 9 (xC k a y):=by
 show QC L (8+1) _=QC L (8+1) _
 unfold QC;simp only[xC,mn,qu];rfl
theorem Zr {L:List Obj} {k:Key} {a:Int} (h:¬a<0) (hi:Int):n8 L k a hi (xC k a hi):=
 ⟨⟨by simp only[xC];omega,by simp only[xC];omega⟩,by simp[xC],by simp[xC],fun _=>rfl,fun h=>absurd rfl h,rfl⟩
theorem ZH {L:List Obj} {k:Key} {a hi:Int} {g:Wk} (hI:n8 L k a hi g) (hE:dL L k a=0):au L k a=ji L (9-g.dep).toNat g:=by
 unfold au;rw[aa9 hE,hI.2.2.2.2.2];exact WH _ _
theorem Aa {L:List Obj} {k:Key} {a e:Int} (h:dL L k a=e) (he:e≠0):void=cm (au L k a)/\0=ck (au L k a)/\void=dn (au L k a)/\0=dK (au L k a)/\0=e9 (au L k a)/\void=fQ (au L k a)/\0=fO (au L k a) a/\e=dL L k a:=by
 have:au L k a=YE:=by unfold au;rw[aa8 (by omega)]
 rw[this,h];exact⟨rfl,rfl,rfl,rfl,rfl,rfl,rfl,rfl⟩
theorem qz {L:List Obj} {k:Key} {a hi d:Int} {g:Wk} {p:Key} (hI:n8 L k a hi g) (hE:dL L k a=0) (h:ji L (9-g.dep).toNat g=⟨d,void,0,p,0⟩) (hd:d≠0):
  void=cm (au L k a)/\0=ck (au L k a)/\void=dn (au L k a)/\0=dK (au L k a)/\d=e9 (au L k a)/\p=fQ (au L k a)/\a=fO (au L k a) a/\0=dL L k a:=by
 rw[ZH hI hE,h,hE];simp only[cm,ck,dn,dK,e9,fQ,fO,aa8 hd];simp
theorem G5 {L:List Obj} {k:Key} {a hi ad dp:Int} {g:Wk} {q p:Key} (hI:n8 L k a hi g) (hE:dL L k a=0) (h:ji L (9-g.dep).toNat g=⟨0,q,ad,p,dp⟩):
  q=cm (au L k a)/\ad=ck (au L k a)/\p=dn (au L k a)/\dp=dK (au L k a)/\0=e9 (au L k a)/\void=fQ (au L k a)/\0=fO (au L k a) a/\0=dL L k a:=by
 rw[ZH hI hE,h,hE];exact⟨rfl,rfl,rfl,rfl,rfl,rfl,rfl,rfl⟩
theorem Br (L:List Obj) (v:Key):(!decide (bw v=0)||aZ v&&decide (ak L<=cw v))= !bJ L v:=by
 rw[<-vu]
 have:decide (ak L<=cw v)= !decide (cw v<ak L):=by
  rw[Bool.eq_iff_iff];simp
 rw[this];cases decide (bw v=0)<;>cases aZ v<;>cases decide (cw v<ak L)<;>rfl
theorem Y3 {L:List Obj} {k:Key} {a:Int} (h:decide (ak L=0)=true):dL L k a=1:=by
 have h:=aa6 h;unfold ak at h;unfold dL;rw[aa9 (by omega)]
theorem QP {L:List Obj} {k:Key} {a:Int} (h:decide (ak L=0)=false):dL L k a=if bJ L k then(if a<0 then 4 else 0)else 2:=by
 have h:=aa5 h;unfold ak at h;unfold dL;rw[aa8 (by omega)]
theorem SA {L:List Obj} {k:Key} (hk:aV k=true) (hL:0<L.length):(k.kind=1->ah L k=k)/\(k.kind≠1->(ah L k).kind≠1):=by
 refine⟨fun h=>?_,fun h=>?_⟩
 ·unfold ah;rw[aa8]
  have hs:bn L=false:=by
   unfold bn ai;rw[decide_eq_false];omega
  have hn:aZ k=false:=by unfold aZ ee;rw[h,hk];rfl
  rw[hs,hk,hn];simp
 ·unfold ah;split
  ·simp[void]
  ·exact h
def cg (L:List Obj) (k:Key) (a n:Int):Int:=if dL L k a=0 then(if n<0\/64<n then 4 else 0)else dL L k a
def bU (L:List Obj) (k:Key) (a n:Int) (w:Bool):Int:=if cg L k a n=0 then(if(au L k a).kd=0 then(if 64<(au L k a).adr+n then 5 else if(w&& !decide ((au L k a).pos.rights=0))=true then 6 else 0)else(au L k a).kd)else 0
def fI (L:List Obj) (k:Key) (a n:Int) (w:Bool):Key:=if bU L k a n w=0 then void else(au L k a).kpr
def fH (L:List Obj) (k:Key) (a n:Int) (w:Bool):Int:=if bU L k a n w=0 then 0 else a
def mf (L:List Obj) (k:Key) (a n:Int) (w:Bool):Bool:=decide (cg L k a n=0)&&decide (bU L k a n w=0)
def bI (L:List Obj) (k:Key) (a n:Int) (w:Bool):Wr:=if mf L k a n w=true then au L k a else YE
def V0 (L:List Obj) (k:Key) (a n:Int) (w:Bool):V:= .ag [.it .i64 (bU L k a n w),.key (fI L k a n w),.it .i64 (fH L k a n w)]
def jM (L:List Obj) (k:Key) (a n:Int):ByteArray:=if mf L k a n false=true then ec L (cm (bI L k a n false)) (ck (bI L k a n false)) n else⟨#[]⟩
def kz (L:List Obj) (k:Key) (a:Int) (s:ByteArray):List Obj:=if mf L k a (bN s) true=true then eX L (cm (bI L k a (bN s) true)) (ck (bI L k a (bN s) true)) s else L
def Zx (L:List Obj) (k:Key) (a n:Int) (w:Bool):V:= .tp [aaj (bI L k a n w),V0 L k a n w,.it .i64 (cg L k a n)]
def YS:Ct:=ti (bc sA (bc kA (bc iA (bc iA (bc bA gK))))) (fun _=>none) fun x=>Zx (Dx x.1) x.2.1 x.2.2.1 x.2.2.2.1 x.2.2.2.2.1
def Xm:Ct:=ti (bc As (bc kA (bc iA (bc iA (bc bA gK))))) (fun x=>some (ar x.1)) fun x=>Zx x.1 x.2.1 x.2.2.1 x.2.2.2.1 x.2.2.2.2.1
def km (L:List Obj) (k:Key) (i:Int) (s:ByteArray):Bool:=decide (cM L k i s=0)
def Z4:kc:=Ar A1 (fun L x=>ar L/\aw x.2.2) (fun L x=>km L x.1 x.2.1 x.2.2) (fun L x=>eX L x.1 x.2.1 x.2.2) fun L x=> [.it .i64 (cM L x.1 x.2.1 x.2.2)]
def aaK:Ct:=ti (bc sA (bc kA (bc iA (bc iA gK)))) (fun _=>none) fun x=> .tp [.st (jM (Dx x.1) x.2.1 x.2.2.1 x.2.2.2.1),V0 (Dx x.1) x.2.1 x.2.2.1 x.2.2.2.1 false,.it .i64 (cg (Dx x.1) x.2.1 x.2.2.1 x.2.2.2.1)]
def Zd:Ct:=ti (bc As (bc kA (bc iA (bc iA gK)))) (fun x=>some (ar x.1)) fun x=> .tp [.st (jM x.1 x.2.1 x.2.2.1 x.2.2.2.1),V0 x.1 x.2.1 x.2.2.1 x.2.2.2.1 false,.it .i64 (cg x.1 x.2.1 x.2.2.1 x.2.2.2.1)]
def aan:kc:=YB A1 (fun x=>aw x.2.2) (fun L x=>ar L/\aw x.2.2) (fun L x=> .tp [V0 L x.1 x.2.1 (bN x.2.2) true,.it .i64 (cg L x.1 x.2.1 (bN x.2.2))]) fun L x=>kz L x.1 x.2.1 x.2.2
def Z1:kc:=Ar A1 (fun L x=>ar L/\aw x.2.2) (fun L x=>mf L x.1 x.2.1 (bN x.2.2) true) (fun L x=>kz L x.1 x.2.1 x.2.2) fun L x=> [V0 L x.1 x.2.1 (bN x.2.2) true,.it .i64 (cg L x.1 x.2.1 (bN x.2.2))]
theorem T2 {L:List Obj} {k:Key} {r:Int} (h:aU L k=true) (h3:k.kind=3):aU L (oY r k)=true/\(oY r k).kind=3:=by
 unfold oY;split
 ·exact⟨h,h3⟩
 ·refine⟨?_,h3⟩;have hk:=(eg h).1;have hm:fq k.kind=1:=by rw[h3];rfl
  have hk':aV (di k 1)=true:=by
   have hk1:=hk;simp only[aV,aa2,aa3]at hk1⊢;obtain⟨⟨⟨⟨⟨⟨⟨x1,x2⟩,x3⟩,x4⟩,x5⟩,x6⟩,x7⟩,x8⟩:=hk1;exact⟨⟨⟨⟨⟨⟨⟨x1,x2⟩,by show(0:Int)<=1;omega⟩,by show 1<=fq k.kind;omega⟩,x5⟩,x6⟩,x7⟩,x8⟩
  have hn:bd (di k 1)=bd k:=by unfold bd;rw[hk,hk'];rfl
  have hw:gB (di k 1)=gB k:=by unfold gB;rw[hn];rfl
  have hc:∀o,cG (di k 1) o=cG k o:=fun o=>by unfold cG;rw[hn,hw,hk,hk'];rfl
  have hd:aZ (di k 1)=aZ k:=by unfold aZ;rw[hk,hk'];rfl
  unfold aU at h⊢;rw[hd,hc];exact h
theorem Hw {L:List Obj}:∀(n:Nat) (w:Wk),0<=w.adr->(ji L n w).kd=0->(aU L (ji L n w).pos=true/\(ji L n w).pos.kind=3)/\0<=(ji L n w).adr/\(ji L n w).adr<64
 |0,w,_,h=>absurd h (by show¬(3:Int)=0;omega)
 |n+1,w,ha,h=>by
  unfold ji QC at h⊢;split at h
  ·rename_i h3;split at h
   ·rename_i hlt;rw[aa9 h3,aa9 hlt];obtain⟨pe,pi⟩:=Cd (.inr h3);rw[pe]at h3⊢;exact⟨T2 pi h3,ha,hlt⟩
   ·exact absurd h (by show¬(2:Int)=0;omega)
  ·rename_i h3;rw[aa8 h3];split at h
   ·rename_i h2;rw[aa9 h2];split at h
    ·rename_i r hr;unfold mn at hr;split at hr
     ·simp only[aa1,and_true]at hr;subst hr;exact absurd h (by show¬(3:Int)=0;omega)
     ·split at hr
      ·split at hr<;>simp only[aa1,and_true,reduceCtorEq,and_false]at hr
       subst hr;exact absurd h (by show¬(2:Int)=0;omega)
      ·simp only[aa1,and_true]at hr;subst hr;exact absurd h (by show¬(4:Int)=0;omega)
    ·rename_i r w' hr;refine Hw n w' ?_ h;unfold mn at hr;split at hr
     ·simp at hr
     ·split at hr
      ·rename_i hf;split at hr<;>simp only[aa1,aa0,reduceCtorEq,and_false]at hr
       obtain⟨_,rfl⟩:=hr;have hf':=uW.1 hf;have he:=r7 (show(dh L (di (ah L w.pos) 0) 15).value<=9 by omega)
       exact(rW ha he.1).2.2.1
      ·simp at hr
   ·exact absurd h (by show¬(1:Int)=0;omega)
theorem GU {L:List Obj} {k:Key} {a:Int} (hE:dL L k a=0) (h:(au L k a).kd=0):(aU L (au L k a).pos=true/\(au L k a).pos.kind=3)/\0<=(au L k a).adr/\(au L k a).adr<64:=by
 have ha:0<=a:=by
  unfold dL at hE;split at hE
  ·omega
  ·split at hE
   ·split at hE<;>omega
   ·omega
 unfold au at h⊢;rw[aa9 hE]at h⊢;exact Hw 9 _ ha h
theorem tB {L:List Obj} {k:Key} {a n:Int} {w:Bool}:(!decide (cg L k a n=0)|| !decide (bU L k a n w=0))= !mf L k a n w:=by
 unfold mf;cases decide (cg L k a n=0)<;>cases decide (bU L k a n w=0)<;>rfl
theorem tV {L:List Obj} {k:Key} {a n:Int} {w:Bool} (h:mf L k a n w=true):cg L k a n=0/\bU L k a n w=0:=by
 unfold mf at h;simpa using h
theorem Ph {L:List Obj} {k:Key} {a n e:Int} (h:dL L k a=e) (he:e≠0):cg L k a n=e:=by unfold cg;rw[h,aa8 he]
theorem Zf {L:List Obj} {k:Key} {a n:Int} (h:dL L k a=0) (hr:(decide (n<0)||decide (64<n))=true):cg L k a n=4:=by
 unfold cg;rw[aa9 h,aa9 (by simpa using hr)]
theorem Wl {L:List Obj} {k:Key} {a n:Int} (h:dL L k a=0) (hr:(decide (n<0)||decide (64<n))=false):cg L k a n=0:=by
 unfold cg;rw[aa9 h,aa8 (by simpa using hr)]
theorem zj {L:List Obj} {k:Key} {a n:Int} (h:cg L k a n=0):dL L k a=0/\0<=n/\n<=64:=by
 unfold cg at h;split at h
 ·rename_i hw;split at h
  ·omega
  ·exact⟨hw,by omega,by omega⟩
 ·rename_i hw;exact absurd h hw
theorem XM {L:List Obj} {k:Key} {a n:Int} {w:Bool} (h:mf L k a n w=true):dL L k a=0/\(au L k a).kd=0/\0<=n/\(au L k a).adr+n<=64/\(w=true->(au L k a).pos.rights=0):=by
 unfold mf at h;rw[aa2,aa3,aa3]at h;obtain⟨hE,hF⟩:=h;obtain⟨h1,h2,h3⟩:=zj hE;unfold bU at hF;rw[aa9 hE]at hF;split at hF
 ·rename_i hk;split at hF
  ·omega
  ·split at hF
   ·omega
   ·rename_i h4 h5;exact⟨h1,hk,h2,by omega,fun hw=>by rw[hw]at h5;simpa using h5⟩
 ·rename_i hk;exact absurd hF hk
theorem qd {L:List Obj} {k:Key} {a n e:Int} {w:Bool} (h:cg L k a n=e) (he:e≠0):void=cm (bI L k a n w)/\0=ck (bI L k a n w)/\void=dn (bI L k a n w)/\0=dK (bI L k a n w)/\0=bU L k a n w/\void=fI L k a n w/\0=fH L k a n w/\e=cg L k a n:=by
 have hF:bU L k a n w=0:=by unfold bU;rw[h,aa8 he]
 have hC:mf L k a n w=false:=by unfold mf;rw[h,decide_eq_false he];rfl
 unfold bI fI fH;rw[hC,hF,h];exact⟨rfl,rfl,rfl,rfl,rfl,rfl,rfl,rfl⟩
theorem rY {L:List Obj} {k:Key} {a n d:Int} {w:Bool} (hE:cg L k a n=0) (h:bU L k a n w=d) (hd:d≠0):void=cm (bI L k a n w)/\0=ck (bI L k a n w)/\void=dn (bI L k a n w)/\0=dK (bI L k a n w)/\d=bU L k a n w/\(au L k a).kpr=fI L k a n w/\a=fH L k a n w/\0=cg L k a n:=by
 have hC:mf L k a n w=false:=by unfold mf;rw[h,decide_eq_false hd,Bool.and_false]
 unfold bI fI fH;rw[hC,h,hE,aa8 hd,aa8 hd];exact⟨rfl,rfl,rfl,rfl,rfl,rfl,rfl,rfl⟩
theorem Hz {L:List Obj} {k:Key} {a n:Int} {w:Bool} (hE:cg L k a n=0) (h:bU L k a n w=0):cm (au L k a)=cm (bI L k a n w)/\ck (au L k a)=ck (bI L k a n w)/\dn (au L k a)=dn (bI L k a n w)/\dK (au L k a)=dK (bI L k a n w)/\0=bU L k a n w/\void=fI L k a n w/\0=fH L k a n w/\0=cg L k a n:=by
 have hC:mf L k a n w=true:=by unfold mf;rw[h,hE];rfl
 unfold bI fI fH;rw[hC,h,hE];exact⟨rfl,rfl,rfl,rfl,rfl,rfl,rfl,rfl⟩
theorem N3 {r:Wr} (h:r.kd=0):cm r=r.pos/\ck r=r.adr/\dn r=r.kpr:=by
 unfold cm ck dn;rw[aa9 h,aa9 h,aa9 h];exact⟨rfl,rfl,rfl⟩
theorem aaq {r:Wr} {a:Int} (h:r.kd≠0):e9 r=r.kd/\fQ r=r.kpr/\fO r a=a:=by
 unfold fQ fO;rw[aa8 h,aa8 h];exact⟨rfl,rfl,rfl⟩
theorem Y5 {L:List Obj} {k:Key} {a n:Int} {w:Bool} (hE:cg L k a n=0) (h:(au L k a).kd≠0):bU L k a n w=(au L k a).kd:=by unfold bU;rw[aa9 hE,aa8 h]
theorem aao {L:List Obj} {k:Key} {a n:Int} {w:Bool} (hE:cg L k a n=0) (h:(au L k a).kd=0) (h5:64<(au L k a).adr+n):bU L k a n w=5:=by unfold bU;rw[aa9 hE,aa9 h,aa9 h5]
theorem aab {L:List Obj} {k:Key} {a n:Int} {w:Bool} (hE:cg L k a n=0) (h:(au L k a).kd=0) (h5:¬64<(au L k a).adr+n) (h6:(w&& !decide ((au L k a).pos.rights=0))=true):bU L k a n w=6:=by unfold bU;rw[aa9 hE,aa9 h,aa8 h5,aa9 h6]
theorem aae {L:List Obj} {k:Key} {a n:Int} {w:Bool} (hE:cg L k a n=0) (h:(au L k a).kd=0) (h5:¬64<(au L k a).adr+n) (h6:(w&& !decide ((au L k a).pos.rights=0))=false):bU L k a n w=0:=by unfold bU;rw[aa9 hE,aa9 h,aa8 h5,aa8 (by rw[h6];simp)]
theorem OO {L:List Obj} {k:Key} {a n:Int} {w:Bool} (h:mf L k a n w=true):(aU L (cm (bI L k a n w))=true/\(cm (bI L k a n w)).kind=3)/\aW L (cm (bI L k a n w)) w=0/\cz (ck (bI L k a n w)) n=true:=by
 obtain⟨h1,h2,h3,h4,h5⟩:=XM h;obtain⟨⟨e1,e2⟩,e3,e4⟩:=GU h1 h2;obtain⟨f1,f2,_⟩:=N3 h2;unfold bI;rw[aa9 h,f1,f2];have hl:=eg e1
 have hA:aC L (au L k a).pos 3 false=0:=by
  unfold aC;rw[aa8 (by have:=hl.2.1;have:=hl.2.2.1;unfold ai;omega),aa8 (by rw[e1,e2];simp),aa8 (by simp)]
 refine⟨⟨e1,e2⟩,?_,nW.2 ⟨e3,h3,by omega,by omega⟩⟩
 unfold aW;rw[aa9 hA,aa8];cases w
 ·simp
 ·simp[h5 rfl]
theorem IF {L:List Obj} {k:Key} {i:Int} {s:ByteArray} (hL:ar L):ar (eX L k i s):=by
 unfold eX;split
 ·rename_i h;unfold cM at h;split at h
  ·rename_i hp;obtain⟨a1,a2,_⟩:=na hp;exact(rL hL a1 a2).2.2
  ·rename_i hp;exact absurd h hp
 ·exact hL
theorem WM {L:List Obj} {k:Key} {a:Int} {s:ByteArray} (hL:ar L):ar (kz L k a s):=by
 unfold kz;split
 ·exact IF hL
 ·exact hL
structure Acs where
 kind:Int
 num:Int
 root:Key
 adr:Int
 bytes:ByteArray
structure Lnk where
 hgt:Int
 slot:Int
 rts:Int
 kept:Bool
theorem VI {L:List Obj} {k:Key} {a:Int} {s:ByteArray} (h:mf L k a (bN s) true=false):kz L k a s=L:=by unfold kz;rw[h];rfl
end Go.Sx
namespace Go.Proofs.YtlblcfaclmpekaaGreat
open Go.Sx
theorem RY (h:Int) (hh:bY .i64 h) (hq:j5 h):
 abd (h-1)/\(∃g,Cb h g/\h=h/\64=bf (g+1)/\h-1=h-1/\0=g)/\∀(g:Int),Cb h g->aba (decide (g<h-1)) (abd (bf (g+1)*16)/\abd (g+1)/\∃g',Cb h g'/\(h-g').toNat<(h-g).toNat/\h=h/\bf (g+1)*16=bf (g'+1)/\h-1=h-1/\g+1=g') (bf (g+1)=bf h):=by
 delta aba abd
 obtain⟨q0,q9⟩:=hq;refine⟨by simp only[aF,bY]at *;omega,⟨0,⟨by omega,.inl rfl⟩,rfl,(nT (by omega)).symm,rfl,rfl⟩,fun g hg=>⟨fun hlt=>?_,fun hge=>?_⟩⟩
 ·obtain⟨g0,g1⟩:=hg;have hlt:=aa6 hlt;have hb:=r7 (show g+1<=9 by omega)
  exact⟨by simp only[aF,bY];omega,by simp only[aF,bY];omega,g+1,⟨by omega,.inr (by omega)⟩,by omega,rfl,Bm (by omega),rfl,rfl⟩
 ·obtain⟨g0,g1⟩:=hg;have hge:=aa5 hge;rcases g1 with rfl|g1
  ·rw[nT (by omega),nT (by omega)]
  ·rw[show g+1=h by omega]
theorem Ir:cq Tryz.prog 248 Mk:=
 eW (aA dN bV) (fun _=>rfl) fun a hq hok=>by
  obtain⟨h,_⟩:=a;exact ba (inl:=bx) (ann:=(iv [(248,3,UO [0,2,5] (fun g=> [(3,.it .i64 (bf (zc g 1))),(6,.it .i64 g)]) (Cb h) h)])) aq (RY h hok.1 hq) (by kernel_rfl)
theorem MT (h:Int) (hh:bY .i64 h) (hq:j5 h):
 (∃g,C2 h g/\h=h/\64=bf g/\1=g)/\∀(g:Int),C2 h g->(decide (g<h)=true->aF IntKind.i64 (bf g*16)/\aF IntKind.i64 (g+1)/\∃g',C2 h g'/\(h-g').toNat<
  (h-g).toNat/\h=h/\bf g*16=bf g'/\g+1=g')/\(decide (g<h)=false->bf g=bf h):=by
 obtain⟨q0,q9⟩:=hq;refine⟨⟨1,⟨by omega,.inl rfl⟩,rfl,(nT (by omega)).symm,rfl⟩,fun g hg=>⟨fun hlt=>?_,fun hge=>?_⟩⟩
 ·obtain⟨g0,g1⟩:=hg;have hlt:=aa6 hlt;have hb:=r7 (show g<=9 by omega)
  exact⟨by simp only[aF,bY];omega,by simp only[aF,bY];omega,g+1,⟨by omega,.inr (by omega)⟩,by omega,rfl,Bm (by omega),rfl⟩
 ·obtain⟨g0,g1⟩:=hg;have hge:=aa5 hge;rcases g1 with rfl|g1
  ·rw[nT (by omega),nT (by omega)]
  ·rw[show g=h by omega]
theorem P9:cq Tryz.prog 229 Mk:=
 eW (aA dN bV) (fun _=>rfl) fun a hq hok=>by
  obtain⟨h,_⟩:=a;exact ba (inl:=bx) (ann:=(iv [(229,3,UO [0,2] (fun g=> [(3,.it .i64 (bf g)),(4,.it .i64 g)]) (C2 h) h)])) aq (MT h hok.1 hq) (by kernel_rfl)
theorem KX:
 ∀(nid:Nat),some (V.mp nid)=some (V.mp nid)/\some [aK.mp IntKind.i64 [3,2] [V.fn 245 [],V.fn 246 []]]=some [aK.mp IntKind.i64 [3,2] [V.fn 245 [],V.fn 246 []]]:=by
 exact fun nid=>⟨rfl,rfl⟩
theorem DI:cq Tryz.prog 243 (A8 spX spN):=u5 (π:= [0]) (by decide) (fun _=>rfl) (bj (inl:=bx) (ann:=aQ) aq aD KX (by kernel_rfl))
abbrev acj(g:Wk)(k:Key)(a:Int):=ah [] g.pos=cm (au [] k a)/\g.adr=ck (au [] k a)/\g.kpr=dn (au [] k a)/\g.dep=dK (au [] k a)/\0=e9 (au [] k a)/\void=fQ (au [] k a)/\0=fO (au [] k a) a/\0=dL [] k a
abbrev ack(g:Wk):=aJ [] (abA 2 (ah [] g.pos) void.value) 15
abbrev acm(k:Key)(a:Int)(g:Wk):=aba (!decide (2=0)) (void=cm (au [] k a)/\0=ck (au [] k a)/\void=dn (au [] k a)/\0=dK (au [] k a)/\2=e9 (au [] k a)/\g.kpr=fQ (au [] k a)/\a=fO (au [] k a) a/\0=dL [] k a) (acj g k a)
abbrev acn(g:Wk):=bf (ack g).value
abbrev aco(g:Wk):=abA 2 (ah [] g.pos) void.value
theorem PK (k:Key) (a:Int) (ha:bY .i64 a):
 abb (aba (decide (ak []=0)) (void=cm (au [] k a)/\0=ck (au [] k a)/\void=dn (au [] k a)/\0=dK (au [] k a)/\0=e9 (au [] k a)/\void=fQ (au [] k a)/\0=fO (au [] k a) a/\1=dL [] k a) (aba (!decide (bw k=0)||aZ k&&decide (ak []<=cw k)) (void=cm (au [] k a)/\0=ck (au [] k a)/\void=dn (au [] k a)/\0=dK (au [] k a)/\0=e9 (au [] k a)/\void=fQ (au [] k a)/\0=fO (au [] k a) a/\2=dL [] k a) (aba (decide (a<0)) (void=cm (au [] k a)/\0=ck (au [] k a)/\void=dn (au [] k a)/\0=dK (au [] k a)/\0=e9 (au [] k a)/\void=fQ (au [] k a)/\0=fO (au [] k a) a/\4=dL [] k a) (abb ((∃g,n8 [] k a 0 g/\k=k/\void=void/\void=void/\void=void/\k=k/\Value.pointer none=Value.pointer none/\k=g.pos/\a=g.adr/\0=g.rts/\void=g.kpr/\0=g.dep/\0=g.hi/\false=false)/\∀(g:Wk),n8 [] k a 0 g->abb (aba (!(decide ((ah [] g.pos).kind=3)||decide ((ah [] g.pos).kind=2))) (aba (!decide (1=0)) (void=cm (au [] k a)/\0=ck (au [] k a)/\void=dn (au [] k a)/\0=dK (au [] k a)/\1=e9 (au [] k a)/\g.kpr=fQ (au [] k a)/\a=fO (au [] k a) a/\0=dL [] k a) (acj g k a)) (aba (decide ((ah [] g.pos).kind=3)) (abb (abb (aba (!decide (g.adr<64)) (acm k a g) (aba (!decide (bm BinOp.and IntKind.i64 g.rts 3=0)) (Key.mk (ah [] g.pos).kind (ah [] g.pos).oid (ah [] g.pos).count (ah [] g.pos).call (bm BinOp.or IntKind.i64 (ah [] g.pos).rights 1) (ah [] g.pos).value=cm (au [] k a)/\g.adr=ck (au [] k a)/\g.kpr=dn (au [] k a)/\g.dep=dK (au [] k a)/\0=e9 (au [] k a)/\void=fQ (au [] k a)/\0=fO (au [] k a) a/\0=dL [] k a) (acj g k a))))) (aba (decide ((ah [] g.pos).kind=2)) (abb (abb (aba (!decide (g.dep<8)) (aba (!decide (3=0)) (void=cm (au [] k a)/\0=ck (au [] k a)/\void=dn (au [] k a)/\0=dK (au [] k a)/\3=e9 (au [] k a)/\g.kpr=fQ (au [] k a)/\a=fO (au [] k a) a/\0=dL [] k a) (acj g k a)) (abb (abb (aba (!(decide ((ack g).kind=1)&&decide (1<=(ack g).value)&&decide ((ack g).value<=8)&&(decide (g.dep=0)||decide ((ack g).value<g.hi)))) (aba (!decide (4=0)) (void=cm (au [] k a)/\0=ck (au [] k a)/\void=dn (au [] k a)/\0=dK (au [] k a)/\4=e9 (au [] k a)/\g.kpr=fQ (au [] k a)/\a=fO (au [] k a) a/\0=dL [] k a) (acj g k a)) (abb (aba (decide ((aJ [] (aco g) 14).kind=6)&&decide (bm BinOp.and IntKind.i64 (bm BinOp.or IntKind.i64 g.rts (ah [] g.pos).rights) 4=0)) (j5 (ack g).value/\(nU (acn g)/\abd (g.adr.tdiv (acn g)))/\abb (aba (!decide (g.adr.tdiv (acn g)<14)) (aba (!decide (2=0)) (void=cm (au [] k a)/\0=ck (au [] k a)/\void=dn (au [] k a)/\0=dK (au [] k a)/\2=e9 (au [] k a)/\aJ [] (aco g) 14=fQ (au [] k a)/\a=fO (au [] k a) a/\0=dL [] k a) (ah [] g.pos=cm (au [] k a)/\g.adr=ck (au [] k a)/\aJ [] (aco g) 14=dn (au [] k a)/\g.dep=dK (au [] k a)/\0=e9 (au [] k a)/\void=fQ (au [] k a)/\0=fO (au [] k a) a/\0=dL [] k a)) (abd (g.dep+1)/\(nU (acn g)/\abd (g.adr.tmod (acn g)))/\∃g',n8 [] k a 0 g'/\pA g'<pA g/\k=k/\void=void/\void=void/\void=void/\k=k/\Value.pointer none=Value.pointer none/\aJ [] (ah [] g.pos) (g.adr.tdiv (acn g))=g'.pos/\g.adr.tmod (acn g)=g'.adr/\bm BinOp.or IntKind.i64 g.rts (ah [] g.pos).rights=g'.rts/\aJ [] (aco g) 14=g'.kpr/\g.dep+1=g'.dep/\(ack g).value=g'.hi/\false=false))) (j5 (ack g).value/\(nU (acn g)/\abd (g.adr.tdiv (acn g)))/\abb (aba (!decide (g.adr.tdiv (acn g)<14)) (acm k a g) (abd (g.dep+1)/\(nU (acn g)/\abd (g.adr.tmod (acn g)))/\∃g',n8 [] k a 0 g'/\pA g'<pA g/\k=k/\void=void/\void=void/\void=void/\k=k/\Value.pointer none=Value.pointer none/\aJ [] (ah [] g.pos) (g.adr.tdiv (acn g))=g'.pos/\g.adr.tmod (acn g)=g'.adr/\bm BinOp.or IntKind.i64 g.rts (ah [] g.pos).rights=g'.rts/\g.kpr=g'.kpr/\g.dep+1=g'.dep/\(ack g).value=g'.hi/\false=false))))))))))) False)))))))):=by
 delta aba abA aco acn acm ack acj abd abb
 refine⟨rfl,fun h=>Aa (Y3 h) (by omega),fun h=>absurd h (by decide)⟩
theorem Lo (k:Key) (a:Int) (ha:bY .i64 a):an Tryz.prog 236 [jJ,.key k,.it .i64 a] [] (oq (Fi [] k a)) (fun _ _=>False):=
 aY (inl:=(fun f=>f==235||f==241||f==244||f==245||f==246||f==247)) (ann:=(iv [(241,2,YK [0,2] (fun _=> []) 0 (fun g=> .blk tW (wkV (jJ) g)) (n8 [] k a 0) pA)])) (ae DI (ae bC (ae gy (ae dH (ae ir (ae Ir (ae sL aq))))))) aD (eh HG) (PK k a ha) (by kernel_rfl)
abbrev acp(L:List Sx.Obj)(g:Wk)(k:Key)(a:Int):=ah L g.pos=cm (au L k a)/\g.adr=ck (au L k a)/\g.kpr=dn (au L k a)/\g.dep=dK (au L k a)/\0=e9 (au L k a)/\void=fQ (au L k a)/\0=fO (au L k a) a/\0=dL L k a
abbrev acq(L:List Sx.Obj)(g:Wk):=aJ L (abA 2 (ah L g.pos) void.value) 15
abbrev acr(L:List Sx.Obj)(k:Key)(a:Int)(g:Wk):=aba (!decide (2=0)) (void=cm (au L k a)/\0=ck (au L k a)/\void=dn (au L k a)/\0=dK (au L k a)/\2=e9 (au L k a)/\g.kpr=fQ (au L k a)/\a=fO (au L k a) a/\0=dL L k a) (acp L g k a)
abbrev acs(L:List Sx.Obj)(g:Wk):=bf (acq L g).value
theorem SE (L:List Sx.Obj) (k:Key) (a:Int) (ha:bY .i64 a):
 abb (aba (decide (ak L=0)) (void=cm (au L k a)/\0=ck (au L k a)/\void=dn (au L k a)/\0=dK (au L k a)/\0=e9 (au L k a)/\void=fQ (au L k a)/\0=fO (au L k a) a/\1=dL L k a) (aba (!decide (bw k=0)||aZ k&&decide (ak L<=cw k)) (void=cm (au L k a)/\0=ck (au L k a)/\void=dn (au L k a)/\0=dK (au L k a)/\0=e9 (au L k a)/\void=fQ (au L k a)/\0=fO (au L k a) a/\2=dL L k a) (aba (decide (a<0)) (void=cm (au L k a)/\0=ck (au L k a)/\void=dn (au L k a)/\0=dK (au L k a)/\0=e9 (au L k a)/\void=fQ (au L k a)/\0=fO (au L k a) a/\4=dL L k a) (abb ((∃g,n8 L k a 0 g/\L=L/\k=k/\void=void/\void=void/\void=void/\k=k/\k=g.pos/\a=g.adr/\0=g.rts/\void=g.kpr/\0=g.dep/\0=g.hi/\false=false)/\∀(g:Wk),n8 L k a 0 g->abb (aba (!(decide ((ah L g.pos).kind=3)||decide ((ah L g.pos).kind=2))) (aba (!decide (1=0)) (void=cm (au L k a)/\0=ck (au L k a)/\void=dn (au L k a)/\0=dK (au L k a)/\1=e9 (au L k a)/\g.kpr=fQ (au L k a)/\a=fO (au L k a) a/\0=dL L k a) (acp L g k a)) (aba (decide ((ah L g.pos).kind=3)) (abb (abb (aba (!decide (g.adr<64)) (acr L k a g) (aba (!decide (bm BinOp.and IntKind.i64 g.rts 3=0)) (Key.mk (ah L g.pos).kind (ah L g.pos).oid (ah L g.pos).count (ah L g.pos).call (bm BinOp.or IntKind.i64 (ah L g.pos).rights 1) (ah L g.pos).value=cm (au L k a)/\g.adr=ck (au L k a)/\g.kpr=dn (au L k a)/\g.dep=dK (au L k a)/\0=e9 (au L k a)/\void=fQ (au L k a)/\0=fO (au L k a) a/\0=dL L k a) (acp L g k a))))) (aba (decide ((ah L g.pos).kind=2)) (abb (abb (aba (!decide (g.dep<8)) (aba (!decide (3=0)) (void=cm (au L k a)/\0=ck (au L k a)/\void=dn (au L k a)/\0=dK (au L k a)/\3=e9 (au L k a)/\g.kpr=fQ (au L k a)/\a=fO (au L k a) a/\0=dL L k a) (acp L g k a)) (abb (abb (aba (!(decide ((acq L g).kind=1)&&decide (1<=(acq L g).value)&&decide ((acq L g).value<=8)&&(decide (g.dep=0)||decide ((acq L g).value<g.hi)))) (aba (!decide (4=0)) (void=cm (au L k a)/\0=ck (au L k a)/\void=dn (au L k a)/\0=dK (au L k a)/\4=e9 (au L k a)/\g.kpr=fQ (au L k a)/\a=fO (au L k a) a/\0=dL L k a) (acp L g k a)) (abb (aba (decide ((aJ L (abA 2 (ah L g.pos) void.value) 14).kind=6)&&decide (bm BinOp.and IntKind.i64 (bm BinOp.or IntKind.i64 g.rts (ah L g.pos).rights) 4=0)) (j5 (acq L g).value/\(nU (acs L g)/\abd (g.adr.tdiv (acs L g)))/\abb (aba (!decide (g.adr.tdiv (acs L g)<14)) (aba (!decide (2=0)) (void=cm (au L k a)/\0=ck (au L k a)/\void=dn (au L k a)/\0=dK (au L k a)/\2=e9 (au L k a)/\aJ L (abA 2 (ah L g.pos) void.value) 14=fQ (au L k a)/\a=fO (au L k a) a/\0=dL L k a) (ah L g.pos=cm (au L k a)/\g.adr=ck (au L k a)/\aJ L (abA 2 (ah L g.pos) void.value) 14=dn (au L k a)/\g.dep=dK (au L k a)/\0=e9 (au L k a)/\void=fQ (au L k a)/\0=fO (au L k a) a/\0=dL L k a)) (abd (g.dep+1)/\(nU (acs L g)/\abd (g.adr.tmod (acs L g)))/\∃g',n8 L k a 0 g'/\pA g'<pA g/\L=L/\k=k/\void=void/\void=void/\void=void/\k=k/\aJ L (ah L g.pos) (g.adr.tdiv (acs L g))=g'.pos/\g.adr.tmod (acs L g)=g'.adr/\bm BinOp.or IntKind.i64 g.rts (ah L g.pos).rights=g'.rts/\aJ L (abA 2 (ah L g.pos) void.value) 14=g'.kpr/\g.dep+1=g'.dep/\(acq L g).value=g'.hi/\false=false))) (j5 (acq L g).value/\(nU (acs L g)/\abd (g.adr.tdiv (acs L g)))/\abb (aba (!decide (g.adr.tdiv (acs L g)<14)) (acr L k a g) (abd (g.dep+1)/\(nU (acs L g)/\abd (g.adr.tmod (acs L g)))/\∃g',n8 L k a 0 g'/\pA g'<pA g/\L=L/\k=k/\void=void/\void=void/\void=void/\k=k/\aJ L (ah L g.pos) (g.adr.tdiv (acs L g))=g'.pos/\g.adr.tmod (acs L g)=g'.adr/\bm BinOp.or IntKind.i64 g.rts (ah L g.pos).rights=g'.rts/\g.kpr=g'.kpr/\g.dep+1=g'.dep/\(acq L g).value=g'.hi/\false=false))))))))))) False)))))))):=by
 delta aba abA acs acr acq acp abd abb
 refine⟨rfl,fun h=>Aa (Y3 h) (by omega),fun h=>⟨fun h2=>?_,fun h2=>⟨fun h3=>?_,fun h3=>⟨rfl,?_,fun g hI=>⟨rfl,?_⟩⟩⟩⟩⟩
 ·rw[Br,Bool.not_eq_true']at h2;exact Aa (by rw[QP h,h2];rfl) (by omega)
 ·rw[Br,Bool.not_eq_false']at h2;exact Aa (by rw[QP h,h2,aa9 rfl,aa9 (aa6 h3)]) (by omega)
 ·refine⟨xC k a 0,Zr (aa5 h3) 0,?_⟩;repeat' apply And.intro
  all_goals rfl
 rw[Br,Bool.not_eq_false']at h2;have hE:dL L k a=0:=by rw[QP h,h2,aa9 rfl,aa8 (aa5 h3)]
 clear h h2 h3;obtain⟨⟨a1,a2⟩,⟨r1,r2⟩,⟨d1,d2⟩,e1,e2,e3⟩:=id hI;refine⟨fun v=>⟨fun _=>?_,fun h=>absurd h (by decide)⟩,fun v=>⟨fun v3=>⟨rfl,rfl,fun b=>⟨fun _=>?_,fun h=>absurd h (by decide)⟩,fun b=>⟨fun ro=>?_,fun ro=>?_⟩⟩,fun v3=>⟨fun v2=>?_,fun v2=>?_⟩⟩⟩
 ·simp only[Bool.not_eq_true',Bool.or_eq_false_iff,decide_eq_false_iff_not]at v;exact qz hI hE (HV d1 d2 v.1 v.2) (by omega)
 ·have v3:=aa6 v3;exact qz hI hE (Lk d1 d2 v3 (by simpa using b)) (by omega)
 ·have v3:=aa6 v3;have hb:g.adr<64:=by simpa using b
  have hp:=je (qg L g.pos);have hm:fq (ah L g.pos).kind=1:=by rw[v3];rfl
  rw[QM r1 r2]at ro;have ro:g.rts.tmod 4≠0:=by simpa using ro
  refine G5 hI hE ((xV d1 d2 v3 hb).trans ?_);rw[D2 hp.1 (by omega)]
  unfold oY;rw[aa8 ro];rfl
 ·have v3:=aa6 v3;have hb:g.adr<64:=by simpa using b
  rw[QM r1 r2]at ro;have ro:g.rts.tmod 4=0:=by simpa using ro
  refine G5 hI hE ((xV d1 d2 v3 hb).trans ?_);unfold oY;rw[aa9 ro]
 ·have v3:=aa5 v3;have v2:=aa6 v2;obtain⟨pe,pi⟩:=Cd (.inl v2);have pi':aU L (ah L g.pos)=true:=by rw[pe];exact pi
  have hp:=pn (qg L g.pos);have ho:=Yt r1 r2 hp.1 hp.2;rw[Nx (i:=15) pi' v2 (by omega) (by omega),Nx (i:=14) pi' v2 (by omega) (by omega),ho.1,aaT ho.2.1 ho.2.2]
  refine⟨rfl,rfl,fun b=>⟨fun _=>?_,fun h=>absurd h (by decide)⟩,fun b=>⟨rfl,rfl,fun f=>⟨fun _=>?_,fun h=>absurd h (by decide)⟩,fun f=>⟨rfl,?_⟩⟩⟩
  ·exact qz hI hE (O2 d1 d2 v2 (by simpa using b)) (by omega)
  ·have b:g.dep<8:=by simpa using b
   exact qz hI hE (Ik d1 d2 v2 b (by unfold qu;rw[Bool.not_eq_true']at f;exact f)) (by omega)
  ·have b:g.dep<8:=by simpa using b
   have f:qu g (dh L (di (ah L g.pos) 0) 15)=true:=by unfold qu;rw[Bool.not_eq_false']at f;exact f
   have hf':=uW.1 f;have he:=r7 (show(dh L (di (ah L g.pos) 0) 15).value<=9 by omega)
   have hd:=rW a1 he.1;have q1:j5 (dh L (di (ah L g.pos) 0) 15).value:=⟨by omega,by omega⟩
   have q2:nU (bf (dh L (di (ah L g.pos) 0) 15).value):=by unfold nU;omega
   unfold bY at ha;have q3:aF IntKind.i64 (g.adr.tdiv (bf (dh L (di (ah L g.pos) 0) 15).value)):=by simp only[aF,bY];omega
   have q4:aF IntKind.i64 (g.adr.tmod (bf (dh L (di (ah L g.pos) 0) 15).value)):=by simp only[aF,bY];omega
   have q5:aF IntKind.i64 (g.dep+1):=by simp only[aF,bY];omega
   have kp:∀b,(decide ((dh L (di (ah L g.pos) 0) 14).kind=6)&&decide (nJ g.rts (ah L g.pos).rights<4))=b->wP (nJ g.rts (ah L g.pos).rights) (dh L (di (ah L g.pos) 0) 14) g.kpr=if b then dh L (di (ah L g.pos) 0) 14 else g.kpr:=by
    intro b hb;unfold wP;cases b
    ·simp only[Bool.and_eq_false_iff,decide_eq_false_iff_not]at hb;rw[aa8 (by omega)];rfl
    ·simp only[aa2,aa3]at hb;rw[aa9 hb];rfl
   refine⟨fun c=>⟨q1,⟨q2,q3⟩,rfl,fun s=>⟨fun _=>?_,fun h=>absurd h (by decide)⟩,fun s=>⟨q5,⟨q2,q4⟩,LB L g,?_⟩⟩,fun c=>⟨q1,⟨q2,q3⟩,rfl,fun s=>⟨fun _=>?_,fun h=>absurd h (by decide)⟩,fun s=>⟨q5,⟨q2,q4⟩,LB L g,?_⟩⟩⟩
   ·exact qz hI hE ((Cz d1 d2 v2 b f (by simpa using s)).trans (by rw[kp _ c];rfl)) (by omega)
   ·have s:g.adr.tdiv (bf (dh L (di (ah L g.pos) 0) 15).value)<14:=by simpa using s
    obtain⟨n1,n2⟩:=NJ hI v2 b f s;rw[Gw pi' v2 hd.1 (by omega)]
    refine⟨n1,n2,rfl,rfl,rfl,rfl,rfl,rfl,rfl,rfl,rfl,?_,rfl,rfl,rfl⟩;show _=wP _ _ _
    rw[kp _ c];rfl
   ·exact qz hI hE ((Cz d1 d2 v2 b f (by simpa using s)).trans (by rw[kp _ c];rfl)) (by omega)
   ·have s:g.adr.tdiv (bf (dh L (di (ah L g.pos) 0) 15).value)<14:=by simpa using s
    obtain⟨n1,n2⟩:=NJ hI v2 b f s;rw[Gw pi' v2 hd.1 (by omega)]
    refine⟨n1,n2,rfl,rfl,rfl,rfl,rfl,rfl,rfl,rfl,rfl,?_,rfl,rfl,rfl⟩;show _=wP _ _ _
    rw[kp _ c];rfl
 ·simp only[Bool.not_eq_false',Bool.or_eq_true,aa3]at v;have v3:=aa5 v3;have v2:=aa5 v2;omega
theorem RB (L:List Sx.Obj) (k:Key) (a:Int) (ha:bY .i64 a):an Tryz.prog 236 [.lp 0 0,.key k,.it .i64 a] [.ro (.store tS eS L)] (oq (Fi L k a)) (fun _ _=>False):=
 aY (inl:=(fun f=>f==235||f==241||f==244||f==245||f==246||f==247)) (ann:=(iv [(241,2,YK [0,2] (fun _=> []) 0 (fun g=> .blk tW (wkV (.lp 0 0) g)) (n8 L k a 0) pA)])) (ae DI (ae bC (ae gy (ae dH (ae ir (ae Ir (ae sL aq))))))) aD (eh HG) (SE L k a ha) (by kernel_rfl)
theorem Hg:cq Tryz.prog 236 VU:=
 eW (aA s5 (aA iF (aA dN bV))) (fun _=>rfl) fun a hq hok=>by
  obtain⟨S,k,i,_⟩:=a;cases S with
  |none=>exact Lo k i hok.2.2.1
  |some L=>exact RB L k i hok.2.2.1
abbrev acu(L:List Sx.Obj)(g:Wk):=(aj L g.pos.oid.toNat free).slots.at 15
abbrev acv(L:List Sx.Obj)(g:Wk):=bf (acu L g).value
abbrev acw(L:List Sx.Obj)(k:Key)(a:Int):=void=cm (au L k a)/\0=ck (au L k a)/\void=dn (au L k a)/\0=dK (au L k a)/\0=e9 (au L k a)/\void=fQ (au L k a)/\0=fO (au L k a) a/\2=dL L k a
abbrev acx(L:List Sx.Obj)(k:Key)(a:Int)(g:Wk):=void=cm (au L k a)/\0=ck (au L k a)/\void=dn (au L k a)/\0=dK (au L k a)/\2=e9 (au L k a)/\g.kpr=fQ (au L k a)/\a=fO (au L k a) a/\0=dL L k a
theorem Oy (L:List Sx.Obj) (k:Key) (a:Int) (ha:bY .i64 a) (hL:ar L):
 aba (decide (bD (ai L)=0)) (void=cm (au L k a)/\0=ck (au L k a)/\void=dn (au L k a)/\0=dK (au L k a)/\0=e9 (au L k a)/\void=fQ (au L k a)/\0=fO (au L k a) a/\1=dL L k a) (aba (!bJ L k) (acw L k a) (aba (decide (a<0)) (void=cm (au L k a)/\0=ck (au L k a)/\void=dn (au L k a)/\0=dK (au L k a)/\0=e9 (au L k a)/\void=fQ (au L k a)/\0=fO (au L k a) a/\4=dL L k a) ((∃g,n8 L k a 99 g/\a=a/\a=g.adr/\0=g.rts/\99=g.hi/\0=g.dep/\L=L/\k=k/\void=void/\void=void/\void=void/\k=g.pos/\void=g.kpr)/\∀(g:Wk),n8 L k a 99 g->aba (decide (g.dep<20)) (aba (!aU L g.pos|| !decide (g.pos.kind=2)&& !decide (g.pos.kind=3)) (void=cm (au L k a)/\0=ck (au L k a)/\void=dn (au L k a)/\0=dK (au L k a)/\1=e9 (au L k a)/\g.kpr=fQ (au L k a)/\a=fO (au L k a) a/\0=dL L k a) (aba (decide (g.pos.kind=3)) (aba (decide (63<g.adr)) (acx L k a g) ((nU 4/\abd (g.rts.tmod 4))/\aba (!decide (g.rts.tmod 4=0)) (Key.mk g.pos.kind g.pos.oid g.pos.count g.pos.call 1 g.pos.value=cm (au L k a)/\g.adr=ck (au L k a)/\g.kpr=dn (au L k a)/\g.dep=dK (au L k a)/\0=e9 (au L k a)/\void=fQ (au L k a)/\0=fO (au L k a) a/\0=dL L k a) (g.pos=cm (au L k a)/\g.adr=ck (au L k a)/\g.kpr=dn (au L k a)/\g.dep=dK (au L k a)/\0=e9 (au L k a)/\void=fQ (au L k a)/\0=fO (au L k a) a/\0=dL L k a))) (aba (decide (8<=g.dep)) (void=cm (au L k a)/\0=ck (au L k a)/\void=dn (au L k a)/\0=dK (au L k a)/\3=e9 (au L k a)/\g.kpr=fQ (au L k a)/\a=fO (au L k a) a/\0=dL L k a) ((∃g_1,kU g_1/\a=a/\g.adr=g.adr/\g.rts=fW g.rts g.pos.rights g_1/\g.hi=g.hi/\g.dep=g.dep/\1=g_1/\L=L/\k=k/\void=void/\void=void/\void=void/\g.pos=g.pos/\g.kpr=g.kpr/\g.kpr=g.kpr/\a=a)/\∀(g_1:Int),kU g_1->aba (decide (g_1<=4)) ((nU g_1/\abd (g.pos.rights.tdiv g_1))/\(nU 2/\abd ((g.pos.rights.tdiv g_1).tmod 2))/\(decide ((g.pos.rights.tdiv g_1).tmod 2=1)=true->nU g_1/\abd ((fW g.rts g.pos.rights g_1).tdiv g_1))/\(decide ((g.pos.rights.tdiv g_1).tmod 2=1)=true->nU 2/\abd (((fW g.rts g.pos.rights g_1).tdiv g_1).tmod 2))/\aba (decide ((g.pos.rights.tdiv g_1).tmod 2=1)&&decide (((fW g.rts g.pos.rights g_1).tdiv g_1).tmod 2=0)) (abd (fW g.rts g.pos.rights g_1+g_1)/\abd (g_1*2)/\∃g',kU g'/\(8-g').toNat<(8-g_1).toNat/\a=a/\g.adr=g.adr/\fW g.rts g.pos.rights g_1+g_1=fW g.rts g.pos.rights g'/\g.hi=g.hi/\g.dep=g.dep/\g_1*2=g'/\L=L/\k=k/\void=void/\void=void/\void=void/\g.pos=g.pos/\g.kpr=g.kpr/\g.kpr=g.kpr/\a=a) (abd (g_1*2)/\∃g',kU g'/\(8-g').toNat<(8-g_1).toNat/\a=a/\g.adr=g.adr/\fW g.rts g.pos.rights g_1=fW g.rts g.pos.rights g'/\g.hi=g.hi/\g.dep=g.dep/\g_1*2=g'/\L=L/\k=k/\void=void/\void=void/\void=void/\g.pos=g.pos/\g.kpr=g.kpr/\g.kpr=g.kpr/\a=a)) ((0<=g.pos.oid/\g.pos.oid< ↑(ai L))/\g.pos.oid.toNat<ai L/\aba (!decide ((acu L g).kind=1)||decide ((acu L g).value<1)||decide (8<(acu L g).value)||decide (g.hi<=(acu L g).value)) (void=cm (au L k a)/\0=ck (au L k a)/\void=dn (au L k a)/\0=dK (au L k a)/\4=e9 (au L k a)/\g.kpr=fQ (au L k a)/\a=fO (au L k a) a/\0=dL L k a) (aba (decide ((ah L ((aj L g.pos.oid.toNat free).slots.at 14)).kind=6)&&decide (fW g.rts g.pos.rights g_1<4)) (j5 (acu L g).value/\(nU (acv L g)/\abd (g.adr.tdiv (acv L g)))/\aba (decide (13<g.adr.tdiv (acv L g))) (void=cm (au L k a)/\0=ck (au L k a)/\void=dn (au L k a)/\0=dK (au L k a)/\2=e9 (au L k a)/\ah L ((aj L g.pos.oid.toNat free).slots.at 14)=fQ (au L k a)/\a=fO (au L k a) a/\0=dL L k a) (j5 (acu L g).value/\(nU (acv L g)/\abd (g.adr.tmod (acv L g)))/\oG L g.pos (g.adr.tdiv (acv L g))/\abd (g.dep+1)/\∃g',n8 L k a 99 g'/\pA g'<pA g/\a=a/\g.adr.tmod (acv L g)=g'.adr/\fW g.rts g.pos.rights g_1=g'.rts/\(acu L g).value=g'.hi/\g.dep+1=g'.dep/\L=L/\k=k/\void=void/\void=void/\void=void/\dh L g.pos (g.adr.tdiv (acv L g))=g'.pos/\ah L ((aj L g.pos.oid.toNat free).slots.at 14)=g'.kpr)) (j5 (acu L g).value/\(nU (acv L g)/\abd (g.adr.tdiv (acv L g)))/\aba (decide (13<g.adr.tdiv (acv L g))) (acx L k a g) (j5 (acu L g).value/\(nU (acv L g)/\abd (g.adr.tmod (acv L g)))/\oG L g.pos (g.adr.tdiv (acv L g))/\abd (g.dep+1)/\∃g',n8 L k a 99 g'/\pA g'<pA g/\a=a/\g.adr.tmod (acv L g)=g'.adr/\fW g.rts g.pos.rights g_1=g'.rts/\(acu L g).value=g'.hi/\g.dep+1=g'.dep/\L=L/\k=k/\void=void/\void=void/\void=void/\dh L g.pos (g.adr.tdiv (acv L g))=g'.pos/\g.kpr=g'.kpr)))))))) (acw L k a)))):=by
 delta aba acx acw acv acu abd
 refine⟨fun h=>Aa (Y3 h) (by omega),fun h=>⟨fun h2=>?_,fun h2=>⟨fun h3=>?_,fun h3=>⟨?_,fun g hI=>⟨fun _=>?_,fun hd=>?_⟩⟩⟩⟩⟩
 ·rw[Bool.not_eq_true']at h2;exact Aa (by rw[QP h,h2];rfl) (by omega)
 ·rw[Bool.not_eq_false']at h2;exact Aa (by rw[QP h,h2,aa9 rfl,aa9 (aa6 h3)]) (by omega)
 ·refine⟨xC k a 99,Zr (aa5 h3) 99,?_⟩;repeat' apply And.intro
  all_goals rfl
 rotate_left
 ·have:=hI.2.2.1.2;have:=aa5 hd;omega
 rw[Bool.not_eq_false']at h2;have hE:dL L k a=0:=by rw[QP h,h2,aa9 rfl,aa8 (aa5 h3)]
 clear h h2 h3;obtain⟨⟨a1,a2⟩,⟨r1,r2⟩,⟨d1,d2⟩,e1,e2,e3⟩:=id hI;refine⟨fun v=>?_,fun v=>?_⟩
 ·have hv:∀d:Int,d=2\/d=3->(ah L g.pos).kind≠d:=fun d hd hk=>by
   obtain⟨p1,p2⟩:=Cd (L:=L) (k:=g.pos) (by rw[hk];exact hd)
   rw[p1]at hk;rw[p2,hk]at v;rcases hd with rfl|rfl<;>simp at v
  exact qz hI hE (HV d1 d2 (hv 3 (.inr rfl)) (hv 2 (.inl rfl))) (by omega)
 simp only[Bool.or_eq_false_iff,Bool.not_eq_false',Bool.and_eq_false_iff,aa3]at v;obtain⟨vi,vk⟩:=v;have pe:ah L g.pos=g.pos:=Tj vi;have hall:=eg vi;have hp:=pn hall.1;refine⟨fun v3=>⟨fun b=>?_,fun b=>⟨⟨by unfold nU;omega,?_⟩,fun ro=>?_,fun ro=>?_⟩⟩,fun v3=>⟨fun b=>?_,fun b=>⟨?_,fun i hi=>⟨fun hlt=>?_,fun hge=>?_⟩⟩⟩⟩
 ·have v3:=aa6 v3;have b:=aa6 b;exact qz hI hE (Lk d1 d2 (by rw[pe];exact v3) (by omega)) (by omega)
 ·have h1:=Int.tmod_lt_of_pos g.rts (show(0:Int)<4 by omega)
  have h2:=Int.lt_tmod_of_pos g.rts (show(0:Int)<4 by omega)
  simp only[aF,bY];omega
 ·have v3:=aa6 v3;have b:=aa5 b;have ro:g.rts.tmod 4≠0:=by simpa using ro
  have:=xV d1 d2 (by rw[pe];exact v3) (by omega)
  rw[pe]at this;unfold oY at this;rw[aa8 ro]at this;exact G5 hI hE this
 ·have v3:=aa6 v3;have b:=aa5 b;have ro:g.rts.tmod 4=0:=by simpa using ro
  have:=xV d1 d2 (by rw[pe];exact v3) (by omega)
  rw[pe]at this;unfold oY at this;rw[aa9 ro]at this;exact G5 hI hE this
 ·have v3:=aa5 v3;have b:=aa6 b;exact qz hI hE (O2 d1 d2 (by rw[pe];omega) (by omega)) (by omega)
 ·refine⟨1,.inl rfl,?_⟩;have:=(aax (r:=g.rts) (m:=g.pos.rights)).symm;repeat' apply And.intro
  all_goals first|rfl|exact this
 ·have hlt:=aa6 hlt;have hi3:i=1\/i=2\/i=4:=by unfold kU at hi;omega
  obtain⟨⟨o1,o2⟩,o3,o4⟩:=Zq r1 r2 hp.1 hp.2 hi3;have hne:nU i:=by unfold nU;omega
  have h2:nU 2:=by unfold nU;omega
  have hi4:i=1\/i=2\/i=4\/i=8:=hi;have hn:kU (i*2)/\(8-i*2).toNat<(8-i).toNat:=by unfold kU;omega
  have t1:aF IntKind.i64 (g.pos.rights.tdiv i):=uV (by simp only[bY];omega) hi4
  have t2:aF IntKind.i64 ((fW g.rts g.pos.rights i).tdiv i):=uV (by simp only[bY];omega) hi4
  refine⟨⟨hne,t1⟩,⟨h2,pG _⟩,fun _=>⟨hne,t2⟩,fun _=>⟨h2,pG _⟩,fun c=>⟨by simp only[aF,bY];omega,by simp only[aF,bY];omega,i*2,hn.1,hn.2,?_⟩,fun c=>⟨by simp only[aF,bY];omega,i*2,hn.1,hn.2,?_⟩⟩
  ·have:=o3 c;repeat' apply And.intro
   all_goals first|rfl|exact this
  ·have:=o4 c;repeat' apply And.intro
   all_goals first|rfl|exact this
 ·have hge:=aa5 hge;have hi8:i=8:=by unfold kU at hi;omega
  subst hi8;have v3:=aa5 v3;have b:=aa5 b;have v2:g.pos.kind=2:=by omega
  have v2':(ah L g.pos).kind=2:=by rw[pe];exact v2
  have hsl:=(tJ hL vi v2 15 (by omega)).1
  have hO:0<=nJ g.rts g.pos.rights/\nJ g.rts g.pos.rights<=7:=(Yt r1 r2 hp.1 hp.2).2;have hraw:=SA (L:=L) hsl (by have:=hall.2.1;have:=hall.2.2.1;omega)
  have eG:∀j,dh L (di (ah L g.pos) 0) j=ah L ((aj L g.pos.oid.toNat free).slots.at j.toNat):=fun j=>by rw[pe];rfl
  have e15:dh L (di (ah L g.pos) 0) 15=ah L ((aj L g.pos.oid.toNat free).slots.at 15):=eG 15;have e14:dh L (di (ah L g.pos) 0) 14=ah L ((aj L g.pos.oid.toNat free).slots.at 14):=eG 14;generalize hS:(aj L g.pos.oid.toNat free).slots.at 15=S at *
  refine⟨⟨hall.2.1,hall.2.2.1⟩,by have:=hall.2.1;have:=hall.2.2.1;unfold ai;omega,fun f=>?_,fun f=>?_⟩
  ·refine qz hI hE (Ik d1 d2 v2' (by omega) ?_) (by omega)
   rw[e15];rw[Bool.eq_false_iff,ne_eq,uW];rintro⟨f1,f2,f3,f4⟩
   have:ah L S=S:=hraw.1 (by by_cases hk:S.kind=1;exact hk;exact absurd f1 (hraw.2 hk))
   rw[this]at f1 f2 f3 f4;simp only[Bool.or_eq_true,Bool.not_eq_true',aa3,decide_eq_false_iff_not]at f;rcases f4 with f4|f4
   ·have:=e1 f4;omega
   ·omega
  ·simp only[Bool.or_eq_false_iff,Bool.not_eq_false',aa3,decide_eq_false_iff_not]at f;obtain⟨⟨⟨f1,f2⟩,f3⟩,f4⟩:=f;have eS:ah L S=S:=hraw.1 f1;rw[eS]at e15;have fh:qu g (dh L (di (ah L g.pos) 0) 15)=true:=by rw[e15,uW];exact⟨f1,by omega,by omega,.inr (by omega)⟩
   have he:=r7 (show S.value<=9 by omega)
   have hd:=rW a1 he.1;have q1:j5 S.value:=⟨by omega,by omega⟩
   have q2:nU (bf S.value):=by unfold nU;omega
   unfold bY at ha;have q3:aF IntKind.i64 (g.adr.tdiv (bf S.value)):=by simp only[aF,bY];omega
   have q4:aF IntKind.i64 (g.adr.tmod (bf S.value)):=by simp only[aF,bY];omega
   have q5:aF IntKind.i64 (g.dep+1):=by simp only[aF,bY];omega
   have kp:∀b,(decide ((ah L ((aj L g.pos.oid.toNat free).slots.at 14)).kind=6)&&decide (fW g.rts g.pos.rights 8<4))=b->wP (nJ g.rts g.pos.rights) (ah L ((aj L g.pos.oid.toNat free).slots.at 14)) g.kpr=if b then ah L ((aj L g.pos.oid.toNat free).slots.at 14)else g.kpr:=by
    intro b hb;unfold wP nJ;cases b
    ·simp only[Bool.and_eq_false_iff,decide_eq_false_iff_not]at hb;rw[aa8 (by omega)];rfl
    ·simp only[aa2,aa3]at hb;rw[aa9 hb];rfl
   have gs:∀s:¬g.adr.tdiv (bf S.value)<14,ji L (9-g.dep).toNat g=⟨2,void,0,wP (nJ g.rts g.pos.rights) (ah L ((aj L g.pos.oid.toNat free).slots.at 14)) g.kpr,0⟩:=fun s=>by
    have:=Cz d1 d2 v2' (by omega) fh (by rw[e15];exact s)
    rw[e14,pe]at this;exact this
   have gn:∀s:g.adr.tdiv (bf S.value)<14,n8 L k a 99 ⟨dh L g.pos (g.adr.tdiv (bf S.value)),g.adr.tmod (bf S.value),nJ g.rts g.pos.rights,wP (nJ g.rts g.pos.rights) (ah L ((aj L g.pos.oid.toNat free).slots.at 14)) g.kpr,g.dep+1,S.value⟩/\
     pA ⟨dh L g.pos (g.adr.tdiv (bf S.value)),g.adr.tmod (bf S.value),nJ g.rts g.pos.rights,wP (nJ g.rts g.pos.rights) (ah L ((aj L g.pos.oid.toNat free).slots.at 14)) g.kpr,g.dep+1,S.value⟩<pA g:=fun s=>by
    have:=NJ hI v2' (by omega) fh (by rw[e15];exact s)
    unfold LB at this;rw[e15,e14,pe]at this;exact this
   refine⟨fun c=>⟨q1,⟨q2,q3⟩,fun s=>?_,fun s=>⟨q1,⟨q2,q4⟩,?_,q5,_,(gn ?_).1,(gn ?_).2,?_⟩⟩,fun c=>⟨q1,⟨q2,q3⟩,fun s=>?_,fun s=>⟨q1,⟨q2,q4⟩,?_,q5,_,(gn ?_).1,(gn ?_).2,?_⟩⟩⟩
   ·have s:=aa6 s;exact qz hI hE ((gs (by omega)).trans (by rw[kp _ c];rfl)) (by omega)
   ·have s:=aa5 s;exact⟨hd.1,by omega,hall.2.1,hall.2.2.1⟩
   ·have s:=aa5 s;omega
   ·have s:=aa5 s;omega
   ·have:=kp _ c;repeat' apply And.intro
    all_goals first|with_reducible rfl|exact this.symm|rfl
   ·have s:=aa6 s;exact qz hI hE ((gs (by omega)).trans (by rw[kp _ c];rfl)) (by omega)
   ·have s:=aa5 s;exact⟨hd.1,by omega,hall.2.1,hall.2.2.1⟩
   ·have s:=aa5 s;omega
   ·have s:=aa5 s;omega
   ·have:=kp _ c;repeat' apply And.intro
    all_goals first|with_reducible rfl|exact this.symm|rfl
theorem Pr (L:List Sx.Obj) (k:Key) (a:Int) (ha:bY .i64 a) (hL:ar L):an Tryz.prog 192 [.sa 0,.key k,.it .i64 a] [.ro (.arr none 163 (.ob L))] (oq (Fi L k a)) (fun _ _=>False):=
 ba (inl:=bx) (ann:=(iv [(192,10,lpT [0,2,4,6,7,8,9,13] (fun g=> [(10,.it .i64 g.adr),(11,.it .i64 g.rts),(12,.it .i64 g.hi),(14,.it .i64 g.dep)]) (fun g=> [(4,.blk tK (.key g.pos)),(5,.blk tK (.key g.kpr))]) (n8 L k a 99) pA),(192,27,aaG [0,2,4,6,7,8,9,10,12,13,14,15] kU 8)])) (ae zy (ae me (ae ph (ae P9 (ae xX aq))))) (Oy L k a ha hL) (by kernel_rfl)
theorem Lv:cq Tryz.prog 192 Sp:=
 eW (aA jb (aA iF (aA dN bV))) (fun _=>rfl) fun a hq hok=>by
  obtain⟨L,k,i,_⟩:=a;exact Pr L k i hok.2.2.1 hq
abbrev acy(k:Key)(a:Int)(n:Int)(w:Bool):=void=cm (bI [] k a n w)/\0=ck (bI [] k a n w)/\void=dn (bI [] k a n w)/\0=dK (bI [] k a n w)/\0=bU [] k a n w/\void=fI [] k a n w/\0=fH [] k a n w/\4=cg [] k a n
theorem Uz (k:Key) (a:Int) (n:Int) (w:Bool):
 abb (aba (decide (ak []=0)) (void=cm (bI [] k a n w)/\0=ck (bI [] k a n w)/\void=dn (bI [] k a n w)/\0=dK (bI [] k a n w)/\0=bU [] k a n w/\void=fI [] k a n w/\0=fH [] k a n w/\1=cg [] k a n) (aba (!decide (bw k=0)||aZ k&&decide (ak []<=cw k)) (void=cm (bI [] k a n w)/\0=ck (bI [] k a n w)/\void=dn (bI [] k a n w)/\0=dK (bI [] k a n w)/\0=bU [] k a n w/\void=fI [] k a n w/\0=fH [] k a n w/\2=cg [] k a n) (aba (decide (a<0)) (acy k a n w) (aba (decide (n<0)||decide (64<n)) (acy k a n w) (aba (!decide (e9 (au [] k a)=0)) (void=cm (bI [] k a n w)/\0=ck (bI [] k a n w)/\void=dn (bI [] k a n w)/\0=dK (bI [] k a n w)/\e9 (au [] k a)=bU [] k a n w/\fQ (au [] k a)=fI [] k a n w/\fO (au [] k a) a=fH [] k a n w/\0=cg [] k a n) (aF IntKind.i64 (ck (au [] k a)+n)/\aba (decide (64<ck (au [] k a)+n)) (abb (void=cm (bI [] k a n w)/\0=ck (bI [] k a n w)/\void=dn (bI [] k a n w)/\0=dK (bI [] k a n w)/\5=bU [] k a n w/\dn (au [] k a)=fI [] k a n w/\a=fH [] k a n w/\0=cg [] k a n)) (aba (w&& !decide (bm BinOp.and IntKind.i64 (cm (au [] k a)).rights 1=0)) (abb (void=cm (bI [] k a n w)/\0=ck (bI [] k a n w)/\void=dn (bI [] k a n w)/\0=dK (bI [] k a n w)/\6=bU [] k a n w/\dn (au [] k a)=fI [] k a n w/\a=fH [] k a n w/\0=cg [] k a n)) (cm (au [] k a)=cm (bI [] k a n w)/\ck (au [] k a)=ck (bI [] k a n w)/\dn (au [] k a)=dn (bI [] k a n w)/\dK (au [] k a)=dK (bI [] k a n w)/\0=bU [] k a n w/\void=fI [] k a n w/\0=fH [] k a n w/\0=cg [] k a n)))))))):=by
 delta aba acy abb
 exact⟨rfl,fun h=>qd (Ph (Y3 h) (by omega)) (by omega),fun h=>absurd h (by decide)⟩
abbrev acz(L:List Sx.Obj)(k:Key)(a:Int)(n:Int)(w:Bool):=void=cm (bI L k a n w)/\0=ck (bI L k a n w)/\void=dn (bI L k a n w)/\0=dK (bI L k a n w)/\0=bU L k a n w/\void=fI L k a n w/\0=fH L k a n w/\4=cg L k a n
theorem W7 (L:List Sx.Obj) (k:Key) (a:Int) (n:Int) (w:Bool):
 abb (aba (decide (ak L=0)) (void=cm (bI L k a n w)/\0=ck (bI L k a n w)/\void=dn (bI L k a n w)/\0=dK (bI L k a n w)/\0=bU L k a n w/\void=fI L k a n w/\0=fH L k a n w/\1=cg L k a n) (aba (!decide (bw k=0)||aZ k&&decide (ak L<=cw k)) (void=cm (bI L k a n w)/\0=ck (bI L k a n w)/\void=dn (bI L k a n w)/\0=dK (bI L k a n w)/\0=bU L k a n w/\void=fI L k a n w/\0=fH L k a n w/\2=cg L k a n) (aba (decide (a<0)) (acz L k a n w) (aba (decide (n<0)||decide (64<n)) (acz L k a n w) (aba (!decide (e9 (au L k a)=0)) (void=cm (bI L k a n w)/\0=ck (bI L k a n w)/\void=dn (bI L k a n w)/\0=dK (bI L k a n w)/\e9 (au L k a)=bU L k a n w/\fQ (au L k a)=fI L k a n w/\fO (au L k a) a=fH L k a n w/\0=cg L k a n) (aF IntKind.i64 (ck (au L k a)+n)/\aba (decide (64<ck (au L k a)+n)) (abb (void=cm (bI L k a n w)/\0=ck (bI L k a n w)/\void=dn (bI L k a n w)/\0=dK (bI L k a n w)/\5=bU L k a n w/\dn (au L k a)=fI L k a n w/\a=fH L k a n w/\0=cg L k a n)) (aba (w&& !decide (bm BinOp.and IntKind.i64 (cm (au L k a)).rights 1=0)) (abb (void=cm (bI L k a n w)/\0=ck (bI L k a n w)/\void=dn (bI L k a n w)/\0=dK (bI L k a n w)/\6=bU L k a n w/\dn (au L k a)=fI L k a n w/\a=fH L k a n w/\0=cg L k a n)) (cm (au L k a)=cm (bI L k a n w)/\ck (au L k a)=ck (bI L k a n w)/\dn (au L k a)=dn (bI L k a n w)/\dK (au L k a)=dK (bI L k a n w)/\0=bU L k a n w/\void=fI L k a n w/\0=fH L k a n w/\0=cg L k a n)))))))):=by
 delta aba acz abb
 refine⟨rfl,fun h=>qd (Ph (Y3 h) (by omega)) (by omega),fun h=>⟨fun h2=>?_,fun h2=>⟨fun h3=>?_,fun h3=>?_⟩⟩⟩
 ·rw[Br,Bool.not_eq_true']at h2;exact qd (Ph (by rw[QP h,h2];rfl) (by omega)) (by omega)
 ·rw[Br,Bool.not_eq_false']at h2;exact qd (Ph (by rw[QP h,h2,aa9 rfl,aa9 (aa6 h3)]) (by omega)) (by omega)
 rw[Br,Bool.not_eq_false']at h2;have hW:dL L k a=0:=by rw[QP h,h2,aa9 rfl,aa8 (aa5 h3)]
 clear h h2 h3;refine⟨fun h=>qd (Zf hW h) (by omega),fun h=>?_⟩
 have hE:=Wl hW h;refine⟨fun hk=>?_,fun hk=>?_⟩
 ·have hk:e9 (au L k a)≠0:=by simpa using hk
  have hk:(au L k a).kd≠0:=hk;obtain⟨u1,u2,u3⟩:=aaq (a:=a) hk;rw[u1,u2,u3];exact rY hE (Y5 hE hk) hk
 have hk:e9 (au L k a)=0:=by simpa using hk
 have hk:(au L k a).kd=0:=hk;obtain⟨⟨e1,e2⟩,e3,e4⟩:=GU hW hk;obtain⟨f1,f2,f3⟩:=N3 hk;have hr:=CP e1 e2;obtain⟨_,n0,n1⟩:=zj hE;rw[f1,f2,f3];rw[Yi hr.1 hr.2];refine⟨by simp only[aF,bY];omega,fun h5=>?_,fun h5=>⟨fun h6=>?_,fun h6=>?_⟩⟩
 ·exact⟨rfl,rY hE (aao hE hk (aa6 h5)) (by omega)⟩
 ·exact⟨rfl,rY hE (aab hE hk (aa5 h5) h6) (by omega)⟩
 ·have:=Hz hE (aae hE hk (aa5 h5) h6);rw[f1,f2,f3]at this;exact this
theorem Ak:cq Tryz.prog 233 YS:=
 eW (aA s5 (aA iF (aA dN (aA dN (aA Ff bV))))) (fun _=>rfl) fun a hq hok=>by
  obtain⟨S,k,i,n,w,_⟩:=a;cases S with
  |none=>exact ba (inl:=(fun f=>f==235||f==237)) (ann:=aQ) (ae bC (ae gy (ae dH (ae Hg aq)))) (Uz k i n w) (by kernel_rfl)
  |some L=>exact ba (inl:=(fun f=>f==235||f==237)) (ann:=aQ) (ae bC (ae gy (ae dH (ae Hg aq)))) (W7 L k i n w) (by kernel_rfl)
theorem Ry (L:List Sx.Obj) (k:Key) (a:Int) (n:Int) (w:Bool) (hL:ar L):
 ar L/\aba (decide (dL L k a=0)&&(decide (n<0)||decide (64<n))) (void=cm (bI L k a n w)/\0=ck (bI L k a n w)/\void=dn (bI L k a n w)/\0=dK (bI L k a n w)/\0=bU L k a n w/\void=fI L k a n w/\0=fH L k a n w/\4=cg L k a n) (aba (!decide (dL L k a=0)|| !decide (e9 (au L k a)=0)) (void=cm (bI L k a n w)/\0=ck (bI L k a n w)/\void=dn (bI L k a n w)/\0=dK (bI L k a n w)/\e9 (au L k a)=bU L k a n w/\fQ (au L k a)=fI L k a n w/\fO (au L k a) a=fH L k a n w/\dL L k a=cg L k a n) (aF IntKind.i64 (ck (au L k a)+n)/\aba (decide (64<ck (au L k a)+n)) (void=cm (bI L k a n w)/\0=ck (bI L k a n w)/\void=dn (bI L k a n w)/\0=dK (bI L k a n w)/\5=bU L k a n w/\dn (au L k a)=fI L k a n w/\a=fH L k a n w/\0=cg L k a n) (aba (w&& !decide ((cm (au L k a)).rights=0)) (void=cm (bI L k a n w)/\0=ck (bI L k a n w)/\void=dn (bI L k a n w)/\0=dK (bI L k a n w)/\6=bU L k a n w/\dn (au L k a)=fI L k a n w/\a=fH L k a n w/\0=cg L k a n) (cm (au L k a)=cm (bI L k a n w)/\ck (au L k a)=ck (bI L k a n w)/\dn (au L k a)=dn (bI L k a n w)/\dK (au L k a)=dK (bI L k a n w)/\0=bU L k a n w/\void=fI L k a n w/\0=fH L k a n w/\0=cg L k a n)))):=by
 delta aba
 refine⟨hL,fun h=>?_,fun h=>⟨fun h2=>?_,fun h2=>?_⟩⟩
 ·rw[aa2,aa3]at h;exact qd (Zf h.1 h.2) (by omega)
 ·by_cases hW:dL L k a=0
  ·rw[decide_eq_true hW,Bool.true_and]at h;rw[decide_eq_true hW]at h2;have hE:=Wl hW h;have hk:e9 (au L k a)≠0:=by simpa using h2
   have hk:(au L k a).kd≠0:=hk;obtain⟨u1,u2,u3⟩:=aaq (a:=a) hk;rw[u1,u2,u3,hW];exact rY hE (Y5 hE hk) hk
  ·have hr:au L k a=YE:=by unfold au;rw[aa8 hW]
   rw[hr];exact qd (Ph rfl hW) hW
 simp only[Bool.or_eq_false_iff,Bool.not_eq_false',aa3]at h2;obtain⟨hW,hk⟩:=h2;rw[decide_eq_true hW,Bool.true_and]at h;have hE:=Wl hW h;have hk:(au L k a).kd=0:=hk;obtain⟨⟨e1,e2⟩,e3,e4⟩:=GU hW hk;obtain⟨f1,f2,f3⟩:=N3 hk;obtain⟨_,n0,n1⟩:=zj hE;rw[f1,f2,f3];refine⟨by simp only[aF,bY];omega,fun h5=>?_,fun h5=>⟨fun h6=>?_,fun h6=>?_⟩⟩
 ·exact rY hE (aao hE hk (aa6 h5)) (by omega)
 ·exact rY hE (aab hE hk (aa5 h5) h6) (by omega)
 ·have:=Hz hE (aae hE hk (aa5 h5) h6);rw[f1,f2,f3]at this;exact this
theorem G7:cq Tryz.prog 141 Xm:=
 eW (aA jb (aA iF (aA dN (aA dN (aA Ff bV))))) (fun _=>rfl) fun a hq hok=>by
  obtain⟨L,k,i,n,w,_⟩:=a;exact ba (inl:=bx) (ann:=aQ) (ae Lv aq) (Ry L k i n w hq) (by kernel_rfl)
theorem XW (L:List Sx.Obj) (k:Key) (i:Int) (s:ByteArray) (hL:ar L) (hs:aw s):
 (decide (aW L k true=0)=true->abd (bN s))/\aba (decide (aW L k true=0)&& !cz i (bN s)) (km L k i s=false/\4=cM L k i s) (aba (!decide (aW L k true=0)) (km L k i s=false/\aW L k true=cM L k i s) ((0<=k.oid/\k.oid< ↑(ai L))/\k.oid.toNat<ai L/\(∃g,qN s g/\k=k/\i=i/\s=s/\Value.slice none 0 0=Value.slice none 0 0/\aW L k true=aW L k true/\0=g/\L=L/\k=k/\aj L k.oid.toNat free=tv L k i s g)/\∀(g:Int),qN s g->abd (bN s)/\aba (decide (g<bN s)) (abd (i+g)/\pSz s g/\(0<=i+g/\i+g< ↑64)/\abd (g+1)/\∃g',qN s g'/\xm s g'<xm s g/\k=k/\i=i/\s=s/\Value.slice none 0 0=Value.slice none 0 0/\aW L k true=aW L k true/\g+1=g'/\L=L/\k=k/\Obj.mk (tv L k i s g).kind (tv L k i s g).count (tv L k i s g).calls (tv L k i s g).slots ((tv L k i s g).bytes.put (i+g).toNat (sat s g.toNat))=tv L k i s g') (dI L k.oid/\km L k i s=true/\0=cM L k i s/\cA L k.oid.toNat (tv L k i s g)=eX L k i s))):=by
 delta aba abd
 have hsz:aF IntKind.i64 (bN s):=by unfold aw at hs;simp only[aF,bY,bN];omega
 refine⟨fun _=>hsz,fun h=>?_,fun h=>⟨fun h'=>?_,fun h'=>?_⟩⟩
 ·rw[aa2,aa3]at h;obtain⟨e1,e2⟩:=Ma h.1 h.2;exact⟨by unfold km;rw[<-e1];rfl,e1⟩
 ·have h':aW L k true≠0:=by simpa using h'
  obtain⟨e1,e2⟩:=wM (i:=i) (z:=s) rfl h';exact⟨by unfold km;rw[<-e1];simpa using h',e1⟩
 ·have h':aW L k true=0:=by simpa using h'
  have hi:(!cz i (bN s))=false:=by rw[h']at h;simpa using h
  have hi':cz i (bN s)=true:=by simpa using hi
  obtain⟨i0,i1,i2,i3⟩:=nW.1 hi';have i3:(s.size:Int)<=64-i:=i3;have hE:cM L k i s=0:=by unfold cM;rw[aa9 h',hi'];rfl
  obtain⟨r1,r2,r3,r4⟩:=pc hL (na h').1;refine⟨⟨r2,r3⟩,r4,⟨0,⟨by omega,by omega⟩,?_⟩,fun g hg=>⟨hsz,fun hlt=>?_,fun hge=>?_⟩⟩
  ·have hz:=T8 (L:=L) (k:=k) (i:=i) (s:=s);repeat' apply And.intro
   all_goals first|with_reducible rfl|exact hz
  ·obtain⟨g0,g1⟩:=hg;have hlt:g<(s.size:Int):=aa6 hlt;have hs:=S8 (L:=L) (k:=k) (i:=i) (s:=s) (g:=g) i0 g0 (by omega)
   refine⟨by simp only[aF,bY];omega,⟨g0,hlt⟩,⟨by omega,by omega⟩,by simp only[aF,bY];omega,g+1,⟨by omega,by omega⟩,by unfold xm;omega,?_⟩
   repeat' apply And.intro
   all_goals first|with_reducible rfl|exact hs
  ·obtain⟨g0,g1⟩:=hg;have hge:¬g<(s.size:Int):=aa5 hge;have hg:g=(s.size:Int):=by omega
   subst hg;refine⟨r1,by unfold km;simpa using hE,hE.symm,?_⟩
   unfold eX;rw[hE,aa9 rfl];rfl
theorem Xu (L:List Sx.Obj) (k:Key) (i:Int) (s:ByteArray) (hL:ar L) (hs:aw s):an Tryz.prog 115 [.sa 0,.key k,.it .i64 i,.st s] [.ro (.arr none 163 (.ob L))] (xS (km L k i s) (eX L k i s) [.it .i64 (cM L k i s)]) (fun _ _=>False):=
 bj (inl:=bx) (ann:=(iv [(115,8,YK [0,1,2,3,4,5,8,9,10,11] (fun g=> [(12,.it .i64 g)]) 11 (fun g=> .blk tO (.ob (tv L k i s g))) (qN s) (xm s))])) (ae uO (ae tY (ae jz aq))) aD (XW L k i s hL hs) (by kernel_rfl)
theorem M8:kL Tryz.prog 115 Z4:=
 iM (m:=fun x=> [.key x.1,.it .i64 x.2.1,.st x.2.2]) vA (fun _=>rfl) (fun _ _=>rfl) fun L x hq=>Xu L x.1 x.2.1 x.2.2 hq.1 hq.2
theorem VL (k:Key) (a:Int) (n:Int):
 aba (!decide (cg [] k a n=0)|| !decide (bU [] k a n false=0)) (ByteArray.mk (Array.mk [])=jM [] k a n/\bU [] k a n false=bU [] k a n false/\fI [] k a n false=fI [] k a n false/\fH [] k a n false=fH [] k a n false/\cg [] k a n=cg [] k a n) (ec [] (cm (bI [] k a n false)) (ck (bI [] k a n false)) n=jM [] k a n/\0=bU [] k a n false/\void=fI [] k a n false/\0=fH [] k a n false/\0=cg [] k a n):=by
 delta aba
 rw[tB];refine⟨fun h=>⟨?_,rfl,rfl,rfl,rfl⟩,fun h=>?_⟩
 ·rw[Bool.not_eq_true']at h;unfold jM;rw[aa8 (by rw[h];simp)]
 ·rw[Bool.not_eq_false']at h;have h0:=tV h;unfold jM fI fH;rw[aa9 h,h0.1,h0.2];exact⟨rfl,rfl,rfl,rfl,rfl⟩
theorem Zv (L:List Sx.Obj) (k:Key) (a:Int) (n:Int):
 aba (!decide (cg L k a n=0)|| !decide (bU L k a n false=0)) (ByteArray.mk (Array.mk [])=jM L k a n/\bU L k a n false=bU L k a n false/\fI L k a n false=fI L k a n false/\fH L k a n false=fH L k a n false/\cg L k a n=cg L k a n) (ec L (cm (bI L k a n false)) (ck (bI L k a n false)) n=jM L k a n/\0=bU L k a n false/\void=fI L k a n false/\0=fH L k a n false/\0=cg L k a n):=by
 delta aba
 rw[tB];refine⟨fun h=>⟨?_,rfl,rfl,rfl,rfl⟩,fun h=>?_⟩
 ·rw[Bool.not_eq_true']at h;unfold jM;rw[aa8 (by rw[h];simp)]
 ·rw[Bool.not_eq_false']at h;have h0:=tV h;unfold jM fI fH;rw[aa9 h,h0.1,h0.2];exact⟨rfl,rfl,rfl,rfl,rfl⟩
theorem YO:cq Tryz.prog 226 aaK:=
 eW (aA s5 (aA iF (aA dN (aA dN bV)))) (fun _=>rfl) fun a hq hok=>by
  obtain⟨S,k,i,n,_⟩:=a;cases S with
  |none=>exact ba (inl:=bx) (ann:=aQ) (ae Ak (ae pd (ae bC aq))) (VL k i n) (by kernel_rfl)
  |some L=>exact ba (inl:=bx) (ann:=aQ) (ae Ak (ae pd (ae bC aq))) (Zv L k i n) (by kernel_rfl)
abbrev acA(L:List Sx.Obj)(k:Key)(a:Int)(n:Int):=abG=jM L k a n/\bU L k a n false=bU L k a n false/\fI L k a n false=fI L k a n false/\fH L k a n false=fH L k a n false/\0=cg L k a n
theorem Yf (L:List Sx.Obj) (k:Key) (a:Int) (n:Int) (hL:ar L):
 ar L/\aba (!decide (cg L k a n=0)|| !decide (bU L k a n false=0)) (abG=jM L k a n/\bU L k a n false=bU L k a n false/\fI L k a n false=fI L k a n false/\fH L k a n false=fH L k a n false/\cg L k a n=cg L k a n) (true=true/\aba (decide (aW L (cm (bI L k a n false)) false=0)&& !cz (ck (bI L k a n false)) n) (acA L k a n) (aba (!decide (aW L (cm (bI L k a n false)) false=0)) (acA L k a n) ((0<=(cm (bI L k a n false)).oid/\(cm (bI L k a n false)).oid< ↑(ai L))/\aF IntKind.i64 (ck (bI L k a n false)+n)/\Cr (ck (bI L k a n false)) (ck (bI L k a n false)+n) 64/\(cm (bI L k a n false)).oid.toNat<ai L/\xB (aj L (cm (bI L k a n false)).oid.toNat free).bytes (ck (bI L k a n false)).toNat (ck (bI L k a n false)+n).toNat=jM L k a n/\bU L k a n false=bU L k a n false/\fI L k a n false=fI L k a n false/\fH L k a n false=fH L k a n false/\0=cg L k a n))):=by
 delta aba abG acA
 rw[tB];refine⟨hL,fun h=>⟨?_,rfl,rfl,rfl,rfl⟩,fun h=>?_⟩
 ·rw[Bool.not_eq_true']at h;unfold jM;rw[aa8 (by rw[h];simp)]
 ·rw[Bool.not_eq_false']at h;have h0:=tV h;have hC:mf L k a n false=true:=h;obtain⟨⟨p1,p2⟩,p3,p4⟩:=OO hC;obtain⟨r1,r2,r3,r4⟩:=pc hL p1;obtain⟨e1,e2,e3,e4⟩:=xN p3 (by rw[p4];rfl)
  refine⟨rfl,fun h=>?_,fun _=>⟨fun h=>?_,fun _=>⟨⟨r2,r3⟩,e1,e2,r4,?_,rfl,rfl,rfl,h0.1.symm⟩⟩⟩
  ·rw[p4]at h;simp at h
  ·rw[p3]at h;simp at h
  ·unfold jM;rw[aa9 hC];exact e3
theorem VS:cq Tryz.prog 123 Zd:=
 eW (aA jb (aA iF (aA dN (aA dN bV)))) (fun _=>rfl) fun a hq hok=>by
  obtain⟨L,k,i,n,_⟩:=a;exact ba (inl:=(fun f=>f==114||f==110)) (ann:=aQ) (ae G7 (ae uO (ae tY aq))) (Yf L k i n hq) (by kernel_rfl)
theorem TY (k:Key) (a:Int) (s:ByteArray) (hs:aw s):
 aF IntKind.i64 (bN s)/\aba (!decide (cg [] k a (bN s)=0)|| !decide (bU [] k a (bN s) true=0)) (bU [] k a (bN s) true=bU [] k a (bN s) true/\fI [] k a (bN s) true=fI [] k a (bN s) true/\fH [] k a (bN s) true=fH [] k a (bN s) true/\cg [] k a (bN s)=cg [] k a (bN s)) (true=true/\0=bU [] k a (bN s) true/\void=fI [] k a (bN s) true/\0=fH [] k a (bN s) true/\0=cg [] k a (bN s)):=by
 delta aba
 have hsz:aF IntKind.i64 (bN s):=by unfold aw at hs;simp only[aF,bY,bN];omega
 rw[tB];refine⟨hsz,fun h=>⟨rfl,rfl,rfl,rfl⟩,fun h=>?_⟩
 rw[Bool.not_eq_false']at h;have:=(zj (tV h).1).1;have h1:dL [] k a=1:=rfl;omega
theorem Rl (k:Key) (a:Int) (s:ByteArray) (hs:aw s):
 aF IntKind.i64 (bN s)/\aba (!decide (cg [] k a (bN s)=0)|| !decide (bU [] k a (bN s) true=0)) (bU [] k a (bN s) true=bU [] k a (bN s) true/\fI [] k a (bN s) true=fI [] k a (bN s) true/\fH [] k a (bN s) true=fH [] k a (bN s) true/\cg [] k a (bN s)=cg [] k a (bN s)) (true=true/\False):=by
 delta aba
 have hsz:aF IntKind.i64 (bN s):=by unfold aw at hs;simp only[aF,bY,bN];omega
 rw[tB];refine⟨hsz,fun h=>⟨rfl,rfl,rfl,rfl⟩,fun h=>?_⟩
 rw[Bool.not_eq_false']at h;have:=(zj (tV h).1).1;have h1:dL [] k a=1:=rfl;omega
theorem VX (L:List Sx.Obj) (k:Key) (a:Int) (s:ByteArray) (hL:ar L) (hs:aw s):
 aF IntKind.i64 (bN s)/\aba (!decide (cg L k a (bN s)=0)|| !decide (bU L k a (bN s) true=0)) ((bU L k a (bN s) true=bU L k a (bN s) true/\fI L k a (bN s) true=fI L k a (bN s) true/\fH L k a (bN s) true=fH L k a (bN s) true/\cg L k a (bN s)=cg L k a (bN s))/\L=kz L k a s) (true=true/\(ar L/\aw s)/\(0=bU L k a (bN s) true/\void=fI L k a (bN s) true/\0=fH L k a (bN s) true/\0=cg L k a (bN s))/\eX L (cm (bI L k a (bN s) true)) (ck (bI L k a (bN s) true)) s=kz L k a s):=by
 delta aba
 have hsz:aF IntKind.i64 (bN s):=by unfold aw at hs;simp only[aF,bY,bN];omega
 rw[tB];refine⟨hsz,fun h=>⟨⟨rfl,rfl,rfl,rfl⟩,?_⟩,fun h=>?_⟩
 ·rw[Bool.not_eq_true']at h;unfold kz;rw[aa8 (by rw[h];simp)]
 ·rw[Bool.not_eq_false']at h;have h0:=tV h;refine⟨rfl,⟨hL,hs⟩,?_,?_⟩
  ·unfold fI fH;rw[h0.1,h0.2];exact⟨rfl,rfl,rfl,rfl⟩
  ·unfold kz;rw[aa9 h]
theorem Wm (L:List Sx.Obj) (k:Key) (a:Int) (s:ByteArray) (hL:ar L) (hs:aw s):an Tryz.prog 228 [.lp 0 0,.key k,.it .i64 a,.st s] [.store tS eS L] (B8 (.tp [V0 L k a (bN s) true,.it .i64 (cg L k a (bN s))]) (kz L k a s)) (fun _ _=>False):=
 bj (inl:=bx) (ann:=aQ) (ae Ak (ae pd (ae bC aq))) (aB B9 aD) (VX L k a s hL hs) (by kernel_rfl)
theorem V4:kL Tryz.prog 228 aan:=
 Ch (m:=fun x=> [.key x.1,.it .i64 x.2.1,.st x.2.2]) vA (fun _=>rfl) (fun _ _=>rfl) (fun x hs=>bj (inl:=bx) (ann:=aQ) (ae Ak (ae pd (ae bC aq))) (aB B9 aD) (TY x.1 x.2.1 x.2.2 hs) (by kernel_rfl)) (fun x hs=>bj (inl:=bx) (ann:=aQ) (ae Ak (ae pd (ae bC aq))) (aB B9 aD) (Rl x.1 x.2.1 x.2.2 hs) (by kernel_rfl)) fun L x hL=>Wm L x.1 x.2.1 x.2.2 hL.1 hL.2
theorem Wb (L:List Sx.Obj) (k:Key) (a:Int) (s:ByteArray) (hL:ar L) (hs:aw s):
 aF IntKind.i64 (bN s)/\ar L/\aba (!decide (cg L k a (bN s)=0)|| !decide (bU L k a (bN s) true=0)) (mf L k a (bN s) true=false/\bU L k a (bN s) true=bU L k a (bN s) true/\fI L k a (bN s) true=fI L k a (bN s) true/\fH L k a (bN s) true=fH L k a (bN s) true/\cg L k a (bN s)=cg L k a (bN s)) (true=true/\(ar L/\aw s)/\(km L (cm (bI L k a (bN s) true)) (ck (bI L k a (bN s) true)) s=false->mf L k a (bN s) true=false/\bU L k a (bN s) true=bU L k a (bN s) true/\fI L k a (bN s) true=fI L k a (bN s) true/\fH L k a (bN s) true=fH L k a (bN s) true/\0=cg L k a (bN s))/\(km L (cm (bI L k a (bN s) true)) (ck (bI L k a (bN s) true)) s=true->mf L k a (bN s) true=true/\(bU L k a (bN s) true=bU L k a (bN s) true/\fI L k a (bN s) true=fI L k a (bN s) true/\fH L k a (bN s) true=fH L k a (bN s) true/\0=cg L k a (bN s))/\eX L (cm (bI L k a (bN s) true)) (ck (bI L k a (bN s) true)) s=kz L k a s)):=by
 delta aba
 have hsz:aF IntKind.i64 (bN s):=by unfold aw at hs;simp only[aF,bY,bN];omega
 rw[tB];refine⟨hsz,hL,fun h=>⟨?_,rfl,rfl,rfl,rfl⟩,fun h=>?_⟩
 ·rw[Bool.not_eq_true']at h;exact h
 ·rw[Bool.not_eq_false']at h;have h0:=tV h;have hC:mf L k a (bN s) true=true:=h;obtain⟨⟨p1,p2⟩,p3,p4⟩:=OO hC;have hE:cM L (cm (bI L k a (bN s) true)) (ck (bI L k a (bN s) true)) s=0:=by unfold cM;rw[aa9 p3,p4];rfl
  refine⟨rfl,⟨hL,hs⟩,fun h=>?_,fun _=>⟨hC,⟨rfl,rfl,rfl,h0.1.symm⟩,?_⟩⟩
  ·unfold km at h;rw[hE]at h;simp at h
  ·unfold kz;rw[aa9 hC]
theorem X5 (L:List Sx.Obj) (k:Key) (a:Int) (s:ByteArray) (hL:ar L) (hs:aw s):an Tryz.prog 124 [.sa 0,.key k,.it .i64 a,.st s] [.ro (.arr none 163 (.ob L))] (xS (mf L k a (bN s) true) (kz L k a s) [V0 L k a (bN s) true,.it .i64 (cg L k a (bN s))]) (fun _ _=>False):=
 bj (inl:=bx) (ann:=aQ) (ae G7 aq) (aB M8 aD) (Wb L k a s hL hs) (by kernel_rfl)
theorem Wy:kL Tryz.prog 124 Z1:=
 iM (m:=fun x=> [.key x.1,.it .i64 x.2.1,.st x.2.2]) vA (fun _=>rfl) (fun _ _=>rfl) fun L x hq=>X5 L x.1 x.2.1 x.2.2 hq.1 hq.2
end Go.Proofs.YtlblcfaclmpekaaGreat
