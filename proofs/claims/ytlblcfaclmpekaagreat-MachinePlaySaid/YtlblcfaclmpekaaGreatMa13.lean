import Derived.Test.YtlblcfaclmpekaaGreatMa12
set_option linter.unusedSimpArgs false
set_option linter.unusedVariables false
set_option maxRecDepth 100000
namespace Go.Sx
def bd (h:Int):Int:=64*16^(h-1).toNat
def j6 (h:Int):Prop:=0<=h/\h<=9
def C4 (h g:Int):Prop:=0<=g/\(g=0\/g<=h-1)
def Dq (h g:Int):Prop:=1<=g/\(g=1\/g<=h)
def Ol:Ct:=s7 (ba iA gJ) (fun x=>some (j6 x.1)) fun x=> .it .i64 (bd x.1)
structure Wk where
 pos:Key
 adr:Int
 rts:Int
 kpr:Key
 dep:Int
 hi:Int
structure Wr where
 kd:Int
 pos:Key
 adr:Int
 kpr:Key
 dep:Int
def YK:Wr:=⟨0,void,0,void,0⟩
def fX (r m g:Int):Int:=r+(if 2<=g/\(gX m 1&& !gX r 1)=true then 1 else 0)+(if 4<=g/\(gX m 2&& !gX r 2)=true then 2 else 0)+(if 8<=g/\(gX m 4&& !gX r 4)=true then 4 else 0)
def nS (r m:Int):Int:=fX r m 8
def pc (r:Int) (p:Key):Key:=if r.tmod 4=0 then p else dn p 1
def qK (w:Wk) (h:Key):Bool:=decide (h.kind=1)&&decide (1<=h.value)&&decide (h.value<=8)&&(decide (w.dep=0)||decide (h.value<w.hi))
def wv (r:Int) (k was:Key):Key:=if k.kind=6/\r<4 then k else was
def mC (L:List Obj) (w:Wk) (p:Key) (h k:Key):Wr×Option Wk:=
 if 8<=w.dep then(⟨3,void,0,w.kpr,0⟩,none)
 else if qK w h then
  (if w.adr.tdiv (bd h.value)<14 then(YK,some ⟨di L p (w.adr.tdiv (bd h.value)),w.adr.tmod (bd h.value),nS w.rts p.rights,wv (nS w.rts p.rights) k w.kpr,w.dep+1,h.value⟩)
   else(⟨2,void,0,wv (nS w.rts p.rights) k w.kpr,0⟩,none))
 else(⟨4,void,0,w.kpr,0⟩,none)
def QR (L:List Obj):Nat->Wk->Wr
 |0,w=>⟨3,void,0,w.kpr,0⟩
 |n+1,w=>
  if(ah L w.pos).kind=3 then(if w.adr<64 then⟨0,pc w.rts (ah L w.pos),w.adr,w.kpr,w.dep⟩else⟨2,void,0,w.kpr,0⟩)
  else if(ah L w.pos).kind=2 then match mC L w (ah L w.pos) (di L (dn (ah L w.pos) 0) 15) (di L (dn (ah L w.pos) 0) 14)with
   | (r,none)=>r
   | (_,some w')=>QR L n w'
  else⟨1,void,0,w.kpr,0⟩
def jr (L:List Obj) (n:Nat) (w:Wk):Wr:=QR L n w
def xM (k:Key) (a hi:Int):Wk:=⟨k,a,0,void,0,hi⟩
def dM (L:List Obj) (k:Key) (a:Int):Int:=if ai L=0 then 1 else if bJ L k then(if a<0 then 4 else 0)else 2
def au (L:List Obj) (k:Key) (a:Int):Wr:=if dM L k a=0 then jr L 9 (xM k a 0)else YK
def cw (r:Wr):Key:=if r.kd=0 then r.pos else void
def cx (r:Wr):Int:=if r.kd=0 then r.adr else 0
def dr (r:Wr):Key:=if r.kd=0 then r.kpr else void
def dN (r:Wr):Int:=if r.kd=0 then r.dep else 0
def fS (r:Wr):Key:=if r.kd=0 then void else r.kpr
def fR (r:Wr) (a:Int):Int:=if r.kd=0 then 0 else a
def fa (r:Wr):Int:=r.kd
def ZE (r:Wr):V:= .ag [.key (cw r),.it .i64 (cx r),.key (dr r),.it .i64 (dN r)]
def aaO (r:Wr) (a:Int):V:= .ag [.it .i64 (fa r),.key (fS r),.it .i64 (fR r a)]
def DS (L:List Obj) (k:Key) (a:Int):V:= .tp [ZE (au L k a),aaO (au L k a) a,.it .i64 (dM L k a)]
abbrev tW:Nat:=296
def wkV (s:V) (g:Wk):V:= .ag [s,.key g.pos,.it .i64 g.adr,.it .i64 g.rts,.key g.kpr,.it .i64 g.dep,.it .i64 g.hi,.cb false]
def oi (L:List Obj) (k:Key) (a hi:Int) (g:Wk):Prop:=
 (0<=g.adr/\g.adr<=a)/\(0<=g.rts/\g.rts<=7)/\(0<=g.dep/\g.dep<=8)/\(g.dep=0->g.hi=hi)/\(g.dep≠0->g.hi<=8)/\jr L (9-g.dep).toNat g=jr L 9 (xM k a hi)
def pn (g:Wk):Nat:=(9-g.dep).toNat
def aaz (j4:List Nat) (inv:Int->Prop) (m:Int):dD:=
 {γ:=Int,head:=fun U g=>match cg U.slots 11 with
   | .v x=>match x with
     | .it _ r=>match az U.res 4 with
       | .blk _ c=>match c with
         | .key k=> {U with slots:=I5 j4 [(11,.it .i64 (fX r k.rights g)),(16,.it .i64 g)] 0 U.slots}
         |_=>U
       |_=>U
     |_=>U
   |_=>U,inv:=inv,μ:=fun g=>qf (tA m g)}
def XP:Ct:=s7 (ba sA (ba kA (ba iA gJ))) (fun _=>none) fun x=>DS (DG x.1) x.2.1 x.2.2.1
def Rr:Ct:=s7 (ba AE (ba kA (ba iA gJ))) (fun x=>some (aq x.1)) fun x=>DS x.1 x.2.1 x.2.2.1
def spX (nid:Nat):V:= .mp nid
def spN (nid:Nat):List aK:= [.mp .i64 [3,2] [.fn 245 [],.fn 246 []]]
theorem B1 {g:Int} (h:1<=g):bd g*16=bd (g+1):=by
 unfold bd;have e:(g+1-1).toNat=(g-1).toNat+1:=by omega
 rw[e,Int.pow_succ];generalize (16:Int)^(g-1).toNat=x
 omega
theorem nF {h:Int} (hh:h<=1):bd h=64:=by
 unfold bd;have e:(h-1).toNat=0:=by omega
 rw[e];rfl
theorem sN {h:Int} (hh:h<=9):64<=bd h/\bd h<=274877906944:=by
 by_cases h1:h<=1
 ·rw[nF h1];omega
 have:h=2\/h=3\/h=4\/h=5\/h=6\/h=7\/h=8\/h=9:=by omega
 rcases this with rfl|rfl|rfl|rfl|rfl|rfl|rfl|rfl<;>decide
theorem Xq:∀r m:Fin 8,bk .or .i64 (r.val:Int) (m.val:Int)=nS (r.val:Int) (m.val:Int)/\0<=nS (r.val:Int) (m.val:Int)/\nS (r.val:Int) (m.val:Int)<=7:=by decide
theorem yJ {r:Int} (h0:0<=r) (h1:r<=7):∃x:Fin 8,(x.val:Int)=r:=⟨⟨r.toNat,by omega⟩,by simp;omega⟩
theorem Ys {r m:Int} (h0:0<=r) (h1:r<=7) (m0:0<=m) (m1:m<=7):bk .or .i64 r m=nS r m/\0<=nS r m/\nS r m<=7:=by
 obtain⟨x,rfl⟩:=yJ h0 h1;obtain⟨y,rfl⟩:=yJ m0 m1;exact Xq x y
theorem Qb:∀r:Fin 8,decide (bk .and .i64 (r.val:Int) 4=0)=decide ((r.val:Int)<4):=by decide
theorem aaI {r:Int} (h0:0<=r) (h1:r<=7):decide (bk .and .i64 r 4=0)=decide (r<4):=by
 obtain⟨x,rfl⟩:=yJ h0 h1;exact Qb x
theorem Tf:∀r m:Fin 8,∀g∈ [(1:Int),2,4],(0<=fX (r.val:Int) (m.val:Int) g/\fX (r.val:Int) (m.val:Int) g<=7)/\
  ((decide (((m.val:Int).tdiv g).tmod 2=1)&&decide (((fX (r.val:Int) (m.val:Int) g).tdiv g).tmod 2=0))=true->fX (r.val:Int) (m.val:Int) g+g=fX (r.val:Int) (m.val:Int) (g*2))/\
  ((decide (((m.val:Int).tdiv g).tmod 2=1)&&decide (((fX (r.val:Int) (m.val:Int) g).tdiv g).tmod 2=0))=false->fX (r.val:Int) (m.val:Int) g=fX (r.val:Int) (m.val:Int) (g*2)):=by decide
theorem Zk {r m g:Int} (h0:0<=r) (h1:r<=7) (m0:0<=m) (m1:m<=7) (hg:g=1\/g=2\/g=4):(0<=fX r m g/\fX r m g<=7)/\
  ((decide ((m.tdiv g).tmod 2=1)&&decide (((fX r m g).tdiv g).tmod 2=0))=true->fX r m g+g=fX r m (g*2))/\
  ((decide ((m.tdiv g).tmod 2=1)&&decide (((fX r m g).tdiv g).tmod 2=0))=false->fX r m g=fX r m (g*2)):=by
 obtain⟨x,rfl⟩:=yJ h0 h1;obtain⟨y,rfl⟩:=yJ m0 m1;exact Tf x y g (by rcases hg with rfl|rfl|rfl<;>simp)
theorem ZC {r m:Int}:fX r m 1=r:=by simp[fX]
theorem CX {L:List Obj} {k:Key} (h:(ah L k).kind=2\/(ah L k).kind=3):ah L k=k/\aU L k=true:=by
 unfold ah at h⊢;split at h
 ·simp[void]at h
 ·rename_i hn;rw[aa1 hn];refine⟨rfl,?_⟩;simp only[Bool.or_eq_true,Bool.not_eq_true',aaV,not_or,Bool.not_eq_true,not_and]at hn;obtain⟨⟨h1,h2⟩,h3⟩:=hn;have hk:aV k=true:=by simpa using h2
  have:aZ k=true:=by
   unfold aZ ea;rw[hk];rcases h with h|h<;>simp[h]
  have:=h3 this;simpa using this
theorem TU {L:List Obj} {k:Key} (h:aU L k=true):ah L k=k:=by
 unfold ah;have h':=ei h;rw[aa1];have hl:L≠ []:=fun e=>by have:=h'.2.1;have:=h'.2.2.1;simp[e]at *;omega
 have hs:bu L=false:=by
  unfold bu;cases L with
  |nil=>exact absurd rfl hl
  |cons x l=>simp[ai]
 rw[hs,h'.1,h];simp
theorem WA {k:Key} (h:aV k=true) (h2:k.kind=2):Key.mk 2 k.oid k.count void.call void.rights void.value=dn k 0:=by
 obtain⟨a,b,c,d,e,f⟩:=k;simp only at h2;subst h2;simp[aV,fZ,ea,gO,kG]at h;simp[dn,void];omega
theorem X9 {L:List Obj} {k:Key} (h:aU L k=true) (h2:k.kind=2):aU L (dn k 0)=true:=by
 have hk:=(ei h).1
 have hk':aV (dn k 0)=true:=by
  have hk1:=hk;simp only[aV,aaV,aaW]at hk1⊢;obtain⟨⟨⟨⟨⟨⟨⟨x1,x2⟩,x3⟩,x4⟩,x5⟩,x6⟩,x7⟩,x8⟩:=hk1;exact⟨⟨⟨⟨⟨⟨⟨x1,x2⟩,Int.le_refl 0⟩,by show 0<=fy k.kind;omega⟩,x5⟩,x6⟩,x7⟩,x8⟩
 have hn:bf (dn k 0)=bf k:=by unfold bf;rw[hk,hk'];rfl
 have hw:gz (dn k 0)=gz k:=by unfold gz;rw[hn];rfl
 have hc:∀o,cI (dn k 0) o=cI k o:=fun o=>by unfold cI;rw[hn,hw,hk,hk'];rfl
 have hd:aZ (dn k 0)=aZ k:=by unfold aZ;rw[hk,hk'];rfl
 unfold aU at h⊢;rw[hd,hc];exact h
theorem Gz {L:List Obj} {k:Key} {i:Int} (h:aU L k=true) (h2:k.kind=2) (h0:0<=i) (h1:i<16):aJ L k i=di L k i:=by
 have hl:=ei h
 have hA:aB L k 2 false=0:=by
  unfold aB;rw[aa1 (by have:=hl.2.1;have:=hl.2.2.1;unfold ai;omega),aa1 (by rw[h,h2];simp),aa1 (by simp)]
 unfold aJ bY ko;rw[hA,aa2 rfl,decide_eq_true h0,decide_eq_true h1];rfl
theorem L9 {L:List Obj} {k:Key} {i:Int} (h:aU L k=true) (h2:k.kind=2) (h0:0<=i) (h1:i<16):aJ L (Key.mk 2 k.oid k.count void.call void.rights void.value) i=di L (dn k 0) i:=by
 rw[WA (ei h).1 h2];exact Gz (X9 h h2) h2 h0 h1
theorem go_eq {L:List Obj} {g:Wk} (h0:0<=g.dep) (h8:g.dep<=8):jr L (9-g.dep).toNat g=
  if(ah L g.pos).kind=3 then(if g.adr<64 then⟨0,pc g.rts (ah L g.pos),g.adr,g.kpr,g.dep⟩else⟨2,void,0,g.kpr,0⟩)
  else if(ah L g.pos).kind=2 then match mC L g (ah L g.pos) (di L (dn (ah L g.pos) 0) 15) (di L (dn (ah L g.pos) 0) 14)with
   | (r,none)=>r
   | (_,some w')=>jr L (8-g.dep).toNat w'
  else⟨1,void,0,g.kpr,0⟩:=by
 have e:(9-g.dep).toNat=(8-g.dep).toNat+1:=by omega
 rw[e];rfl
theorem Hi {L:List Obj} {g:Wk} (h0:0<=g.dep) (h8:g.dep<=8) (h3:(ah L g.pos).kind≠3) (h2:(ah L g.pos).kind≠2):jr L (9-g.dep).toNat g=⟨1,void,0,g.kpr,0⟩:=by
 rw[go_eq h0 h8,aa1 h3,aa1 h2]
theorem N7 {L:List Obj} {g:Wk} (h0:0<=g.dep) (h8:g.dep<=8) (h3:(ah L g.pos).kind=3) (h:¬g.adr<64):jr L (9-g.dep).toNat g=⟨2,void,0,g.kpr,0⟩:=by
 rw[go_eq h0 h8,aa2 h3,aa1 h]
theorem ym {L:List Obj} {g:Wk} (h0:0<=g.dep) (h8:g.dep<=8) (h3:(ah L g.pos).kind=3) (h:g.adr<64):jr L (9-g.dep).toNat g=⟨0,pc g.rts (ah L g.pos),g.adr,g.kpr,g.dep⟩:=by
 rw[go_eq h0 h8,aa2 h3,aa2 h]
theorem Na {L:List Obj} {g:Wk} (h0:0<=g.dep) (h8:g.dep<=8) (h2:(ah L g.pos).kind=2) (h:¬g.dep<8):jr L (9-g.dep).toNat g=⟨3,void,0,g.kpr,0⟩:=by
 rw[go_eq h0 h8,aa1 (by omega),aa2 h2,mC,aa2 (by omega)]
theorem Hq {L:List Obj} {g:Wk} (h0:0<=g.dep) (h8:g.dep<=8) (h2:(ah L g.pos).kind=2) (h:g.dep<8) (hf:qK g (di L (dn (ah L g.pos) 0) 15)=false):jr L (9-g.dep).toNat g=⟨4,void,0,g.kpr,0⟩:=by
 rw[go_eq h0 h8,aa1 (by omega),aa2 h2,mC,aa1 (by omega),hf]
 rfl
theorem Ce {L:List Obj} {g:Wk} (h0:0<=g.dep) (h8:g.dep<=8) (h2:(ah L g.pos).kind=2) (h:g.dep<8) (hf:qK g (di L (dn (ah L g.pos) 0) 15)=true)
  (hs:¬g.adr.tdiv (bd (di L (dn (ah L g.pos) 0) 15).value)<14):jr L (9-g.dep).toNat g=⟨2,void,0,wv (nS g.rts (ah L g.pos).rights) (di L (dn (ah L g.pos) 0) 14) g.kpr,0⟩:=by
 rw[go_eq h0 h8,aa1 (by omega),aa2 h2,mC,aa1 (by omega),hf,aa2 rfl,aa1 hs]
def OS (L:List Obj) (g:Wk):Wk:=⟨di L (ah L g.pos) (g.adr.tdiv (bd (di L (dn (ah L g.pos) 0) 15).value)),g.adr.tmod (bd (di L (dn (ah L g.pos) 0) 15).value),nS g.rts (ah L g.pos).rights,
 wv (nS g.rts (ah L g.pos).rights) (di L (dn (ah L g.pos) 0) 14) g.kpr,g.dep+1,(di L (dn (ah L g.pos) 0) 15).value⟩
theorem T6 {L:List Obj} {g:Wk} (h0:0<=g.dep) (h8:g.dep<=8) (h2:(ah L g.pos).kind=2) (h:g.dep<8) (hf:qK g (di L (dn (ah L g.pos) 0) 15)=true)
  (hs:g.adr.tdiv (bd (di L (dn (ah L g.pos) 0) 15).value)<14):jr L (9-g.dep).toNat g=jr L (9-(g.dep+1)).toNat (OS L g):=by
 rw[go_eq h0 h8,aa1 (by omega),aa2 h2,mC,aa1 (by omega),hf,aa2 rfl,aa2 hs]
 have e:(9-(g.dep+1)).toNat=(8-g.dep).toNat:=by omega
 rw[e];rfl
theorem vG {g:Wk} {h:Key}:qK g h=true↔h.kind=1/\1<=h.value/\h.value<=8/\(g.dep=0\/h.value<g.hi):=by
 simp[qK,and_assoc]
theorem sV {a e:Int} (h0:0<=a) (he:64<=e):0<=a.tdiv e/\a.tdiv e<=a/\0<=a.tmod e/\a.tmod e<=a:=by
 rw[Int.tdiv_eq_ediv_of_nonneg h0,Int.tmod_eq_emod_of_nonneg h0];have h1:=Int.ediv_nonneg h0 (show 0<=e by omega)
 have h2:=Int.ediv_le_self e h0;have h3:=Int.emod_nonneg a (show e≠0 by omega)
 have h4:=Int.emod_add_mul_ediv a e;have h5:=Int.mul_nonneg (show 0<=e by omega) h1
 omega
theorem PT {L:List Obj} {k:Key} {a hi:Int} {g:Wk} (hI:oi L k a hi g) (h2:(ah L g.pos).kind=2) (h:g.dep<8) (hf:qK g (di L (dn (ah L g.pos) 0) 15)=true)
  (hs:g.adr.tdiv (bd (di L (dn (ah L g.pos) 0) 15).value)<14):oi L k a hi (OS L g)/\pn (OS L g)<pn g:=by
 obtain⟨⟨a1,a2⟩,⟨r1,r2⟩,⟨d1,d2⟩,e1,e2,e3⟩:=hI;have hf':=vG.1 hf;have he:=sN (show(di L (dn (ah L g.pos) 0) 15).value<=9 by omega)
 have hd:=sV a1 he.1;have hp:=pk (qi L g.pos);have ho:=Ys r1 r2 hp.1 hp.2;refine⟨⟨⟨hd.2.2.1,by have:=hd.2.2.2;simp only[OS];omega⟩,ho.2,⟨by simp only[OS];omega,by simp only[OS];omega⟩,fun h=>?_,fun _=>hf'.2.2.1,?_⟩,?_⟩
 ·simp only[OS]at h;omega
 ·rw[<-e3,T6 d1 d2 h2 h hf hs];rfl
 ·unfold pn;simp only[OS];omega
theorem WI {L:List Obj} {k:Key} {a:Int} (x y:Int):jr L 9 (xM k a x)=jr L 9 (xM k a y):=by
 show QR L (8+1) _=QR L (8+1) _
 unfold QR;simp only[xM,mC,qK];rfl
theorem Z0 {L:List Obj} {k:Key} {a:Int} (h:¬a<0) (hi:Int):oi L k a hi (xM k a hi):=
 ⟨⟨by simp only[xM];omega,by simp only[xM];omega⟩,by simp[xM],by simp[xM],fun _=>rfl,fun h=>absurd rfl h,rfl⟩
theorem Zh {L:List Obj} {k:Key} {a hi:Int} {g:Wk} (hI:oi L k a hi g) (hE:dM L k a=0):au L k a=jr L (9-g.dep).toNat g:=by
 unfold au;rw[aa2 hE,hI.2.2.2.2.2];exact WI _ _
theorem Aj {L:List Obj} {k:Key} {a e:Int} (h:dM L k a=e) (he:e≠0):void=cw (au L k a)/\0=cx (au L k a)/\void=dr (au L k a)/\0=dN (au L k a)/\0=fa (au L k a)/\void=fS (au L k a)/\0=fR (au L k a) a/\e=dM L k a:=by
 have:au L k a=YK:=by unfold au;rw[aa1 (by omega)]
 rw[this,h];exact⟨rfl,rfl,rfl,rfl,rfl,rfl,rfl,rfl⟩
theorem qF {L:List Obj} {k:Key} {a hi d:Int} {g:Wk} {p:Key} (hI:oi L k a hi g) (hE:dM L k a=0) (h:jr L (9-g.dep).toNat g=⟨d,void,0,p,0⟩) (hd:d≠0):
  void=cw (au L k a)/\0=cx (au L k a)/\void=dr (au L k a)/\0=dN (au L k a)/\d=fa (au L k a)/\p=fS (au L k a)/\a=fR (au L k a) a/\0=dM L k a:=by
 rw[Zh hI hE,h,hE];simp only[cw,cx,dr,dN,fa,fS,fR,aa1 hd];simp
theorem HD {L:List Obj} {k:Key} {a hi ad dp:Int} {g:Wk} {q p:Key} (hI:oi L k a hi g) (hE:dM L k a=0) (h:jr L (9-g.dep).toNat g=⟨0,q,ad,p,dp⟩):
  q=cw (au L k a)/\ad=cx (au L k a)/\p=dr (au L k a)/\dp=dN (au L k a)/\0=fa (au L k a)/\void=fS (au L k a)/\0=fR (au L k a) a/\0=dM L k a:=by
 rw[Zh hI hE,h,hE];exact⟨rfl,rfl,rfl,rfl,rfl,rfl,rfl,rfl⟩
theorem Bo (L:List Obj) (v:Key):(!decide (bB v=0)||aZ v&&decide (ak L<=cy v))= !bJ L v:=by
 rw[<-uO]
 have:decide (ak L<=cy v)= !decide (cy v<ak L):=by
  rw[Bool.eq_iff_iff];simp
 rw[this];cases decide (bB v=0)<;>cases aZ v<;>cases decide (cy v<ak L)<;>rfl
theorem wE1 {L:List Obj} {k:Key} {a:Int} (h:decide (ak L=0)=true):dM L k a=1:=by
 have h:=aaZ h;unfold ak at h;unfold dM;rw[aa2 (by omega)]
theorem Q0 {L:List Obj} {k:Key} {a:Int} (h:decide (ak L=0)=false):dM L k a=if bJ L k then(if a<0 then 4 else 0)else 2:=by
 have h:=aaY h;unfold ak at h;unfold dM;rw[aa1 (by omega)]
theorem Tt {L:List Obj} {k:Key} (hk:aV k=true) (hL:0<L.length):(k.kind=1->ah L k=k)/\(k.kind≠1->(ah L k).kind≠1):=by
 refine⟨fun h=>?_,fun h=>?_⟩
 ·unfold ah;rw[aa1]
  have hs:bu L=false:=by
   unfold bu ai;rw[decide_eq_false];omega
  have hn:aZ k=false:=by unfold aZ ea;rw[h,hk];rfl
  rw[hs,hk,hn];simp
 ·unfold ah;split
  ·simp[void]
  ·exact h
def cm (L:List Obj) (k:Key) (a n:Int):Int:=if dM L k a=0 then(if n<0\/64<n then 4 else 0)else dM L k a
def bW (L:List Obj) (k:Key) (a n:Int) (w:Bool):Int:=if cm L k a n=0 then(if(au L k a).kd=0 then(if 64<(au L k a).adr+n then 5 else if(w&& !decide ((au L k a).pos.rights=0))=true then 6 else 0)else(au L k a).kd)else 0
def fF (L:List Obj) (k:Key) (a n:Int) (w:Bool):Key:=if bW L k a n w=0 then void else(au L k a).kpr
def fI (L:List Obj) (k:Key) (a n:Int) (w:Bool):Int:=if bW L k a n w=0 then 0 else a
def ma (L:List Obj) (k:Key) (a n:Int) (w:Bool):Bool:=decide (cm L k a n=0)&&decide (bW L k a n w=0)
def bH (L:List Obj) (k:Key) (a n:Int) (w:Bool):Wr:=if ma L k a n w=true then au L k a else YK
def Yj (L:List Obj) (k:Key) (a n:Int) (w:Bool):V:= .ag [.it .i64 (bW L k a n w),.key (fF L k a n w),.it .i64 (fI L k a n w)]
def jW (L:List Obj) (k:Key) (a n:Int):ByteArray:=if ma L k a n false=true then ec L (cw (bH L k a n false)) (cx (bH L k a n false)) n else⟨#[]⟩
def kx (L:List Obj) (k:Key) (a:Int) (s:ByteArray):List Obj:=if ma L k a (bO s) true=true then eZ L (cw (bH L k a (bO s) true)) (cx (bH L k a (bO s) true)) s else L
def Zz (L:List Obj) (k:Key) (a n:Int) (w:Bool):V:= .tp [ZE (bH L k a n w),Yj L k a n w,.it .i64 (cm L k a n)]
def YW:Ct:=s7 (ba sA (ba kA (ba iA (ba iA (ba bA gJ))))) (fun _=>none) fun x=>Zz (DG x.1) x.2.1 x.2.2.1 x.2.2.2.1 x.2.2.2.2.1
def XG:Ct:=s7 (ba AE (ba kA (ba iA (ba iA (ba bA gJ))))) (fun x=>some (aq x.1)) fun x=>Zz x.1 x.2.1 x.2.2.1 x.2.2.2.1 x.2.2.2.2.1
def ki (L:List Obj) (k:Key) (i:Int) (s:ByteArray):Bool:=decide (cL L k i s=0)
def Z8:kq:=Az A8 (fun L x=>aq L/\aw x.2.2) (fun L x=>ki L x.1 x.2.1 x.2.2) (fun L x=>eZ L x.1 x.2.1 x.2.2) fun L x=> [.it .i64 (cL L x.1 x.2.1 x.2.2)]
def aaD:Ct:=s7 (ba sA (ba kA (ba iA (ba iA gJ)))) (fun _=>none) fun x=> .tp [.st (jW (DG x.1) x.2.1 x.2.2.1 x.2.2.2.1),Yj (DG x.1) x.2.1 x.2.2.1 x.2.2.2.1 false,.it .i64 (cm (DG x.1) x.2.1 x.2.2.1 x.2.2.2.1)]
def ZW:Ct:=s7 (ba AE (ba kA (ba iA (ba iA gJ)))) (fun x=>some (aq x.1)) fun x=> .tp [.st (jW x.1 x.2.1 x.2.2.1 x.2.2.2.1),Yj x.1 x.2.1 x.2.2.1 x.2.2.2.1 false,.it .i64 (cm x.1 x.2.1 x.2.2.1 x.2.2.2.1)]
def aan:kq:=YE A8 (fun x=>aw x.2.2) (fun L x=>aq L/\aw x.2.2) (fun L x=> .tp [Yj L x.1 x.2.1 (bO x.2.2) true,.it .i64 (cm L x.1 x.2.1 (bO x.2.2))]) fun L x=>kx L x.1 x.2.1 x.2.2
def ZL:kq:=Az A8 (fun L x=>aq L/\aw x.2.2) (fun L x=>ma L x.1 x.2.1 (bO x.2.2) true) (fun L x=>kx L x.1 x.2.1 x.2.2) fun L x=> [Yj L x.1 x.2.1 (bO x.2.2) true,.it .i64 (cm L x.1 x.2.1 (bO x.2.2))]
theorem R6 {L:List Obj} {k:Key} {r:Int} (h:aU L k=true) (h3:k.kind=3):aU L (pc r k)=true/\(pc r k).kind=3:=by
 unfold pc;split
 ·exact⟨h,h3⟩
 ·refine⟨?_,h3⟩;have hk:=(ei h).1;have hm:fy k.kind=1:=by rw[h3];rfl
  have hk':aV (dn k 1)=true:=by
   have hk1:=hk;simp only[aV,aaV,aaW]at hk1⊢;obtain⟨⟨⟨⟨⟨⟨⟨x1,x2⟩,x3⟩,x4⟩,x5⟩,x6⟩,x7⟩,x8⟩:=hk1;exact⟨⟨⟨⟨⟨⟨⟨x1,x2⟩,by show(0:Int)<=1;omega⟩,by show 1<=fy k.kind;omega⟩,x5⟩,x6⟩,x7⟩,x8⟩
  have hn:bf (dn k 1)=bf k:=by unfold bf;rw[hk,hk'];rfl
  have hw:gz (dn k 1)=gz k:=by unfold gz;rw[hn];rfl
  have hc:∀o,cI (dn k 1) o=cI k o:=fun o=>by unfold cI;rw[hn,hw,hk,hk'];rfl
  have hd:aZ (dn k 1)=aZ k:=by unfold aZ;rw[hk,hk'];rfl
  unfold aU at h⊢;rw[hd,hc];exact h
theorem HX {L:List Obj}:∀(n:Nat) (w:Wk),0<=w.adr->(jr L n w).kd=0->(aU L (jr L n w).pos=true/\(jr L n w).pos.kind=3)/\0<=(jr L n w).adr/\(jr L n w).adr<64
 |0,w,_,h=>absurd h (by show¬(3:Int)=0;omega)
 |n+1,w,ha,h=>by
  unfold jr QR at h⊢;split at h
  ·rename_i h3;split at h
   ·rename_i hlt;rw[aa2 h3,aa2 hlt];obtain⟨pe,pi⟩:=CX (.inr h3);rw[pe]at h3⊢;exact⟨R6 pi h3,ha,hlt⟩
   ·exact absurd h (by show¬(2:Int)=0;omega)
  ·rename_i h3;rw[aa1 h3];split at h
   ·rename_i h2;rw[aa2 h2];split at h
    ·rename_i r hr;unfold mC at hr;split at hr
     ·simp only[aaU,and_true]at hr;subst hr;exact absurd h (by show¬(3:Int)=0;omega)
     ·split at hr
      ·split at hr<;>simp only[aaU,and_true,reduceCtorEq,and_false]at hr
       subst hr;exact absurd h (by show¬(2:Int)=0;omega)
      ·simp only[aaU,and_true]at hr;subst hr;exact absurd h (by show¬(4:Int)=0;omega)
    ·rename_i r w' hr;refine HX n w' ?_ h;unfold mC at hr;split at hr
     ·simp at hr
     ·split at hr
      ·rename_i hf;split at hr<;>simp only[aaU,aaT,reduceCtorEq,and_false]at hr
       obtain⟨_,rfl⟩:=hr;have hf':=vG.1 hf;have he:=sN (show(di L (dn (ah L w.pos) 0) 15).value<=9 by omega)
       exact(sV ha he.1).2.2.1
      ·simp at hr
   ·exact absurd h (by show¬(1:Int)=0;omega)
theorem FW {L:List Obj} {k:Key} {a:Int} (hE:dM L k a=0) (h:(au L k a).kd=0):(aU L (au L k a).pos=true/\(au L k a).pos.kind=3)/\0<=(au L k a).adr/\(au L k a).adr<64:=by
 have ha:0<=a:=by
  unfold dM at hE;split at hE
  ·omega
  ·split at hE
   ·split at hE<;>omega
   ·omega
 unfold au at h⊢;rw[aa2 hE]at h⊢;exact HX 9 _ ha h
theorem tx {L:List Obj} {k:Key} {a n:Int} {w:Bool}:(!decide (cm L k a n=0)|| !decide (bW L k a n w=0))= !ma L k a n w:=by
 unfold ma;cases decide (cm L k a n=0)<;>cases decide (bW L k a n w=0)<;>rfl
theorem uf {L:List Obj} {k:Key} {a n:Int} {w:Bool} (h:ma L k a n w=true):cm L k a n=0/\bW L k a n w=0:=by
 unfold ma at h;simpa using h
theorem PQ {L:List Obj} {k:Key} {a n e:Int} (h:dM L k a=e) (he:e≠0):cm L k a n=e:=by unfold cm;rw[h,aa1 he]
theorem Zl {L:List Obj} {k:Key} {a n:Int} (h:dM L k a=0) (hr:(decide (n<0)||decide (64<n))=true):cm L k a n=4:=by
 unfold cm;rw[aa2 h,aa2 (by simpa using hr)]
theorem WV {L:List Obj} {k:Key} {a n:Int} (h:dM L k a=0) (hr:(decide (n<0)||decide (64<n))=false):cm L k a n=0:=by
 unfold cm;rw[aa2 h,aa1 (by simpa using hr)]
theorem yM {L:List Obj} {k:Key} {a n:Int} (h:cm L k a n=0):dM L k a=0/\0<=n/\n<=64:=by
 unfold cm at h;split at h
 ·rename_i hw;split at h
  ·omega
  ·exact⟨hw,by omega,by omega⟩
 ·rename_i hw;exact absurd h hw
theorem Xd {L:List Obj} {k:Key} {a n:Int} {w:Bool} (h:ma L k a n w=true):dM L k a=0/\(au L k a).kd=0/\0<=n/\(au L k a).adr+n<=64/\(w=true->(au L k a).pos.rights=0):=by
 unfold ma at h;rw[aaV,aaW,aaW]at h;obtain⟨hE,hF⟩:=h;obtain⟨h1,h2,h3⟩:=yM hE;unfold bW at hF;rw[aa2 hE]at hF;split at hF
 ·rename_i hk;split at hF
  ·omega
  ·split at hF
   ·omega
   ·rename_i h4 h5;exact⟨h1,hk,h2,by omega,fun hw=>by rw[hw]at h5;simpa using h5⟩
 ·rename_i hk;exact absurd hF hk
theorem qt {L:List Obj} {k:Key} {a n e:Int} {w:Bool} (h:cm L k a n=e) (he:e≠0):void=cw (bH L k a n w)/\0=cx (bH L k a n w)/\void=dr (bH L k a n w)/\0=dN (bH L k a n w)/\0=bW L k a n w/\void=fF L k a n w/\0=fI L k a n w/\e=cm L k a n:=by
 have hF:bW L k a n w=0:=by unfold bW;rw[h,aa1 he]
 have hC:ma L k a n w=false:=by unfold ma;rw[h,decide_eq_false he];rfl
 unfold bH fF fI;rw[hC,hF,h];exact⟨rfl,rfl,rfl,rfl,rfl,rfl,rfl,rfl⟩
theorem sK {L:List Obj} {k:Key} {a n d:Int} {w:Bool} (hE:cm L k a n=0) (h:bW L k a n w=d) (hd:d≠0):void=cw (bH L k a n w)/\0=cx (bH L k a n w)/\void=dr (bH L k a n w)/\0=dN (bH L k a n w)/\d=bW L k a n w/\(au L k a).kpr=fF L k a n w/\a=fI L k a n w/\0=cm L k a n:=by
 have hC:ma L k a n w=false:=by unfold ma;rw[h,decide_eq_false hd,Bool.and_false]
 unfold bH fF fI;rw[hC,h,hE,aa1 hd,aa1 hd];exact⟨rfl,rfl,rfl,rfl,rfl,rfl,rfl,rfl⟩
theorem Is {L:List Obj} {k:Key} {a n:Int} {w:Bool} (hE:cm L k a n=0) (h:bW L k a n w=0):cw (au L k a)=cw (bH L k a n w)/\cx (au L k a)=cx (bH L k a n w)/\dr (au L k a)=dr (bH L k a n w)/\dN (au L k a)=dN (bH L k a n w)/\0=bW L k a n w/\void=fF L k a n w/\0=fI L k a n w/\0=cm L k a n:=by
 have hC:ma L k a n w=true:=by unfold ma;rw[h,hE];rfl
 unfold bH fF fI;rw[hC,h,hE];exact⟨rfl,rfl,rfl,rfl,rfl,rfl,rfl,rfl⟩
theorem Ld {r:Wr} (h:r.kd=0):cw r=r.pos/\cx r=r.adr/\dr r=r.kpr:=by
 unfold cw cx dr;rw[aa2 h,aa2 h,aa2 h];exact⟨rfl,rfl,rfl⟩
theorem Y0 {r:Wr} {a:Int} (h:r.kd≠0):fa r=r.kd/\fS r=r.kpr/\fR r a=a:=by
 unfold fS fR;rw[aa1 h,aa1 h];exact⟨rfl,rfl,rfl⟩
theorem YT {L:List Obj} {k:Key} {a n:Int} {w:Bool} (hE:cm L k a n=0) (h:(au L k a).kd≠0):bW L k a n w=(au L k a).kd:=by unfold bW;rw[aa2 hE,aa1 h]
theorem aaq {L:List Obj} {k:Key} {a n:Int} {w:Bool} (hE:cm L k a n=0) (h:(au L k a).kd=0) (h5:64<(au L k a).adr+n):bW L k a n w=5:=by unfold bW;rw[aa2 hE,aa2 h,aa2 h5]
theorem ZM {L:List Obj} {k:Key} {a n:Int} {w:Bool} (hE:cm L k a n=0) (h:(au L k a).kd=0) (h5:¬64<(au L k a).adr+n) (h6:(w&& !decide ((au L k a).pos.rights=0))=true):bW L k a n w=6:=by unfold bW;rw[aa2 hE,aa2 h,aa1 h5,aa2 h6]
theorem aaf {L:List Obj} {k:Key} {a n:Int} {w:Bool} (hE:cm L k a n=0) (h:(au L k a).kd=0) (h5:¬64<(au L k a).adr+n) (h6:(w&& !decide ((au L k a).pos.rights=0))=false):bW L k a n w=0:=by unfold bW;rw[aa2 hE,aa2 h,aa1 h5,aa1 (by rw[h6];simp)]
theorem LP {L:List Obj} {k:Key} {a n:Int} {w:Bool} (h:ma L k a n w=true):(aU L (cw (bH L k a n w))=true/\(cw (bH L k a n w)).kind=3)/\aW L (cw (bH L k a n w)) w=0/\cB (cx (bH L k a n w)) n=true:=by
 obtain⟨h1,h2,h3,h4,h5⟩:=Xd h;obtain⟨⟨e1,e2⟩,e3,e4⟩:=FW h1 h2;obtain⟨f1,f2,_⟩:=Ld h2;unfold bH;rw[aa2 h,f1,f2];have hl:=ei e1
 have hA:aB L (au L k a).pos 3 false=0:=by
  unfold aB;rw[aa1 (by have:=hl.2.1;have:=hl.2.2.1;unfold ai;omega),aa1 (by rw[e1,e2];simp),aa1 (by simp)]
 refine⟨⟨e1,e2⟩,?_,nN.2 ⟨e3,h3,by omega,by omega⟩⟩
 unfold aW;rw[aa2 hA,aa1];cases w
 ·simp
 ·simp[h5 rfl]
theorem Ii {L:List Obj} {k:Key} {i:Int} {s:ByteArray} (hL:aq L):aq (eZ L k i s):=by
 unfold eZ;split
 ·rename_i h;unfold cL at h;split at h
  ·rename_i hp;obtain⟨a1,a2,_⟩:=nj hp;exact(qX hL a1 a2).2.2
  ·rename_i hp;exact absurd h hp
 ·exact hL
theorem WD {L:List Obj} {k:Key} {a:Int} {s:ByteArray} (hL:aq L):aq (kx L k a s):=by
 unfold kx;split
 ·exact Ii hL
 ·exact hL
structure Acs where
 kind:Int
 num:Int
 root:Key
 adr:Int
 bytes:ByteArray
structure Lnk where
 hgt:Int
 slot:Int
 rts:Int
 kept:Bool
theorem Wo {L:List Obj} {k:Key} {a:Int} {s:ByteArray} (h:ma L k a (bO s) true=false):kx L k a s=L:=by unfold kx;rw[h];rfl
end Go.Sx
namespace Go.Proofs.YtlblcfaclmpekaaGreat
open Go.Sx
theorem UN (h:Int) (hh:cc .i64 h) (hq:j6 h):
 abd (h-1)/\(∃g,C4 h g/\h=h/\64=bd (g+1)/\h-1=h-1/\0=g)/\∀(g:Int),C4 h g->aba (decide (g<h-1)) (abd (bd (g+1)*16)/\abd (g+1)/\∃g',C4 h g'/\(h-g').toNat<(h-g).toNat/\h=h/\bd (g+1)*16=bd (g'+1)/\h-1=h-1/\g+1=g') (bd (g+1)=bd h):=by
 delta aba abd
 obtain⟨q0,q9⟩:=hq;refine⟨by simp only[aF,cc]at *;omega,⟨0,⟨by omega,.inl rfl⟩,rfl,(nF (by omega)).symm,rfl,rfl⟩,fun g hg=>⟨fun hlt=>?_,fun hge=>?_⟩⟩
 ·obtain⟨g0,g1⟩:=hg;have hlt:=aaZ hlt;have hb:=sN (show g+1<=9 by omega)
  exact⟨by simp only[aF,cc];omega,by simp only[aF,cc];omega,g+1,⟨by omega,.inr (by omega)⟩,by omega,rfl,B1 (by omega),rfl,rfl⟩
 ·obtain⟨g0,g1⟩:=hg;have hge:=aaY hge;rcases g1 with rfl|g1
  ·rw[nF (by omega),nF (by omega)]
  ·rw[show g+1=h by omega]
theorem Ij:cz Tryz.prog 248 Ol:=
 eQ (aA dE bV) (fun _=>rfl) fun a hq hok=>by
  obtain⟨h,_⟩:=a;exact bc (inl:=bx) (ann:=(iJ [(248,3,Ws [0,2,5] (fun g=> [(3,.it .i64 (bd (yG g 1))),(6,.it .i64 g)]) (C4 h) h)])) ar (UN h hok.1 hq) (by kernel_rfl)
theorem OA (h:Int) (hh:cc .i64 h) (hq:j6 h):
 (∃g,Dq h g/\h=h/\64=bd g/\1=g)/\∀(g:Int),Dq h g->(decide (g<h)=true->aF IntKind.i64 (bd g*16)/\aF IntKind.i64 (g+1)/\∃g',Dq h g'/\(h-g').toNat<
  (h-g).toNat/\h=h/\bd g*16=bd g'/\g+1=g')/\(decide (g<h)=false->bd g=bd h):=by
 obtain⟨q0,q9⟩:=hq;refine⟨⟨1,⟨by omega,.inl rfl⟩,rfl,(nF (by omega)).symm,rfl⟩,fun g hg=>⟨fun hlt=>?_,fun hge=>?_⟩⟩
 ·obtain⟨g0,g1⟩:=hg;have hlt:=aaZ hlt;have hb:=sN (show g<=9 by omega)
  exact⟨by simp only[aF,cc];omega,by simp only[aF,cc];omega,g+1,⟨by omega,.inr (by omega)⟩,by omega,rfl,B1 (by omega),rfl⟩
 ·obtain⟨g0,g1⟩:=hg;have hge:=aaY hge;rcases g1 with rfl|g1
  ·rw[nF (by omega),nF (by omega)]
  ·rw[show g=h by omega]
theorem OC:cz Tryz.prog 229 Ol:=
 eQ (aA dE bV) (fun _=>rfl) fun a hq hok=>by
  obtain⟨h,_⟩:=a;exact bc (inl:=bx) (ann:=(iJ [(229,3,Ws [0,2] (fun g=> [(3,.it .i64 (bd g)),(4,.it .i64 g)]) (Dq h) h)])) ar (OA h hok.1 hq) (by kernel_rfl)
theorem Nq:
 ∀(nid:Nat),some (V.mp nid)=some (V.mp nid)/\some [aK.mp IntKind.i64 [3,2] [V.fn 245 [],V.fn 246 []]]=some [aK.mp IntKind.i64 [3,2] [V.fn 245 [],V.fn 246 []]]:=by
 exact fun nid=>⟨rfl,rfl⟩
theorem Fh:cz Tryz.prog 243 (A9 spX spN):=vq (π:= [0]) (by decide) (fun _=>rfl) (bm (inl:=bx) (ann:=aQ) ar aE Nq (by kernel_rfl))
abbrev acp(g:Wk)(k:Key)(a:Int):=ah [] g.pos=cw (au [] k a)/\g.adr=cx (au [] k a)/\g.kpr=dr (au [] k a)/\g.dep=dN (au [] k a)/\0=fa (au [] k a)/\void=fS (au [] k a)/\0=fR (au [] k a) a/\0=dM [] k a
abbrev acq(g:Wk):=aJ [] (abA 2 (ah [] g.pos) void.value) 15
abbrev acr(k:Key)(a:Int)(g:Wk):=aba (!decide (2=0)) (void=cw (au [] k a)/\0=cx (au [] k a)/\void=dr (au [] k a)/\0=dN (au [] k a)/\2=fa (au [] k a)/\g.kpr=fS (au [] k a)/\a=fR (au [] k a) a/\0=dM [] k a) (acp g k a)
abbrev acs(g:Wk):=bd (acq g).value
abbrev acu(g:Wk):=abA 2 (ah [] g.pos) void.value
theorem MJ (k:Key) (a:Int) (ha:cc .i64 a):
 abb (aba (decide (ak []=0)) (void=cw (au [] k a)/\0=cx (au [] k a)/\void=dr (au [] k a)/\0=dN (au [] k a)/\0=fa (au [] k a)/\void=fS (au [] k a)/\0=fR (au [] k a) a/\1=dM [] k a) (aba (!decide (bB k=0)||aZ k&&decide (ak []<=cy k)) (void=cw (au [] k a)/\0=cx (au [] k a)/\void=dr (au [] k a)/\0=dN (au [] k a)/\0=fa (au [] k a)/\void=fS (au [] k a)/\0=fR (au [] k a) a/\2=dM [] k a) (aba (decide (a<0)) (void=cw (au [] k a)/\0=cx (au [] k a)/\void=dr (au [] k a)/\0=dN (au [] k a)/\0=fa (au [] k a)/\void=fS (au [] k a)/\0=fR (au [] k a) a/\4=dM [] k a) (abb ((∃g,oi [] k a 0 g/\k=k/\void=void/\void=void/\void=void/\k=k/\Value.pointer none=Value.pointer none/\k=g.pos/\a=g.adr/\0=g.rts/\void=g.kpr/\0=g.dep/\0=g.hi/\false=false)/\∀(g:Wk),oi [] k a 0 g->abb (aba (!(decide ((ah [] g.pos).kind=3)||decide ((ah [] g.pos).kind=2))) (aba (!decide (1=0)) (void=cw (au [] k a)/\0=cx (au [] k a)/\void=dr (au [] k a)/\0=dN (au [] k a)/\1=fa (au [] k a)/\g.kpr=fS (au [] k a)/\a=fR (au [] k a) a/\0=dM [] k a) (acp g k a)) (aba (decide ((ah [] g.pos).kind=3)) (abb (abb (aba (!decide (g.adr<64)) (acr k a g) (aba (!decide (bk BinOp.and IntKind.i64 g.rts 3=0)) (Key.mk (ah [] g.pos).kind (ah [] g.pos).oid (ah [] g.pos).count (ah [] g.pos).call (bk BinOp.or IntKind.i64 (ah [] g.pos).rights 1) (ah [] g.pos).value=cw (au [] k a)/\g.adr=cx (au [] k a)/\g.kpr=dr (au [] k a)/\g.dep=dN (au [] k a)/\0=fa (au [] k a)/\void=fS (au [] k a)/\0=fR (au [] k a) a/\0=dM [] k a) (acp g k a))))) (aba (decide ((ah [] g.pos).kind=2)) (abb (abb (aba (!decide (g.dep<8)) (aba (!decide (3=0)) (void=cw (au [] k a)/\0=cx (au [] k a)/\void=dr (au [] k a)/\0=dN (au [] k a)/\3=fa (au [] k a)/\g.kpr=fS (au [] k a)/\a=fR (au [] k a) a/\0=dM [] k a) (acp g k a)) (abb (abb (aba (!(decide ((acq g).kind=1)&&decide (1<=(acq g).value)&&decide ((acq g).value<=8)&&(decide (g.dep=0)||decide ((acq g).value<g.hi)))) (aba (!decide (4=0)) (void=cw (au [] k a)/\0=cx (au [] k a)/\void=dr (au [] k a)/\0=dN (au [] k a)/\4=fa (au [] k a)/\g.kpr=fS (au [] k a)/\a=fR (au [] k a) a/\0=dM [] k a) (acp g k a)) (abb (aba (decide ((aJ [] (acu g) 14).kind=6)&&decide (bk BinOp.and IntKind.i64 (bk BinOp.or IntKind.i64 g.rts (ah [] g.pos).rights) 4=0)) (j6 (acq g).value/\(nX (acs g)/\abd (g.adr.tdiv (acs g)))/\abb (aba (!decide (g.adr.tdiv (acs g)<14)) (aba (!decide (2=0)) (void=cw (au [] k a)/\0=cx (au [] k a)/\void=dr (au [] k a)/\0=dN (au [] k a)/\2=fa (au [] k a)/\aJ [] (acu g) 14=fS (au [] k a)/\a=fR (au [] k a) a/\0=dM [] k a) (ah [] g.pos=cw (au [] k a)/\g.adr=cx (au [] k a)/\aJ [] (acu g) 14=dr (au [] k a)/\g.dep=dN (au [] k a)/\0=fa (au [] k a)/\void=fS (au [] k a)/\0=fR (au [] k a) a/\0=dM [] k a)) (abd (g.dep+1)/\(nX (acs g)/\abd (g.adr.tmod (acs g)))/\∃g',oi [] k a 0 g'/\pn g'<pn g/\k=k/\void=void/\void=void/\void=void/\k=k/\Value.pointer none=Value.pointer none/\aJ [] (ah [] g.pos) (g.adr.tdiv (acs g))=g'.pos/\g.adr.tmod (acs g)=g'.adr/\bk BinOp.or IntKind.i64 g.rts (ah [] g.pos).rights=g'.rts/\aJ [] (acu g) 14=g'.kpr/\g.dep+1=g'.dep/\(acq g).value=g'.hi/\false=false))) (j6 (acq g).value/\(nX (acs g)/\abd (g.adr.tdiv (acs g)))/\abb (aba (!decide (g.adr.tdiv (acs g)<14)) (acr k a g) (abd (g.dep+1)/\(nX (acs g)/\abd (g.adr.tmod (acs g)))/\∃g',oi [] k a 0 g'/\pn g'<pn g/\k=k/\void=void/\void=void/\void=void/\k=k/\Value.pointer none=Value.pointer none/\aJ [] (ah [] g.pos) (g.adr.tdiv (acs g))=g'.pos/\g.adr.tmod (acs g)=g'.adr/\bk BinOp.or IntKind.i64 g.rts (ah [] g.pos).rights=g'.rts/\g.kpr=g'.kpr/\g.dep+1=g'.dep/\(acq g).value=g'.hi/\false=false))))))))))) False)))))))):=by
 delta aba abA acu acs acr acq acp abd abb
 refine⟨rfl,fun h=>Aj (wE1 h) (by omega),fun h=>absurd h (by decide)⟩
theorem PL (k:Key) (a:Int) (ha:cc .i64 a):an Tryz.prog 236 [ke,.key k,.it .i64 a] [] (oW (DS [] k a)) (fun _ _=>False):=
 aY (inl:=(fun f=>f==235||f==241||f==244||f==245||f==246||f==247)) (ann:=(iJ [(241,2,YN [0,2] (fun _=> []) 0 (fun g=> .blk tW (wkV (ke) g)) (oi [] k a 0) pn)])) (ae Fh (ae bC (ae gy (ae dJ (ae iv (ae Ij (ae sQ ar))))))) aE (eg IF) (MJ k a ha) (by kernel_rfl)
abbrev acv(L:List Sx.Obj)(g:Wk)(k:Key)(a:Int):=ah L g.pos=cw (au L k a)/\g.adr=cx (au L k a)/\g.kpr=dr (au L k a)/\g.dep=dN (au L k a)/\0=fa (au L k a)/\void=fS (au L k a)/\0=fR (au L k a) a/\0=dM L k a
abbrev acw(L:List Sx.Obj)(g:Wk):=aJ L (abA 2 (ah L g.pos) void.value) 15
abbrev acx(L:List Sx.Obj)(k:Key)(a:Int)(g:Wk):=aba (!decide (2=0)) (void=cw (au L k a)/\0=cx (au L k a)/\void=dr (au L k a)/\0=dN (au L k a)/\2=fa (au L k a)/\g.kpr=fS (au L k a)/\a=fR (au L k a) a/\0=dM L k a) (acv L g k a)
abbrev acy(L:List Sx.Obj)(g:Wk):=bd (acw L g).value
theorem Tq (L:List Sx.Obj) (k:Key) (a:Int) (ha:cc .i64 a):
 abb (aba (decide (ak L=0)) (void=cw (au L k a)/\0=cx (au L k a)/\void=dr (au L k a)/\0=dN (au L k a)/\0=fa (au L k a)/\void=fS (au L k a)/\0=fR (au L k a) a/\1=dM L k a) (aba (!decide (bB k=0)||aZ k&&decide (ak L<=cy k)) (void=cw (au L k a)/\0=cx (au L k a)/\void=dr (au L k a)/\0=dN (au L k a)/\0=fa (au L k a)/\void=fS (au L k a)/\0=fR (au L k a) a/\2=dM L k a) (aba (decide (a<0)) (void=cw (au L k a)/\0=cx (au L k a)/\void=dr (au L k a)/\0=dN (au L k a)/\0=fa (au L k a)/\void=fS (au L k a)/\0=fR (au L k a) a/\4=dM L k a) (abb ((∃g,oi L k a 0 g/\L=L/\k=k/\void=void/\void=void/\void=void/\k=k/\k=g.pos/\a=g.adr/\0=g.rts/\void=g.kpr/\0=g.dep/\0=g.hi/\false=false)/\∀(g:Wk),oi L k a 0 g->abb (aba (!(decide ((ah L g.pos).kind=3)||decide ((ah L g.pos).kind=2))) (aba (!decide (1=0)) (void=cw (au L k a)/\0=cx (au L k a)/\void=dr (au L k a)/\0=dN (au L k a)/\1=fa (au L k a)/\g.kpr=fS (au L k a)/\a=fR (au L k a) a/\0=dM L k a) (acv L g k a)) (aba (decide ((ah L g.pos).kind=3)) (abb (abb (aba (!decide (g.adr<64)) (acx L k a g) (aba (!decide (bk BinOp.and IntKind.i64 g.rts 3=0)) (Key.mk (ah L g.pos).kind (ah L g.pos).oid (ah L g.pos).count (ah L g.pos).call (bk BinOp.or IntKind.i64 (ah L g.pos).rights 1) (ah L g.pos).value=cw (au L k a)/\g.adr=cx (au L k a)/\g.kpr=dr (au L k a)/\g.dep=dN (au L k a)/\0=fa (au L k a)/\void=fS (au L k a)/\0=fR (au L k a) a/\0=dM L k a) (acv L g k a))))) (aba (decide ((ah L g.pos).kind=2)) (abb (abb (aba (!decide (g.dep<8)) (aba (!decide (3=0)) (void=cw (au L k a)/\0=cx (au L k a)/\void=dr (au L k a)/\0=dN (au L k a)/\3=fa (au L k a)/\g.kpr=fS (au L k a)/\a=fR (au L k a) a/\0=dM L k a) (acv L g k a)) (abb (abb (aba (!(decide ((acw L g).kind=1)&&decide (1<=(acw L g).value)&&decide ((acw L g).value<=8)&&(decide (g.dep=0)||decide ((acw L g).value<g.hi)))) (aba (!decide (4=0)) (void=cw (au L k a)/\0=cx (au L k a)/\void=dr (au L k a)/\0=dN (au L k a)/\4=fa (au L k a)/\g.kpr=fS (au L k a)/\a=fR (au L k a) a/\0=dM L k a) (acv L g k a)) (abb (aba (decide ((aJ L (abA 2 (ah L g.pos) void.value) 14).kind=6)&&decide (bk BinOp.and IntKind.i64 (bk BinOp.or IntKind.i64 g.rts (ah L g.pos).rights) 4=0)) (j6 (acw L g).value/\(nX (acy L g)/\abd (g.adr.tdiv (acy L g)))/\abb (aba (!decide (g.adr.tdiv (acy L g)<14)) (aba (!decide (2=0)) (void=cw (au L k a)/\0=cx (au L k a)/\void=dr (au L k a)/\0=dN (au L k a)/\2=fa (au L k a)/\aJ L (abA 2 (ah L g.pos) void.value) 14=fS (au L k a)/\a=fR (au L k a) a/\0=dM L k a) (ah L g.pos=cw (au L k a)/\g.adr=cx (au L k a)/\aJ L (abA 2 (ah L g.pos) void.value) 14=dr (au L k a)/\g.dep=dN (au L k a)/\0=fa (au L k a)/\void=fS (au L k a)/\0=fR (au L k a) a/\0=dM L k a)) (abd (g.dep+1)/\(nX (acy L g)/\abd (g.adr.tmod (acy L g)))/\∃g',oi L k a 0 g'/\pn g'<pn g/\L=L/\k=k/\void=void/\void=void/\void=void/\k=k/\aJ L (ah L g.pos) (g.adr.tdiv (acy L g))=g'.pos/\g.adr.tmod (acy L g)=g'.adr/\bk BinOp.or IntKind.i64 g.rts (ah L g.pos).rights=g'.rts/\aJ L (abA 2 (ah L g.pos) void.value) 14=g'.kpr/\g.dep+1=g'.dep/\(acw L g).value=g'.hi/\false=false))) (j6 (acw L g).value/\(nX (acy L g)/\abd (g.adr.tdiv (acy L g)))/\abb (aba (!decide (g.adr.tdiv (acy L g)<14)) (acx L k a g) (abd (g.dep+1)/\(nX (acy L g)/\abd (g.adr.tmod (acy L g)))/\∃g',oi L k a 0 g'/\pn g'<pn g/\L=L/\k=k/\void=void/\void=void/\void=void/\k=k/\aJ L (ah L g.pos) (g.adr.tdiv (acy L g))=g'.pos/\g.adr.tmod (acy L g)=g'.adr/\bk BinOp.or IntKind.i64 g.rts (ah L g.pos).rights=g'.rts/\g.kpr=g'.kpr/\g.dep+1=g'.dep/\(acw L g).value=g'.hi/\false=false))))))))))) False)))))))):=by
 delta aba abA acy acx acw acv abd abb
 refine⟨rfl,fun h=>Aj (wE1 h) (by omega),fun h=>⟨fun h2=>?_,fun h2=>⟨fun h3=>?_,fun h3=>⟨rfl,?_,fun g hI=>⟨rfl,?_⟩⟩⟩⟩⟩
 ·rw[Bo,Bool.not_eq_true']at h2;exact Aj (by rw[Q0 h,h2];rfl) (by omega)
 ·rw[Bo,Bool.not_eq_false']at h2;exact Aj (by rw[Q0 h,h2,aa2 rfl,aa2 (aaZ h3)]) (by omega)
 ·refine⟨xM k a 0,Z0 (aaY h3) 0,?_⟩;repeat' apply And.intro
  all_goals rfl
 rw[Bo,Bool.not_eq_false']at h2;have hE:dM L k a=0:=by rw[Q0 h,h2,aa2 rfl,aa1 (aaY h3)]
 clear h h2 h3;obtain⟨⟨a1,a2⟩,⟨r1,r2⟩,⟨d1,d2⟩,e1,e2,e3⟩:=id hI;refine⟨fun v=>⟨fun _=>?_,fun h=>absurd h (by decide)⟩,fun v=>⟨fun v3=>⟨rfl,rfl,fun b=>⟨fun _=>?_,fun h=>absurd h (by decide)⟩,fun b=>⟨fun ro=>?_,fun ro=>?_⟩⟩,fun v3=>⟨fun v2=>?_,fun v2=>?_⟩⟩⟩
 ·simp only[Bool.not_eq_true',Bool.or_eq_false_iff,decide_eq_false_iff_not]at v;exact qF hI hE (Hi d1 d2 v.1 v.2) (by omega)
 ·have v3:=aaZ v3;exact qF hI hE (N7 d1 d2 v3 (by simpa using b)) (by omega)
 ·have v3:=aaZ v3;have hb:g.adr<64:=by simpa using b
  have hp:=jj (qi L g.pos);have hm:fy (ah L g.pos).kind=1:=by rw[v3];rfl
  rw[Tj r1 r2]at ro;have ro:g.rts.tmod 4≠0:=by simpa using ro
  refine HD hI hE ((ym d1 d2 v3 hb).trans ?_);rw[Fg hp.1 (by omega)]
  unfold pc;rw[aa1 ro];rfl
 ·have v3:=aaZ v3;have hb:g.adr<64:=by simpa using b
  rw[Tj r1 r2]at ro;have ro:g.rts.tmod 4=0:=by simpa using ro
  refine HD hI hE ((ym d1 d2 v3 hb).trans ?_);unfold pc;rw[aa2 ro]
 ·have v3:=aaY v3;have v2:=aaZ v2;obtain⟨pe,pi⟩:=CX (.inl v2);have pi':aU L (ah L g.pos)=true:=by rw[pe];exact pi
  have hp:=pk (qi L g.pos);have ho:=Ys r1 r2 hp.1 hp.2;rw[L9 (i:=15) pi' v2 (by omega) (by omega),L9 (i:=14) pi' v2 (by omega) (by omega),ho.1,aaI ho.2.1 ho.2.2]
  refine⟨rfl,rfl,fun b=>⟨fun _=>?_,fun h=>absurd h (by decide)⟩,fun b=>⟨rfl,rfl,fun f=>⟨fun _=>?_,fun h=>absurd h (by decide)⟩,fun f=>⟨rfl,?_⟩⟩⟩
  ·exact qF hI hE (Na d1 d2 v2 (by simpa using b)) (by omega)
  ·have b:g.dep<8:=by simpa using b
   exact qF hI hE (Hq d1 d2 v2 b (by unfold qK;rw[Bool.not_eq_true']at f;exact f)) (by omega)
  ·have b:g.dep<8:=by simpa using b
   have f:qK g (di L (dn (ah L g.pos) 0) 15)=true:=by unfold qK;rw[Bool.not_eq_false']at f;exact f
   have hf':=vG.1 f;have he:=sN (show(di L (dn (ah L g.pos) 0) 15).value<=9 by omega)
   have hd:=sV a1 he.1;have q1:j6 (di L (dn (ah L g.pos) 0) 15).value:=⟨by omega,by omega⟩
   have q2:nX (bd (di L (dn (ah L g.pos) 0) 15).value):=by unfold nX;omega
   unfold cc at ha;have q3:aF IntKind.i64 (g.adr.tdiv (bd (di L (dn (ah L g.pos) 0) 15).value)):=by simp only[aF,cc];omega
   have q4:aF IntKind.i64 (g.adr.tmod (bd (di L (dn (ah L g.pos) 0) 15).value)):=by simp only[aF,cc];omega
   have q5:aF IntKind.i64 (g.dep+1):=by simp only[aF,cc];omega
   have kp:∀b,(decide ((di L (dn (ah L g.pos) 0) 14).kind=6)&&decide (nS g.rts (ah L g.pos).rights<4))=b->wv (nS g.rts (ah L g.pos).rights) (di L (dn (ah L g.pos) 0) 14) g.kpr=if b then di L (dn (ah L g.pos) 0) 14 else g.kpr:=by
    intro b hb;unfold wv;cases b
    ·simp only[Bool.and_eq_false_iff,decide_eq_false_iff_not]at hb;rw[aa1 (by omega)];rfl
    ·simp only[aaV,aaW]at hb;rw[aa2 hb];rfl
   refine⟨fun c=>⟨q1,⟨q2,q3⟩,rfl,fun s=>⟨fun _=>?_,fun h=>absurd h (by decide)⟩,fun s=>⟨q5,⟨q2,q4⟩,OS L g,?_⟩⟩,fun c=>⟨q1,⟨q2,q3⟩,rfl,fun s=>⟨fun _=>?_,fun h=>absurd h (by decide)⟩,fun s=>⟨q5,⟨q2,q4⟩,OS L g,?_⟩⟩⟩
   ·exact qF hI hE ((Ce d1 d2 v2 b f (by simpa using s)).trans (by rw[kp _ c];rfl)) (by omega)
   ·have s:g.adr.tdiv (bd (di L (dn (ah L g.pos) 0) 15).value)<14:=by simpa using s
    obtain⟨n1,n2⟩:=PT hI v2 b f s;rw[Gz pi' v2 hd.1 (by omega)]
    refine⟨n1,n2,rfl,rfl,rfl,rfl,rfl,rfl,rfl,rfl,rfl,?_,rfl,rfl,rfl⟩;show _=wv _ _ _
    rw[kp _ c];rfl
   ·exact qF hI hE ((Ce d1 d2 v2 b f (by simpa using s)).trans (by rw[kp _ c];rfl)) (by omega)
   ·have s:g.adr.tdiv (bd (di L (dn (ah L g.pos) 0) 15).value)<14:=by simpa using s
    obtain⟨n1,n2⟩:=PT hI v2 b f s;rw[Gz pi' v2 hd.1 (by omega)]
    refine⟨n1,n2,rfl,rfl,rfl,rfl,rfl,rfl,rfl,rfl,rfl,?_,rfl,rfl,rfl⟩;show _=wv _ _ _
    rw[kp _ c];rfl
 ·simp only[Bool.not_eq_false',Bool.or_eq_true,aaW]at v;have v3:=aaY v3;have v2:=aaY v2;omega
theorem UA (L:List Sx.Obj) (k:Key) (a:Int) (ha:cc .i64 a):an Tryz.prog 236 [.lp 0 0,.key k,.it .i64 a] [.ro (.store tS eS L)] (oW (DS L k a)) (fun _ _=>False):=
 aY (inl:=(fun f=>f==235||f==241||f==244||f==245||f==246||f==247)) (ann:=(iJ [(241,2,YN [0,2] (fun _=> []) 0 (fun g=> .blk tW (wkV (.lp 0 0) g)) (oi L k a 0) pn)])) (ae Fh (ae bC (ae gy (ae dJ (ae iv (ae Ij (ae sQ ar))))))) aE (eg IF) (Tq L k a ha) (by kernel_rfl)
theorem Hw:cz Tryz.prog 236 XP:=
 eQ (aA tk (aA iI (aA dE bV))) (fun _=>rfl) fun a hq hok=>by
  obtain⟨S,k,i,_⟩:=a;cases S with
  |none=>exact PL k i hok.2.2.1
  |some L=>exact UA L k i hok.2.2.1
abbrev acz(L:List Sx.Obj)(g:Wk):=(aj L g.pos.oid.toNat free).slots.at 15
abbrev acA(L:List Sx.Obj)(g:Wk):=bd (acz L g).value
abbrev acB(L:List Sx.Obj)(k:Key)(a:Int):=void=cw (au L k a)/\0=cx (au L k a)/\void=dr (au L k a)/\0=dN (au L k a)/\0=fa (au L k a)/\void=fS (au L k a)/\0=fR (au L k a) a/\2=dM L k a
abbrev acC(L:List Sx.Obj)(k:Key)(a:Int)(g:Wk):=void=cw (au L k a)/\0=cx (au L k a)/\void=dr (au L k a)/\0=dN (au L k a)/\2=fa (au L k a)/\g.kpr=fS (au L k a)/\a=fR (au L k a) a/\0=dM L k a
theorem MF (L:List Sx.Obj) (k:Key) (a:Int) (ha:cc .i64 a) (hL:aq L):
 aba (decide (bQ (ai L)=0)) (void=cw (au L k a)/\0=cx (au L k a)/\void=dr (au L k a)/\0=dN (au L k a)/\0=fa (au L k a)/\void=fS (au L k a)/\0=fR (au L k a) a/\1=dM L k a) (aba (!bJ L k) (acB L k a) (aba (decide (a<0)) (void=cw (au L k a)/\0=cx (au L k a)/\void=dr (au L k a)/\0=dN (au L k a)/\0=fa (au L k a)/\void=fS (au L k a)/\0=fR (au L k a) a/\4=dM L k a) ((∃g,oi L k a 99 g/\a=a/\a=g.adr/\0=g.rts/\99=g.hi/\0=g.dep/\L=L/\k=k/\void=void/\void=void/\void=void/\k=g.pos/\void=g.kpr)/\∀(g:Wk),oi L k a 99 g->aba (decide (g.dep<20)) (aba (!aU L g.pos|| !decide (g.pos.kind=2)&& !decide (g.pos.kind=3)) (void=cw (au L k a)/\0=cx (au L k a)/\void=dr (au L k a)/\0=dN (au L k a)/\1=fa (au L k a)/\g.kpr=fS (au L k a)/\a=fR (au L k a) a/\0=dM L k a) (aba (decide (g.pos.kind=3)) (aba (decide (63<g.adr)) (acC L k a g) ((nX 4/\abd (g.rts.tmod 4))/\aba (!decide (g.rts.tmod 4=0)) (Key.mk g.pos.kind g.pos.oid g.pos.count g.pos.call 1 g.pos.value=cw (au L k a)/\g.adr=cx (au L k a)/\g.kpr=dr (au L k a)/\g.dep=dN (au L k a)/\0=fa (au L k a)/\void=fS (au L k a)/\0=fR (au L k a) a/\0=dM L k a) (g.pos=cw (au L k a)/\g.adr=cx (au L k a)/\g.kpr=dr (au L k a)/\g.dep=dN (au L k a)/\0=fa (au L k a)/\void=fS (au L k a)/\0=fR (au L k a) a/\0=dM L k a))) (aba (decide (8<=g.dep)) (void=cw (au L k a)/\0=cx (au L k a)/\void=dr (au L k a)/\0=dN (au L k a)/\3=fa (au L k a)/\g.kpr=fS (au L k a)/\a=fR (au L k a) a/\0=dM L k a) ((∃g_1,kZ g_1/\a=a/\g.adr=g.adr/\g.rts=fX g.rts g.pos.rights g_1/\g.hi=g.hi/\g.dep=g.dep/\1=g_1/\L=L/\k=k/\void=void/\void=void/\void=void/\g.pos=g.pos/\g.kpr=g.kpr/\g.kpr=g.kpr/\a=a)/\∀(g_1:Int),kZ g_1->aba (decide (g_1<=4)) ((nX g_1/\abd (g.pos.rights.tdiv g_1))/\(nX 2/\abd ((g.pos.rights.tdiv g_1).tmod 2))/\(decide ((g.pos.rights.tdiv g_1).tmod 2=1)=true->nX g_1/\abd ((fX g.rts g.pos.rights g_1).tdiv g_1))/\(decide ((g.pos.rights.tdiv g_1).tmod 2=1)=true->nX 2/\abd (((fX g.rts g.pos.rights g_1).tdiv g_1).tmod 2))/\aba (decide ((g.pos.rights.tdiv g_1).tmod 2=1)&&decide (((fX g.rts g.pos.rights g_1).tdiv g_1).tmod 2=0)) (abd (fX g.rts g.pos.rights g_1+g_1)/\abd (g_1*2)/\∃g',kZ g'/\(8-g').toNat<(8-g_1).toNat/\a=a/\g.adr=g.adr/\fX g.rts g.pos.rights g_1+g_1=fX g.rts g.pos.rights g'/\g.hi=g.hi/\g.dep=g.dep/\g_1*2=g'/\L=L/\k=k/\void=void/\void=void/\void=void/\g.pos=g.pos/\g.kpr=g.kpr/\g.kpr=g.kpr/\a=a) (abd (g_1*2)/\∃g',kZ g'/\(8-g').toNat<(8-g_1).toNat/\a=a/\g.adr=g.adr/\fX g.rts g.pos.rights g_1=fX g.rts g.pos.rights g'/\g.hi=g.hi/\g.dep=g.dep/\g_1*2=g'/\L=L/\k=k/\void=void/\void=void/\void=void/\g.pos=g.pos/\g.kpr=g.kpr/\g.kpr=g.kpr/\a=a)) ((0<=g.pos.oid/\g.pos.oid< ↑(ai L))/\g.pos.oid.toNat<ai L/\aba (!decide ((acz L g).kind=1)||decide ((acz L g).value<1)||decide (8<(acz L g).value)||decide (g.hi<=(acz L g).value)) (void=cw (au L k a)/\0=cx (au L k a)/\void=dr (au L k a)/\0=dN (au L k a)/\4=fa (au L k a)/\g.kpr=fS (au L k a)/\a=fR (au L k a) a/\0=dM L k a) (aba (decide ((ah L ((aj L g.pos.oid.toNat free).slots.at 14)).kind=6)&&decide (fX g.rts g.pos.rights g_1<4)) (j6 (acz L g).value/\(nX (acA L g)/\abd (g.adr.tdiv (acA L g)))/\aba (decide (13<g.adr.tdiv (acA L g))) (void=cw (au L k a)/\0=cx (au L k a)/\void=dr (au L k a)/\0=dN (au L k a)/\2=fa (au L k a)/\ah L ((aj L g.pos.oid.toNat free).slots.at 14)=fS (au L k a)/\a=fR (au L k a) a/\0=dM L k a) (j6 (acz L g).value/\(nX (acA L g)/\abd (g.adr.tmod (acA L g)))/\oL L g.pos (g.adr.tdiv (acA L g))/\abd (g.dep+1)/\∃g',oi L k a 99 g'/\pn g'<pn g/\a=a/\g.adr.tmod (acA L g)=g'.adr/\fX g.rts g.pos.rights g_1=g'.rts/\(acz L g).value=g'.hi/\g.dep+1=g'.dep/\L=L/\k=k/\void=void/\void=void/\void=void/\di L g.pos (g.adr.tdiv (acA L g))=g'.pos/\ah L ((aj L g.pos.oid.toNat free).slots.at 14)=g'.kpr)) (j6 (acz L g).value/\(nX (acA L g)/\abd (g.adr.tdiv (acA L g)))/\aba (decide (13<g.adr.tdiv (acA L g))) (acC L k a g) (j6 (acz L g).value/\(nX (acA L g)/\abd (g.adr.tmod (acA L g)))/\oL L g.pos (g.adr.tdiv (acA L g))/\abd (g.dep+1)/\∃g',oi L k a 99 g'/\pn g'<pn g/\a=a/\g.adr.tmod (acA L g)=g'.adr/\fX g.rts g.pos.rights g_1=g'.rts/\(acz L g).value=g'.hi/\g.dep+1=g'.dep/\L=L/\k=k/\void=void/\void=void/\void=void/\di L g.pos (g.adr.tdiv (acA L g))=g'.pos/\g.kpr=g'.kpr)))))))) (acB L k a)))):=by
 delta aba acC acB acA acz abd
 refine⟨fun h=>Aj (wE1 h) (by omega),fun h=>⟨fun h2=>?_,fun h2=>⟨fun h3=>?_,fun h3=>⟨?_,fun g hI=>⟨fun _=>?_,fun hd=>?_⟩⟩⟩⟩⟩
 ·rw[Bool.not_eq_true']at h2;exact Aj (by rw[Q0 h,h2];rfl) (by omega)
 ·rw[Bool.not_eq_false']at h2;exact Aj (by rw[Q0 h,h2,aa2 rfl,aa2 (aaZ h3)]) (by omega)
 ·refine⟨xM k a 99,Z0 (aaY h3) 99,?_⟩;repeat' apply And.intro
  all_goals rfl
 rotate_left
 ·have:=hI.2.2.1.2;have:=aaY hd;omega
 rw[Bool.not_eq_false']at h2;have hE:dM L k a=0:=by rw[Q0 h,h2,aa2 rfl,aa1 (aaY h3)]
 clear h h2 h3;obtain⟨⟨a1,a2⟩,⟨r1,r2⟩,⟨d1,d2⟩,e1,e2,e3⟩:=id hI;refine⟨fun v=>?_,fun v=>?_⟩
 ·have hv:∀d:Int,d=2\/d=3->(ah L g.pos).kind≠d:=fun d hd hk=>by
   obtain⟨p1,p2⟩:=CX (L:=L) (k:=g.pos) (by rw[hk];exact hd)
   rw[p1]at hk;rw[p2,hk]at v;rcases hd with rfl|rfl<;>simp at v
  exact qF hI hE (Hi d1 d2 (hv 3 (.inr rfl)) (hv 2 (.inl rfl))) (by omega)
 simp only[Bool.or_eq_false_iff,Bool.not_eq_false',Bool.and_eq_false_iff,aaW]at v;obtain⟨vi,vk⟩:=v;have pe:ah L g.pos=g.pos:=TU vi;have hall:=ei vi;have hp:=pk hall.1;refine⟨fun v3=>⟨fun b=>?_,fun b=>⟨⟨by unfold nX;omega,?_⟩,fun ro=>?_,fun ro=>?_⟩⟩,fun v3=>⟨fun b=>?_,fun b=>⟨?_,fun i hi=>⟨fun hlt=>?_,fun hge=>?_⟩⟩⟩⟩
 ·have v3:=aaZ v3;have b:=aaZ b;exact qF hI hE (N7 d1 d2 (by rw[pe];exact v3) (by omega)) (by omega)
 ·have h1:=Int.tmod_lt_of_pos g.rts (show(0:Int)<4 by omega)
  have h2:=Int.lt_tmod_of_pos g.rts (show(0:Int)<4 by omega)
  simp only[aF,cc];omega
 ·have v3:=aaZ v3;have b:=aaY b;have ro:g.rts.tmod 4≠0:=by simpa using ro
  have:=ym d1 d2 (by rw[pe];exact v3) (by omega)
  rw[pe]at this;unfold pc at this;rw[aa1 ro]at this;exact HD hI hE this
 ·have v3:=aaZ v3;have b:=aaY b;have ro:g.rts.tmod 4=0:=by simpa using ro
  have:=ym d1 d2 (by rw[pe];exact v3) (by omega)
  rw[pe]at this;unfold pc at this;rw[aa2 ro]at this;exact HD hI hE this
 ·have v3:=aaY v3;have b:=aaZ b;exact qF hI hE (Na d1 d2 (by rw[pe];omega) (by omega)) (by omega)
 ·refine⟨1,.inl rfl,?_⟩;have:=(ZC (r:=g.rts) (m:=g.pos.rights)).symm;repeat' apply And.intro
  all_goals first|rfl|exact this
 ·have hlt:=aaZ hlt;have hi3:i=1\/i=2\/i=4:=by unfold kZ at hi;omega
  obtain⟨⟨o1,o2⟩,o3,o4⟩:=Zk r1 r2 hp.1 hp.2 hi3;have hne:nX i:=by unfold nX;omega
  have h2:nX 2:=by unfold nX;omega
  have hi4:i=1\/i=2\/i=4\/i=8:=hi;have hn:kZ (i*2)/\(8-i*2).toNat<(8-i).toNat:=by unfold kZ;omega
  have t1:aF IntKind.i64 (g.pos.rights.tdiv i):=uE (by simp only[cc];omega) hi4
  have t2:aF IntKind.i64 ((fX g.rts g.pos.rights i).tdiv i):=uE (by simp only[cc];omega) hi4
  refine⟨⟨hne,t1⟩,⟨h2,pq _⟩,fun _=>⟨hne,t2⟩,fun _=>⟨h2,pq _⟩,fun c=>⟨by simp only[aF,cc];omega,by simp only[aF,cc];omega,i*2,hn.1,hn.2,?_⟩,fun c=>⟨by simp only[aF,cc];omega,i*2,hn.1,hn.2,?_⟩⟩
  ·have:=o3 c;repeat' apply And.intro
   all_goals first|rfl|exact this
  ·have:=o4 c;repeat' apply And.intro
   all_goals first|rfl|exact this
 ·have hge:=aaY hge;have hi8:i=8:=by unfold kZ at hi;omega
  subst hi8;have v3:=aaY v3;have b:=aaY b;have v2:g.pos.kind=2:=by omega
  have v2':(ah L g.pos).kind=2:=by rw[pe];exact v2
  have hsl:=(uh hL vi v2 15 (by omega)).1
  have hO:0<=nS g.rts g.pos.rights/\nS g.rts g.pos.rights<=7:=(Ys r1 r2 hp.1 hp.2).2;have hraw:=Tt (L:=L) hsl (by have:=hall.2.1;have:=hall.2.2.1;omega)
  have eG:∀j,di L (dn (ah L g.pos) 0) j=ah L ((aj L g.pos.oid.toNat free).slots.at j.toNat):=fun j=>by rw[pe];rfl
  have e15:di L (dn (ah L g.pos) 0) 15=ah L ((aj L g.pos.oid.toNat free).slots.at 15):=eG 15;have e14:di L (dn (ah L g.pos) 0) 14=ah L ((aj L g.pos.oid.toNat free).slots.at 14):=eG 14;generalize hS:(aj L g.pos.oid.toNat free).slots.at 15=S at *
  refine⟨⟨hall.2.1,hall.2.2.1⟩,by have:=hall.2.1;have:=hall.2.2.1;unfold ai;omega,fun f=>?_,fun f=>?_⟩
  ·refine qF hI hE (Hq d1 d2 v2' (by omega) ?_) (by omega)
   rw[e15];rw[Bool.eq_false_iff,ne_eq,vG];rintro⟨f1,f2,f3,f4⟩
   have:ah L S=S:=hraw.1 (by by_cases hk:S.kind=1;exact hk;exact absurd f1 (hraw.2 hk))
   rw[this]at f1 f2 f3 f4;simp only[Bool.or_eq_true,Bool.not_eq_true',aaW,decide_eq_false_iff_not]at f;rcases f4 with f4|f4
   ·have:=e1 f4;omega
   ·omega
  ·simp only[Bool.or_eq_false_iff,Bool.not_eq_false',aaW,decide_eq_false_iff_not]at f;obtain⟨⟨⟨f1,f2⟩,f3⟩,f4⟩:=f;have eS:ah L S=S:=hraw.1 f1;rw[eS]at e15;have fh:qK g (di L (dn (ah L g.pos) 0) 15)=true:=by rw[e15,vG];exact⟨f1,by omega,by omega,.inr (by omega)⟩
   have he:=sN (show S.value<=9 by omega)
   have hd:=sV a1 he.1;have q1:j6 S.value:=⟨by omega,by omega⟩
   have q2:nX (bd S.value):=by unfold nX;omega
   unfold cc at ha;have q3:aF IntKind.i64 (g.adr.tdiv (bd S.value)):=by simp only[aF,cc];omega
   have q4:aF IntKind.i64 (g.adr.tmod (bd S.value)):=by simp only[aF,cc];omega
   have q5:aF IntKind.i64 (g.dep+1):=by simp only[aF,cc];omega
   have kp:∀b,(decide ((ah L ((aj L g.pos.oid.toNat free).slots.at 14)).kind=6)&&decide (fX g.rts g.pos.rights 8<4))=b->wv (nS g.rts g.pos.rights) (ah L ((aj L g.pos.oid.toNat free).slots.at 14)) g.kpr=if b then ah L ((aj L g.pos.oid.toNat free).slots.at 14)else g.kpr:=by
    intro b hb;unfold wv nS;cases b
    ·simp only[Bool.and_eq_false_iff,decide_eq_false_iff_not]at hb;rw[aa1 (by omega)];rfl
    ·simp only[aaV,aaW]at hb;rw[aa2 hb];rfl
   have gs:∀s:¬g.adr.tdiv (bd S.value)<14,jr L (9-g.dep).toNat g=⟨2,void,0,wv (nS g.rts g.pos.rights) (ah L ((aj L g.pos.oid.toNat free).slots.at 14)) g.kpr,0⟩:=fun s=>by
    have:=Ce d1 d2 v2' (by omega) fh (by rw[e15];exact s)
    rw[e14,pe]at this;exact this
   have gn:∀s:g.adr.tdiv (bd S.value)<14,oi L k a 99 ⟨di L g.pos (g.adr.tdiv (bd S.value)),g.adr.tmod (bd S.value),nS g.rts g.pos.rights,wv (nS g.rts g.pos.rights) (ah L ((aj L g.pos.oid.toNat free).slots.at 14)) g.kpr,g.dep+1,S.value⟩/\
     pn ⟨di L g.pos (g.adr.tdiv (bd S.value)),g.adr.tmod (bd S.value),nS g.rts g.pos.rights,wv (nS g.rts g.pos.rights) (ah L ((aj L g.pos.oid.toNat free).slots.at 14)) g.kpr,g.dep+1,S.value⟩<pn g:=fun s=>by
    have:=PT hI v2' (by omega) fh (by rw[e15];exact s)
    unfold OS at this;rw[e15,e14,pe]at this;exact this
   refine⟨fun c=>⟨q1,⟨q2,q3⟩,fun s=>?_,fun s=>⟨q1,⟨q2,q4⟩,?_,q5,_,(gn ?_).1,(gn ?_).2,?_⟩⟩,fun c=>⟨q1,⟨q2,q3⟩,fun s=>?_,fun s=>⟨q1,⟨q2,q4⟩,?_,q5,_,(gn ?_).1,(gn ?_).2,?_⟩⟩⟩
   ·have s:=aaZ s;exact qF hI hE ((gs (by omega)).trans (by rw[kp _ c];rfl)) (by omega)
   ·have s:=aaY s;exact⟨hd.1,by omega,hall.2.1,hall.2.2.1⟩
   ·have s:=aaY s;omega
   ·have s:=aaY s;omega
   ·have:=kp _ c;repeat' apply And.intro
    all_goals first|with_reducible rfl|exact this.symm|rfl
   ·have s:=aaZ s;exact qF hI hE ((gs (by omega)).trans (by rw[kp _ c];rfl)) (by omega)
   ·have s:=aaY s;exact⟨hd.1,by omega,hall.2.1,hall.2.2.1⟩
   ·have s:=aaY s;omega
   ·have s:=aaY s;omega
   ·have:=kp _ c;repeat' apply And.intro
    all_goals first|with_reducible rfl|exact this.symm|rfl
theorem Pk (L:List Sx.Obj) (k:Key) (a:Int) (ha:cc .i64 a) (hL:aq L):an Tryz.prog 192 [.sa 0,.key k,.it .i64 a] [.ro (.arr none 163 (.ob L))] (oW (DS L k a)) (fun _ _=>False):=
 bc (inl:=bx) (ann:=(iJ [(192,10,lpT [0,2,4,6,7,8,9,13] (fun g=> [(10,.it .i64 g.adr),(11,.it .i64 g.rts),(12,.it .i64 g.hi),(14,.it .i64 g.dep)]) (fun g=> [(4,.blk tK (.key g.pos)),(5,.blk tK (.key g.kpr))]) (oi L k a 99) pn),(192,27,aaz [0,2,4,6,7,8,9,10,12,13,14,15] kZ 8)])) (ae yV (ae mf (ae pL (ae OC (ae x9 ar))))) (MF L k a ha hL) (by kernel_rfl)
theorem LJ:cz Tryz.prog 192 Rr:=
 eQ (aA jC (aA iI (aA dE bV))) (fun _=>rfl) fun a hq hok=>by
  obtain⟨L,k,i,_⟩:=a;exact Pk L k i hok.2.2.1 hq
abbrev acD(k:Key)(a:Int)(n:Int)(w:Bool):=void=cw (bH [] k a n w)/\0=cx (bH [] k a n w)/\void=dr (bH [] k a n w)/\0=dN (bH [] k a n w)/\0=bW [] k a n w/\void=fF [] k a n w/\0=fI [] k a n w/\4=cm [] k a n
theorem UR (k:Key) (a:Int) (n:Int) (w:Bool):
 abb (aba (decide (ak []=0)) (void=cw (bH [] k a n w)/\0=cx (bH [] k a n w)/\void=dr (bH [] k a n w)/\0=dN (bH [] k a n w)/\0=bW [] k a n w/\void=fF [] k a n w/\0=fI [] k a n w/\1=cm [] k a n) (aba (!decide (bB k=0)||aZ k&&decide (ak []<=cy k)) (void=cw (bH [] k a n w)/\0=cx (bH [] k a n w)/\void=dr (bH [] k a n w)/\0=dN (bH [] k a n w)/\0=bW [] k a n w/\void=fF [] k a n w/\0=fI [] k a n w/\2=cm [] k a n) (aba (decide (a<0)) (acD k a n w) (aba (decide (n<0)||decide (64<n)) (acD k a n w) (aba (!decide (fa (au [] k a)=0)) (void=cw (bH [] k a n w)/\0=cx (bH [] k a n w)/\void=dr (bH [] k a n w)/\0=dN (bH [] k a n w)/\fa (au [] k a)=bW [] k a n w/\fS (au [] k a)=fF [] k a n w/\fR (au [] k a) a=fI [] k a n w/\0=cm [] k a n) (aF IntKind.i64 (cx (au [] k a)+n)/\aba (decide (64<cx (au [] k a)+n)) (abb (void=cw (bH [] k a n w)/\0=cx (bH [] k a n w)/\void=dr (bH [] k a n w)/\0=dN (bH [] k a n w)/\5=bW [] k a n w/\dr (au [] k a)=fF [] k a n w/\a=fI [] k a n w/\0=cm [] k a n)) (aba (w&& !decide (bk BinOp.and IntKind.i64 (cw (au [] k a)).rights 1=0)) (abb (void=cw (bH [] k a n w)/\0=cx (bH [] k a n w)/\void=dr (bH [] k a n w)/\0=dN (bH [] k a n w)/\6=bW [] k a n w/\dr (au [] k a)=fF [] k a n w/\a=fI [] k a n w/\0=cm [] k a n)) (cw (au [] k a)=cw (bH [] k a n w)/\cx (au [] k a)=cx (bH [] k a n w)/\dr (au [] k a)=dr (bH [] k a n w)/\dN (au [] k a)=dN (bH [] k a n w)/\0=bW [] k a n w/\void=fF [] k a n w/\0=fI [] k a n w/\0=cm [] k a n)))))))):=by
 delta aba acD abb
 exact⟨rfl,fun h=>qt (PQ (wE1 h) (by omega)) (by omega),fun h=>absurd h (by decide)⟩
abbrev acE(L:List Sx.Obj)(k:Key)(a:Int)(n:Int)(w:Bool):=void=cw (bH L k a n w)/\0=cx (bH L k a n w)/\void=dr (bH L k a n w)/\0=dN (bH L k a n w)/\0=bW L k a n w/\void=fF L k a n w/\0=fI L k a n w/\4=cm L k a n
theorem WZ (L:List Sx.Obj) (k:Key) (a:Int) (n:Int) (w:Bool):
 abb (aba (decide (ak L=0)) (void=cw (bH L k a n w)/\0=cx (bH L k a n w)/\void=dr (bH L k a n w)/\0=dN (bH L k a n w)/\0=bW L k a n w/\void=fF L k a n w/\0=fI L k a n w/\1=cm L k a n) (aba (!decide (bB k=0)||aZ k&&decide (ak L<=cy k)) (void=cw (bH L k a n w)/\0=cx (bH L k a n w)/\void=dr (bH L k a n w)/\0=dN (bH L k a n w)/\0=bW L k a n w/\void=fF L k a n w/\0=fI L k a n w/\2=cm L k a n) (aba (decide (a<0)) (acE L k a n w) (aba (decide (n<0)||decide (64<n)) (acE L k a n w) (aba (!decide (fa (au L k a)=0)) (void=cw (bH L k a n w)/\0=cx (bH L k a n w)/\void=dr (bH L k a n w)/\0=dN (bH L k a n w)/\fa (au L k a)=bW L k a n w/\fS (au L k a)=fF L k a n w/\fR (au L k a) a=fI L k a n w/\0=cm L k a n) (aF IntKind.i64 (cx (au L k a)+n)/\aba (decide (64<cx (au L k a)+n)) (abb (void=cw (bH L k a n w)/\0=cx (bH L k a n w)/\void=dr (bH L k a n w)/\0=dN (bH L k a n w)/\5=bW L k a n w/\dr (au L k a)=fF L k a n w/\a=fI L k a n w/\0=cm L k a n)) (aba (w&& !decide (bk BinOp.and IntKind.i64 (cw (au L k a)).rights 1=0)) (abb (void=cw (bH L k a n w)/\0=cx (bH L k a n w)/\void=dr (bH L k a n w)/\0=dN (bH L k a n w)/\6=bW L k a n w/\dr (au L k a)=fF L k a n w/\a=fI L k a n w/\0=cm L k a n)) (cw (au L k a)=cw (bH L k a n w)/\cx (au L k a)=cx (bH L k a n w)/\dr (au L k a)=dr (bH L k a n w)/\dN (au L k a)=dN (bH L k a n w)/\0=bW L k a n w/\void=fF L k a n w/\0=fI L k a n w/\0=cm L k a n)))))))):=by
 delta aba acE abb
 refine⟨rfl,fun h=>qt (PQ (wE1 h) (by omega)) (by omega),fun h=>⟨fun h2=>?_,fun h2=>⟨fun h3=>?_,fun h3=>?_⟩⟩⟩
 ·rw[Bo,Bool.not_eq_true']at h2;exact qt (PQ (by rw[Q0 h,h2];rfl) (by omega)) (by omega)
 ·rw[Bo,Bool.not_eq_false']at h2;exact qt (PQ (by rw[Q0 h,h2,aa2 rfl,aa2 (aaZ h3)]) (by omega)) (by omega)
 rw[Bo,Bool.not_eq_false']at h2;have hW:dM L k a=0:=by rw[Q0 h,h2,aa2 rfl,aa1 (aaY h3)]
 clear h h2 h3;refine⟨fun h=>qt (Zl hW h) (by omega),fun h=>?_⟩
 have hE:=WV hW h;refine⟨fun hk=>?_,fun hk=>?_⟩
 ·have hk:fa (au L k a)≠0:=by simpa using hk
  have hk:(au L k a).kd≠0:=hk;obtain⟨u1,u2,u3⟩:=Y0 (a:=a) hk;rw[u1,u2,u3];exact sK hE (YT hE hk) hk
 have hk:fa (au L k a)=0:=by simpa using hk
 have hk:(au L k a).kd=0:=hk;obtain⟨⟨e1,e2⟩,e3,e4⟩:=FW hW hk;obtain⟨f1,f2,f3⟩:=Ld hk;have hr:=CO e1 e2;obtain⟨_,n0,n1⟩:=yM hE;rw[f1,f2,f3];rw[XT hr.1 hr.2];refine⟨by simp only[aF,cc];omega,fun h5=>?_,fun h5=>⟨fun h6=>?_,fun h6=>?_⟩⟩
 ·exact⟨rfl,sK hE (aaq hE hk (aaZ h5)) (by omega)⟩
 ·exact⟨rfl,sK hE (ZM hE hk (aaY h5) h6) (by omega)⟩
 ·have:=Is hE (aaf hE hk (aaY h5) h6);rw[f1,f2,f3]at this;exact this
theorem z9:cz Tryz.prog 233 YW:=
 eQ (aA tk (aA iI (aA dE (aA dE (aA Fa bV))))) (fun _=>rfl) fun a hq hok=>by
  obtain⟨S,k,i,n,w,_⟩:=a;cases S with
  |none=>exact bc (inl:=(fun f=>f==235||f==237)) (ann:=aQ) (ae bC (ae gy (ae dJ (ae Hw ar)))) (UR k i n w) (by kernel_rfl)
  |some L=>exact bc (inl:=(fun f=>f==235||f==237)) (ann:=aQ) (ae bC (ae gy (ae dJ (ae Hw ar)))) (WZ L k i n w) (by kernel_rfl)
theorem Sw (L:List Sx.Obj) (k:Key) (a:Int) (n:Int) (w:Bool) (hL:aq L):
 aq L/\aba (decide (dM L k a=0)&&(decide (n<0)||decide (64<n))) (void=cw (bH L k a n w)/\0=cx (bH L k a n w)/\void=dr (bH L k a n w)/\0=dN (bH L k a n w)/\0=bW L k a n w/\void=fF L k a n w/\0=fI L k a n w/\4=cm L k a n) (aba (!decide (dM L k a=0)|| !decide (fa (au L k a)=0)) (void=cw (bH L k a n w)/\0=cx (bH L k a n w)/\void=dr (bH L k a n w)/\0=dN (bH L k a n w)/\fa (au L k a)=bW L k a n w/\fS (au L k a)=fF L k a n w/\fR (au L k a) a=fI L k a n w/\dM L k a=cm L k a n) (aF IntKind.i64 (cx (au L k a)+n)/\aba (decide (64<cx (au L k a)+n)) (void=cw (bH L k a n w)/\0=cx (bH L k a n w)/\void=dr (bH L k a n w)/\0=dN (bH L k a n w)/\5=bW L k a n w/\dr (au L k a)=fF L k a n w/\a=fI L k a n w/\0=cm L k a n) (aba (w&& !decide ((cw (au L k a)).rights=0)) (void=cw (bH L k a n w)/\0=cx (bH L k a n w)/\void=dr (bH L k a n w)/\0=dN (bH L k a n w)/\6=bW L k a n w/\dr (au L k a)=fF L k a n w/\a=fI L k a n w/\0=cm L k a n) (cw (au L k a)=cw (bH L k a n w)/\cx (au L k a)=cx (bH L k a n w)/\dr (au L k a)=dr (bH L k a n w)/\dN (au L k a)=dN (bH L k a n w)/\0=bW L k a n w/\void=fF L k a n w/\0=fI L k a n w/\0=cm L k a n)))):=by
 delta aba
 refine⟨hL,fun h=>?_,fun h=>⟨fun h2=>?_,fun h2=>?_⟩⟩
 ·rw[aaV,aaW]at h;exact qt (Zl h.1 h.2) (by omega)
 ·by_cases hW:dM L k a=0
  ·rw[decide_eq_true hW,Bool.true_and]at h;rw[decide_eq_true hW]at h2;have hE:=WV hW h;have hk:fa (au L k a)≠0:=by simpa using h2
   have hk:(au L k a).kd≠0:=hk;obtain⟨u1,u2,u3⟩:=Y0 (a:=a) hk;rw[u1,u2,u3,hW];exact sK hE (YT hE hk) hk
  ·have hr:au L k a=YK:=by unfold au;rw[aa1 hW]
   rw[hr];exact qt (PQ rfl hW) hW
 simp only[Bool.or_eq_false_iff,Bool.not_eq_false',aaW]at h2;obtain⟨hW,hk⟩:=h2;rw[decide_eq_true hW,Bool.true_and]at h;have hE:=WV hW h;have hk:(au L k a).kd=0:=hk;obtain⟨⟨e1,e2⟩,e3,e4⟩:=FW hW hk;obtain⟨f1,f2,f3⟩:=Ld hk;obtain⟨_,n0,n1⟩:=yM hE;rw[f1,f2,f3];refine⟨by simp only[aF,cc];omega,fun h5=>?_,fun h5=>⟨fun h6=>?_,fun h6=>?_⟩⟩
 ·exact sK hE (aaq hE hk (aaZ h5)) (by omega)
 ·exact sK hE (ZM hE hk (aaY h5) h6) (by omega)
 ·have:=Is hE (aaf hE hk (aaY h5) h6);rw[f1,f2,f3]at this;exact this
theorem H5:cz Tryz.prog 141 XG:=
 eQ (aA jC (aA iI (aA dE (aA dE (aA Fa bV))))) (fun _=>rfl) fun a hq hok=>by
  obtain⟨L,k,i,n,w,_⟩:=a;exact bc (inl:=bx) (ann:=aQ) (ae LJ ar) (Sw L k i n w hq) (by kernel_rfl)
theorem Xo (L:List Sx.Obj) (k:Key) (i:Int) (s:ByteArray) (hL:aq L) (hs:aw s):
 (decide (aW L k true=0)=true->abd (bO s))/\aba (decide (aW L k true=0)&& !cB i (bO s)) (ki L k i s=false/\4=cL L k i s) (aba (!decide (aW L k true=0)) (ki L k i s=false/\aW L k true=cL L k i s) ((0<=k.oid/\k.oid< ↑(ai L))/\k.oid.toNat<ai L/\(∃g,ry s g/\k=k/\i=i/\s=s/\Value.slice none 0 0=Value.slice none 0 0/\aW L k true=aW L k true/\0=g/\L=L/\k=k/\aj L k.oid.toNat free=tz L k i s g)/\∀(g:Int),ry s g->abd (bO s)/\aba (decide (g<bO s)) (abd (i+g)/\pSz s g/\(0<=i+g/\i+g< ↑64)/\abd (g+1)/\∃g',ry s g'/\xc s g'<xc s g/\k=k/\i=i/\s=s/\Value.slice none 0 0=Value.slice none 0 0/\aW L k true=aW L k true/\g+1=g'/\L=L/\k=k/\Obj.mk (tz L k i s g).kind (tz L k i s g).count (tz L k i s g).calls (tz L k i s g).slots ((tz L k i s g).bytes.put (i+g).toNat (sat s g.toNat))=tz L k i s g') (dO L k.oid/\ki L k i s=true/\0=cL L k i s/\b6 L k.oid.toNat (tz L k i s g)=eZ L k i s))):=by
 delta aba abd
 have hsz:aF IntKind.i64 (bO s):=by unfold aw at hs;simp only[aF,cc,bO];omega
 refine⟨fun _=>hsz,fun h=>?_,fun h=>⟨fun h'=>?_,fun h'=>?_⟩⟩
 ·rw[aaV,aaW]at h;obtain⟨e1,e2⟩:=Mo h.1 h.2;exact⟨by unfold ki;rw[<-e1];rfl,e1⟩
 ·have h':aW L k true≠0:=by simpa using h'
  obtain⟨e1,e2⟩:=wk (i:=i) (z:=s) rfl h';exact⟨by unfold ki;rw[<-e1];simpa using h',e1⟩
 ·have h':aW L k true=0:=by simpa using h'
  have hi:(!cB i (bO s))=false:=by rw[h']at h;simpa using h
  have hi':cB i (bO s)=true:=by simpa using hi
  obtain⟨i0,i1,i2,i3⟩:=nN.1 hi';have i3:(s.size:Int)<=64-i:=i3;have hE:cL L k i s=0:=by unfold cL;rw[aa2 h',hi'];rfl
  obtain⟨r1,r2,r3,r4⟩:=pD hL (nj h').1;refine⟨⟨r2,r3⟩,r4,⟨0,⟨by omega,by omega⟩,?_⟩,fun g hg=>⟨hsz,fun hlt=>?_,fun hge=>?_⟩⟩
  ·have hz:=Tb (L:=L) (k:=k) (i:=i) (s:=s);repeat' apply And.intro
   all_goals first|with_reducible rfl|exact hz
  ·obtain⟨g0,g1⟩:=hg;have hlt:g<(s.size:Int):=aaZ hlt;have hs:=SF (L:=L) (k:=k) (i:=i) (s:=s) (g:=g) i0 g0 (by omega)
   refine⟨by simp only[aF,cc];omega,⟨g0,hlt⟩,⟨by omega,by omega⟩,by simp only[aF,cc];omega,g+1,⟨by omega,by omega⟩,by unfold xc;omega,?_⟩
   repeat' apply And.intro
   all_goals first|with_reducible rfl|exact hs
  ·obtain⟨g0,g1⟩:=hg;have hge:¬g<(s.size:Int):=aaY hge;have hg:g=(s.size:Int):=by omega
   subst hg;refine⟨r1,by unfold ki;simpa using hE,hE.symm,?_⟩
   unfold eZ;rw[hE,aa2 rfl];rfl
theorem Yd (L:List Sx.Obj) (k:Key) (i:Int) (s:ByteArray) (hL:aq L) (hs:aw s):an Tryz.prog 115 [.sa 0,.key k,.it .i64 i,.st s] [.ro (.arr none 163 (.ob L))] (yA (ki L k i s) (eZ L k i s) [.it .i64 (cL L k i s)]) (fun _ _=>False):=
 bm (inl:=bx) (ann:=(iJ [(115,8,YN [0,1,2,3,4,5,8,9,10,11] (fun g=> [(12,.it .i64 g)]) 11 (fun g=> .blk tO (.ob (tz L k i s g))) (ry s) (xc s))])) (ae vp (ae ug (ae jG ar))) aE (Xo L k i s hL hs) (by kernel_rfl)
theorem OW:lh Tryz.prog 115 Z8:=
 iP (m:=fun x=> [.key x.1,.it .i64 x.2.1,.st x.2.2]) vb (fun _=>rfl) (fun _ _=>rfl) fun L x hq=>Yd L x.1 x.2.1 x.2.2 hq.1 hq.2
theorem VC (k:Key) (a:Int) (n:Int):
 aba (!decide (cm [] k a n=0)|| !decide (bW [] k a n false=0)) (ByteArray.mk (Array.mk [])=jW [] k a n/\bW [] k a n false=bW [] k a n false/\fF [] k a n false=fF [] k a n false/\fI [] k a n false=fI [] k a n false/\cm [] k a n=cm [] k a n) (ec [] (cw (bH [] k a n false)) (cx (bH [] k a n false)) n=jW [] k a n/\0=bW [] k a n false/\void=fF [] k a n false/\0=fI [] k a n false/\0=cm [] k a n):=by
 delta aba
 rw[tx];refine⟨fun h=>⟨?_,rfl,rfl,rfl,rfl⟩,fun h=>?_⟩
 ·rw[Bool.not_eq_true']at h;unfold jW;rw[aa1 (by rw[h];simp)]
 ·rw[Bool.not_eq_false']at h;have h0:=uf h;unfold jW fF fI;rw[aa2 h,h0.1,h0.2];exact⟨rfl,rfl,rfl,rfl,rfl⟩
theorem ZB (L:List Sx.Obj) (k:Key) (a:Int) (n:Int):
 aba (!decide (cm L k a n=0)|| !decide (bW L k a n false=0)) (ByteArray.mk (Array.mk [])=jW L k a n/\bW L k a n false=bW L k a n false/\fF L k a n false=fF L k a n false/\fI L k a n false=fI L k a n false/\cm L k a n=cm L k a n) (ec L (cw (bH L k a n false)) (cx (bH L k a n false)) n=jW L k a n/\0=bW L k a n false/\void=fF L k a n false/\0=fI L k a n false/\0=cm L k a n):=by
 delta aba
 rw[tx];refine⟨fun h=>⟨?_,rfl,rfl,rfl,rfl⟩,fun h=>?_⟩
 ·rw[Bool.not_eq_true']at h;unfold jW;rw[aa1 (by rw[h];simp)]
 ·rw[Bool.not_eq_false']at h;have h0:=uf h;unfold jW fF fI;rw[aa2 h,h0.1,h0.2];exact⟨rfl,rfl,rfl,rfl,rfl⟩
theorem Zj:cz Tryz.prog 226 aaD:=
 eQ (aA tk (aA iI (aA dE (aA dE bV)))) (fun _=>rfl) fun a hq hok=>by
  obtain⟨S,k,i,n,_⟩:=a;cases S with
  |none=>exact bc (inl:=bx) (ann:=aQ) (ae z9 (ae ph (ae bC ar))) (VC k i n) (by kernel_rfl)
  |some L=>exact bc (inl:=bx) (ann:=aQ) (ae z9 (ae ph (ae bC ar))) (ZB L k i n) (by kernel_rfl)
abbrev acF(L:List Sx.Obj)(k:Key)(a:Int)(n:Int):=abG=jW L k a n/\bW L k a n false=bW L k a n false/\fF L k a n false=fF L k a n false/\fI L k a n false=fI L k a n false/\0=cm L k a n
theorem WH (L:List Sx.Obj) (k:Key) (a:Int) (n:Int) (hL:aq L):
 aq L/\aba (!decide (cm L k a n=0)|| !decide (bW L k a n false=0)) (abG=jW L k a n/\bW L k a n false=bW L k a n false/\fF L k a n false=fF L k a n false/\fI L k a n false=fI L k a n false/\cm L k a n=cm L k a n) (true=true/\aba (decide (aW L (cw (bH L k a n false)) false=0)&& !cB (cx (bH L k a n false)) n) (acF L k a n) (aba (!decide (aW L (cw (bH L k a n false)) false=0)) (acF L k a n) ((0<=(cw (bH L k a n false)).oid/\(cw (bH L k a n false)).oid< ↑(ai L))/\aF IntKind.i64 (cx (bH L k a n false)+n)/\CU (cx (bH L k a n false)) (cx (bH L k a n false)+n) 64/\(cw (bH L k a n false)).oid.toNat<ai L/\xN (aj L (cw (bH L k a n false)).oid.toNat free).bytes (cx (bH L k a n false)).toNat (cx (bH L k a n false)+n).toNat=jW L k a n/\bW L k a n false=bW L k a n false/\fF L k a n false=fF L k a n false/\fI L k a n false=fI L k a n false/\0=cm L k a n))):=by
 delta aba abG acF
 rw[tx];refine⟨hL,fun h=>⟨?_,rfl,rfl,rfl,rfl⟩,fun h=>?_⟩
 ·rw[Bool.not_eq_true']at h;unfold jW;rw[aa1 (by rw[h];simp)]
 ·rw[Bool.not_eq_false']at h;have h0:=uf h;have hC:ma L k a n false=true:=h;obtain⟨⟨p1,p2⟩,p3,p4⟩:=LP hC;obtain⟨r1,r2,r3,r4⟩:=pD hL p1;obtain⟨e1,e2,e3,e4⟩:=xS p3 (by rw[p4];rfl)
  refine⟨rfl,fun h=>?_,fun _=>⟨fun h=>?_,fun _=>⟨⟨r2,r3⟩,e1,e2,r4,?_,rfl,rfl,rfl,h0.1.symm⟩⟩⟩
  ·rw[p4]at h;simp at h
  ·rw[p3]at h;simp at h
  ·unfold jW;rw[aa2 hC];exact e3
theorem WS:cz Tryz.prog 123 ZW:=
 eQ (aA jC (aA iI (aA dE (aA dE bV)))) (fun _=>rfl) fun a hq hok=>by
  obtain⟨L,k,i,n,_⟩:=a;exact bc (inl:=(fun f=>f==114||f==110)) (ann:=aQ) (ae H5 (ae vp (ae ug ar))) (WH L k i n hq) (by kernel_rfl)
theorem Sz (k:Key) (a:Int) (s:ByteArray) (hs:aw s):
 aF IntKind.i64 (bO s)/\aba (!decide (cm [] k a (bO s)=0)|| !decide (bW [] k a (bO s) true=0)) (bW [] k a (bO s) true=bW [] k a (bO s) true/\fF [] k a (bO s) true=fF [] k a (bO s) true/\fI [] k a (bO s) true=fI [] k a (bO s) true/\cm [] k a (bO s)=cm [] k a (bO s)) (true=true/\0=bW [] k a (bO s) true/\void=fF [] k a (bO s) true/\0=fI [] k a (bO s) true/\0=cm [] k a (bO s)):=by
 delta aba
 have hsz:aF IntKind.i64 (bO s):=by unfold aw at hs;simp only[aF,cc,bO];omega
 rw[tx];refine⟨hsz,fun h=>⟨rfl,rfl,rfl,rfl⟩,fun h=>?_⟩
 rw[Bool.not_eq_false']at h;have:=(yM (uf h).1).1;have h1:dM [] k a=1:=rfl;omega
theorem Tw (k:Key) (a:Int) (s:ByteArray) (hs:aw s):
 aF IntKind.i64 (bO s)/\aba (!decide (cm [] k a (bO s)=0)|| !decide (bW [] k a (bO s) true=0)) (bW [] k a (bO s) true=bW [] k a (bO s) true/\fF [] k a (bO s) true=fF [] k a (bO s) true/\fI [] k a (bO s) true=fI [] k a (bO s) true/\cm [] k a (bO s)=cm [] k a (bO s)) (true=true/\False):=by
 delta aba
 have hsz:aF IntKind.i64 (bO s):=by unfold aw at hs;simp only[aF,cc,bO];omega
 rw[tx];refine⟨hsz,fun h=>⟨rfl,rfl,rfl,rfl⟩,fun h=>?_⟩
 rw[Bool.not_eq_false']at h;have:=(yM (uf h).1).1;have h1:dM [] k a=1:=rfl;omega
theorem Yo (L:List Sx.Obj) (k:Key) (a:Int) (s:ByteArray) (hL:aq L) (hs:aw s):
 aF IntKind.i64 (bO s)/\aba (!decide (cm L k a (bO s)=0)|| !decide (bW L k a (bO s) true=0)) ((bW L k a (bO s) true=bW L k a (bO s) true/\fF L k a (bO s) true=fF L k a (bO s) true/\fI L k a (bO s) true=fI L k a (bO s) true/\cm L k a (bO s)=cm L k a (bO s))/\L=kx L k a s) (true=true/\(aq L/\aw s)/\(0=bW L k a (bO s) true/\void=fF L k a (bO s) true/\0=fI L k a (bO s) true/\0=cm L k a (bO s))/\eZ L (cw (bH L k a (bO s) true)) (cx (bH L k a (bO s) true)) s=kx L k a s):=by
 delta aba
 have hsz:aF IntKind.i64 (bO s):=by unfold aw at hs;simp only[aF,cc,bO];omega
 rw[tx];refine⟨hsz,fun h=>⟨⟨rfl,rfl,rfl,rfl⟩,?_⟩,fun h=>?_⟩
 ·rw[Bool.not_eq_true']at h;unfold kx;rw[aa1 (by rw[h];simp)]
 ·rw[Bool.not_eq_false']at h;have h0:=uf h;refine⟨rfl,⟨hL,hs⟩,?_,?_⟩
  ·unfold fF fI;rw[h0.1,h0.2];exact⟨rfl,rfl,rfl,rfl⟩
  ·unfold kx;rw[aa2 h]
theorem WO (L:List Sx.Obj) (k:Key) (a:Int) (s:ByteArray) (hL:aq L) (hs:aw s):an Tryz.prog 228 [.lp 0 0,.key k,.it .i64 a,.st s] [.store tS eS L] (CA (.tp [Yj L k a (bO s) true,.it .i64 (cm L k a (bO s))]) (kx L k a s)) (fun _ _=>False):=
 bm (inl:=bx) (ann:=aQ) (ae z9 (ae ph (ae bC ar))) (aC Ds aE) (Yo L k a s hL hs) (by kernel_rfl)
theorem WG:lh Tryz.prog 228 aan:=
 C6 (m:=fun x=> [.key x.1,.it .i64 x.2.1,.st x.2.2]) vb (fun _=>rfl) (fun _ _=>rfl) (fun x hs=>bm (inl:=bx) (ann:=aQ) (ae z9 (ae ph (ae bC ar))) (aC Ds aE) (Sz x.1 x.2.1 x.2.2 hs) (by kernel_rfl)) (fun x hs=>bm (inl:=bx) (ann:=aQ) (ae z9 (ae ph (ae bC ar))) (aC Ds aE) (Tw x.1 x.2.1 x.2.2 hs) (by kernel_rfl)) fun L x hL=>WO L x.1 x.2.1 x.2.2 hL.1 hL.2
theorem Xh (L:List Sx.Obj) (k:Key) (a:Int) (s:ByteArray) (hL:aq L) (hs:aw s):
 aF IntKind.i64 (bO s)/\aq L/\aba (!decide (cm L k a (bO s)=0)|| !decide (bW L k a (bO s) true=0)) (ma L k a (bO s) true=false/\bW L k a (bO s) true=bW L k a (bO s) true/\fF L k a (bO s) true=fF L k a (bO s) true/\fI L k a (bO s) true=fI L k a (bO s) true/\cm L k a (bO s)=cm L k a (bO s)) (true=true/\(aq L/\aw s)/\(ki L (cw (bH L k a (bO s) true)) (cx (bH L k a (bO s) true)) s=false->ma L k a (bO s) true=false/\bW L k a (bO s) true=bW L k a (bO s) true/\fF L k a (bO s) true=fF L k a (bO s) true/\fI L k a (bO s) true=fI L k a (bO s) true/\0=cm L k a (bO s))/\(ki L (cw (bH L k a (bO s) true)) (cx (bH L k a (bO s) true)) s=true->ma L k a (bO s) true=true/\(bW L k a (bO s) true=bW L k a (bO s) true/\fF L k a (bO s) true=fF L k a (bO s) true/\fI L k a (bO s) true=fI L k a (bO s) true/\0=cm L k a (bO s))/\eZ L (cw (bH L k a (bO s) true)) (cx (bH L k a (bO s) true)) s=kx L k a s)):=by
 delta aba
 have hsz:aF IntKind.i64 (bO s):=by unfold aw at hs;simp only[aF,cc,bO];omega
 rw[tx];refine⟨hsz,hL,fun h=>⟨?_,rfl,rfl,rfl,rfl⟩,fun h=>?_⟩
 ·rw[Bool.not_eq_true']at h;exact h
 ·rw[Bool.not_eq_false']at h;have h0:=uf h;have hC:ma L k a (bO s) true=true:=h;obtain⟨⟨p1,p2⟩,p3,p4⟩:=LP hC;have hE:cL L (cw (bH L k a (bO s) true)) (cx (bH L k a (bO s) true)) s=0:=by unfold cL;rw[aa2 p3,p4];rfl
  refine⟨rfl,⟨hL,hs⟩,fun h=>?_,fun _=>⟨hC,⟨rfl,rfl,rfl,h0.1.symm⟩,?_⟩⟩
  ·unfold ki at h;rw[hE]at h;simp at h
  ·unfold kx;rw[aa2 hC]
theorem Xf (L:List Sx.Obj) (k:Key) (a:Int) (s:ByteArray) (hL:aq L) (hs:aw s):an Tryz.prog 124 [.sa 0,.key k,.it .i64 a,.st s] [.ro (.arr none 163 (.ob L))] (yA (ma L k a (bO s) true) (kx L k a s) [Yj L k a (bO s) true,.it .i64 (cm L k a (bO s))]) (fun _ _=>False):=
 bm (inl:=bx) (ann:=aQ) (ae H5 ar) (aC OW aE) (Xh L k a s hL hs) (by kernel_rfl)
theorem X1:lh Tryz.prog 124 ZL:=
 iP (m:=fun x=> [.key x.1,.it .i64 x.2.1,.st x.2.2]) vb (fun _=>rfl) (fun _ _=>rfl) fun L x hq=>Xf L x.1 x.2.1 x.2.2 hq.1 hq.2
end Go.Proofs.YtlblcfaclmpekaaGreat
