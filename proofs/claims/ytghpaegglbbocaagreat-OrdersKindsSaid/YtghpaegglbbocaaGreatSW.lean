import Derived.Test.YtghpaegglbbocaaGreatCP
import Derived.Test.YtghpaegglbbocaaGreatSpP
import Derived.Test.YtghpaegglbbocaaGreatKS
set_option linter.unusedSimpArgs false
set_option linter.unusedVariables false
namespace Go.Sx
def aX (h:Int):Int:=64*16^(h-1).toNat
def jb (h:Int):Prop:=0<=h/\h<=9
def BA (h g:Int):Prop:=0<=g/\(g=0\/g<=h-1)
def Bj (h g:Int):Prop:=1<=g/\(g=1\/g<=h)
def L3:Ct:=sF (bk iA iv) (fun x=>some (jb x.1)) fun x=> .it .i64 (aX x.1)
structure Wk where
 pos:Key
 adr:Int
 rts:Int
 kpr:Key
 dep:Int
 hi:Int
structure Wr where
 kd:Int
 pos:Key
 adr:Int
 kpr:Key
 dep:Int
def UX:Wr:=⟨0,void,0,void,0⟩
def fk (r m g:Int):Int:=r+(if 2<=g/\(fY m 1&& !fY r 1)=true then 1 else 0)+(if 4<=g/\(fY m 2&& !fY r 2)=true then 2 else 0)+(if 8<=g/\(fY m 4&& !fY r 4)=true then 4 else 0)
def mJ (r m:Int):Int:=fk r m 8
def nt (r:Int) (p:Key):Key:=if r.tmod 4=0 then p else cM p 1
def pn (w:Wk) (h:Key):Bool:=decide (h.kind=1)&&decide (1<=h.value)&&decide (h.value<=8)&&(decide (w.dep=0)||decide (h.value<w.hi))
def uC (r:Int) (k was:Key):Key:=if k.kind=6/\r<4 then k else was
def lb (L:List Obj) (w:Wk) (p:Key) (h k:Key):Wr×Option Wk:=
 if 8<=w.dep then(⟨3,void,0,w.kpr,0⟩,none)
 else if pn w h then
  (if w.adr.tdiv (aX h.value)<14 then(UX,some ⟨cL L p (w.adr.tdiv (aX h.value)),w.adr.tmod (aX h.value),mJ w.rts p.rights,uC (mJ w.rts p.rights) k w.kpr,w.dep+1,h.value⟩)
   else(⟨2,void,0,uC (mJ w.rts p.rights) k w.kpr,0⟩,none))
 else(⟨4,void,0,w.kpr,0⟩,none)
def NW (L:List Obj):Nat->Wk->Wr
 |0,w=>⟨3,void,0,w.kpr,0⟩
 |n+1,w=>
  if(ae L w.pos).kind=3 then(if w.adr<64 then⟨0,nt w.rts (ae L w.pos),w.adr,w.kpr,w.dep⟩else⟨2,void,0,w.kpr,0⟩)
  else if(ae L w.pos).kind=2 then match lb L w (ae L w.pos) (cL L (cM (ae L w.pos) 0) 15) (cL L (cM (ae L w.pos) 0) 14)with
   | (r,none)=>r
   | (_,some w')=>NW L n w'
  else⟨1,void,0,w.kpr,0⟩
def hJ (L:List Obj) (n:Nat) (w:Wk):Wr:=NW L n w
def vQ (k:Key) (a hi:Int):Wk:=⟨k,a,0,void,0,hi⟩
def c9 (L:List Obj) (k:Key) (a:Int):Int:=if aj L=0 then 1 else if cZ L k then(if a<0 then 4 else 0)else 2
def ar (L:List Obj) (k:Key) (a:Int):Wr:=if c9 L k a=0 then hJ L 9 (vQ k a 0)else UX
def bV (r:Wr):Key:=if r.kd=0 then r.pos else void
def bU (r:Wr):Int:=if r.kd=0 then r.adr else 0
def cO (r:Wr):Key:=if r.kd=0 then r.kpr else void
def c8 (r:Wr):Int:=if r.kd=0 then r.dep else 0
def fc (r:Wr):Key:=if r.kd=0 then void else r.kpr
def fe (r:Wr) (a:Int):Int:=if r.kd=0 then 0 else a
def en (r:Wr):Int:=r.kd
def VV (r:Wr):V:= .ag [.key (bV r),.it .i64 (bU r),.key (cO r),.it .i64 (c8 r)]
def Xf (r:Wr) (a:Int):V:= .ag [.it .i64 (en r),.key (fc r),.it .i64 (fe r a)]
def CT (L:List Obj) (k:Key) (a:Int):V:= .tp [VV (ar L k a),Xf (ar L k a) a,.it .i64 (c9 L k a)]
abbrev tW:Nat:=246
def X3 (s:V) (g:Wk):V:= .ag [s,.key g.pos,.it .i64 g.adr,.it .i64 g.rts,.key g.kpr,.it .i64 g.dep,.it .i64 g.hi,.cb false]
def mX (L:List Obj) (k:Key) (a hi:Int) (g:Wk):Prop:=
 (0<=g.adr/\g.adr<=a)/\(0<=g.rts/\g.rts<=7)/\(0<=g.dep/\g.dep<=8)/\(g.dep=0->g.hi=hi)/\(g.dep≠0->g.hi<=8)/\hJ L (9-g.dep).toNat g=hJ L 9 (vQ k a hi)
def oi (g:Wk):Nat:=(9-g.dep).toNat
def Xr (iZ:List Nat) (inv:Int->Prop) (m:Int):dF:=
 {γ:=Int,head:=fun U g=>match bQ U.slots 11 with
   | .v x=>match x with
     | .it _ r=>match az U.res 4 with
       | .blk _ c=>match c with
         | .key k=> {U with slots:=HE iZ [(11,.it .i64 (fk r k.rights g)),(16,.it .i64 g)] 0 U.slots}
         |_=>U
       |_=>U
     |_=>U
   |_=>U,inv:=inv,μ:=fun g=>oZ (rN m g)}
def Us:Ct:=sF (bk sA (bk kA (bk iA iv))) (fun _=>none) fun x=>CT (Ei x.1) x.2.1 x.2.2.1
def P3:Ct:=sF (bk Bq (bk kA (bk iA iv))) (fun x=>some (aq x.1)) fun x=>CT x.1 x.2.1 x.2.2.1
def Yf (nid:Nat):V:= .mp nid
def Yh (nid:Nat):List aI:= [.mp .i64 [3,2] [.fn 206 [],.fn 207 []]]
theorem zA {g:Int} (h:1<=g):aX g*16=aX (g+1):=by
 unfold aX;have e:(g+1-1).toNat=(g-1).toNat+1:=by omega
 rw[e,Int.pow_succ];generalize (16:Int)^(g-1).toNat=x
 omega
theorem mM {h:Int} (hh:h<=1):aX h=64:=by
 unfold aX;have e:(h-1).toNat=0:=by omega
 rw[e];rfl
theorem qH {h:Int} (hh:h<=9):64<=aX h/\aX h<=274877906944:=by
 by_cases h1:h<=1
 ·rw[mM h1];omega
 have:h=2\/h=3\/h=4\/h=5\/h=6\/h=7\/h=8\/h=9:=by omega
 rcases this with rfl|rfl|rfl|rfl|rfl|rfl|rfl|rfl<;>decide
theorem Ta:∀r m:Fin 8,bd .or .i64 (r.val:Int) (m.val:Int)=mJ (r.val:Int) (m.val:Int)/\0<=mJ (r.val:Int) (m.val:Int)/\mJ (r.val:Int) (m.val:Int)<=7:=by decide
theorem yt {r:Int} (h0:0<=r) (h1:r<=7):∃x:Fin 8,(x.val:Int)=r:=⟨⟨r.toNat,by omega⟩,by simp;omega⟩
theorem S2 {r m:Int} (h0:0<=r) (h1:r<=7) (m0:0<=m) (m1:m<=7):bd .or .i64 r m=mJ r m/\0<=mJ r m/\mJ r m<=7:=by
 obtain⟨x,rfl⟩:=yt h0 h1;obtain⟨y,rfl⟩:=yt m0 m1;exact Ta x y
theorem JY:∀r:Fin 8,decide (bd .and .i64 (r.val:Int) 4=0)=decide ((r.val:Int)<4):=by decide
theorem XM {r:Int} (h0:0<=r) (h1:r<=7):decide (bd .and .i64 r 4=0)=decide (r<4):=by
 obtain⟨x,rfl⟩:=yt h0 h1;exact JY x
theorem PE:∀r m:Fin 8,∀g∈ [(1:Int),2,4],(0<=fk (r.val:Int) (m.val:Int) g/\fk (r.val:Int) (m.val:Int) g<=7)/\
  ((decide (((m.val:Int).tdiv g).tmod 2=1)&&decide (((fk (r.val:Int) (m.val:Int) g).tdiv g).tmod 2=0))=true->fk (r.val:Int) (m.val:Int) g+g=fk (r.val:Int) (m.val:Int) (g*2))/\
  ((decide (((m.val:Int).tdiv g).tmod 2=1)&&decide (((fk (r.val:Int) (m.val:Int) g).tdiv g).tmod 2=0))=false->fk (r.val:Int) (m.val:Int) g=fk (r.val:Int) (m.val:Int) (g*2)):=by decide
theorem Wb {r m g:Int} (h0:0<=r) (h1:r<=7) (m0:0<=m) (m1:m<=7) (hg:g=1\/g=2\/g=4):(0<=fk r m g/\fk r m g<=7)/\
  ((decide ((m.tdiv g).tmod 2=1)&&decide (((fk r m g).tdiv g).tmod 2=0))=true->fk r m g+g=fk r m (g*2))/\
  ((decide ((m.tdiv g).tmod 2=1)&&decide (((fk r m g).tdiv g).tmod 2=0))=false->fk r m g=fk r m (g*2)):=by
 obtain⟨x,rfl⟩:=yt h0 h1;obtain⟨y,rfl⟩:=yt m0 m1;exact PE x y g (by rcases hg with rfl|rfl|rfl<;>simp)
theorem WA {r m:Int}:fk r m 1=r:=by simp[fk]
theorem BE {L:List Obj} {k:Key} (h:(ae L k).kind=2\/(ae L k).kind=3):ae L k=k/\aU L k=true:=by
 unfold ae at h⊢;split at h
 ·simp[void]at h
 ·rename_i hn;rw[Yu hn];refine⟨rfl,?_⟩;simp only[Bool.or_eq_true,Bool.not_eq_true',Yo,not_or,Bool.not_eq_true,not_and]at hn;obtain⟨⟨h1,h2⟩,h3⟩:=hn;have hk:aT k=true:=by simpa using h2
  have:bg k=true:=by
   unfold bg dG;rw[hk];rcases h with h|h<;>simp[h]
  have:=h3 this;simpa using this
theorem Oe {L:List Obj} {k:Key} (h:aU L k=true):ae L k=k:=by
 unfold ae;have h':=dC h;rw[Yu];have hl:L≠ []:=fun e=>by have:=h'.2.1;have:=h'.2.2.1;simp[e]at *;omega
 have hs:bC L=false:=by
  unfold bC;cases L with
  |nil=>exact absurd rfl hl
  |cons x l=>simp[aj]
 rw[hs,h'.1,h];simp
theorem Ui {k:Key} (h:aT k=true) (h2:k.kind=2):Key.mk 2 k.oid k.count void.call void.rights void.value=cM k 0:=by
 obtain⟨a,b,c,d,e,f⟩:=k;simp only at h2;subst h2;simp[aT,fG,dG,gd,jZ]at h;simp[cM,void];omega
theorem S6 {L:List Obj} {k:Key} (h:aU L k=true) (h2:k.kind=2):aU L (cM k 0)=true:=by
 have hk:=(dC h).1
 have hk':aT (cM k 0)=true:=by
  have hk1:=hk;simp only[aT,Yo,Yp]at hk1⊢;obtain⟨⟨⟨⟨⟨⟨⟨x1,x2⟩,x3⟩,x4⟩,x5⟩,x6⟩,x7⟩,x8⟩:=hk1;exact⟨⟨⟨⟨⟨⟨⟨x1,x2⟩,Int.le_refl 0⟩,by show 0<=eP k.kind;omega⟩,x5⟩,x6⟩,x7⟩,x8⟩
 have hn:aY (cM k 0)=aY k:=by unfold aY;rw[hk,hk'];rfl
 have hw:fP (cM k 0)=fP k:=by unfold fP;rw[hn];rfl
 have hc:∀o,ca (cM k 0) o=ca k o:=fun o=>by unfold ca;rw[hn,hw,hk,hk'];rfl
 have hd:bg (cM k 0)=bg k:=by unfold bg;rw[hk,hk'];rfl
 unfold aU at h⊢;rw[hd,hc];exact h
theorem Et {L:List Obj} {k:Key} {i:Int} (h:aU L k=true) (h2:k.kind=2) (h0:0<=i) (h1:i<16):aF L k i=cL L k i:=by
 have hl:=dC h
 have hA:ay L k 2 false=0:=by
  unfold ay;rw[Yu (by have:=hl.2.1;have:=hl.2.2.1;unfold aj;omega),Yu (by rw[h,h2];simp),Yu (by simp)]
 unfold aF bJ jv;rw[hA,Yv rfl,decide_eq_true h0,decide_eq_true h1];rfl
theorem Nz {L:List Obj} {k:Key} {i:Int} (h:aU L k=true) (h2:k.kind=2) (h0:0<=i) (h1:i<16):aF L (Key.mk 2 k.oid k.count void.call void.rights void.value) i=cL L (cM k 0) i:=by
 rw[Ui (dC h).1 h2];exact Et (S6 h h2) h2 h0 h1
theorem go_eq {L:List Obj} {g:Wk} (h0:0<=g.dep) (h8:g.dep<=8):hJ L (9-g.dep).toNat g=
  if(ae L g.pos).kind=3 then(if g.adr<64 then⟨0,nt g.rts (ae L g.pos),g.adr,g.kpr,g.dep⟩else⟨2,void,0,g.kpr,0⟩)
  else if(ae L g.pos).kind=2 then match lb L g (ae L g.pos) (cL L (cM (ae L g.pos) 0) 15) (cL L (cM (ae L g.pos) 0) 14)with
   | (r,none)=>r
   | (_,some w')=>hJ L (8-g.dep).toNat w'
  else⟨1,void,0,g.kpr,0⟩:=by
 have e:(9-g.dep).toNat=(8-g.dep).toNat+1:=by omega
 rw[e];rfl
theorem Fw {L:List Obj} {g:Wk} (h0:0<=g.dep) (h8:g.dep<=8) (h3:(ae L g.pos).kind≠3) (h2:(ae L g.pos).kind≠2):hJ L (9-g.dep).toNat g=⟨1,void,0,g.kpr,0⟩:=by
 rw[go_eq h0 h8,Yu h3,Yu h2]
theorem NT {L:List Obj} {g:Wk} (h0:0<=g.dep) (h8:g.dep<=8) (h3:(ae L g.pos).kind=3) (h:¬g.adr<64):hJ L (9-g.dep).toNat g=⟨2,void,0,g.kpr,0⟩:=by
 rw[go_eq h0 h8,Yv h3,Yu h]
theorem wN {L:List Obj} {g:Wk} (h0:0<=g.dep) (h8:g.dep<=8) (h3:(ae L g.pos).kind=3) (h:g.adr<64):hJ L (9-g.dep).toNat g=⟨0,nt g.rts (ae L g.pos),g.adr,g.kpr,g.dep⟩:=by
 rw[go_eq h0 h8,Yv h3,Yv h]
theorem IZ {L:List Obj} {g:Wk} (h0:0<=g.dep) (h8:g.dep<=8) (h2:(ae L g.pos).kind=2) (h:¬g.dep<8):hJ L (9-g.dep).toNat g=⟨3,void,0,g.kpr,0⟩:=by
 rw[go_eq h0 h8,Yu (by omega),Yv h2,lb,Yv (by omega)]
theorem Gf {L:List Obj} {g:Wk} (h0:0<=g.dep) (h8:g.dep<=8) (h2:(ae L g.pos).kind=2) (h:g.dep<8) (hf:pn g (cL L (cM (ae L g.pos) 0) 15)=false):hJ L (9-g.dep).toNat g=⟨4,void,0,g.kpr,0⟩:=by
 rw[go_eq h0 h8,Yu (by omega),Yv h2,lb,Yu (by omega),hf]
 rfl
theorem Bh {L:List Obj} {g:Wk} (h0:0<=g.dep) (h8:g.dep<=8) (h2:(ae L g.pos).kind=2) (h:g.dep<8) (hf:pn g (cL L (cM (ae L g.pos) 0) 15)=true)
  (hs:¬g.adr.tdiv (aX (cL L (cM (ae L g.pos) 0) 15).value)<14):hJ L (9-g.dep).toNat g=⟨2,void,0,uC (mJ g.rts (ae L g.pos).rights) (cL L (cM (ae L g.pos) 0) 14) g.kpr,0⟩:=by
 rw[go_eq h0 h8,Yu (by omega),Yv h2,lb,Yu (by omega),hf,Yv rfl,Yu hs]
def Jo (L:List Obj) (g:Wk):Wk:=⟨cL L (ae L g.pos) (g.adr.tdiv (aX (cL L (cM (ae L g.pos) 0) 15).value)),g.adr.tmod (aX (cL L (cM (ae L g.pos) 0) 15).value),mJ g.rts (ae L g.pos).rights,
 uC (mJ g.rts (ae L g.pos).rights) (cL L (cM (ae L g.pos) 0) 14) g.kpr,g.dep+1,(cL L (cM (ae L g.pos) 0) 15).value⟩
theorem Qo {L:List Obj} {g:Wk} (h0:0<=g.dep) (h8:g.dep<=8) (h2:(ae L g.pos).kind=2) (h:g.dep<8) (hf:pn g (cL L (cM (ae L g.pos) 0) 15)=true)
  (hs:g.adr.tdiv (aX (cL L (cM (ae L g.pos) 0) 15).value)<14):hJ L (9-g.dep).toNat g=hJ L (9-(g.dep+1)).toNat (Jo L g):=by
 rw[go_eq h0 h8,Yu (by omega),Yv h2,lb,Yu (by omega),hf,Yv rfl,Yv hs]
 have e:(9-(g.dep+1)).toNat=(8-g.dep).toNat:=by omega
 rw[e];rfl
theorem uz {g:Wk} {h:Key}:pn g h=true↔h.kind=1/\1<=h.value/\h.value<=8/\(g.dep=0\/h.value<g.hi):=by
 simp[pn,and_assoc]
theorem rh {a e:Int} (h0:0<=a) (he:64<=e):0<=a.tdiv e/\a.tdiv e<=a/\0<=a.tmod e/\a.tmod e<=a:=by
 rw[Int.tdiv_eq_ediv_of_nonneg h0,Int.tmod_eq_emod_of_nonneg h0];have h1:=Int.ediv_nonneg h0 (show 0<=e by omega)
 have h2:=Int.ediv_le_self e h0;have h3:=Int.emod_nonneg a (show e≠0 by omega)
 have h4:=Int.emod_add_mul_ediv a e;have h5:=Int.mul_nonneg (show 0<=e by omega) h1
 omega
theorem Np {L:List Obj} {k:Key} {a hi:Int} {g:Wk} (hI:mX L k a hi g) (h2:(ae L g.pos).kind=2) (h:g.dep<8) (hf:pn g (cL L (cM (ae L g.pos) 0) 15)=true)
  (hs:g.adr.tdiv (aX (cL L (cM (ae L g.pos) 0) 15).value)<14):mX L k a hi (Jo L g)/\oi (Jo L g)<oi g:=by
 obtain⟨⟨a1,a2⟩,⟨r1,r2⟩,⟨d1,d2⟩,e1,e2,e3⟩:=hI;have hf':=uz.1 hf;have he:=qH (show(cL L (cM (ae L g.pos) 0) 15).value<=9 by omega)
 have hd:=rh a1 he.1;have hp:=nQ (oN L g.pos);have ho:=S2 r1 r2 hp.1 hp.2;refine⟨⟨⟨hd.2.2.1,by have:=hd.2.2.2;simp only[Jo];omega⟩,ho.2,⟨by simp only[Jo];omega,by simp only[Jo];omega⟩,fun h=>?_,fun _=>hf'.2.2.1,?_⟩,?_⟩
 ·simp only[Jo]at h;omega
 ·rw[<-e3,Qo d1 d2 h2 h hf hs];rfl
 ·unfold oi;simp only[Jo];omega
theorem Sz {L:List Obj} {k:Key} {a:Int} (x y:Int):hJ L 9 (vQ k a x)=hJ L 9 (vQ k a y):=by
 show NW L (8+1) _=NW L (8+1) _
 unfold NW;simp only[vQ,lb,pn];rfl
theorem Wv {L:List Obj} {k:Key} {a:Int} (h:¬a<0) (hi:Int):mX L k a hi (vQ k a hi):=
 ⟨⟨by simp only[vQ];omega,by simp only[vQ];omega⟩,by simp[vQ],by simp[vQ],fun _=>rfl,fun h=>absurd rfl h,rfl⟩
theorem Ws {L:List Obj} {k:Key} {a hi:Int} {g:Wk} (hI:mX L k a hi g) (hE:c9 L k a=0):ar L k a=hJ L (9-g.dep).toNat g:=by
 unfold ar;rw[Yv hE,hI.2.2.2.2.2];exact Sz _ _
theorem yF {L:List Obj} {k:Key} {a e:Int} (h:c9 L k a=e) (he:e≠0):void=bV (ar L k a)/\0=bU (ar L k a)/\void=cO (ar L k a)/\0=c8 (ar L k a)/\0=en (ar L k a)/\void=fc (ar L k a)/\0=fe (ar L k a) a/\e=c9 L k a:=by
 have:ar L k a=UX:=by unfold ar;rw[Yu (by omega)]
 rw[this,h];exact⟨rfl,rfl,rfl,rfl,rfl,rfl,rfl,rfl⟩
theorem pz {L:List Obj} {k:Key} {a hi d:Int} {g:Wk} {p:Key} (hI:mX L k a hi g) (hE:c9 L k a=0) (h:hJ L (9-g.dep).toNat g=⟨d,void,0,p,0⟩) (hd:d≠0):
  void=bV (ar L k a)/\0=bU (ar L k a)/\void=cO (ar L k a)/\0=c8 (ar L k a)/\d=en (ar L k a)/\p=fc (ar L k a)/\a=fe (ar L k a) a/\0=c9 L k a:=by
 rw[Ws hI hE,h,hE];simp only[bV,bU,cO,c8,en,fc,fe,Yu hd];simp
theorem Gw {L:List Obj} {k:Key} {a hi ad dp:Int} {g:Wk} {q p:Key} (hI:mX L k a hi g) (hE:c9 L k a=0) (h:hJ L (9-g.dep).toNat g=⟨0,q,ad,p,dp⟩):
  q=bV (ar L k a)/\ad=bU (ar L k a)/\p=cO (ar L k a)/\dp=c8 (ar L k a)/\0=en (ar L k a)/\void=fc (ar L k a)/\0=fe (ar L k a) a/\0=c9 L k a:=by
 rw[Ws hI hE,h,hE];exact⟨rfl,rfl,rfl,rfl,rfl,rfl,rfl,rfl⟩
theorem At (L:List Obj) (v:Key):(!decide (bD v=0)||bg v&&decide (an L<=cS v))= !cZ L v:=by
 rw[<-A2]
 have:decide (an L<=cS v)= !decide (cS v<an L):=by
  rw[Bool.eq_iff_iff];simp
 rw[this];cases decide (bD v=0)<;>cases bg v<;>cases decide (cS v<an L)<;>rfl
theorem Wp {L:List Obj} {k:Key} {a:Int} (h:decide (an L=0)=true):c9 L k a=1:=by
 have h:=Ys h;unfold an at h;unfold c9;rw[Yv (by omega)]
theorem RB {L:List Obj} {k:Key} {a:Int} (h:decide (an L=0)=false):c9 L k a=if cZ L k then(if a<0 then 4 else 0)else 2:=by
 have h:=Yr h;unfold an at h;unfold c9;rw[Yu (by omega)]
theorem Pk {L:List Obj} {k:Key} (hk:aT k=true) (hL:0<L.length):(k.kind=1->ae L k=k)/\(k.kind≠1->(ae L k).kind≠1):=by
 refine⟨fun h=>?_,fun h=>?_⟩
 ·unfold ae;rw[Yu]
  have hs:bC L=false:=by
   unfold bC aj;rw[decide_eq_false];omega
  have hn:bg k=false:=by unfold bg dG;rw[h,hk];rfl
  rw[hs,hk,hn];simp
 ·unfold ae;split
  ·simp[void]
  ·exact h
end Go.Sx
namespace Go.Sx
def bR (L:List Obj) (k:Key) (a n:Int):Int:=if c9 L k a=0 then(if n<0\/64<n then 4 else 0)else c9 L k a
def bH (L:List Obj) (k:Key) (a n:Int) (w:Bool):Int:=if bR L k a n=0 then(if(ar L k a).kd=0 then(if 64<(ar L k a).adr+n then 5 else if(w&& !decide ((ar L k a).pos.rights=0))=true then 6 else 0)else(ar L k a).kd)else 0
def eV (L:List Obj) (k:Key) (a n:Int) (w:Bool):Key:=if bH L k a n w=0 then void else(ar L k a).kpr
def eR (L:List Obj) (k:Key) (a n:Int) (w:Bool):Int:=if bH L k a n w=0 then 0 else a
def k7 (L:List Obj) (k:Key) (a n:Int) (w:Bool):Bool:=decide (bR L k a n=0)&&decide (bH L k a n w=0)
def bz (L:List Obj) (k:Key) (a n:Int) (w:Bool):Wr:=if k7 L k a n w=true then ar L k a else UX
def UJ (L:List Obj) (k:Key) (a n:Int) (w:Bool):V:= .ag [.it .i64 (bH L k a n w),.key (eV L k a n w),.it .i64 (eR L k a n w)]
def jA (L:List Obj) (k:Key) (a n:Int):ByteArray:=if k7 L k a n false=true then dR L (bV (bz L k a n false)) (bU (bz L k a n false)) n else⟨#[]⟩
def jy (L:List Obj) (k:Key) (a:Int) (s:ByteArray):List Obj:=if k7 L k a (bW s) true=true then eg L (bV (bz L k a (bW s) true)) (bU (bz L k a (bW s) true)) s else L
def VC (L:List Obj) (k:Key) (a n:Int) (w:Bool):V:= .tp [VV (bz L k a n w),UJ L k a n w,.it .i64 (bR L k a n)]
def VU:Ct:=sF (bk sA (bk kA (bk iA (bk iA (bk bA iv))))) (fun _=>none) fun x=>VC (Ei x.1) x.2.1 x.2.2.1 x.2.2.2.1 x.2.2.2.2.1
def S9:Ct:=sF (bk Bq (bk kA (bk iA (bk iA (bk bA iv))))) (fun x=>some (aq x.1)) fun x=>VC x.1 x.2.1 x.2.2.1 x.2.2.2.1 x.2.2.2.2.1
def jx (L:List Obj) (k:Key) (i:Int) (s:ByteArray):Bool:=decide (cq L k i s=0)
def VD:kJ:=Ar Af (fun L x=>aq L/\aw x.2.2) (fun L x=>jx L x.1 x.2.1 x.2.2) (fun L x=>eg L x.1 x.2.1 x.2.2) fun L x=> [.it .i64 (cq L x.1 x.2.1 x.2.2)]
def XK:Ct:=sF (bk sA (bk kA (bk iA (bk iA iv)))) (fun _=>none) fun x=> .tp [.st (jA (Ei x.1) x.2.1 x.2.2.1 x.2.2.2.1),UJ (Ei x.1) x.2.1 x.2.2.1 x.2.2.2.1 false,.it .i64 (bR (Ei x.1) x.2.1 x.2.2.1 x.2.2.2.1)]
def WB:Ct:=sF (bk Bq (bk kA (bk iA (bk iA iv)))) (fun x=>some (aq x.1)) fun x=> .tp [.st (jA x.1 x.2.1 x.2.2.1 x.2.2.2.1),UJ x.1 x.2.1 x.2.2.1 x.2.2.2.1 false,.it .i64 (bR x.1 x.2.1 x.2.2.1 x.2.2.2.1)]
def Wt:kJ:=WQ Af (fun x=>aw x.2.2) (fun L x=>aq L/\aw x.2.2) (fun L x=> .tp [UJ L x.1 x.2.1 (bW x.2.2) true,.it .i64 (bR L x.1 x.2.1 (bW x.2.2))]) fun L x=>jy L x.1 x.2.1 x.2.2
def WE:kJ:=Ar Af (fun L x=>aq L/\aw x.2.2) (fun L x=>k7 L x.1 x.2.1 (bW x.2.2) true) (fun L x=>jy L x.1 x.2.1 x.2.2) fun L x=> [UJ L x.1 x.2.1 (bW x.2.2) true,.it .i64 (bR L x.1 x.2.1 (bW x.2.2))]
theorem P7 {L:List Obj} {k:Key} {r:Int} (h:aU L k=true) (h3:k.kind=3):aU L (nt r k)=true/\(nt r k).kind=3:=by
 unfold nt;split
 ·exact⟨h,h3⟩
 ·refine⟨?_,h3⟩;have hk:=(dC h).1;have hm:eP k.kind=1:=by rw[h3];rfl
  have hk':aT (cM k 1)=true:=by
   have hk1:=hk;simp only[aT,Yo,Yp]at hk1⊢;obtain⟨⟨⟨⟨⟨⟨⟨x1,x2⟩,x3⟩,x4⟩,x5⟩,x6⟩,x7⟩,x8⟩:=hk1;exact⟨⟨⟨⟨⟨⟨⟨x1,x2⟩,by show(0:Int)<=1;omega⟩,by show 1<=eP k.kind;omega⟩,x5⟩,x6⟩,x7⟩,x8⟩
  have hn:aY (cM k 1)=aY k:=by unfold aY;rw[hk,hk'];rfl
  have hw:fP (cM k 1)=fP k:=by unfold fP;rw[hn];rfl
  have hc:∀o,ca (cM k 1) o=ca k o:=fun o=>by unfold ca;rw[hn,hw,hk,hk'];rfl
  have hd:bg (cM k 1)=bg k:=by unfold bg;rw[hk,hk'];rfl
  unfold aU at h⊢;rw[hd,hc];exact h
theorem Fh {L:List Obj}:∀(n:Nat) (w:Wk),0<=w.adr->(hJ L n w).kd=0->(aU L (hJ L n w).pos=true/\(hJ L n w).pos.kind=3)/\0<=(hJ L n w).adr/\(hJ L n w).adr<64
 |0,w,_,h=>absurd h (by show¬(3:Int)=0;omega)
 |n+1,w,ha,h=>by
  unfold hJ NW at h⊢;split at h
  ·rename_i h3;split at h
   ·rename_i hlt;rw[Yv h3,Yv hlt];obtain⟨pe,pi⟩:=BE (.inr h3);rw[pe]at h3⊢;exact⟨P7 pi h3,ha,hlt⟩
   ·exact absurd h (by show¬(2:Int)=0;omega)
  ·rename_i h3;rw[Yu h3];split at h
   ·rename_i h2;rw[Yv h2];split at h
    ·rename_i r hr;unfold lb at hr;split at hr
     ·simp only[Yn,and_true]at hr;subst hr;exact absurd h (by show¬(3:Int)=0;omega)
     ·split at hr
      ·split at hr<;>simp only[Yn,and_true,reduceCtorEq,and_false]at hr
       subst hr;exact absurd h (by show¬(2:Int)=0;omega)
      ·simp only[Yn,and_true]at hr;subst hr;exact absurd h (by show¬(4:Int)=0;omega)
    ·rename_i r w' hr;refine Fh n w' ?_ h;unfold lb at hr;split at hr
     ·simp at hr
     ·split at hr
      ·rename_i hf;split at hr<;>simp only[Yn,Ym,reduceCtorEq,and_false]at hr
       obtain⟨_,rfl⟩:=hr;have hf':=uz.1 hf;have he:=qH (show(cL L (cM (ae L w.pos) 0) 15).value<=9 by omega)
       exact(rh ha he.1).2.2.1
      ·simp at hr
   ·exact absurd h (by show¬(1:Int)=0;omega)
theorem DQ {L:List Obj} {k:Key} {a:Int} (hE:c9 L k a=0) (h:(ar L k a).kd=0):(aU L (ar L k a).pos=true/\(ar L k a).pos.kind=3)/\0<=(ar L k a).adr/\(ar L k a).adr<64:=by
 have ha:0<=a:=by
  unfold c9 at hE;split at hE
  ·omega
  ·split at hE
   ·split at hE<;>omega
   ·omega
 unfold ar at h⊢;rw[Yv hE]at h⊢;exact Fh 9 _ ha h
theorem sE {L:List Obj} {k:Key} {a n:Int} {w:Bool}:(!decide (bR L k a n=0)|| !decide (bH L k a n w=0))= !k7 L k a n w:=by
 unfold k7;cases decide (bR L k a n=0)<;>cases decide (bH L k a n w=0)<;>rfl
theorem sf {L:List Obj} {k:Key} {a n:Int} {w:Bool} (h:k7 L k a n w=true):bR L k a n=0/\bH L k a n w=0:=by
 unfold k7 at h;simpa using h
theorem MI {L:List Obj} {k:Key} {a n e:Int} (h:c9 L k a=e) (he:e≠0):bR L k a n=e:=by unfold bR;rw[h,Yu he]
theorem WH {L:List Obj} {k:Key} {a n:Int} (h:c9 L k a=0) (hr:(decide (n<0)||decide (64<n))=true):bR L k a n=4:=by
 unfold bR;rw[Yv h,Yv (by simpa using hr)]
theorem TM {L:List Obj} {k:Key} {a n:Int} (h:c9 L k a=0) (hr:(decide (n<0)||decide (64<n))=false):bR L k a n=0:=by
 unfold bR;rw[Yv h,Yu (by simpa using hr)]
theorem xX {L:List Obj} {k:Key} {a n:Int} (h:bR L k a n=0):c9 L k a=0/\0<=n/\n<=64:=by
 unfold bR at h;split at h
 ·rename_i hw;split at h
  ·omega
  ·exact⟨hw,by omega,by omega⟩
 ·rename_i hw;exact absurd h hw
theorem So {L:List Obj} {k:Key} {a n:Int} {w:Bool} (h:k7 L k a n w=true):c9 L k a=0/\(ar L k a).kd=0/\0<=n/\(ar L k a).adr+n<=64/\(w=true->(ar L k a).pos.rights=0):=by
 unfold k7 at h;rw[Yo,Yp,Yp]at h;obtain⟨hE,hF⟩:=h;obtain⟨h1,h2,h3⟩:=xX hE;unfold bH at hF;rw[Yv hE]at hF;split at hF
 ·rename_i hk;split at hF
  ·omega
  ·split at hF
   ·omega
   ·rename_i h4 h5;exact⟨h1,hk,h2,by omega,fun hw=>by rw[hw]at h5;simpa using h5⟩
 ·rename_i hk;exact absurd hF hk
theorem oF {L:List Obj} {k:Key} {a n e:Int} {w:Bool} (h:bR L k a n=e) (he:e≠0):void=bV (bz L k a n w)/\0=bU (bz L k a n w)/\void=cO (bz L k a n w)/\0=c8 (bz L k a n w)/\0=bH L k a n w/\void=eV L k a n w/\0=eR L k a n w/\e=bR L k a n:=by
 have hF:bH L k a n w=0:=by unfold bH;rw[h,Yu he]
 have hC:k7 L k a n w=false:=by unfold k7;rw[h,decide_eq_false he];rfl
 unfold bz eV eR;rw[hC,hF,h];exact⟨rfl,rfl,rfl,rfl,rfl,rfl,rfl,rfl⟩
theorem qI {L:List Obj} {k:Key} {a n d:Int} {w:Bool} (hE:bR L k a n=0) (h:bH L k a n w=d) (hd:d≠0):void=bV (bz L k a n w)/\0=bU (bz L k a n w)/\void=cO (bz L k a n w)/\0=c8 (bz L k a n w)/\d=bH L k a n w/\(ar L k a).kpr=eV L k a n w/\a=eR L k a n w/\0=bR L k a n:=by
 have hC:k7 L k a n w=false:=by unfold k7;rw[h,decide_eq_false hd,Bool.and_false]
 unfold bz eV eR;rw[hC,h,hE,Yu hd,Yu hd];exact⟨rfl,rfl,rfl,rfl,rfl,rfl,rfl,rfl⟩
theorem Fb {L:List Obj} {k:Key} {a n:Int} {w:Bool} (hE:bR L k a n=0) (h:bH L k a n w=0):bV (ar L k a)=bV (bz L k a n w)/\bU (ar L k a)=bU (bz L k a n w)/\cO (ar L k a)=cO (bz L k a n w)/\c8 (ar L k a)=c8 (bz L k a n w)/\0=bH L k a n w/\void=eV L k a n w/\0=eR L k a n w/\0=bR L k a n:=by
 have hC:k7 L k a n w=true:=by unfold k7;rw[h,hE];rfl
 unfold bz eV eR;rw[hC,h,hE];exact⟨rfl,rfl,rfl,rfl,rfl,rfl,rfl,rfl⟩
theorem NJ {r:Wr} (h:r.kd=0):bV r=r.pos/\bU r=r.adr/\cO r=r.kpr:=by
 unfold bV bU cO;rw[Yv h,Yv h,Yv h];exact⟨rfl,rfl,rfl⟩
theorem Vn {r:Wr} {a:Int} (h:r.kd≠0):en r=r.kd/\fc r=r.kpr/\fe r a=a:=by
 unfold fc fe;rw[Yu h,Yu h];exact⟨rfl,rfl,rfl⟩
theorem V4 {L:List Obj} {k:Key} {a n:Int} {w:Bool} (hE:bR L k a n=0) (h:(ar L k a).kd≠0):bH L k a n w=(ar L k a).kd:=by unfold bH;rw[Yv hE,Yu h]
theorem VA {L:List Obj} {k:Key} {a n:Int} {w:Bool} (hE:bR L k a n=0) (h:(ar L k a).kd=0) (h5:64<(ar L k a).adr+n):bH L k a n w=5:=by unfold bH;rw[Yv hE,Yv h,Yv h5]
theorem Wj {L:List Obj} {k:Key} {a n:Int} {w:Bool} (hE:bR L k a n=0) (h:(ar L k a).kd=0) (h5:¬64<(ar L k a).adr+n) (h6:(w&& !decide ((ar L k a).pos.rights=0))=true):bH L k a n w=6:=by unfold bH;rw[Yv hE,Yv h,Yu h5,Yv h6]
theorem V2 {L:List Obj} {k:Key} {a n:Int} {w:Bool} (hE:bR L k a n=0) (h:(ar L k a).kd=0) (h5:¬64<(ar L k a).adr+n) (h6:(w&& !decide ((ar L k a).pos.rights=0))=false):bH L k a n w=0:=by unfold bH;rw[Yv hE,Yv h,Yu h5,Yu (by rw[h6];simp)]
theorem Jm {L:List Obj} {k:Key} {a n:Int} {w:Bool} (h:k7 L k a n w=true):(aU L (bV (bz L k a n w))=true/\(bV (bz L k a n w)).kind=3)/\aS L (bV (bz L k a n w)) w=0/\bZ (bU (bz L k a n w)) n=true:=by
 obtain⟨h1,h2,h3,h4,h5⟩:=So h;obtain⟨⟨e1,e2⟩,e3,e4⟩:=DQ h1 h2;obtain⟨f1,f2,_⟩:=NJ h2;unfold bz;rw[Yv h,f1,f2];have hl:=dC e1
 have hA:ay L (ar L k a).pos 3 false=0:=by
  unfold ay;rw[Yu (by have:=hl.2.1;have:=hl.2.2.1;unfold aj;omega),Yu (by rw[e1,e2];simp),Yu (by simp)]
 refine⟨⟨e1,e2⟩,?_,mL.2 ⟨e3,h3,by omega,by omega⟩⟩
 unfold aS;rw[Yv hA,Yu];cases w
 ·simp
 ·simp[h5 rfl]
theorem Ge {L:List Obj} {k:Key} {i:Int} {s:ByteArray} (hL:aq L):aq (eg L k i s):=by
 unfold eg;split
 ·rename_i h;unfold cq at h;split at h
  ·rename_i hp;obtain⟨a1,a2,_⟩:=lQ hp;exact(qh hL a1 a2).2.2
  ·rename_i hp;exact absurd h hp
 ·exact hL
theorem T7 {L:List Obj} {k:Key} {a:Int} {s:ByteArray} (hL:aq L):aq (jy L k a s):=by
 unfold jy;split
 ·exact Ge hL
 ·exact hL
structure Yk where
 kind:Int
 num:Int
 root:Key
 adr:Int
 bytes:ByteArray
structure Yl where
 hgt:Int
 slot:Int
 rts:Int
 kept:Bool
theorem SN {L:List Obj} {k:Key} {a:Int} {s:ByteArray} (h:k7 L k a (bW s) true=false):jy L k a s=L:=by unfold jy;rw[h];rfl
end Go.Sx
