import Derived.Test.YtghpaegglbbocaaGreatCP
import Derived.Test.YtghpaegglbbocaaGreatSpP
import Derived.Test.YtghpaegglbbocaaGreatKS
set_option linter.unusedSimpArgs false
set_option linter.unusedVariables false
namespace Go.Sx
def aX (h:Int):Int:=64*16^(h-1).toNat
def ja (h:Int):Prop:=0<=h/\h<=9
def Bk (h g:Int):Prop:=0<=g/\(g=0\/g<=h-1)
def Ax (h g:Int):Prop:=1<=g/\(g=1\/g<=h)
def Lh:Ct:=sE (bk iA iv) (fun x=>some (ja x.1)) fun x=> .it .i64 (aX x.1)
structure Wk where
 pos:Key
 adr:Int
 rts:Int
 kpr:Key
 dep:Int
 hi:Int
structure Wr where
 kd:Int
 pos:Key
 adr:Int
 kpr:Key
 dep:Int
def UR:Wr:=⟨0,void,0,void,0⟩
def fk (r m g:Int):Int:=r+(if 2<=g/\(fW m 1&& !fW r 1)=true then 1 else 0)+(if 4<=g/\(fW m 2&& !fW r 2)=true then 2 else 0)+(if 8<=g/\(fW m 4&& !fW r 4)=true then 4 else 0)
def mL (r m:Int):Int:=fk r m 8
def nu (r:Int) (p:Key):Key:=if r.tmod 4=0 then p else cJ p 1
def pf (w:Wk) (h:Key):Bool:=decide (h.kind=1)&&decide (1<=h.value)&&decide (h.value<=8)&&(decide (w.dep=0)||decide (h.value<w.hi))
def u7 (r:Int) (k was:Key):Key:=if k.kind=6/\r<4 then k else was
def ld (L:List Obj) (w:Wk) (p:Key) (h k:Key):Wr×Option Wk:=
 if 8<=w.dep then(⟨3,void,0,w.kpr,0⟩,none)
 else if pf w h then
  (if w.adr.tdiv (aX h.value)<14 then(UR,some ⟨cN L p (w.adr.tdiv (aX h.value)),w.adr.tmod (aX h.value),mL w.rts p.rights,u7 (mL w.rts p.rights) k w.kpr,w.dep+1,h.value⟩)
   else(⟨2,void,0,u7 (mL w.rts p.rights) k w.kpr,0⟩,none))
 else(⟨4,void,0,w.kpr,0⟩,none)
def NP (L:List Obj):Nat->Wk->Wr
 |0,w=>⟨3,void,0,w.kpr,0⟩
 |n+1,w=>
  if(ae L w.pos).kind=3 then(if w.adr<64 then⟨0,nu w.rts (ae L w.pos),w.adr,w.kpr,w.dep⟩else⟨2,void,0,w.kpr,0⟩)
  else if(ae L w.pos).kind=2 then match ld L w (ae L w.pos) (cN L (cJ (ae L w.pos) 0) 15) (cN L (cJ (ae L w.pos) 0) 14)with
   | (r,none)=>r
   | (_,some w')=>NP L n w'
  else⟨1,void,0,w.kpr,0⟩
def hJ (L:List Obj) (n:Nat) (w:Wk):Wr:=NP L n w
def vX (k:Key) (a hi:Int):Wk:=⟨k,a,0,void,0,hi⟩
def c8 (L:List Obj) (k:Key) (a:Int):Int:=if aj L=0 then 1 else if cZ L k then(if a<0 then 4 else 0)else 2
def ar (L:List Obj) (k:Key) (a:Int):Wr:=if c8 L k a=0 then hJ L 9 (vX k a 0)else UR
def bV (r:Wr):Key:=if r.kd=0 then r.pos else void
def bU (r:Wr):Int:=if r.kd=0 then r.adr else 0
def cO (r:Wr):Key:=if r.kd=0 then r.kpr else void
def c9 (r:Wr):Int:=if r.kd=0 then r.dep else 0
def fe (r:Wr):Key:=if r.kd=0 then void else r.kpr
def fc (r:Wr) (a:Int):Int:=if r.kd=0 then 0 else a
def ej (r:Wr):Int:=r.kd
def VX (r:Wr):V:= .ag [.key (bV r),.it .i64 (bU r),.key (cO r),.it .i64 (c9 r)]
def W9 (r:Wr) (a:Int):V:= .ag [.it .i64 (ej r),.key (fe r),.it .i64 (fc r a)]
def Dq (L:List Obj) (k:Key) (a:Int):V:= .tp [VX (ar L k a),W9 (ar L k a) a,.it .i64 (c8 L k a)]
abbrev tW:Nat:=246
def XQ (s:V) (g:Wk):V:= .ag [s,.key g.pos,.it .i64 g.adr,.it .i64 g.rts,.key g.kpr,.it .i64 g.dep,.it .i64 g.hi,.cb false]
def mY (L:List Obj) (k:Key) (a hi:Int) (g:Wk):Prop:=
 (0<=g.adr/\g.adr<=a)/\(0<=g.rts/\g.rts<=7)/\(0<=g.dep/\g.dep<=8)/\(g.dep=0->g.hi=hi)/\(g.dep≠0->g.hi<=8)/\hJ L (9-g.dep).toNat g=hJ L 9 (vX k a hi)
def nX (g:Wk):Nat:=(9-g.dep).toNat
def Xo (iW:List Nat) (inv:Int->Prop) (m:Int):dD:=
 {γ:=Int,head:=fun U g=>match bR U.slots 11 with
   | .v x=>match x with
     | .it _ r=>match az U.res 4 with
       | .blk _ c=>match c with
         | .key k=> {U with slots:=Hv iW [(11,.it .i64 (fk r k.rights g)),(16,.it .i64 g)] 0 U.slots}
         |_=>U
       |_=>U
     |_=>U
   |_=>U,inv:=inv,μ:=fun g=>oX (rU m g)}
def TJ:Ct:=sE (bk sA (bk kA (bk iA iv))) (fun _=>none) fun x=>Dq (DV x.1) x.2.1 x.2.2.1
def Rp:Ct:=sE (bk AR (bk kA (bk iA iv))) (fun x=>some (aq x.1)) fun x=>Dq x.1 x.2.1 x.2.2.1
def X8 (nid:Nat):V:= .mp nid
def X2 (nid:Nat):List aI:= [.mp .i64 [3,2] [.fn 206 [],.fn 207 []]]
theorem zr {g:Int} (h:1<=g):aX g*16=aX (g+1):=by
 unfold aX;have e:(g+1-1).toNat=(g-1).toNat+1:=by omega
 rw[e,Int.pow_succ];generalize (16:Int)^(g-1).toNat=x
 omega
theorem mo {h:Int} (hh:h<=1):aX h=64:=by
 unfold aX;have e:(h-1).toNat=0:=by omega
 rw[e];rfl
theorem qD {h:Int} (hh:h<=9):64<=aX h/\aX h<=274877906944:=by
 by_cases h1:h<=1
 ·rw[mo h1];omega
 have:h=2\/h=3\/h=4\/h=5\/h=6\/h=7\/h=8\/h=9:=by omega
 rcases this with rfl|rfl|rfl|rfl|rfl|rfl|rfl|rfl<;>decide
theorem T6:∀r m:Fin 8,bc .or .i64 (r.val:Int) (m.val:Int)=mL (r.val:Int) (m.val:Int)/\0<=mL (r.val:Int) (m.val:Int)/\mL (r.val:Int) (m.val:Int)<=7:=by decide
theorem xb {r:Int} (h0:0<=r) (h1:r<=7):∃x:Fin 8,(x.val:Int)=r:=⟨⟨r.toNat,by omega⟩,by simp;omega⟩
theorem Te {r m:Int} (h0:0<=r) (h1:r<=7) (m0:0<=m) (m1:m<=7):bc .or .i64 r m=mL r m/\0<=mL r m/\mL r m<=7:=by
 obtain⟨x,rfl⟩:=xb h0 h1;obtain⟨y,rfl⟩:=xb m0 m1;exact T6 x y
theorem LW:∀r:Fin 8,decide (bc .and .i64 (r.val:Int) 4=0)=decide ((r.val:Int)<4):=by decide
theorem XB {r:Int} (h0:0<=r) (h1:r<=7):decide (bc .and .i64 r 4=0)=decide (r<4):=by
 obtain⟨x,rfl⟩:=xb h0 h1;exact LW x
theorem Of:∀r m:Fin 8,∀g∈ [(1:Int),2,4],(0<=fk (r.val:Int) (m.val:Int) g/\fk (r.val:Int) (m.val:Int) g<=7)/\
  ((decide (((m.val:Int).tdiv g).tmod 2=1)&&decide (((fk (r.val:Int) (m.val:Int) g).tdiv g).tmod 2=0))=true->fk (r.val:Int) (m.val:Int) g+g=fk (r.val:Int) (m.val:Int) (g*2))/\
  ((decide (((m.val:Int).tdiv g).tmod 2=1)&&decide (((fk (r.val:Int) (m.val:Int) g).tdiv g).tmod 2=0))=false->fk (r.val:Int) (m.val:Int) g=fk (r.val:Int) (m.val:Int) (g*2)):=by decide
theorem VW {r m g:Int} (h0:0<=r) (h1:r<=7) (m0:0<=m) (m1:m<=7) (hg:g=1\/g=2\/g=4):(0<=fk r m g/\fk r m g<=7)/\
  ((decide ((m.tdiv g).tmod 2=1)&&decide (((fk r m g).tdiv g).tmod 2=0))=true->fk r m g+g=fk r m (g*2))/\
  ((decide ((m.tdiv g).tmod 2=1)&&decide (((fk r m g).tdiv g).tmod 2=0))=false->fk r m g=fk r m (g*2)):=by
 obtain⟨x,rfl⟩:=xb h0 h1;obtain⟨y,rfl⟩:=xb m0 m1;exact Of x y g (by rcases hg with rfl|rfl|rfl<;>simp)
theorem V2 {r m:Int}:fk r m 1=r:=by simp[fk]
theorem Bz {L:List Obj} {k:Key} (h:(ae L k).kind=2\/(ae L k).kind=3):ae L k=k/\aU L k=true:=by
 unfold ae at h⊢;split at h
 ·simp[void]at h
 ·rename_i hn;rw[Yp hn];refine⟨rfl,?_⟩;simp only[Bool.or_eq_true,Bool.not_eq_true',Yj,not_or,Bool.not_eq_true,not_and]at hn;obtain⟨⟨h1,h2⟩,h3⟩:=hn;have hk:aT k=true:=by simpa using h2
  have:bf k=true:=by
   unfold bf dG;rw[hk];rcases h with h|h<;>simp[h]
  have:=h3 this;simpa using this
theorem Qz {L:List Obj} {k:Key} (h:aU L k=true):ae L k=k:=by
 unfold ae;have h':=dz h;rw[Yp];have hl:L≠ []:=fun e=>by have:=h'.2.1;have:=h'.2.2.1;simp[e]at *;omega
 have hs:bB L=false:=by
  unfold bB;cases L with
  |nil=>exact absurd rfl hl
  |cons x l=>simp[aj]
 rw[hs,h'.1,h];simp
theorem UH {k:Key} (h:aT k=true) (h2:k.kind=2):Key.mk 2 k.oid k.count void.call void.rights void.value=cJ k 0:=by
 obtain⟨a,b,c,d,e,f⟩:=k;simp only at h2;subst h2;simp[aT,fF,dG,gd,jY]at h;simp[cJ,void];omega
theorem SM {L:List Obj} {k:Key} (h:aU L k=true) (h2:k.kind=2):aU L (cJ k 0)=true:=by
 have hk:=(dz h).1
 have hk':aT (cJ k 0)=true:=by
  have hk1:=hk;simp only[aT,Yj,Yk]at hk1⊢;obtain⟨⟨⟨⟨⟨⟨⟨x1,x2⟩,x3⟩,x4⟩,x5⟩,x6⟩,x7⟩,x8⟩:=hk1;exact⟨⟨⟨⟨⟨⟨⟨x1,x2⟩,Int.le_refl 0⟩,by show 0<=eK k.kind;omega⟩,x5⟩,x6⟩,x7⟩,x8⟩
 have hn:aY (cJ k 0)=aY k:=by unfold aY;rw[hk,hk'];rfl
 have hw:fP (cJ k 0)=fP k:=by unfold fP;rw[hn];rfl
 have hc:∀o,cc (cJ k 0) o=cc k o:=fun o=>by unfold cc;rw[hn,hw,hk,hk'];rfl
 have hd:bf (cJ k 0)=bf k:=by unfold bf;rw[hk,hk'];rfl
 unfold aU at h⊢;rw[hd,hc];exact h
theorem DS {L:List Obj} {k:Key} {i:Int} (h:aU L k=true) (h2:k.kind=2) (h0:0<=i) (h1:i<16):aF L k i=cN L k i:=by
 have hl:=dz h
 have hA:ay L k 2 false=0:=by
  unfold ay;rw[Yp (by have:=hl.2.1;have:=hl.2.2.1;unfold aj;omega),Yp (by rw[h,h2];simp),Yp (by simp)]
 unfold aF bJ jv;rw[hA,Yq rfl,decide_eq_true h0,decide_eq_true h1];rfl
theorem Ka {L:List Obj} {k:Key} {i:Int} (h:aU L k=true) (h2:k.kind=2) (h0:0<=i) (h1:i<16):aF L (Key.mk 2 k.oid k.count void.call void.rights void.value) i=cN L (cJ k 0) i:=by
 rw[UH (dz h).1 h2];exact DS (SM h h2) h2 h0 h1
theorem go_eq {L:List Obj} {g:Wk} (h0:0<=g.dep) (h8:g.dep<=8):hJ L (9-g.dep).toNat g=
  if(ae L g.pos).kind=3 then(if g.adr<64 then⟨0,nu g.rts (ae L g.pos),g.adr,g.kpr,g.dep⟩else⟨2,void,0,g.kpr,0⟩)
  else if(ae L g.pos).kind=2 then match ld L g (ae L g.pos) (cN L (cJ (ae L g.pos) 0) 15) (cN L (cJ (ae L g.pos) 0) 14)with
   | (r,none)=>r
   | (_,some w')=>hJ L (8-g.dep).toNat w'
  else⟨1,void,0,g.kpr,0⟩:=by
 have e:(9-g.dep).toNat=(8-g.dep).toNat+1:=by omega
 rw[e];rfl
theorem Fx {L:List Obj} {g:Wk} (h0:0<=g.dep) (h8:g.dep<=8) (h3:(ae L g.pos).kind≠3) (h2:(ae L g.pos).kind≠2):hJ L (9-g.dep).toNat g=⟨1,void,0,g.kpr,0⟩:=by
 rw[go_eq h0 h8,Yp h3,Yp h2]
theorem Jf {L:List Obj} {g:Wk} (h0:0<=g.dep) (h8:g.dep<=8) (h3:(ae L g.pos).kind=3) (h:¬g.adr<64):hJ L (9-g.dep).toNat g=⟨2,void,0,g.kpr,0⟩:=by
 rw[go_eq h0 h8,Yq h3,Yp h]
theorem wg {L:List Obj} {g:Wk} (h0:0<=g.dep) (h8:g.dep<=8) (h3:(ae L g.pos).kind=3) (h:g.adr<64):hJ L (9-g.dep).toNat g=⟨0,nu g.rts (ae L g.pos),g.adr,g.kpr,g.dep⟩:=by
 rw[go_eq h0 h8,Yq h3,Yq h]
theorem Nk {L:List Obj} {g:Wk} (h0:0<=g.dep) (h8:g.dep<=8) (h2:(ae L g.pos).kind=2) (h:¬g.dep<8):hJ L (9-g.dep).toNat g=⟨3,void,0,g.kpr,0⟩:=by
 rw[go_eq h0 h8,Yp (by omega),Yq h2,ld,Yq (by omega)]
theorem Gu {L:List Obj} {g:Wk} (h0:0<=g.dep) (h8:g.dep<=8) (h2:(ae L g.pos).kind=2) (h:g.dep<8) (hf:pf g (cN L (cJ (ae L g.pos) 0) 15)=false):hJ L (9-g.dep).toNat g=⟨4,void,0,g.kpr,0⟩:=by
 rw[go_eq h0 h8,Yp (by omega),Yq h2,ld,Yp (by omega),hf]
 rfl
theorem BO {L:List Obj} {g:Wk} (h0:0<=g.dep) (h8:g.dep<=8) (h2:(ae L g.pos).kind=2) (h:g.dep<8) (hf:pf g (cN L (cJ (ae L g.pos) 0) 15)=true)
  (hs:¬g.adr.tdiv (aX (cN L (cJ (ae L g.pos) 0) 15).value)<14):hJ L (9-g.dep).toNat g=⟨2,void,0,u7 (mL g.rts (ae L g.pos).rights) (cN L (cJ (ae L g.pos) 0) 14) g.kpr,0⟩:=by
 rw[go_eq h0 h8,Yp (by omega),Yq h2,ld,Yp (by omega),hf,Yq rfl,Yp hs]
def Jw (L:List Obj) (g:Wk):Wk:=⟨cN L (ae L g.pos) (g.adr.tdiv (aX (cN L (cJ (ae L g.pos) 0) 15).value)),g.adr.tmod (aX (cN L (cJ (ae L g.pos) 0) 15).value),mL g.rts (ae L g.pos).rights,
 u7 (mL g.rts (ae L g.pos).rights) (cN L (cJ (ae L g.pos) 0) 14) g.kpr,g.dep+1,(cN L (cJ (ae L g.pos) 0) 15).value⟩
theorem P8 {L:List Obj} {g:Wk} (h0:0<=g.dep) (h8:g.dep<=8) (h2:(ae L g.pos).kind=2) (h:g.dep<8) (hf:pf g (cN L (cJ (ae L g.pos) 0) 15)=true)
  (hs:g.adr.tdiv (aX (cN L (cJ (ae L g.pos) 0) 15).value)<14):hJ L (9-g.dep).toNat g=hJ L (9-(g.dep+1)).toNat (Jw L g):=by
 rw[go_eq h0 h8,Yp (by omega),Yq h2,ld,Yp (by omega),hf,Yq rfl,Yq hs]
 have e:(9-(g.dep+1)).toNat=(8-g.dep).toNat:=by omega
 rw[e];rfl
theorem uu {g:Wk} {h:Key}:pf g h=true↔h.kind=1/\1<=h.value/\h.value<=8/\(g.dep=0\/h.value<g.hi):=by
 simp[pf,and_assoc]
theorem qE {a e:Int} (h0:0<=a) (he:64<=e):0<=a.tdiv e/\a.tdiv e<=a/\0<=a.tmod e/\a.tmod e<=a:=by
 rw[Int.tdiv_eq_ediv_of_nonneg h0,Int.tmod_eq_emod_of_nonneg h0];have h1:=Int.ediv_nonneg h0 (show 0<=e by omega)
 have h2:=Int.ediv_le_self e h0;have h3:=Int.emod_nonneg a (show e≠0 by omega)
 have h4:=Int.emod_add_mul_ediv a e;have h5:=Int.mul_nonneg (show 0<=e by omega) h1
 omega
theorem KK {L:List Obj} {k:Key} {a hi:Int} {g:Wk} (hI:mY L k a hi g) (h2:(ae L g.pos).kind=2) (h:g.dep<8) (hf:pf g (cN L (cJ (ae L g.pos) 0) 15)=true)
  (hs:g.adr.tdiv (aX (cN L (cJ (ae L g.pos) 0) 15).value)<14):mY L k a hi (Jw L g)/\nX (Jw L g)<nX g:=by
 obtain⟨⟨a1,a2⟩,⟨r1,r2⟩,⟨d1,d2⟩,e1,e2,e3⟩:=hI;have hf':=uu.1 hf;have he:=qD (show(cN L (cJ (ae L g.pos) 0) 15).value<=9 by omega)
 have hd:=qE a1 he.1;have hp:=n9 (oR L g.pos);have ho:=Te r1 r2 hp.1 hp.2;refine⟨⟨⟨hd.2.2.1,by have:=hd.2.2.2;simp only[Jw];omega⟩,ho.2,⟨by simp only[Jw];omega,by simp only[Jw];omega⟩,fun h=>?_,fun _=>hf'.2.2.1,?_⟩,?_⟩
 ·simp only[Jw]at h;omega
 ·rw[<-e3,P8 d1 d2 h2 h hf hs];rfl
 ·unfold nX;simp only[Jw];omega
theorem SS {L:List Obj} {k:Key} {a:Int} (x y:Int):hJ L 9 (vX k a x)=hJ L 9 (vX k a y):=by
 show NP L (8+1) _=NP L (8+1) _
 unfold NP;simp only[vX,ld,pf];rfl
theorem VH {L:List Obj} {k:Key} {a:Int} (h:¬a<0) (hi:Int):mY L k a hi (vX k a hi):=
 ⟨⟨by simp only[vX];omega,by simp only[vX];omega⟩,by simp[vX],by simp[vX],fun _=>rfl,fun h=>absurd rfl h,rfl⟩
theorem U0 {L:List Obj} {k:Key} {a hi:Int} {g:Wk} (hI:mY L k a hi g) (hE:c8 L k a=0):ar L k a=hJ L (9-g.dep).toNat g:=by
 unfold ar;rw[Yq hE,hI.2.2.2.2.2];exact SS _ _
theorem xp {L:List Obj} {k:Key} {a e:Int} (h:c8 L k a=e) (he:e≠0):void=bV (ar L k a)/\0=bU (ar L k a)/\void=cO (ar L k a)/\0=c9 (ar L k a)/\0=ej (ar L k a)/\void=fe (ar L k a)/\0=fc (ar L k a) a/\e=c8 L k a:=by
 have:ar L k a=UR:=by unfold ar;rw[Yp (by omega)]
 rw[this,h];exact⟨rfl,rfl,rfl,rfl,rfl,rfl,rfl,rfl⟩
theorem pq {L:List Obj} {k:Key} {a hi d:Int} {g:Wk} {p:Key} (hI:mY L k a hi g) (hE:c8 L k a=0) (h:hJ L (9-g.dep).toNat g=⟨d,void,0,p,0⟩) (hd:d≠0):
  void=bV (ar L k a)/\0=bU (ar L k a)/\void=cO (ar L k a)/\0=c9 (ar L k a)/\d=ej (ar L k a)/\p=fe (ar L k a)/\a=fc (ar L k a) a/\0=c8 L k a:=by
 rw[U0 hI hE,h,hE];simp only[bV,bU,cO,c9,ej,fe,fc,Yp hd];simp
theorem Ga {L:List Obj} {k:Key} {a hi ad dp:Int} {g:Wk} {q p:Key} (hI:mY L k a hi g) (hE:c8 L k a=0) (h:hJ L (9-g.dep).toNat g=⟨0,q,ad,p,dp⟩):
  q=bV (ar L k a)/\ad=bU (ar L k a)/\p=cO (ar L k a)/\dp=c9 (ar L k a)/\0=ej (ar L k a)/\void=fe (ar L k a)/\0=fc (ar L k a) a/\0=c8 L k a:=by
 rw[U0 hI hE,h,hE];exact⟨rfl,rfl,rfl,rfl,rfl,rfl,rfl,rfl⟩
theorem zS (L:List Obj) (v:Key):(!decide (bD v=0)||bf v&&decide (an L<=cS v))= !cZ L v:=by
 rw[<-A7]
 have:decide (an L<=cS v)= !decide (cS v<an L):=by
  rw[Bool.eq_iff_iff];simp
 rw[this];cases decide (bD v=0)<;>cases bf v<;>cases decide (cS v<an L)<;>rfl
theorem Vk {L:List Obj} {k:Key} {a:Int} (h:decide (an L=0)=true):c8 L k a=1:=by
 have h:=Yn h;unfold an at h;unfold c8;rw[Yq (by omega)]
theorem OO {L:List Obj} {k:Key} {a:Int} (h:decide (an L=0)=false):c8 L k a=if cZ L k then(if a<0 then 4 else 0)else 2:=by
 have h:=Ym h;unfold an at h;unfold c8;rw[Yp (by omega)]
theorem PQ {L:List Obj} {k:Key} (hk:aT k=true) (hL:0<L.length):(k.kind=1->ae L k=k)/\(k.kind≠1->(ae L k).kind≠1):=by
 refine⟨fun h=>?_,fun h=>?_⟩
 ·unfold ae;rw[Yp]
  have hs:bB L=false:=by
   unfold bB aj;rw[decide_eq_false];omega
  have hn:bf k=false:=by unfold bf dG;rw[h,hk];rfl
  rw[hs,hk,hn];simp
 ·unfold ae;split
  ·simp[void]
  ·exact h
end Go.Sx
namespace Go.Sx
def bQ (L:List Obj) (k:Key) (a n:Int):Int:=if c8 L k a=0 then(if n<0\/64<n then 4 else 0)else c8 L k a
def bH (L:List Obj) (k:Key) (a n:Int) (w:Bool):Int:=if bQ L k a n=0 then(if(ar L k a).kd=0 then(if 64<(ar L k a).adr+n then 5 else if(w&& !decide ((ar L k a).pos.rights=0))=true then 6 else 0)else(ar L k a).kd)else 0
def eM (L:List Obj) (k:Key) (a n:Int) (w:Bool):Key:=if bH L k a n w=0 then void else(ar L k a).kpr
def eU (L:List Obj) (k:Key) (a n:Int) (w:Bool):Int:=if bH L k a n w=0 then 0 else a
def kQ (L:List Obj) (k:Key) (a n:Int) (w:Bool):Bool:=decide (bQ L k a n=0)&&decide (bH L k a n w=0)
def bx (L:List Obj) (k:Key) (a n:Int) (w:Bool):Wr:=if kQ L k a n w=true then ar L k a else UR
def Sz (L:List Obj) (k:Key) (a n:Int) (w:Bool):V:= .ag [.it .i64 (bH L k a n w),.key (eM L k a n w),.it .i64 (eU L k a n w)]
def jH (L:List Obj) (k:Key) (a n:Int):ByteArray:=if kQ L k a n false=true then dQ L (bV (bx L k a n false)) (bU (bx L k a n false)) n else⟨#[]⟩
def jz (L:List Obj) (k:Key) (a:Int) (s:ByteArray):List Obj:=if kQ L k a (bW s) true=true then ec L (bV (bx L k a (bW s) true)) (bU (bx L k a (bW s) true)) s else L
def Wx (L:List Obj) (k:Key) (a n:Int) (w:Bool):V:= .tp [VX (bx L k a n w),Sz L k a n w,.it .i64 (bQ L k a n)]
def U9:Ct:=sE (bk sA (bk kA (bk iA (bk iA (bk bA iv))))) (fun _=>none) fun x=>Wx (DV x.1) x.2.1 x.2.2.1 x.2.2.2.1 x.2.2.2.2.1
def Su:Ct:=sE (bk AR (bk kA (bk iA (bk iA (bk bA iv))))) (fun x=>some (aq x.1)) fun x=>Wx x.1 x.2.1 x.2.2.1 x.2.2.2.1 x.2.2.2.2.1
def jt (L:List Obj) (k:Key) (i:Int) (s:ByteArray):Bool:=decide (cq L k i s=0)
def Wf:kI:=zm z8 (fun L x=>aq L/\aw x.2.2) (fun L x=>jt L x.1 x.2.1 x.2.2) (fun L x=>ec L x.1 x.2.1 x.2.2) fun L x=> [.it .i64 (cq L x.1 x.2.1 x.2.2)]
def Xh:Ct:=sE (bk sA (bk kA (bk iA (bk iA iv)))) (fun _=>none) fun x=> .tp [.st (jH (DV x.1) x.2.1 x.2.2.1 x.2.2.2.1),Sz (DV x.1) x.2.1 x.2.2.1 x.2.2.2.1 false,.it .i64 (bQ (DV x.1) x.2.1 x.2.2.1 x.2.2.2.1)]
def Ve:Ct:=sE (bk AR (bk kA (bk iA (bk iA iv)))) (fun x=>some (aq x.1)) fun x=> .tp [.st (jH x.1 x.2.1 x.2.2.1 x.2.2.2.1),Sz x.1 x.2.1 x.2.2.1 x.2.2.2.1 false,.it .i64 (bQ x.1 x.2.1 x.2.2.1 x.2.2.2.1)]
def VN:kI:=WJ z8 (fun x=>aw x.2.2) (fun L x=>aq L/\aw x.2.2) (fun L x=> .tp [Sz L x.1 x.2.1 (bW x.2.2) true,.it .i64 (bQ L x.1 x.2.1 (bW x.2.2))]) fun L x=>jz L x.1 x.2.1 x.2.2
def Vl:kI:=zm z8 (fun L x=>aq L/\aw x.2.2) (fun L x=>kQ L x.1 x.2.1 (bW x.2.2) true) (fun L x=>jz L x.1 x.2.1 x.2.2) fun L x=> [Sz L x.1 x.2.1 (bW x.2.2) true,.it .i64 (bQ L x.1 x.2.1 (bW x.2.2))]
theorem Om {L:List Obj} {k:Key} {r:Int} (h:aU L k=true) (h3:k.kind=3):aU L (nu r k)=true/\(nu r k).kind=3:=by
 unfold nu;split
 ·exact⟨h,h3⟩
 ·refine⟨?_,h3⟩;have hk:=(dz h).1;have hm:eK k.kind=1:=by rw[h3];rfl
  have hk':aT (cJ k 1)=true:=by
   have hk1:=hk;simp only[aT,Yj,Yk]at hk1⊢;obtain⟨⟨⟨⟨⟨⟨⟨x1,x2⟩,x3⟩,x4⟩,x5⟩,x6⟩,x7⟩,x8⟩:=hk1;exact⟨⟨⟨⟨⟨⟨⟨x1,x2⟩,by show(0:Int)<=1;omega⟩,by show 1<=eK k.kind;omega⟩,x5⟩,x6⟩,x7⟩,x8⟩
  have hn:aY (cJ k 1)=aY k:=by unfold aY;rw[hk,hk'];rfl
  have hw:fP (cJ k 1)=fP k:=by unfold fP;rw[hn];rfl
  have hc:∀o,cc (cJ k 1) o=cc k o:=fun o=>by unfold cc;rw[hn,hw,hk,hk'];rfl
  have hd:bf (cJ k 1)=bf k:=by unfold bf;rw[hk,hk'];rfl
  unfold aU at h⊢;rw[hd,hc];exact h
theorem F7 {L:List Obj}:∀(n:Nat) (w:Wk),0<=w.adr->(hJ L n w).kd=0->(aU L (hJ L n w).pos=true/\(hJ L n w).pos.kind=3)/\0<=(hJ L n w).adr/\(hJ L n w).adr<64
 |0,w,_,h=>absurd h (by show¬(3:Int)=0;omega)
 |n+1,w,ha,h=>by
  unfold hJ NP at h⊢;split at h
  ·rename_i h3;split at h
   ·rename_i hlt;rw[Yq h3,Yq hlt];obtain⟨pe,pi⟩:=Bz (.inr h3);rw[pe]at h3⊢;exact⟨Om pi h3,ha,hlt⟩
   ·exact absurd h (by show¬(2:Int)=0;omega)
  ·rename_i h3;rw[Yp h3];split at h
   ·rename_i h2;rw[Yq h2];split at h
    ·rename_i r hr;unfold ld at hr;split at hr
     ·simp only[Yi,and_true]at hr;subst hr;exact absurd h (by show¬(3:Int)=0;omega)
     ·split at hr
      ·split at hr<;>simp only[Yi,and_true,reduceCtorEq,and_false]at hr
       subst hr;exact absurd h (by show¬(2:Int)=0;omega)
      ·simp only[Yi,and_true]at hr;subst hr;exact absurd h (by show¬(4:Int)=0;omega)
    ·rename_i r w' hr;refine F7 n w' ?_ h;unfold ld at hr;split at hr
     ·simp at hr
     ·split at hr
      ·rename_i hf;split at hr<;>simp only[Yi,Yh,reduceCtorEq,and_false]at hr
       obtain⟨_,rfl⟩:=hr;have hf':=uu.1 hf;have he:=qD (show(cN L (cJ (ae L w.pos) 0) 15).value<=9 by omega)
       exact(qE ha he.1).2.2.1
      ·simp at hr
   ·exact absurd h (by show¬(1:Int)=0;omega)
theorem D2 {L:List Obj} {k:Key} {a:Int} (hE:c8 L k a=0) (h:(ar L k a).kd=0):(aU L (ar L k a).pos=true/\(ar L k a).pos.kind=3)/\0<=(ar L k a).adr/\(ar L k a).adr<64:=by
 have ha:0<=a:=by
  unfold c8 at hE;split at hE
  ·omega
  ·split at hE
   ·split at hE<;>omega
   ·omega
 unfold ar at h⊢;rw[Yq hE]at h⊢;exact F7 9 _ ha h
theorem sd {L:List Obj} {k:Key} {a n:Int} {w:Bool}:(!decide (bQ L k a n=0)|| !decide (bH L k a n w=0))= !kQ L k a n w:=by
 unfold kQ;cases decide (bQ L k a n=0)<;>cases decide (bH L k a n w=0)<;>rfl
theorem rM {L:List Obj} {k:Key} {a n:Int} {w:Bool} (h:kQ L k a n w=true):bQ L k a n=0/\bH L k a n w=0:=by
 unfold kQ at h;simpa using h
theorem KX {L:List Obj} {k:Key} {a n e:Int} (h:c8 L k a=e) (he:e≠0):bQ L k a n=e:=by unfold bQ;rw[h,Yp he]
theorem VO {L:List Obj} {k:Key} {a n:Int} (h:c8 L k a=0) (hr:(decide (n<0)||decide (64<n))=true):bQ L k a n=4:=by
 unfold bQ;rw[Yq h,Yq (by simpa using hr)]
theorem Tt {L:List Obj} {k:Key} {a n:Int} (h:c8 L k a=0) (hr:(decide (n<0)||decide (64<n))=false):bQ L k a n=0:=by
 unfold bQ;rw[Yq h,Yp (by simpa using hr)]
theorem yd {L:List Obj} {k:Key} {a n:Int} (h:bQ L k a n=0):c8 L k a=0/\0<=n/\n<=64:=by
 unfold bQ at h;split at h
 ·rename_i hw;split at h
  ·omega
  ·exact⟨hw,by omega,by omega⟩
 ·rename_i hw;exact absurd h hw
theorem TA {L:List Obj} {k:Key} {a n:Int} {w:Bool} (h:kQ L k a n w=true):c8 L k a=0/\(ar L k a).kd=0/\0<=n/\(ar L k a).adr+n<=64/\(w=true->(ar L k a).pos.rights=0):=by
 unfold kQ at h;rw[Yj,Yk,Yk]at h;obtain⟨hE,hF⟩:=h;obtain⟨h1,h2,h3⟩:=yd hE;unfold bH at hF;rw[Yq hE]at hF;split at hF
 ·rename_i hk;split at hF
  ·omega
  ·split at hF
   ·omega
   ·rename_i h4 h5;exact⟨h1,hk,h2,by omega,fun hw=>by rw[hw]at h5;simpa using h5⟩
 ·rename_i hk;exact absurd hF hk
theorem oD {L:List Obj} {k:Key} {a n e:Int} {w:Bool} (h:bQ L k a n=e) (he:e≠0):void=bV (bx L k a n w)/\0=bU (bx L k a n w)/\void=cO (bx L k a n w)/\0=c9 (bx L k a n w)/\0=bH L k a n w/\void=eM L k a n w/\0=eU L k a n w/\e=bQ L k a n:=by
 have hF:bH L k a n w=0:=by unfold bH;rw[h,Yp he]
 have hC:kQ L k a n w=false:=by unfold kQ;rw[h,decide_eq_false he];rfl
 unfold bx eM eU;rw[hC,hF,h];exact⟨rfl,rfl,rfl,rfl,rfl,rfl,rfl,rfl⟩
theorem rj {L:List Obj} {k:Key} {a n d:Int} {w:Bool} (hE:bQ L k a n=0) (h:bH L k a n w=d) (hd:d≠0):void=bV (bx L k a n w)/\0=bU (bx L k a n w)/\void=cO (bx L k a n w)/\0=c9 (bx L k a n w)/\d=bH L k a n w/\(ar L k a).kpr=eM L k a n w/\a=eU L k a n w/\0=bQ L k a n:=by
 have hC:kQ L k a n w=false:=by unfold kQ;rw[h,decide_eq_false hd,Bool.and_false]
 unfold bx eM eU;rw[hC,h,hE,Yp hd,Yp hd];exact⟨rfl,rfl,rfl,rfl,rfl,rfl,rfl,rfl⟩
theorem FO {L:List Obj} {k:Key} {a n:Int} {w:Bool} (hE:bQ L k a n=0) (h:bH L k a n w=0):bV (ar L k a)=bV (bx L k a n w)/\bU (ar L k a)=bU (bx L k a n w)/\cO (ar L k a)=cO (bx L k a n w)/\c9 (ar L k a)=c9 (bx L k a n w)/\0=bH L k a n w/\void=eM L k a n w/\0=eU L k a n w/\0=bQ L k a n:=by
 have hC:kQ L k a n w=true:=by unfold kQ;rw[h,hE];rfl
 unfold bx eM eU;rw[hC,h,hE];exact⟨rfl,rfl,rfl,rfl,rfl,rfl,rfl,rfl⟩
theorem Mu {r:Wr} (h:r.kd=0):bV r=r.pos/\bU r=r.adr/\cO r=r.kpr:=by
 unfold bV bU cO;rw[Yq h,Yq h,Yq h];exact⟨rfl,rfl,rfl⟩
theorem Vr {r:Wr} {a:Int} (h:r.kd≠0):ej r=r.kd/\fe r=r.kpr/\fc r a=a:=by
 unfold fe fc;rw[Yp h,Yp h];exact⟨rfl,rfl,rfl⟩
theorem VK {L:List Obj} {k:Key} {a n:Int} {w:Bool} (hE:bQ L k a n=0) (h:(ar L k a).kd≠0):bH L k a n w=(ar L k a).kd:=by unfold bH;rw[Yq hE,Yp h]
theorem Vs {L:List Obj} {k:Key} {a n:Int} {w:Bool} (hE:bQ L k a n=0) (h:(ar L k a).kd=0) (h5:64<(ar L k a).adr+n):bH L k a n w=5:=by unfold bH;rw[Yq hE,Yq h,Yq h5]
theorem V6 {L:List Obj} {k:Key} {a n:Int} {w:Bool} (hE:bQ L k a n=0) (h:(ar L k a).kd=0) (h5:¬64<(ar L k a).adr+n) (h6:(w&& !decide ((ar L k a).pos.rights=0))=true):bH L k a n w=6:=by unfold bH;rw[Yq hE,Yq h,Yp h5,Yq h6]
theorem Vf {L:List Obj} {k:Key} {a n:Int} {w:Bool} (hE:bQ L k a n=0) (h:(ar L k a).kd=0) (h5:¬64<(ar L k a).adr+n) (h6:(w&& !decide ((ar L k a).pos.rights=0))=false):bH L k a n w=0:=by unfold bH;rw[Yq hE,Yq h,Yp h5,Yp (by rw[h6];simp)]
theorem MN {L:List Obj} {k:Key} {a n:Int} {w:Bool} (h:kQ L k a n w=true):(aU L (bV (bx L k a n w))=true/\(bV (bx L k a n w)).kind=3)/\aS L (bV (bx L k a n w)) w=0/\bZ (bU (bx L k a n w)) n=true:=by
 obtain⟨h1,h2,h3,h4,h5⟩:=TA h;obtain⟨⟨e1,e2⟩,e3,e4⟩:=D2 h1 h2;obtain⟨f1,f2,_⟩:=Mu h2;unfold bx;rw[Yq h,f1,f2];have hl:=dz e1
 have hA:ay L (ar L k a).pos 3 false=0:=by
  unfold ay;rw[Yp (by have:=hl.2.1;have:=hl.2.2.1;unfold aj;omega),Yp (by rw[e1,e2];simp),Yp (by simp)]
 refine⟨⟨e1,e2⟩,?_,mM.2 ⟨e3,h3,by omega,by omega⟩⟩
 unfold aS;rw[Yq hA,Yp];cases w
 ·simp
 ·simp[h5 rfl]
theorem Fc {L:List Obj} {k:Key} {i:Int} {s:ByteArray} (hL:aq L):aq (ec L k i s):=by
 unfold ec;split
 ·rename_i h;unfold cq at h;split at h
  ·rename_i hp;obtain⟨a1,a2,_⟩:=lP hp;exact(p9 hL a1 a2).2.2
  ·rename_i hp;exact absurd h hp
 ·exact hL
theorem SR {L:List Obj} {k:Key} {a:Int} {s:ByteArray} (hL:aq L):aq (jz L k a s):=by
 unfold jz;split
 ·exact Fc hL
 ·exact hL
structure Yf where
 kind:Int
 num:Int
 root:Key
 adr:Int
 bytes:ByteArray
structure Yg where
 hgt:Int
 slot:Int
 rts:Int
 kept:Bool
theorem UB {L:List Obj} {k:Key} {a:Int} {s:ByteArray} (h:kQ L k a (bW s) true=false):jz L k a s=L:=by unfold jz;rw[h];rfl
end Go.Sx
