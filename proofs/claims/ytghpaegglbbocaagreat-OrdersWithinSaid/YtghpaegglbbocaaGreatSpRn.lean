import Derived.Test.YtghpaegglbbocaaGreatSRl
set_option linter.unusedSimpArgs false
set_option linter.unusedVariables false
namespace Go.Sx
def ez (l:List Obj) (a:Av):aZ:=bX l a.now a.key a.msg
def JV (l:List Obj) (a:Av):Int:=fu l a.now a.key a.msg
def Bx (l:List Obj) (a:Av):List Obj:=jl l a.now a.key a.msg
def uD (l:List Obj) (a:Av) (g:Int×Bool):Prop:=
 0<=g.1/\g.1<=16/\(g.2=true\/∃j:Int,g.1<=j/\j<16/\cT (ez l a).k0 ((aq l a.key.oid.toNat free).slots.at j.toNat)=true)
def yS (g:Int×Bool):Nat:=(16-g.1).toNat
def Qd (l:List Obj) (a:Av):Bool:=decide ((ez l a).k0.kind=0)||decide ((ez l a).k0.kind=1)||cT (ez l a).k0 a.key||cT (ez l a).k0 a.msg.k0||cT (ez l a).k0 a.msg.k1||cT (ez l a).k0 a.msg.k2
def Mm (l:List Obj) (a:Av):Int:=lW (imax (bn (ez l a).k0) 0) (en (aE l)-1)
def Lm (l:List Obj) (a:Av):Bool:=decide (0<=bn (ez l a).k0)&&decide (bn (ez l a).k0<en (aE l))
def JW (l:List Obj) (a:Av):Bool:=
 decide ((ez l a).k0.kind=0)||decide ((ez l a).k0.kind=1)||cT (ez l a).k0 a.key||cT (ez l a).k0 a.msg.k0||cT (ez l a).k0 a.msg.k1||cT (ez l a).k0 a.msg.k2||decide (0<=bn (ez l a).k0)&&decide (bn (ez l a).k0<en (aE l))&&decide ((ez l a).k0.count=(aq l (lW (imax (bn (ez l a).k0) 0) (en (aE l)-1)).toNat free).count+1)||decide (a.key.kind=2)&&decide (a.key.rights=0)&&tF (ez l a).k0 (Key.mk 5 a.key.oid a.key.count void.call void.rights void.value)||decide (a.key.kind=5)&&decide ((ez l a).k0.kind=6)&&decide ((ez l a).k0.oid=a.key.oid)&&decide ((ez l a).k0.count=a.key.count)
def qT (l:List Obj) (k v:Key):Prop:=
 v.kind=0\/cT v k=true\/(0<=v.oid/\v.oid<(l.length:Int)/\bn v=v.oid/\v.count=(aq l v.oid.toNat free).count+1)\/
 (k.kind=2/\k.rights=0/\v=⟨5,k.oid,k.count,0,0,0⟩)\/(k.kind=5/\v.kind=6/\v.oid=k.oid/\v.count=k.count)\/
 ((k.kind=2\/k.kind=5)/\0<=k.oid/\k.oid<(l.length:Int)/\∃j:Int,0<=j/\j<16/\cT v ((aq l k.oid.toNat free).slots.at j.toNat)=true)
def yh (l:List Obj) (k:Key) (m:aZ):Prop:=m.code=0/\aB m.k0=true/\qT l k m.k0/\m.k1=void/\(m.k2.kind=0\/m.k2.kind=1)
theorem kU {l:List Obj} {k v:Key} (h1:aB v=true) (h2:qT l k v):yh l k (eW v):=⟨rfl,h1,h2,rfl,.inl rfl⟩
theorem lR {l:List Obj} {k:Key}:yh l k ey:=⟨rfl,gM,.inl rfl,rfl,.inl rfl⟩
theorem ni {l:List Obj} {k:Key} {n:Int}:yh l k (fG n):=⟨rfl,gM,.inl rfl,rfl,.inr rfl⟩
theorem GL {l:List Obj} {k:Key} {s:ByteArray}:yh l k (gq s):=⟨rfl,gM,.inl rfl,rfl,.inl rfl⟩
theorem sS {k:Key} (h:aB k=true):cT k k=true:=by unfold cT;rw[h,rj];simp
theorem xA {r:Int} (h:0<=r/\r<=7) {s:Int} (h':0<=s/\s<=7):cx (cx s r) s=cx s r:=by
 have key:∀x y:Fin 8,cx (cx (y.val:Int) (x.val:Int)) (y.val:Int)=cx (y.val:Int) (x.val:Int):=by decide+kernel
 obtain⟨x,rfl⟩:=sG h;obtain⟨y,rfl⟩:=sG h';exact key x y
theorem F8 {r:Int} (h:0<=r/\r<=7) {s:Int} (h':0<=s/\s<=1):0<=cx s (r.tmod 2)/\cx s (r.tmod 2)<=1:=by
 have key:∀x y:Fin 8,y.val<=1->0<=cx (y.val:Int) ((x.val:Int).tmod 2)/\cx (y.val:Int) ((x.val:Int).tmod 2)<=1:=by decide+kernel
 obtain⟨x,rfl⟩:=sG h;obtain⟨y,rfl⟩:=sG (a:=s) (by omega)
 exact key x y (by omega)
theorem Ia {r:Int} (h:0<=r/\r<=7) {s:Int} (h':0<=s/\s<=1):cx (cx s (r.tmod 2)) s=cx s (r.tmod 2):=by
 have key:∀x y:Fin 8,y.val<=1->cx (cx (y.val:Int) ((x.val:Int).tmod 2)) (y.val:Int)=cx (y.val:Int) ((x.val:Int).tmod 2):=by decide+kernel
 obtain⟨x,rfl⟩:=sG h;obtain⟨y,rfl⟩:=sG (a:=s) (by omega)
 exact key x y (by omega)
theorem rV {k:Key} {r:Int} (h:aB k=true) (h':0<=r/\r<=cm k.kind):aB (bR k r)=true:=by
 simp only[aB,bR,Th,Ti]at h⊢;grind
theorem qV {k:Key} {r:Int} (h:aB k=true) (h':0<=r/\r<=cm k.kind) (h2:k.kind=2\/k.kind=3) (h3:cx r k.rights=r):cT (bR k r) k=true:=by
 unfold cT;rw[rV h h',h];unfold bR;simp only[h3,decide_true,Bool.and_true,Bool.true_and];rcases h2 with e|e<;>simp[e]
theorem xh {l:List Obj} {k:Key} {r:Int} (h:aB k=true) (h':0<=r/\r<=7):aB (jR k r)=true/\cT (jR k r) k=true:=by
 have hr:=eR h;unfold jR;split
 ·rename_i e;have hm:cm k.kind=7:=by rw[e];rfl
  rw[hm]at hr;have hw:0<=cx k.rights r/\cx k.rights r<=cm k.kind:=by rw[hm];exact uU
  exact⟨rV h hw,qV h hw (.inl e) (xA h' hr)⟩
 ·split
  ·rename_i e;have hm:cm k.kind=1:=by rw[e];rfl
   rw[hm]at hr;have hw:0<=cx k.rights (r.tmod 2)/\cx k.rights (r.tmod 2)<=cm k.kind:=by rw[hm];exact F8 h' hr
   exact⟨rV h hw,qV h hw (.inr e) (Ia h' hr)⟩
  ·exact⟨h,sS h⟩
theorem Ic {s:Key} (h:aB s=true):(mU s).kind=0\/cT (mU s) s=true:=by
 have hr:=eR h;unfold mU;split
 ·rename_i e;have hm:cm s.kind=7:=by rw[e];rfl
  rw[hm]at hr;right
  exact qV h (by rw[hm];exact zP _) (.inl e) (xA (by omega) hr)
 ·split
  ·rename_i e;have hm:cm s.kind=1:=by rw[e];rfl
   rw[hm]at hr;right
   refine qV h (by rw[hm];omega) (.inr e) ?_
   have:s.rights=0\/s.rights=1:=by omega
   rcases this with e|e<;>rw[e]<;>decide
  ·split
   ·exact .inr (sS h)
   ·exact .inl rfl
theorem Bc {l:List Obj} {s:Key}:(ae l s)=void\/(ae l s)=s:=by
 unfold ae;split
 ·exact .inl rfl
 ·exact .inr rfl
theorem Mj {l:List Obj} {k:Key} {i:Int} (hL:an l) (h:aM l k=true) (h2:k.kind=2) (h0:0<=i) (h1:i<16):
  aB (cM l k i)=true/\((cM l k i).kind=0\/cT (cM l k i) ((aq l k.oid.toNat free).slots.at i.toNat)=true):=by
 have hl:=(lE hL).1;refine⟨(DO (by omega) k i).1,?_⟩
 have hs:=(pY hL h h2 i.toNat (by omega)).1
 unfold cM gW;rcases Bc (l:=l) (s:=(aq l k.oid.toNat free).slots.at i.toNat)with e|e
 ·rw[e];left
  split
  ·rfl
  ·rfl
 ·rw[e];split
  ·exact Ic hs
  ·exact .inr (sS hs)
theorem z9 {l:List Obj} {k v:Key} {i:Int} (hL:an l) (h:aM l k=true) (h2:k.kind=2) (h0:0<=i) (h1:i<16) (ho:v.oid=k.oid) (hv:v.kind=2\/v.kind=5):aB (cM l k i)=true/\qT l v (cM l k i):=by
 obtain⟨a,b⟩:=Mj hL h h2 h0 h1;obtain⟨_,b2,b3,_⟩:=ea h;refine⟨a,?_⟩;rcases b with b|b
 ·exact .inl b
 ·exact .inr (.inr (.inr (.inr (.inr ⟨hv,by rw[ho];exact b2,by rw[ho];exact b3,i,h0,h1,by rw[ho];exact b⟩))))
theorem o8 {l:List Obj} {k:Key}:aB void=true/\qT l k void:=⟨gM,.inl rfl⟩
theorem xe {l:List Obj} {k v:Key} {i:Int} (hL:an l) (ho:v.oid=k.oid) (hv:v.kind=2\/v.kind=5):aB (aC l k i)=true/\qT l v (aC l k i):=by
 by_cases hE:bF l k i=0
 ·have hA:aJ l k 2 false=0:=Decidable.byContradiction fun hh=>by rw[(Gi hh).1]at hE;exact hh hE
  have hr:¬(i<0\/15<i):=fun hh=>by rw[(JK hA hh).1]at hE;omega
  obtain⟨a1,a2,_⟩:=iz hA;have:aC l k i=cM l k i:=by unfold aC;rw[To hE]
  rw[this];exact z9 hL a1 a2 (by omega) (by omega) ho hv
 ·have:aC l k i=void:=by unfold aC;rw[Tn hE]
  rw[this];exact o8
theorem xY {l:List Obj} {k v w:Key} {i:Int} (hL:an l) (ho:v.oid=k.oid) (hv:v.kind=2\/v.kind=5):aB (c8 l k i w)=true/\qT l v (c8 l k i w):=by
 by_cases hE:bk l k i w=0
 ·obtain⟨hA,h0,h1⟩:=vP hE;obtain⟨a1,a2,_⟩:=iz hA;have:c8 l k i w=cM l k i:=by unfold c8;rw[To hE]
  rw[this];exact z9 hL a1 a2 h0 h1 ho hv
 ·have:c8 l k i w=void:=by unfold c8;rw[Tn hE]
  rw[this];exact o8
theorem zu {l:List Obj} {k v:Key} (hL:an l) (hk:v.kind=2\/v.kind=3\/v.kind=4) (h0:0<=v.oid) (h1:v.oid<(l.length:Int)) (hc:v.count=(aq l v.oid.toNat free).count+1) (hn:dq (aq l v.oid.toNat free)=true) (e1:v.call=0) (e2:v.rights=0) (e3:v.value=0):
  aB v=true/\qT l k v:=by
 have hl:=(lE hL).2;have ho:=dJ.1 (dt hL v.oid.toNat (by omega))
 simp only[dq,Th,Ti]at hn
 have hok:aB v=true:=by
  obtain⟨_,_,_,_,c0,_,_⟩:=ho;rcases hk with e|e|e<;>simp[aB,dV,cA,eI,gY,cm,e,e1,e2,e3]<;>omega
 refine⟨hok,.inr (.inr (.inl ⟨h0,h1,?_,hc⟩))⟩;unfold bn;rw[hok];have:cA v.kind=true:=by unfold cA;grind
 rw[this];rfl
theorem qU {l:List Obj} {k:Key} {c:Int} (hL:an l):aB (bS l k c)=true/\qT l k (bS l k c):=by
 by_cases hE:cw l k c=0
 ·obtain⟨b1,b2,b3,b4,b5,b6,b7,b8⟩:=Kh hE;obtain⟨_,a0,_⟩:=jT b1;have hK:bS l k c=bI c (dD l (au l k) (ay l k)) ((aq l (dD l (au l k) (ay l k)).toNat free).count+1):=by unfold bS;rw[To hE]
  refine zu hL ?_ (by omega) b5 b8 b7 ?_ ?_ ?_<;>rw[hK]<;>unfold bI<;>first|rfl| (simp only;split<;>simp)
 ·have:bS l k c=void:=by unfold bS;rw[Tn hE]
  rw[this];exact o8
theorem DQ {l:List Obj} {k:Key} {n:Int} (hL:an l):aB (bJ l k n)=true/\qT l k (bJ l k n):=by
 by_cases hE:bN l k n=0
 ·obtain⟨he,hI⟩:=HU hE;obtain⟨_,a0,a1,a2,a3,a4⟩:=jT he;have hK:bJ l k n=⟨4,dQ l k,(aq (cR l k) (dQ l k).toNat free).count,0,0,0⟩:=by unfold bJ;rw[To hE]
  rcases sR (L:=l) (l:=ay l k) a0 with e|⟨i1,i2,i3,i4⟩
  ·have:dQ l k= -1:=e;omega
  have i3:dQ l k<(l.length:Int):=i3;have hI':¬dD l (au l k) (ay l k)= -1:=by have:dQ l k=dD l (au l k) (ay l k):=rfl;omega
  have hc:(aq (cR l k) (dQ l k).toNat free).count=(aq l (dQ l k).toNat free).count+1:=by
   unfold cR jb;rw[Tn hI'];have hlen:(bz l (au l k) (dD l (au l k) (ay l k))).length=l.length:=fw;have:dQ l k=dD l (au l k) (ay l k):=rfl;rw[this,eV (by rw[hlen];omega),To rfl]
   rfl
  refine zu hL ?_ ?_ ?_ ?_ ?_ ?_ ?_ ?_<;>rw[hK]
  ·exact .inr (.inr rfl)
  ·exact hI
  ·exact i3
  ·exact hc
  ·exact i4
  all_goals rfl
 ·have:bJ l k n=void:=by unfold bJ;rw[Tn hE]
  rw[this];exact o8
theorem Ka {l:List Obj} {k:Key} {m:aZ} (hL:an l) (hk:aB k=true) (h2:k.kind=2) (h:(gC l k m).1=0):yh l k (gC l k m).2.1:=by
 unfold gC at h⊢;by_cases c1:m.code=1
 ·rw[To c1];obtain⟨a,b⟩:=xe (l:=l) (k:=k) (v:=k) (i:=aP m) hL rfl (.inl h2);exact kU a b
 rw[Tn c1]at h⊢;by_cases c2:m.code=2
 ·rw[To c2];obtain⟨a,b⟩:=xY (l:=l) (k:=k) (v:=k) (w:=m.k0) (i:=aP m) hL rfl (.inl h2);exact kU a b
 rw[Tn c2]at h⊢;by_cases c3:m.code=3
 ·rw[To c3];exact lR
 rw[Tn c3]at h⊢;by_cases c4:m.code=4
 ·rw[To c4];exact lR
 rw[Tn c4]at h⊢;by_cases c5:m.code=5
 ·rw[To c5]at h⊢
  have hr:0<=m.k2.value/\m.k2.value<=7:=by
   simp only at h;split at h
   ·assumption
   ·omega
  obtain⟨a,b⟩:=xh (l:=l) hk hr;exact kU a (.inr (.inl b))
 rw[Tn c5]at h⊢
 have hr:k.rights=0:=by
  simp only at h;split at h
  ·assumption
  ·omega
 refine kU ?_ (.inr (.inr (.inr (.inl ⟨h2,hr,rfl⟩))));simp[aB,dV,cA,eI,gY,cm,h2]at hk⊢;omega
theorem Kw {l:List Obj} {k:Key} {m:aZ} (hL:an l) (hk:aB k=true) (h:(gd l k m).1=0):yh l k (gd l k m).2.1:=by
 unfold gd at h⊢;by_cases c1:m.code=1
 ·rw[To c1];exact GL
 rw[Tn c1]at h⊢;by_cases c2:m.code=2
 ·rw[To c2];exact lR
 rw[Tn c2]at h⊢;by_cases c3:m.code=3
 ·rw[To c3];exact lR
 rw[Tn c3]at h⊢;by_cases c4:m.code=4
 ·rw[To c4];exact lR
 rw[Tn c4]at h⊢
 have hr:0<=m.k2.value/\m.k2.value<=7:=by
  simp only at h;split at h
  ·assumption
  ·omega
 obtain⟨a,b⟩:=xh (l:=l) hk hr;exact kU a (.inr (.inl b))
theorem Mz {l:List Obj} {k:Key} {m:aZ} (hL:an l):yh l k (gJ l k m).2.1:=by
 unfold gJ;by_cases c1:m.code=1
 ·rw[To c1];exact kU (qU hL).1 (qU hL).2
 rw[Tn c1];by_cases c2:m.code=2
 ·rw[To c2];exact kU (qU hL).1 (qU hL).2
 rw[Tn c2];by_cases c3:m.code=3
 ·rw[To c3];exact lR
 rw[Tn c3];by_cases c4:m.code=4
 ·rw[To c4];exact kU (DQ hL).1 (DQ hL).2
 rw[Tn c4];by_cases c5:m.code=5
 ·rw[To c5];exact ni
 rw[Tn c5];exact ni
theorem K7 {l:List Obj} {k:Key} {m:aZ} (hL:an l) (hk:aB k=true) (h2:k.kind=5):yh l k (fB l k m).2.1:=by
 unfold fB;by_cases c1:m.code=1
 ·rw[To c1];obtain⟨a,b⟩:=xe (l:=l) (k:=er k) (v:=k) (i:=aP m+4) hL rfl (.inr h2);exact kU a b
 rw[Tn c1];by_cases c2:m.code=2
 ·rw[To c2];obtain⟨a,b⟩:=xY (l:=l) (k:=er k) (v:=k) (w:=m.k0) (i:=aP m+4) hL rfl (.inr h2);exact kU a b
 rw[Tn c2];by_cases c3:m.code=3
 ·rw[To c3];refine kU ?_ (.inr (.inr (.inr (.inr (.inl ⟨h2,rfl,rfl,rfl⟩)))));simp[aB,dV,cA,eI,gY,cm,h2]at hk⊢;omega
 rw[Tn c3];by_cases c4:m.code=4
 ·rw[To c4];exact ni
 rw[Tn c4];by_cases c5:m.code=5
 ·rw[To c5];exact lR
 rw[Tn c5];by_cases c6:m.code=6
 ·rw[To c6];exact GL
 rw[Tn c6];exact lR
theorem CT {l:List Obj} {n:Int} {k:Key} {m:aZ} (hL:an l) (hk:aB k=true) (h:(cr l n k m).1=0):yh l k (cr l n k m).2.1:=by
 unfold cr at h⊢;by_cases c0:k.kind=0
 ·rw[To c0];exact lR
 rw[Tn c0]at h⊢;by_cases c1:m.code=0
 ·rw[To c1];exact ni
 rw[Tn c1]at h⊢;split at h
 ·simp at h
 rename_i hb;rw[Tn hb];unfold dR at h⊢;by_cases d1:k.kind=1
 ·rw[To d1];exact ni
 rw[Tn d1]at h⊢;by_cases d2:k.kind=2
 ·rw[To d2]at h⊢;exact Ka hL hk d2 h
 rw[Tn d2]at h⊢;by_cases d3:k.kind=3
 ·rw[To d3]at h⊢;exact Kw hL hk h
 rw[Tn d3]at h⊢;by_cases d4:k.kind=4
 ·rw[To d4];exact Mz hL
 rw[Tn d4];by_cases d5:k.kind=5
 ·rw[To d5];exact K7 hL hk d5
 rw[Tn d5];by_cases d8:k.kind=8
 ·rw[To d8];by_cases e1:m.code=1
  ·simp only[To e1];exact ni
  ·by_cases e2:m.code=2
   ·simp only[Tn e1,To e2];exact ni
   ·simp only[Tn e1,Tn e2];exact ni
 rw[Tn d8];by_cases d9:k.kind=9
 ·rw[To d9];exact ni
 rw[Tn d9];exact lR
def Kept (l L:List Obj):Prop:=L=l\/∃f g:Int,L=bz l f g
theorem Dm {l L:List Obj} (h:Kept l L) {i:Int} (h0:0<=i) (h1:i<(l.length:Int)):aH L i=aq l i.toNat free\/(aH L i).kind=3:=by
 rcases h with rfl|⟨f,g,rfl⟩
 ·exact .inl (gw h0 h1)
 ·have hl:(bz l f g).length=l.length:=fw;rw[gw h0 (by rw[hl];exact h1)]
  unfold bz;rw[gT (by omega)]
  split
  ·exact .inr rfl
  ·exact .inl rfl
theorem Lh {l:List Obj} {n:Int} {k:Key} {m:aZ} (h:(cr l n k m).1≠0):Kept l (cr l n k m).2.2:=by
 have ite_k:∀{c:Prop} [Decidable c] {a b:FH},(a.1≠0->Kept l a.2.2)->(b.1≠0->Kept l b.2.2)->(if c then a else b).1≠0->Kept l (if c then a else b).2.2:=fun{c} _ {a b} ha hb=>by
  by_cases hc:c
  ·rw[To hc];exact ha
  ·rw[Tn hc];exact hb
 have same:∀{e:Int} {x:aZ},((e,x,l):FH).1≠0->Kept l ((e,x,l):FH).2.2:=fun _=> .inl rfl
 have mk:∀{c:Int},cw l k c≠0->Kept l (eO l k c):=fun{c} h=>by
  unfold cw at h;unfold eO;split at h
  ·rename_i e0;rw[To e0];split at h
   ·rename_i e1;unfold jb;rw[To e1];exact .inr ⟨_,_,rfl⟩
   ·simp at h
  ·rename_i e0;rw[Tn e0];exact .inl rfl
 revert h
 unfold cr;refine ite_k same (ite_k same (ite_k same ?_));unfold dR;refine ite_k same (ite_k ?_ (ite_k ?_ (ite_k ?_ (ite_k ?_ (ite_k same (ite_k same same))))))
 ·unfold gC;refine ite_k same (ite_k (fun h=> .inl ?_) (ite_k (fun h=> .inl ?_) (ite_k (fun h=> .inl ?_) (ite_k same same))))
  ·show cG l k (aP m) m.k0=l
   unfold cG;rw[Tn h]
  ·show fe l k=l
   unfold fe;rw[Tn h]
  ·show eA l k m.k0=l
   unfold eA;rw[Tn h]
 ·unfold gd;refine ite_k same (ite_k (fun h=> .inl ?_) (ite_k (fun h=> .inl ?_) (ite_k (fun h=> .inl ?_) same)))
  ·show ew l k (aP m) m.data=l
   unfold ew;rw[Tn h]
  ·show eL l k=l
   unfold eL;rw[Tn h]
  ·show e9 l k m.k0=l
   unfold e9;rw[Tn h]
 ·unfold gJ;refine ite_k mk (ite_k mk (ite_k (fun h=> .inl ?_) (ite_k (fun h=> .inl ?_) (ite_k same (fun h=> .inl ?_)))))
  ·show gA l k m.k0=l
   unfold gA;rw[Tn h]
  ·show bc l k (aP m)=l
   unfold bc;rw[Tn h]
  ·show iu l k=l
   unfold iu;rw[Tn h]
 ·unfold fB;refine ite_k same (ite_k (fun h=> .inl ?_) (ite_k same (ite_k same (ite_k (fun h=> .inl ?_) (ite_k same (fun h=> .inl ?_))))))
  ·show(if aP m<0\/11<aP m then l else cG l (er k) (aP m+4) m.k0)=l
   have h:(if aP m<0\/11<aP m then 4 else bk l (er k) (aP m+4) m.k0)≠0:=h
   by_cases hc:aP m<0\/11<aP m
   ·rw[To hc]
   ·rw[Tn hc]at h⊢;unfold cG;rw[Tn h]
  ·show jm l k.oid (aP m)=l
   unfold jm;rw[Tn h]
  ·show j3 l (dS l k) m.k2.value m.data=l
   refine Po ?_;have h:(if b9 l (dS l k) m.k2.value (dK m.data)=0 then(if bU l (dS l k) m.k2.value (dK m.data) true=0 then 0 else 1000+bU l (dS l k) m.k2.value (dK m.data) true)else b9 l (dS l k) m.k2.value (dK m.data))≠0:=h
   unfold qi;by_cases a:b9 l (dS l k) m.k2.value (dK m.data)=0
   ·rw[To a]at h;by_cases b:bU l (dS l k) m.k2.value (dK m.data) true=0
    ·rw[To b]at h;simp at h
    ·simp[b]
   ·simp[a]
theorem NQ {l:List Obj} {a:Av} (hL:an l) (h:JV l a≠0\/(ez l a).code≠0):(∀i:Int,0<=i->i<(l.length:Int)->aH (Bx l a) i=aq l i.toNat free\/(aH (Bx l a) i).kind=3)/\
  (ez l a).k0=void/\(ez l a).k1=void/\(ez l a).k2=void/\(ez l a).data=⟨#[]⟩:=by
 unfold JV ez Bx at *;by_cases he:fu l a.now a.key a.msg=0
 ·have h:(bX l a.now a.key a.msg).code≠0:=by rcases h with h|h;exact absurd he h;exact h
  unfold bX at h⊢;unfold jl;rw[To he]at h⊢;rw[To he];unfold cF at h⊢;unfold dg;by_cases hr:(cr l a.now (ae l a.key) (qY l a.msg)).1=0
  ·rw[To hr]at h;exact absurd (CT hL pP hr).1 h
  ·rw[Tn hr];exact⟨fun i h0 h1=>Dm (Lh hr) h0 h1,rfl,rfl,rfl,rfl⟩
 ·unfold bX jl;rw[Tn he,Tn he];exact⟨fun i h0 h1=>Dm (.inl rfl) h0 h1,rfl,rfl,rfl,rfl⟩
theorem Rj {l:List Obj} {a:Av} (hL:an l) (h:JV l a=0) (h2:(ez l a).code=0):aB (ez l a).k0=true/\(ez l a).k1=void/\((ez l a).k2.kind=0\/(ez l a).k2.kind=1)/\
  (JW l a=true\/((a.key.kind=2\/a.key.kind=5)/\0<=a.key.oid/\a.key.oid<(l.length:Int)/\∃j:Int,0<=j/\j<16/\cT (ez l a).k0 ((aq l a.key.oid.toNat free).slots.at j.toNat)=true)):=by
 have hM:ez l a=cF l a.now (ae l a.key) (qY l a.msg):=by
  have h:fu l a.now a.key a.msg=0:=h;unfold ez bX;rw[To h]
 rw[hM]at h2;unfold cF at h2;by_cases hr:(cr l a.now (ae l a.key) (qY l a.msg)).1=0
 case neg=>
  rw[Tn hr]at h2;exact absurd h2 hr
 have hM2:ez l a=(cr l a.now (ae l a.key) (qY l a.msg)).2.1:=by rw[hM];unfold cF;rw[To hr]
 obtain⟨_,t1,t2,t3,t4⟩:=CT hL pP hr;rw[<-hM2]at t1 t2 t3 t4;refine⟨t1,t3,t4,?_⟩;have hk:ae l a.key=void\/ae l a.key=a.key:=Bc
 have hvk:∀v:Key,cT v void=true->v.kind=0:=fun v hv=>by
  unfold cT at hv;have e1:void.kind=0:=rfl;by_cases e:v.kind=0
  ·exact e
  ·simp only[Th,Bool.or_eq_true,Ti,e1,e,false_or,and_assoc]at hv;rcases hv.2.2 with h|h
   ·have:v=void:=by simpa[tF]using h
    rw[this];rfl
   ·exact absurd h.1 (by intro hh;rcases hh with hh|hh<;>simp[hh]at h)
 rcases t2 with t|t|⟨t,t',t'',t'''⟩|⟨t,t',t''⟩|⟨t,t',t'',t'''⟩|⟨t,t',t'',j,j0,j1,t'''⟩
 ·left;unfold JW;simp[t]
 ·rcases hk with e|e
  ·rw[e]at t;have:=hvk _ t;left;unfold JW;simp[this]
  ·rw[e]at t;left;unfold JW;simp[t]
 ·left
  have e:lW (imax (bn (ez l a).k0) 0) (en (aE l)-1)=(ez l a).k0.oid:=by
   rw[t''];unfold lW imax en aE;omega
  unfold JW;rw[e,t''];have h1:decide (0<=(ez l a).k0.oid)=true:=decide_eq_true t;have h2:decide ((ez l a).k0.oid<en (aE l))=true:=decide_eq_true (by unfold en aE;exact t')
  rw[h1,h2,decide_eq_true t'''];simp
 ·rcases hk with e|e
  ·rw[e]at t;exact absurd t (by decide)
  ·rw[e]at t t' t'';left;unfold JW
   rw[t''];have:tF (Key.mk 5 a.key.oid a.key.count 0 0 0) (Key.mk 5 a.key.oid a.key.count void.call void.rights void.value)=true:=rj _;simp[t,t',this]
 ·rcases hk with e|e
  ·rw[e]at t;exact absurd t (by decide)
  ·rw[e]at t t'' t''';left;unfold JW
   simp[t,t',t'',t''']
 ·rcases hk with e|e
  ·rw[e]at t;exact absurd t (by decide)
  ·rw[e]at t t' t'' t''';exact .inr ⟨t,t',t'',j,j0,j1,t'''⟩
end Go.Sx
