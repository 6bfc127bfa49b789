import Derived.Test.YtghpaegglbbocaaGreatCP
import Derived.Test.YtghpaegglbbocaaGreatSpB
import Derived.Test.YtghpaegglbbocaaGreatKS
import Derived.Test.YtghpaegglbbocaaGreatCV
set_option linter.unusedSimpArgs false
set_option linter.unusedVariables false
namespace Go.Proofs.YtghpaegglbbocaaGreat
open Go.Sx
theorem KW (L:List Sx.Obj) (k:Key):
 ((!decide (ay L k 4 false=0))=true->0=aH L k/\0=aA L k/\ay L k 4 false=aK L k)/\((!decide (ay L k 4 false=0))=false->(0<=k.oid/\k.oid< ↑(aj L))/\
   k.oid.toNat<aj L/\(0<=k.oid/\k.oid< ↑(aj L))/\k.oid.toNat<aj L/\((!decide (((ah L k.oid.toNat free).slots.at 0).kind=1)|| !decide (((ah L k.oid.toNat free).slots.at 1).kind=1)
   ||decide (((ah L k.oid.toNat free).slots.at 0).value<0)||decide (((ah L k.oid.toNat free).slots.at 1).value<((ah L k.oid.toNat free).slots.at 0).value)||decide (b9 (aj L)<=((ah L
   k.oid.toNat free).slots.at 1).value))=true->0=aH L k/\0=aA L k/\220=aK L k)/\((!decide (((ah L k.oid.toNat free).slots.at 0).kind=1)|| !decide (((ah L k.oid.toNat
   free).slots.at 1).kind=1)||decide (((ah L k.oid.toNat free).slots.at 0).value<0)||decide (((ah L k.oid.toNat free).slots.at 1).value<((ah L k.oid.toNat free).slots.at 0).value)||
   decide (b9 (aj L)<=((ah L k.oid.toNat free).slots.at 1).value))=false->((ah L k.oid.toNat free).slots.at 0).value=aH L k/\((ah L k.oid.toNat free).slots.at 1).value=aA L k/\0
   =aK L k)):=by
 rw[J8];refine⟨fun h=>?_,fun h=>?_⟩
 ·obtain⟨e1,e2,e3⟩:=EO (show ay L k 4 false≠0 by simpa using h)
  rw[e1,e2,e3];exact⟨rfl,rfl,rfl⟩
 ·have h0:ay L k 4 false=0:=by simpa using h
  obtain⟨_,b2,b3,_⟩:=dC (fH h0).1;refine⟨⟨b2,b3⟩,by unfold aj;omega,⟨b2,b3⟩,by unfold aj;omega,fun h2=>?_,fun h2=>?_⟩
  ·obtain⟨e1,e2,e3⟩:=BF h0 (by simpa using h2)
   rw[e1,e2,e3];exact⟨rfl,rfl,rfl⟩
  ·obtain⟨e1,e2,e3⟩:=tg h0 (by simpa using h2)
   rw[e1,e2,e3];exact⟨rfl,rfl,rfl⟩
theorem pR:ck Tryz.prog 181 Qf:=
 eO (aJ ju CR) (fun _=>rfl) fun a hq hok=>by
  obtain⟨L,k,_⟩:=a;exact aV (inl:=bn) (ann:=aP) (ab od ak) (KW L k) (by kernel_rfl)
theorem HC (L:List Sx.Obj) (f l kind:Int) (hq:Dh L f l):
 (∃g,uv L f l g/\f=f/\l=l/\kind=kind/\f=g/\L=L)/\(∀(g:Int),uv L f l g->(decide (g<=l)=true->(0<=g/\g< ↑(aj L))/\g.toNat<aj L/\((!decide ((ah L g.toNat
  free).kind=0))=true->aG IntKind.i64 (g+1)/\((∃g',uv L f l g'/\(l+1-g').toNat<(l+1-g).toNat/\f=f/\l=l/\kind=kind/\g+1=g'/\L=L)\/∃g',qN L f l g'/\(l
  +1-g').toNat<(l+1-g).toNat/\False))/\((!decide ((ah L g.toNat free).kind=0))=false->(decide (4294967295<=(ah L g.toNat free).count)=true->dS L g/\aG IntKind.i64 (g+1)
  /\((∃g',uv L f l g'/\(l+1-g').toNat<(l+1-g).toNat/\False)\/∃g',qN L f l g'/\(l+1-g').toNat<(l+1-g).toNat/\f=f/\l=l/\kind=kind/\g+1=g'/\L=L/\cC
  L g.toNat (Obj.mk 3 (ah L g.toNat free).count free.calls free.slots free.bytes)=bE L f g'))/\(decide (4294967295<=(ah L g.toNat free).count)=false->aG IntKind.i64 ((ah L g.toNat
  free).count+1)/\dS L g/\kC L f l=true/\g=bh L f l/\cC L g.toNat (Obj.mk kind ((ah L g.toNat free).count+1) free.calls free.slots free.bytes)=cg L f l kind)))/\(decide
  (g<=l)=false->kC L f l=false/\ -1=bh L f l))/\∀(g:Int),qN L f l g->(decide (g<=l)=true->(0<=g/\g< ↑(aj (bE L f g)))/\g.toNat<aj (bE L f g)/\((!decide
  ((ah (bE L f g) g.toNat free).kind=0))=true->aG IntKind.i64 (g+1)/\∃g',qN L f l g'/\(l+1-g').toNat<(l+1-g).toNat/\f=f/\l=l/\kind=kind/\g+1=g'/\L=L/\
  bE L f g=bE L f g')/\((!decide ((ah (bE L f g) g.toNat free).kind=0))=false->(decide (4294967295<=(ah (bE L f g) g.toNat free).count)=true->dS (bE L f g) g/\aG
  IntKind.i64 (g+1)/\∃g',qN L f l g'/\(l+1-g').toNat<(l+1-g).toNat/\f=f/\l=l/\kind=kind/\g+1=g'/\L=L/\cC (bE L f g) g.toNat (Obj.mk 3 (ah (bE L f g)
  g.toNat free).count free.calls free.slots free.bytes)=bE L f g')/\(decide (4294967295<=(ah (bE L f g) g.toNat free).count)=false->aG IntKind.i64 ((ah (bE L f g) g.toNat
  free).count+1)/\dS (bE L f g) g/\kC L f l=true/\g=bh L f l/\cC (bE L f g) g.toNat (Obj.mk kind ((ah (bE L f g) g.toNat free).count+1) free.calls free.slots
  free.bytes)=cg L f l kind)))/\(decide (g<=l)=false->kC L f l=true/\ -1=bh L f l/\bE L f g=cg L f l kind):=by
 obtain⟨hL,h0,hl,hfl⟩:=hq;have hlen:=kG hL;have hll:(aj L:Int)=(L.length:Int):=rfl;have hrq:∀(M:List Sx.Obj) (g:Int),M.length=L.length->0<=g->g<=l->dS M g:=fun M g hM h1 h2=>⟨h1,by unfold aj;omega,by unfold aj;omega⟩
 have hin:∀g:Int,0<=g->g<=l->aG IntKind.i64 (g+1):=fun g h1 h2=>by simp only[aG,bY];omega
 have hcnt:∀j:Nat,j<L.length->0<=(ah L j free).count/\(ah L j free).count<=4294967295:=fun j hj=>⟨(jg (dW hL j hj)).1,(jg (dW hL j hj)).2.1⟩
 have hci:∀j:Nat,j<L.length->aG IntKind.i64 ((ah L j free).count+1):=fun j hj=>by have:=hcnt j hj;simp only[aG,bY];omega
 refine⟨⟨f,⟨by omega,hfl,sd,GR⟩,(by(repeat' apply And.intro)<;>rfl)⟩,fun g hg=>⟨fun hgl=>?_,fun hgl=>?_⟩,fun g hg=>⟨fun hgl=>?_,fun hgl=>?_⟩⟩
 ·obtain⟨g0,g1,g2,g3⟩:=hg;have hgl:=Ys hgl;have hgn:g.toNat<L.length:=by omega
  refine⟨⟨by omega,by omega⟩,hgn,fun hk=>?_,fun hk=>⟨fun hc=>?_,fun hc=>?_⟩⟩
  ·obtain⟨e1,e2⟩:=wA (o:=ah L g.toNat free) (by simpa using hk)
   exact⟨hin g (by omega) hgl,.inl ⟨g+1,⟨by omega,by omega,iY g2 e2,by rw[Fi (by omega) e1];exact g3⟩,by omega,(by(repeat' apply And.intro)<;>rfl)⟩⟩
  ·obtain⟨e1,e2⟩:=Bp (o:=ah L g.toNat free) (by simpa using hk) (Ys hc)
   have hs:=wR (L:=L) (f:=f) (g:=g) (by omega) (by omega) g0 e1
   rw[xJ g3]at hs;exact⟨hrq L g rfl (by omega) hgl,hin g (by omega) hgl,.inr ⟨g+1,⟨by omega,by omega,iY g2 e2,C8 (by omega) (by omega) g0 e1⟩,by omega,rfl,rfl,rfl,rfl,rfl,hs⟩⟩
  ·obtain⟨e1,e2⟩:=AB (o:=ah L g.toNat free) (by simpa using hk) (Yr hc)
   obtain⟨m1,m2,m3⟩:=wP kind h0 g0 hgl (by omega) g2 e2
   rw[xJ g3]at m3;exact⟨hci _ hgn,hrq L g rfl (by omega) hgl,m2,m1.symm,m3.symm⟩
 ·obtain⟨g0,g1,g2,g3⟩:=hg;have hgl:=Yr hgl;have:g=l+1:=by omega
  subst this;obtain⟨m1,m2,m3⟩:=Bl kind g2;exact⟨by rw[m3];exact g3,m1.symm⟩
 ·obtain⟨g0,g1,g2,g3⟩:=hg;have hgl:=Ys hgl;have hgn:g.toNat<L.length:=by omega
  have hgl2:(aj (bE L f g):Int)=(L.length:Int):=by unfold aj;rw[jK]
  have hga:=AD (L:=L) (f:=f) (g:=g) (by omega)
  rw[hga];refine⟨⟨by omega,by omega⟩,by omega,fun hk=>?_,fun hk=>⟨fun hc=>?_,fun hc=>?_⟩⟩
  ·obtain⟨e1,e2⟩:=wA (o:=ah L g.toNat free) (by simpa using hk)
   exact⟨hin g (by omega) hgl,g+1,⟨by omega,by omega,iY g2 e2,by rw[Fi (by omega) e1];exact g3⟩,by omega,rfl,rfl,rfl,rfl,rfl,(xj (by omega) e1).symm⟩
  ·obtain⟨e1,e2⟩:=Bp (o:=ah L g.toNat free) (by simpa using hk) (Ys hc)
   exact⟨hrq _ g jK (by omega) hgl,hin g (by omega) hgl,g+1,⟨by omega,by omega,iY g2 e2,C8 (by omega) (by omega) g0 e1⟩,by omega,rfl,rfl,rfl,rfl,rfl,wR (by omega) (by omega) g0 e1⟩
  ·obtain⟨e1,e2⟩:=AB (o:=ah L g.toNat free) (by simpa using hk) (Yr hc)
   obtain⟨m1,m2,m3⟩:=wP kind h0 g0 hgl (by omega) g2 e2
   exact⟨hci _ hgn,hrq _ g jK (by omega) hgl,m2,m1.symm,m3.symm⟩
 ·obtain⟨g0,g1,g2,g3⟩:=hg;have hgl:=Yr hgl;have:g=l+1:=by omega
  subst this;obtain⟨m1,m2,m3⟩:=Bl kind g2;exact⟨by rw[m3];exact g3,m1.symm,m2.symm⟩
theorem GP (L:List Sx.Obj) (f l kind:Int) (hq:Dh L f l):ai Tryz.prog 182 [.sa 0,.it .i64 f,.it .i64 l,.it .i64 kind] [.ro (.arr none 163 (.ob L))] (yV (kC L f l) (cg L f l kind) [.it .i64 (bh L f l)]) (fun _ _=>False):=
 bp (inl:=bn) (ann:=(iz [(182,2,U9 [0,1,2,3] (fun g=> [(10,.it .i64 g)]) 0 tO 163 (fun g=> .ob (bE L f g)) (uv L f l) (qN L f l) (yy l 1))])) (ab kz ak) aC (HC L f l kind hq) (by kernel_rfl)
theorem zG:lG Tryz.prog 182 KN:=
 iw (m:=fun x=>XB.cn x 0) (gh Tc (fun _=>rfl)) (fun _=>rfl) (fun _ _=>rfl) fun L x hq=>GP L x.1 x.2.1 x.2.2.1 hq
theorem KB (L:List Sx.Obj) (k:Key) (kind:Int) (hL:aq L):
 ((decide (aK L k=0)&& !decide (kind=1)&& !decide (kind=2))=true->fN L k kind=false/\void=cN L k kind/\2=bX L k kind)/\((decide (aK L k=0)&& !decide (kind=1)
   && !decide (kind=2))=false->((!decide (aK L k=0))=true->fN L k kind=false/\void=cN L k kind/\aK L k=bX L k kind)/\((!decide (aK L k=0))=false->true=
   true/\Dh L (aH L k) (aA L k)/\(kC L (aH L k) (aA L k)=false->(decide (bh L (aH L k) (aA L k)<0)=true->fN L k kind=false/\void=cN L k kind/\221=
   bX L k kind)/\(decide (bh L (aH L k) (aA L k)<0)=false->aG IntKind.i64 (1+kind)/\(0<=bh L (aH L k) (aA L k)/\bh L (aH L k) (aA L k)< ↑(aj L))/\
   (bh L (aH L k) (aA L k)).toNat<aj L/\fN L k kind=false/\Key.mk (1+kind) (bh L (aH L k) (aA L k)) (ah L (bh L (aH L k) (aA L k)).toNat free).count
   void.call void.rights void.value=cN L k kind/\0=bX L k kind))/\(kC L (aH L k) (aA L k)=true->(decide (bh L (aH L k) (aA L k)<0)=true->fN L k kind=true
   /\(void=cN L k kind/\221=bX L k kind)/\cg L (aH L k) (aA L k) kind=eI L k kind)/\(decide (bh L (aH L k) (aA L k)<0)=false->aG IntKind.i64 (1+kind)/\
   (0<=bh L (aH L k) (aA L k)/\bh L (aH L k) (aA L k)< ↑(aj (cg L (aH L k) (aA L k) kind)))/\(bh L (aH L k) (aA L k)).toNat<aj (cg L (aH L k)
   (aA L k) kind)/\fN L k kind=true/\(Key.mk (1+kind) (bh L (aH L k) (aA L k)) (ah (cg L (aH L k) (aA L k) kind) (bh L (aH L k) (aA L k)).toNat free).count
   void.call void.rights void.value=cN L k kind/\0=bX L k kind)/\cg L (aH L k) (aA L k) kind=eI L k kind)))):=by
 refine⟨fun h=>?_,fun h=>⟨fun h2=>?_,fun h2=>?_⟩⟩
 ·simp only[Yo,Bool.not_eq_true',Yp,decide_eq_false_iff_not]at h;exact Q0 h.1.1 h.1.2 h.2
 ·exact RJ (by simpa using h2)
 ·have h2:aK L k=0:=by simpa using h2
  have hk:kind=1\/kind=2:=by
   simp only[h2,decide_true,Bool.true_and,Bool.and_eq_false_iff,Bool.not_eq_false',Yp]at h;exact h
  obtain⟨_,a0,a1,a2,_⟩:=lE h2;obtain⟨x1,x2⟩:=zW h2;have hlen:=kG hL;rw[x1,x2];have hin:aG IntKind.i64 (1+kind):=by simp only[aG,bY];omega
  have hm:=uN (L:=L) (l:=aE L k) a0;refine⟨rfl,⟨hL,a0,a2,by omega⟩,fun hc=>⟨fun hi=>?_,fun hi=>?_⟩,fun hc=>⟨fun hi=>?_,fun hi=>?_⟩⟩
  ·have hi:=Ys hi;obtain⟨m1,m2,m3,m4⟩:=xN h2 hk (by omega)
   exact⟨m1.trans hc,m2,m3⟩
  ·have hi:=Yr hi;rw[BQ (by omega)]at hc
   simp at hc
  ·have hi:=Ys hi;obtain⟨m1,m2,m3,m4⟩:=xN h2 hk (by omega)
   exact⟨m1.trans hc,⟨m2,m3⟩,m4⟩
  ·have hi:=Yr hi;obtain⟨m1,m2,m3,m4⟩:=FK h2 hk (by omega)
   rw[show aj (cg L (au L k) (aE L k) kind)=L.length from sO];exact⟨hin,⟨by omega,by omega⟩,by omega,m1,⟨m2,m3⟩,m4⟩
theorem NC (L:List Sx.Obj) (k:Key) (kind:Int) (hL:aq L):ai Tryz.prog 121 [.sa 0,.key k,.it .i64 kind] [.ro (.arr none 163 (.ob L))] (yV (fN L k kind) (eI L k kind) [.key (cN L k kind),.it .i64 (bX L k kind)]) (fun _ _=>False):=
 bp (inl:=bn) (ann:=aP) (ab pR ak) (aD zG aC) (KB L k kind hL) (by kernel_rfl)
theorem ND:lG Tryz.prog 121 Ov:=
 iw (m:=fun x=>QT.cn x 0) (gh Bv (fun _=>rfl)) (fun _=>rfl) (fun _ _=>rfl) fun L x hq=>NC L x.1 x.2.1 hq
theorem PG (L:List Sx.Obj) (k v:Key) (hL:aq L):
 ((!decide (aK L k=0))=true->iU L k v=false/\aK L k=b8 L k v)/\((!decide (aK L k=0))=false->((!aU L v|| !decide (v.kind=2)&& !decide (v.kind=3))=true->
   iU L k v=false/\5=b8 L k v)/\((!aU L v|| !decide (v.kind=2)&& !decide (v.kind=3))=false->((decide (v.oid<aH L k)||decide (aA L k<v.oid)||decide (v.oid=k.oid))
   =true->iU L k v=false/\4=b8 L k v)/\((decide (v.oid<aH L k)||decide (aA L k<v.oid)||decide (v.oid=k.oid))=false->(0<=v.oid/\v.oid< ↑(aj L))/\v.oid.toNat<
   aj L/\dS L v.oid/\iU L k v=true/\0=b8 L k v/\cC L v.oid.toNat (Obj.mk free.kind (ah L v.oid.toNat free).count free.calls free.slots free.bytes)=fM L k v))):=by
 refine⟨fun h=>?_,fun h=>⟨fun h2=>?_,fun h2=>⟨fun h3=>?_,fun h3=>?_⟩⟩⟩
 ·have h:aK L k≠0:=by simpa using h
  have e:b8 L k v=aK L k:=by unfold b8;rw[Yu h]
  exact⟨by unfold iU;rw[e];simpa using h,e.symm⟩
 ·have h:aK L k=0:=by simpa using h
  have e:b8 L k v=5:=by unfold b8;rw[Yv h,ye,h2];rfl
  exact⟨by unfold iU;rw[e];rfl,e.symm⟩
 ·have h:aK L k=0:=by simpa using h
  obtain⟨x1,x2⟩:=zW h;rw[x1,x2]at h3
  have e:b8 L k v=4:=by
   unfold b8;rw[Yv h,ye,h2,Yv (show(!false)=true from rfl),Yu];simp only[Bool.or_eq_true,Yp]at h3;omega
  exact⟨by unfold iU;rw[e];rfl,e.symm⟩
 ·have h:aK L k=0:=by simpa using h
  obtain⟨x1,x2⟩:=zW h;rw[x1,x2]at h3;have ht:gW L v=true:=by rw[ye,h2];rfl
  obtain⟨_,b2,b3,_⟩:=dC (DI ht)
  have e:b8 L k v=0:=by
   unfold b8;rw[Yv h,ht,Yv rfl,Yv];simp only[Bool.or_eq_false_iff,decide_eq_false_iff_not]at h3;omega
  have hlen:=kG hL;exact⟨⟨b2,b3⟩,by unfold aj;omega,⟨b2,b3,by unfold aj;omega⟩,by unfold iU;rw[e];rfl,e.symm,by unfold fM;rw[Yv e];rfl⟩
theorem Ro (L:List Sx.Obj) (k v:Key) (hL:aq L):ai Tryz.prog 122 [.sa 0,.key k,.key v] [.ro (.arr none 163 (.ob L))] (yV (iU L k v) (fM L k v) [.it .i64 (b8 L k v)]) (fun _ _=>False):=
 bp (inl:=bn) (ann:=aP) (ab pR (ab mw (ab kz ak))) aC (PG L k v hL) (by kernel_rfl)
theorem Q8:lG Tryz.prog 122 TA:=
 iw (m:=fun x=>NP.cn x 0) (gh vn (fun _=>rfl)) (fun _=>rfl) (fun _ _=>rfl) fun L x hq=>Ro L x.1 x.2.1 hq
theorem Lz (L:List Sx.Obj) (k:Key) (hL:aq L):
 ((!decide (aK L k=0))=true->jR L k=false/\0=eJ L k/\aK L k=aK L k)/\((!decide (aK L k=0))=false->(∃g,sS L k g/\aH L k=aH L k/\aA L k=
   aA L k/\0=dX L (au L k) g k.oid/\aH L k=g/\L=L/\k=k)/\(∀(g:Int),sS L k g->(decide (g<=aA L k)=true->(0<=g/\g< ↑(aj L))/\g.toNat<aj L/\((!decide
   ((ah L g.toNat free).kind=1))=true->0<=g/\g< ↑(aj L))/\((!decide ((ah L g.toNat free).kind=1))=true->g.toNat<aj L)/\(((decide ((ah L g.toNat free).kind=1)||decide ((ah
   L g.toNat free).kind=2))&& !decide (g=k.oid))=true->(0<=g/\g< ↑(aj L))/\g.toNat<aj L/\dS L g/\aG IntKind.i64 (dX L (au L k) g k.oid+1)/\aG IntKind.i64 (g+1)/\
   ((∃g',sS L k g'/\(aE L k+1-g').toNat<(aE L k+1-g).toNat/\False)\/∃g',qU L k g'/\(aE L k+1-g').toNat<(aE L k+1-g).toNat/\aH L k=aH L k/\
   aA L k=aA L k/\dX L (au L k) g k.oid+1=dX L (au L k) g' k.oid/\g+1=g'/\L=L/\k=k/\cC L g.toNat (Obj.mk free.kind (ah L g.toNat free).count free.calls
   free.slots free.bytes)=di L (au L k) g' k.oid))/\(((decide ((ah L g.toNat free).kind=1)||decide ((ah L g.toNat free).kind=2))&& !decide (g=k.oid))=false->aG IntKind.i64 (g+
   1)/\((∃g',sS L k g'/\(aE L k+1-g').toNat<(aE L k+1-g).toNat/\aH L k=aH L k/\aA L k=aA L k/\dX L (au L k) g k.oid=dX L (au L k) g' k.oid
   /\g+1=g'/\L=L/\k=k)\/∃g',qU L k g'/\(aE L k+1-g').toNat<(aE L k+1-g).toNat/\False)))/\(decide (g<=aA L k)=false->jR L k=false/\dX L (au L k)
   g k.oid=eJ L k/\0=aK L k))/\∀(g:Int),qU L k g->(decide (g<=aA L k)=true->(0<=g/\g< ↑(aj (di L (au L k) g k.oid)))/\g.toNat<aj (di L (au L k) g
   k.oid)/\((!decide ((ah (di L (au L k) g k.oid) g.toNat free).kind=1))=true->0<=g/\g< ↑(aj (di L (au L k) g k.oid)))/\((!decide ((ah (di L (au L k) g k.oid) g.toNat
   free).kind=1))=true->g.toNat<aj (di L (au L k) g k.oid))/\(((decide ((ah (di L (au L k) g k.oid) g.toNat free).kind=1)||decide ((ah (di L (au L k) g k.oid)
   g.toNat free).kind=2))&& !decide (g=k.oid))=true->(0<=g/\g< ↑(aj (di L (au L k) g k.oid)))/\g.toNat<aj (di L (au L k) g k.oid)/\dS (di L (au L k) g k.oid) g
   /\aG IntKind.i64 (dX L (au L k) g k.oid+1)/\aG IntKind.i64 (g+1)/\∃g',qU L k g'/\(aE L k+1-g').toNat<(aE L k+1-g).toNat/\aH L k=aH L k/\aA L k
   =aA L k/\dX L (au L k) g k.oid+1=dX L (au L k) g' k.oid/\g+1=g'/\L=L/\k=k/\cC (di L (au L k) g k.oid) g.toNat (Obj.mk free.kind (ah (di L (au L k)
   g k.oid) g.toNat free).count free.calls free.slots free.bytes)=di L (au L k) g' k.oid)/\(((decide ((ah (di L (au L k) g k.oid) g.toNat free).kind=1)||decide ((ah (di L
   (au L k) g k.oid) g.toNat free).kind=2))&& !decide (g=k.oid))=false->aG IntKind.i64 (g+1)/\∃g',qU L k g'/\(aE L k+1-g').toNat<(aE L k+1-g).toNat/\aH L k
   =aH L k/\aA L k=aA L k/\dX L (au L k) g k.oid=dX L (au L k) g' k.oid/\g+1=g'/\L=L/\k=k/\di L (au L k) g k.oid=di L (au L k) g' k.oid))/\
   (decide (g<=aA L k)=false->jR L k=true/\(dX L (au L k) g k.oid=eJ L k/\0=aK L k)/\di L (au L k) g k.oid=gf L k)):=by
 refine⟨fun h=>?_,fun h=>?_⟩
 ·have h:aK L k≠0:=by simpa using h
  exact⟨by unfold jR;simp[h],by unfold eJ;rw[Yu h],rfl⟩
 have h:aK L k=0:=by simpa using h
 obtain⟨_,a0,a1,a2,_⟩:=lE h;obtain⟨x1,x2⟩:=zW h;have hlen:=kG hL;have hll:(aj L:Int)=(L.length:Int):=rfl;rw[x1,x2];have hit:∀g:Int,(((decide ((ah L g.toNat free).kind=1)||decide ((ah L g.toNat free).kind=2))&& !decide (g=k.oid)))=jl L g k.oid:=fun g=>rfl
 have hin:∀g:Int,au L k<=g->g<=aE L k->aG IntKind.i64 (g+1):=fun g h1 h2=>by simp only[aG,bY];omega
 have hnn:∀g:Int,aG IntKind.i64 (dX L (au L k) g k.oid+1):=fun g=>by
  have:=sC (L:=L) (f:=au L k) (g:=g) (oid:=k.oid);have:=Ly (L:=L) (f:=au L k) (g:=g) (oid:=k.oid);simp only[aG,bY];omega
 refine⟨⟨au L k,⟨by omega,by omega,sK⟩,rfl,rfl,sK.symm,rfl,rfl,rfl⟩,fun g hg=>⟨fun hgl=>?_,fun hgl=>?_⟩,fun g hg=>⟨fun hgl=>?_,fun hgl=>?_⟩⟩
 ·obtain⟨g0,g1,g2⟩:=hg;have hgl:=Ys hgl;have hr1:0<=g/\g<(aj L:Int):=⟨by omega,by omega⟩
  have hr2:g.toNat<aj L:=by omega
  rw[hit g];refine⟨hr1,hr2,fun _=>hr1,fun _=>hr2,fun hh=>?_,fun hh=>?_⟩
  ·have hs:=yS (L:=L) (f:=au L k) (oid:=k.oid) (by omega:0<=g) (by omega) g0 hh
   have hs2:=BG (L:=L) (f:=au L k) (oid:=k.oid) (by omega:0<=g) (by omega) g0 hh
   rw[w8 g2]at hs2;exact⟨hr1,hr2,⟨by omega,by omega,by omega⟩,hnn g,hin g g0 hgl,.inr ⟨g+1,⟨by omega,by omega,by omega⟩,by omega,rfl,rfl,hs.symm,rfl,rfl,rfl,hs2⟩⟩
  ·have hs:=tn (L:=L) (f:=au L k) (oid:=k.oid) (by omega:0<=g) g0 hh
   exact⟨hin g g0 hgl,.inl ⟨g+1,⟨by omega,by omega,by omega⟩,by omega,rfl,rfl,hs.symm,rfl,rfl,rfl⟩⟩
 ·obtain⟨g0,g1,g2⟩:=hg;have hgl:=Yr hgl;have:g=aE L k+1:=by omega
  subst this;exact⟨by unfold jR;simp[h,g2],by unfold eJ;rw[Yv h],h.symm⟩
 ·obtain⟨g0,g1,g2⟩:=hg;have hgl:=Ys hgl;have hgz:(aj (di L (au L k) g k.oid))=L.length:=AO;have hr1:0<=g/\g<((L.length:Nat):Int):=⟨by omega,by omega⟩
  have hr2:g.toNat<L.length:=by omega
  rw[Lc (by omega),hit g,hgz]
  refine⟨hr1,hr2,fun _=>hr1,fun _=>hr2,fun hh=>?_,fun hh=>?_⟩
  ·have hs:=yS (L:=L) (f:=au L k) (oid:=k.oid) (by omega:0<=g) (by omega) g0 hh
   have hs2:=BG (L:=L) (f:=au L k) (oid:=k.oid) (by omega:0<=g) (by omega) g0 hh
   have:=sC (L:=L) (f:=au L k) (g:=g) (oid:=k.oid);exact⟨hr1,hr2,⟨by omega,by omega,by omega⟩,hnn g,hin g g0 hgl,g+1,⟨by omega,by omega,by omega⟩,by omega,rfl,rfl,hs.symm,rfl,rfl,rfl,hs2⟩
  ·have hs:=tn (L:=L) (f:=au L k) (oid:=k.oid) (by omega:0<=g) g0 hh
   have hs2:=wY (L:=L) (f:=au L k) (oid:=k.oid) (by omega:0<=g) g0 hh
   exact⟨hin g g0 hgl,g+1,⟨by omega,by omega,by omega⟩,by omega,rfl,rfl,hs.symm,rfl,rfl,rfl,hs2.symm⟩
 ·obtain⟨g0,g1,g2⟩:=hg;have hgl:=Yr hgl;have:g=aE L k+1:=by omega
  subst this;exact⟨by unfold jR;simp[h,g2],⟨by unfold eJ;rw[Yv h],h.symm⟩,by unfold gf;rw[Yv h]⟩
theorem Nb (L:List Sx.Obj) (k:Key) (hL:aq L):ai Tryz.prog 125 [.sa 0,.key k] [.ro (.arr none 163 (.ob L))] (yV (jR L k) (gf L k) [.it .i64 (eJ L k),.it .i64 (aK L k)]) (fun _ _=>False):=
 bp (inl:=bn) (ann:=(iz [(125,6,U9 [0,3,7,8] (fun g=> [(10,.it .i64 (dX L (au L k) g k.oid)),(11,.it .i64 g)]) 0 tO 163 (fun g=> .ob (di L (au L k) g k.oid)) (sS L k) (qU L k) (yy (aE L k) 1))])) (ab pR (ab kz ak)) aC (Lz L k hL) (by kernel_rfl)
theorem LJ:lG Tryz.prog 125 Ob:=
 iw (m:=fun x=>kB.cn x 0) (gh CR (fun _=>rfl)) (fun _=>rfl) (fun _ _=>rfl) fun L x hq=>Nb L x.1 hq
theorem Lu (L:List Sx.Obj) (k v:Key):
 ((!decide (aK L k=0))=true->false=iL L k v/\aK L k=aK L k)/\((!decide (aK L k=0))=false->(aU L v&&(decide (v.kind=2)||decide (v.kind=3))&&decide (aH L
   k<=v.oid)&&decide (v.oid<=aA L k))=iL L k v/\0=aK L k):=by
 refine⟨fun h=>?_,fun h=>?_⟩
 ·have h:aK L k≠0:=by simpa using h
  exact⟨by unfold iL;simp[h],rfl⟩
 ·have h:aK L k=0:=by simpa using h
  obtain⟨x1,x2⟩:=zW h;rw[x1,x2];exact⟨by unfold iL gW;simp[h],h.symm⟩
theorem IQ:ck Tryz.prog 124 N7:=
 eO (aJ ju vn) (fun _=>rfl) fun a hq hok=>by
  obtain⟨L,k,v,_⟩:=a;exact aV (inl:=bn) (ann:=aP) (ab pR (ab mw ak)) (Lu L k v) (by kernel_rfl)
theorem GD (L:List Sx.Obj) (k:Key) (n:Int) (hL:aq L):
 ((!decide (n<1)&&decide (aK L k=0))=true->aG IntKind.i64 (aA L k-aH L k))/\((decide (aK L k=0)&&(decide (n<1)||decide (aA L k-aH L k<n)))=true->
   jX L k n=false/\void=bO L k n/\4=bM L k n)/\((decide (aK L k=0)&&(decide (n<1)||decide (aA L k-aH L k<n)))=false->((!decide (aK L k=0))=true->jX
   L k n=false/\void=bO L k n/\aK L k=bM L k n)/\((!decide (aK L k=0))=false->true=true/\Dh L (aH L k) (aA L k)/\(kC L (aH L k) (aA L k)=false->
   ((!decide (bh L (aH L k) (aA L k)<0))=true->aG IntKind.i64 (aA L k-n))/\((decide (bh L (aH L k) (aA L k)<0)||decide (aA L k-n<bh L (aH L k)
   (aA L k)))=true->jX L k n=false/\void=bO L k n/\221=bM L k n)/\((decide (bh L (aH L k) (aA L k)<0)||decide (aA L k-n<bh L (aH L k) (aA L k)))
   =false->aG IntKind.i64 (aA L k-n)/\aG IntKind.i64 (aA L k-n+1)/\(∃g,oS L k n g/\n=n/\aH L k=aH L k/\aA L k=aA L k/\bh L (aH L k) (aA L
   k)=bh L (aH L k) (aA L k)/\aA L k-n+1=g/\L=L/\k=k/\void=void)/\∀(g:Int),oS L k n g->(decide (g<=aA L k)=true->(0<=g/\g< ↑(aj L))/\g.toNat<
   aj L/\((!decide ((ah L g.toNat free).kind=1))=true->0<=g/\g< ↑(aj L))/\((!decide ((ah L g.toNat free).kind=1))=true->g.toNat<aj L)/\((decide ((ah L g.toNat free).kind=1)
   ||decide ((ah L g.toNat free).kind=2))=true->jX L k n=false/\void=bO L k n/\221=bM L k n)/\((decide ((ah L g.toNat free).kind=1)||decide ((ah L g.toNat free).kind=
   2))=false->aG IntKind.i64 (g+1)/\∃g',oS L k n g'/\(aE L k+1-g').toNat<(aE L k+1-g).toNat/\n=n/\aH L k=aH L k/\aA L k=aA L k/\bh L (aH
   L k) (aA L k)=bh L (aH L k) (aA L k)/\g+1=g'/\L=L/\k=k/\void=void))/\(decide (g<=aA L k)=false->(0<=bh L (aH L k) (aA L k)/\bh L (aH L k)
   (aA L k)< ↑(aj L))/\(bh L (aH L k) (aA L k)).toNat<aj L/\(0<=k.oid/\k.oid< ↑(aj L))/\k.oid.toNat<aj L/\aG IntKind.i64 (aA L k-n)/\aG IntKind.i64 (aA L
   k-n+1)/\aG IntKind.i64 (aA L k-n)/\dS L (bh L (aH L k) (aA L k))/\dS (cC L (bh L (aH L k) (aA L k)).toNat (Obj.mk (ah L (bh L (aH L k) (aA
   L k)).toNat free).kind (ah L (bh L (aH L k) (aA L k)).toNat free).count (ah L (bh L (aH L k) (aA L k)).toNat free).calls (((ah L (bh L (aH L k) (aA L k)).toNat
   free).slots.put 0 (Key.mk 1 void.oid void.count void.call void.rights (aA L k-n+1))).put 1 (Key.mk 1 void.oid void.count void.call void.rights (aA L k))) (ah L (bh L (aH L k)
   (aA L k)).toNat free).bytes)) k.oid/\jX L k n=true/\(Key.mk 4 (bh L (aH L k) (aA L k)) (ah L (bh L (aH L k) (aA L k)).toNat free).count void.call void.rights
   void.value=bO L k n/\0=bM L k n)/\cC (cC L (bh L (aH L k) (aA L k)).toNat (Obj.mk (ah L (bh L (aH L k) (aA L k)).toNat free).kind (ah L (bh L (aH L k)
   (aA L k)).toNat free).count (ah L (bh L (aH L k) (aA L k)).toNat free).calls (((ah L (bh L (aH L k) (aA L k)).toNat free).slots.put 0 (Key.mk 1 void.oid void.count
   void.call void.rights (aA L k-n+1))).put 1 (Key.mk 1 void.oid void.count void.call void.rights (aA L k))) (ah L (bh L (aH L k) (aA L k)).toNat free).bytes)) k.oid.toNat (Obj.mk
   (ah L k.oid.toNat free).kind (ah L k.oid.toNat free).count (ah L k.oid.toNat free).calls ((ah L k.oid.toNat free).slots.put 1 (Key.mk 1 void.oid void.count void.call void.rights (aA L k-
   n))) (ah L k.oid.toNat free).bytes)=bu L k n)))/\(kC L (aH L k) (aA L k)=true->((!decide (bh L (aH L k) (aA L k)<0))=true->aG IntKind.i64 (aA L k-n))/\
   ((decide (bh L (aH L k) (aA L k)<0)||decide (aA L k-n<bh L (aH L k) (aA L k)))=true->jX L k n=false/\void=bO L k n/\221=bM L k n)/\((decide (bh
   L (aH L k) (aA L k)<0)||decide (aA L k-n<bh L (aH L k) (aA L k)))=false->aG IntKind.i64 (aA L k-n)/\aG IntKind.i64 (aA L k-n+1)/\(∃g,oS L k
   n g/\n=n/\aH L k=aH L k/\aA L k=aA L k/\bh L (aH L k) (aA L k)=bh L (aH L k) (aA L k)/\aA L k-n+1=g/\L=L/\k=k/\void=void/\cg L
   (aH L k) (aA L k) 1=cg L (aH L k) (aA L k) 1)/\∀(g:Int),oS L k n g->(decide (g<=aA L k)=true->(0<=g/\g< ↑(aj (cg L (aH L k) (aA L k) 1)))/\
   g.toNat<aj (cg L (aH L k) (aA L k) 1)/\((!decide ((ah (cg L (aH L k) (aA L k) 1) g.toNat free).kind=1))=true->0<=g/\g< ↑(aj (cg L (aH L k) (aA L k)
   1)))/\((!decide ((ah (cg L (aH L k) (aA L k) 1) g.toNat free).kind=1))=true->g.toNat<aj (cg L (aH L k) (aA L k) 1))/\((decide ((ah (cg L (aH L k) (aA L
   k) 1) g.toNat free).kind=1)||decide ((ah (cg L (aH L k) (aA L k) 1) g.toNat free).kind=2))=true->jX L k n=false/\void=bO L k n/\221=bM L k n)/\((decide ((ah
   (cg L (aH L k) (aA L k) 1) g.toNat free).kind=1)||decide ((ah (cg L (aH L k) (aA L k) 1) g.toNat free).kind=2))=false->aG IntKind.i64 (g+1)/\∃g',oS L k n g'
   /\(aE L k+1-g').toNat<(aE L k+1-g).toNat/\n=n/\aH L k=aH L k/\aA L k=aA L k/\bh L (aH L k) (aA L k)=bh L (aH L k) (aA L k)/\g+1=
   g'/\L=L/\k=k/\void=void/\cg L (aH L k) (aA L k) 1=cg L (aH L k) (aA L k) 1))/\(decide (g<=aA L k)=false->(0<=bh L (aH L k) (aA L k)/\bh L
   (aH L k) (aA L k)< ↑(aj (cg L (aH L k) (aA L k) 1)))/\(bh L (aH L k) (aA L k)).toNat<aj (cg L (aH L k) (aA L k) 1)/\(0<=k.oid/\k.oid< ↑(aj (cg
   L (aH L k) (aA L k) 1)))/\k.oid.toNat<aj (cg L (aH L k) (aA L k) 1)/\aG IntKind.i64 (aA L k-n)/\aG IntKind.i64 (aA L k-n+1)/\aG IntKind.i64 (aA L k-
   n)/\dS (cg L (aH L k) (aA L k) 1) (bh L (aH L k) (aA L k))/\dS (cC (cg L (aH L k) (aA L k) 1) (bh L (aH L k) (aA L k)).toNat (Obj.mk (ah
   (cg L (aH L k) (aA L k) 1) (bh L (aH L k) (aA L k)).toNat free).kind (ah (cg L (aH L k) (aA L k) 1) (bh L (aH L k) (aA L k)).toNat free).count (ah (cg
   L (aH L k) (aA L k) 1) (bh L (aH L k) (aA L k)).toNat free).calls (((ah (cg L (aH L k) (aA L k) 1) (bh L (aH L k) (aA L k)).toNat free).slots.put 0 (Key.mk 1
   void.oid void.count void.call void.rights (aA L k-n+1))).put 1 (Key.mk 1 void.oid void.count void.call void.rights (aA L k))) (ah (cg L (aH L k) (aA L k) 1) (bh L (aH L
   k) (aA L k)).toNat free).bytes)) k.oid/\jX L k n=true/\(Key.mk 4 (bh L (aH L k) (aA L k)) (ah (cg L (aH L k) (aA L k) 1) (bh L (aH L k) (aA L k)).toNat
   free).count void.call void.rights void.value=bO L k n/\0=bM L k n)/\cC (cC (cg L (aH L k) (aA L k) 1) (bh L (aH L k) (aA L k)).toNat (Obj.mk (ah (cg L (aH
   L k) (aA L k) 1) (bh L (aH L k) (aA L k)).toNat free).kind (ah (cg L (aH L k) (aA L k) 1) (bh L (aH L k) (aA L k)).toNat free).count (ah (cg L (aH L k)
   (aA L k) 1) (bh L (aH L k) (aA L k)).toNat free).calls (((ah (cg L (aH L k) (aA L k) 1) (bh L (aH L k) (aA L k)).toNat free).slots.put 0 (Key.mk 1 void.oid
   void.count void.call void.rights (aA L k-n+1))).put 1 (Key.mk 1 void.oid void.count void.call void.rights (aA L k))) (ah (cg L (aH L k) (aA L k) 1) (bh L (aH L k)
   (aA L k)).toNat free).bytes)) k.oid.toNat (Obj.mk (ah (cg L (aH L k) (aA L k) 1) k.oid.toNat free).kind (ah (cg L (aH L k) (aA L k) 1) k.oid.toNat free).count (ah (cg
   L (aH L k) (aA L k) 1) k.oid.toNat free).calls ((ah (cg L (aH L k) (aA L k) 1) k.oid.toNat free).slots.put 1 (Key.mk 1 void.oid void.count void.call void.rights (aA L k-n)))
   (ah (cg L (aH L k) (aA L k) 1) k.oid.toNat free).bytes)=bu L k n))))):=by
 by_cases hE:aK L k≠0
 ·rw[show decide (aK L k=0)=false by simpa using hE]
  refine⟨fun h=>by simp at h,fun h=>by simp at h,fun _=>⟨fun _=>CQ (xL hE) hE,fun h=>by simp at h⟩⟩
 replace hE:aK L k=0:=Decidable.not_not.1 hE
 obtain⟨_,a0,a1,a2,a3,a4⟩:=lE hE;obtain⟨x1,x2⟩:=zW hE;have hlen:=kG hL;rw[x1,x2,show decide (aK L k=0)=true by simpa using hE]
 have hr:∀x:Int,-1000<=x->x<=1000->aG IntKind.i64 x:=fun x h1 h2=>by simp only[aG,bY];omega
 have hI:bh L (au L k) (aE L k)=fF L k:=rfl;have hM:cg L (au L k) (aE L k) 1=dw L k:=rfl;have hlM:aj (dw L k)=L.length:=sO;have hlM2:(dw L k).length=L.length:=sO;have hll:aj L=L.length:=rfl;rw[hI,hM];refine⟨fun _=>hr _ (by omega) (by omega),fun h=>CQ (Ao hE (by simp only[Bool.true_and,Bool.or_eq_true,Yp]at h;omega)) (by omega),fun h=>⟨fun h=>by simp at h,fun _=>?_⟩⟩
 have hn:1<=n/\n<=aE L k-au L k:=by simp only[Bool.true_and,Bool.or_eq_false_iff,decide_eq_false_iff_not]at h;omega
 obtain⟨hn1,hn2⟩:=hn;have h0:=Fl hE hn1 hn2;have hm:=uN (L:=L) (l:=aE L k) a0;rw[hI]at hm;refine⟨rfl,⟨hL,a0,a2,by omega⟩,fun hc=>⟨fun _=>hr _ (by omega) (by omega),fun hi=>?_,fun hi=>?_⟩,fun hc=>⟨fun _=>hr _ (by omega) (by omega),fun hi=>?_,fun hi=>?_⟩⟩
 ·exact CQ (tD h0 (by simp only[Bool.or_eq_true,Yp]at hi;omega)) (by omega)
 ·simp only[Bool.or_eq_false_iff,decide_eq_false_iff_not]at hi;rw[BQ (by rw[hI];omega)]at hc
  simp at hc
 ·exact CQ (tD h0 (by simp only[Bool.or_eq_true,Yp]at hi;omega)) (by omega)
 simp only[Bool.or_eq_false_iff,decide_eq_false_iff_not]at hi;have hbz:∀o:Sx.Obj,(decide (o.kind=1)||decide (o.kind=2))=lB o:=fun o=>rfl
 refine⟨hr _ (by omega) (by omega),hr _ (by omega) (by omega),⟨aE L k-n+1,⟨by omega,by omega,HB⟩,rfl,rfl,rfl,rfl,rfl,rfl,rfl,rfl,rfl⟩,fun g hg=>⟨fun hgl=>?_,fun hgl=>?_⟩⟩
 ·obtain⟨g0,g1,g2⟩:=hg;have hgl:=Ys hgl;rw[hbz];have hr1:0<=g/\g<(aj (dw L k):Int):=⟨by omega,by omega⟩
  have hr2:g.toNat<aj (dw L k):=by omega
  refine⟨hr1,hr2,fun _=>hr1,fun _=>hr2,fun hb=>?_,fun hb=>?_⟩
  ·exact CQ (Cf h0 (C7 (by omega) (by omega) g0 (by omega) hb)) (by omega)
  ·exact⟨hr _ (by omega) (by omega),g+1,⟨by omega,by omega,by rw[Fa (by omega) hb];exact g2⟩,by omega,rfl,rfl,rfl,rfl,rfl,rfl,rfl,rfl,rfl⟩
 ·obtain⟨g0,g1,g2⟩:=hg;have hgl:=Yr hgl;have:g=aE L k+1:=by omega
  subst this;have e:=Ga h0 (by omega) (by omega) g2
  have hp:∀(M:List Sx.Obj) (x:Int),M.length=L.length->0<=x->x<(L.length:Int)->dS M x:=fun M x hM h1 h2=>⟨h1,by unfold aj;omega,by unfold aj;omega⟩
  exact⟨⟨by omega,by omega⟩,by omega,⟨by omega,by omega⟩,by omega,hr _ (by omega) (by omega),hr _ (by omega) (by omega),hr _ (by omega) (by omega),hp _ _ hlM2 (by omega) (by omega),hp _ _ (by rw[jD];exact hlM2) a3 a4,by unfold jX;rw[e];rfl,⟨by unfold bO;rw[Yv e];rfl,e.symm⟩,by unfold bu;rw[Yv e];rfl⟩
theorem HZ (L:List Sx.Obj) (k:Key) (n:Int) (hL:aq L):ai Tryz.prog 123 [.sa 0,.key k,.it .i64 n] [.ro (.arr none 163 (.ob L))] (yV (jX L k n) (bu L k n) [.key (bO L k n),.it .i64 (bM L k n)]) (fun _ _=>False):=
 bp (inl:=bn) (ann:=(iz [(123,10,Ra [0,2,4,7,9,10,12,13] (fun g=> [(14,.it .i64 g)]) (oS L k n) (yy (aE L k) 1))])) (ab pR (ab kz ak)) (aD zG aC) (GD L k n hL) (by kernel_rfl)
theorem Hr:lG Tryz.prog 123 MV:=
 iw (m:=fun x=>QT.cn x 0) (gh Bv (fun _=>rfl)) (fun _=>rfl) (fun _ _=>rfl) fun L x hq=>HZ L x.1 x.2.1 hq
end Go.Proofs.YtghpaegglbbocaaGreat
namespace Go.Proofs.YtghpaegglbbocaaGreat
open Go.Sx
set_option maxRecDepth 100000
theorem Qr (kind oid count:Int):
 (decide (kind=2)=true->Key.mk 3 oid count void.call void.rights void.value=cJ kind oid count)/\(decide (kind=2)=false->Key.mk 2 oid count void.call void.rights void.value=cJ kind
  oid count):=by
 unfold cJ;exact⟨fun h=>by rw[Yv (Ys h)];rfl,fun h=>by rw[Yu (Yr h)];rfl⟩
theorem qO:ck Tryz.prog 185 T3:=
 JZ (fz .i64) (fz .i64) (fz .i64) (fun _ _ _=>rfl) fun i j k _ _ _=>aV (inl:=bn) (ann:=aP) ak (Qr i j k) (by kernel_rfl)
theorem Ha (k v:Key):
 true=true/\true=true/\((!decide (0<an []))=true->false=iL [] k v/\1=aK [] k)/\((!decide (0<an []))=false->true=true/\((!(aU [] k&&decide (k.kind=4)))=
  true->false=iL [] k v/\190=aK [] k)/\((!(aU [] k&&decide (k.kind=4)))=false->true=true/\((!(decide (((aa [] k).slots.at 0).kind=1)&&decide (((aa [] k).slots.at
  1).kind=1)&&decide (0<=((aa [] k).slots.at 0).value)&&decide (((aa [] k).slots.at 0).value<=((aa [] k).slots.at 1).value)&&decide (((aa [] k).slots.at 1).value<an [])))
  =true->false=iL [] k v/\220=aK [] k)/\((!(decide (((aa [] k).slots.at 0).kind=1)&&decide (((aa [] k).slots.at 1).kind=1)&&decide (0<=((aa [] k).slots.at 0).value)&&
  decide (((aa [] k).slots.at 0).value<=((aa [] k).slots.at 1).value)&&decide (((aa [] k).slots.at 1).value<an [])))=false->true=true/\(aU [] v&&(decide (v.kind=2)||
  decide (v.kind=3))&&decide (((aa [] k).slots.at 0).value<=cS v)&&decide (cS v<=((aa [] k).slots.at 1).value))=iL [] k v/\0=aK [] k))):=by
 exact⟨rfl,rfl,fun h=>BM (F9 h) (by omega),fun h=>absurd h (by decide)⟩
theorem MR (L:List Sx.Obj) (k v:Key):
 true=true/\true=true/\((!decide (0<an L))=true->false=iL L k v/\1=aK L k)/\((!decide (0<an L))=false->true=true/\((!(aU L k&&decide (k.kind=4)))=true->
  false=iL L k v/\190=aK L k)/\((!(aU L k&&decide (k.kind=4)))=false->true=true/\((!(decide (((aa L k).slots.at 0).kind=1)&&decide (((aa L k).slots.at 1).kind=1)&&
  decide (0<=((aa L k).slots.at 0).value)&&decide (((aa L k).slots.at 0).value<=((aa L k).slots.at 1).value)&&decide (((aa L k).slots.at 1).value<an L)))=true->false=
  iL L k v/\220=aK L k)/\((!(decide (((aa L k).slots.at 0).kind=1)&&decide (((aa L k).slots.at 1).kind=1)&&decide (0<=((aa L k).slots.at 0).value)&&decide (((aa L
  k).slots.at 0).value<=((aa L k).slots.at 1).value)&&decide (((aa L k).slots.at 1).value<an L)))=false->true=true/\(aU L v&&(decide (v.kind=2)||decide (v.kind=3))&&
  decide (((aa L k).slots.at 0).value<=cS v)&&decide (cS v<=((aa L k).slots.at 1).value))=iL L k v/\0=aK L k))):=by
 refine⟨rfl,rfl,fun h=>BM (F9 h) (by omega),fun h=>⟨rfl,fun h2=>BM (Vg h h2) (by omega),fun h2=>⟨rfl,fun h3=>BM (VH h h2 h3) (by omega),fun h3=>⟨rfl,?_,(OB h h2 h3).1.symm⟩⟩⟩⟩
 obtain⟨e,e1,e2⟩:=OB h h2 h3;rw[e1,e2];unfold iL gW;rw[e];cases hi:aU L v with
 |false=>simp
 |true=>
  cases hk:(decide (v.kind=2)||decide (v.kind=3))with
  |false=>simp
  |true=>
   have hn:cS v=v.oid:=Uh hi;rw[hn];simp
theorem Li:ck Tryz.prog 165 Oa:=
 eO (aJ tR vn) (fun _=>rfl) fun a hq hok=>by
  obtain⟨S,k,v,_⟩:=a;cases S with
  |none=>exact aW (inl:=(fun f=>f==153||f==152||f==154)) (ann:=aP) (ab bB (ab bL (ab eY ak))) aC (eH gr) (Ha k v) (by kernel_rfl)
  |some L=>exact aW (inl:=(fun f=>f==153||f==152||f==154)) (ann:=aP) (ab bB (ab bL (ab eY ak))) aC (eH gr) (MR L k v) (by kernel_rfl)
theorem Je (k v:Key):
 true=true/\true=true/\((!decide (0<an []))=true->1=b8 [] k v)/\((!decide (0<an []))=false->true=true/\((!(aU [] k&&decide (k.kind=4)))=true->190=b8 [] k
  v)/\((!(aU [] k&&decide (k.kind=4)))=false->true=true/\((!(decide (((aa [] k).slots.at 0).kind=1)&&decide (((aa [] k).slots.at 1).kind=1)&&decide (0<=((aa []
  k).slots.at 0).value)&&decide (((aa [] k).slots.at 0).value<=((aa [] k).slots.at 1).value)&&decide (((aa [] k).slots.at 1).value<an [])))=true->220=b8 [] k v)/\
  ((!(decide (((aa [] k).slots.at 0).kind=1)&&decide (((aa [] k).slots.at 1).kind=1)&&decide (0<=((aa [] k).slots.at 0).value)&&decide (((aa [] k).slots.at 0).value<=((aa
  [] k).slots.at 1).value)&&decide (((aa [] k).slots.at 1).value<an [])))=false->true=true/\true=true/\((!(aU [] v&&(decide (v.kind=2)||decide (v.kind=3))))=true->5=
  b8 [] k v)/\((!(aU [] v&&(decide (v.kind=2)||decide (v.kind=3))))=false->true=true/\true=true/\((!(decide (((aa [] k).slots.at 0).value<=v.oid)&&decide (v.oid<=((aa
  [] k).slots.at 1).value)&& !decide (v.oid=k.oid)))=true->4=b8 [] k v)/\((!(decide (((aa [] k).slots.at 0).value<=v.oid)&&decide (v.oid<=((aa [] k).slots.at 1).value)&& !decide
  (v.oid=k.oid)))=false->true=true/\true=true/\0=b8 [] k v))))):=by
 exact⟨rfl,rfl,fun h=>(rW (pZ (F9 h) (by omega)) (by omega)).1,fun h=>absurd h (by decide)⟩
theorem Lx (k v:Key):
 true=true/\true=true/\((!decide (0<an []))=true->1=b8 [] k v)/\((!decide (0<an []))=false->true=true/\((!(aU [] k&&decide (k.kind=4)))=true->190=b8 [] k
  v)/\((!(aU [] k&&decide (k.kind=4)))=false->true=true/\((!(decide (((aa [] k).slots.at 0).kind=1)&&decide (((aa [] k).slots.at 1).kind=1)&&decide (0<=((aa []
  k).slots.at 0).value)&&decide (((aa [] k).slots.at 0).value<=((aa [] k).slots.at 1).value)&&decide (((aa [] k).slots.at 1).value<an [])))=true->220=b8 [] k v)/\
  ((!(decide (((aa [] k).slots.at 0).kind=1)&&decide (((aa [] k).slots.at 1).kind=1)&&decide (0<=((aa [] k).slots.at 0).value)&&decide (((aa [] k).slots.at 0).value<=((aa
  [] k).slots.at 1).value)&&decide (((aa [] k).slots.at 1).value<an [])))=false->true=true/\true=true/\((!(aU [] v&&(decide (v.kind=2)||decide (v.kind=3))))=true->5=
  b8 [] k v)/\((!(aU [] v&&(decide (v.kind=2)||decide (v.kind=3))))=false->true=true/\true=true/\((!(decide (((aa [] k).slots.at 0).value<=v.oid)&&decide (v.oid<=((aa
  [] k).slots.at 1).value)&& !decide (v.oid=k.oid)))=true->4=b8 [] k v)/\((!(decide (((aa [] k).slots.at 0).value<=v.oid)&&decide (v.oid<=((aa [] k).slots.at 1).value)&& !decide
  (v.oid=k.oid)))=false->true=true/\true=true/\False))))):=by
 exact⟨rfl,rfl,fun h=>(rW (pZ (F9 h) (by omega)) (by omega)).1,fun h=>absurd h (by decide)⟩
theorem RC (L:List Sx.Obj) (k v:Key) (hL:aq L):
 true=true/\true=true/\((!decide (0<an L))=true->1=b8 L k v/\L=fM L k v)/\((!decide (0<an L))=false->true=true/\((!(aU L k&&decide (k.kind=4)))=true->
  190=b8 L k v/\L=fM L k v)/\((!(aU L k&&decide (k.kind=4)))=false->true=true/\((!(decide (((aa L k).slots.at 0).kind=1)&&decide (((aa L k).slots.at 1).kind=1)&&
  decide (0<=((aa L k).slots.at 0).value)&&decide (((aa L k).slots.at 0).value<=((aa L k).slots.at 1).value)&&decide (((aa L k).slots.at 1).value<an L)))=true->220=b8
  L k v/\L=fM L k v)/\((!(decide (((aa L k).slots.at 0).kind=1)&&decide (((aa L k).slots.at 1).kind=1)&&decide (0<=((aa L k).slots.at 0).value)&&decide (((aa L
  k).slots.at 0).value<=((aa L k).slots.at 1).value)&&decide (((aa L k).slots.at 1).value<an L)))=false->true=true/\true=true/\((!(aU L v&&(decide (v.kind=2)||decide
  (v.kind=3))))=true->5=b8 L k v/\L=fM L k v)/\((!(aU L v&&(decide (v.kind=2)||decide (v.kind=3))))=false->true=true/\true=true/\((!(decide (((aa L k).slots.at
  0).value<=v.oid)&&decide (v.oid<=((aa L k).slots.at 1).value)&& !decide (v.oid=k.oid)))=true->4=b8 L k v/\L=fM L k v)/\((!(decide (((aa L k).slots.at 0).value<=v.oid)
  &&decide (v.oid<=((aa L k).slots.at 1).value)&& !decide (v.oid=k.oid)))=false->true=true/\true=true/\0=b8 L k v/\cW L v.oid (Obj.mk free.kind (aR L v.oid).count
  free.calls free.slots free.bytes)=fM L k v))))):=by
 refine⟨rfl,rfl,fun h=>rW (pZ (F9 h) (by omega)) (by omega),fun h=>⟨rfl,fun h2=>rW (pZ (Vg h h2) (by omega)) (by omega),fun h2=>⟨rfl,fun h3=>rW (pZ (VH h h2 h3) (by omega)) (by omega),fun h3=>⟨rfl,rfl,fun h4=>?_,fun h4=>⟨rfl,rfl,fun h5=>?_,fun h5=>⟨rfl,rfl,?_⟩⟩⟩⟩⟩⟩
 ·obtain⟨e,e1,e2⟩:=OB h h2 h3;have ht:gW L v=false:=by have h4':(!gW L v)=true:=h4;simpa using h4'
  exact rW (by unfold b8;rw[Yv e,ht];rfl) (by omega)
 ·obtain⟨e,e1,e2⟩:=OB h h2 h3;have ht:gW L v=true:=by have h4':(!gW L v)=false:=h4;simpa using h4'
  rw[e1,e2]at h5
  exact rW (by
   unfold b8;rw[Yv e,ht,Yv rfl,Yu];intro hh;simp only[Bool.not_eq_true',Bool.and_eq_false_iff,Bool.not_eq_false',decide_eq_false_iff_not,Yp]at h5;omega) (by omega)
 ·obtain⟨e,e1,e2⟩:=OB h h2 h3;have ht:gW L v=true:=by have h4':(!gW L v)=false:=h4;simpa using h4'
  rw[e1,e2]at h5
  have hE:b8 L k v=0:=by
   unfold b8;rw[Yv e,ht,Yv rfl,Yv];simp only[Bool.not_eq_false',Yo,Bool.not_eq_true',Yp,decide_eq_false_iff_not]at h5;omega
  obtain⟨_,b2,b3,_⟩:=dC (DI ht);rw[gD b2 b3];refine⟨hE.symm,?_⟩;unfold fM;rw[Yv hE];exact(nn b2 b3 (wc (dW hL v.oid.toNat (by omega)))).1
theorem Od (L:List Sx.Obj) (k v:Key) (hL:aq L):ai Tryz.prog 83 [.lp 0 0,.key k,.key v] [.store tS eS L] (B8 (.it .i64 (b8 L k v)) (fM L k v)) (fun _ _=>False):=
 aW (inl:=(fun f=>f==153||f==152||f==154||f==155||f==156)) (ann:=aP) (ab bB (ab bL (ab gX ak))) (aD dO aC) (eH gr) (RC L k v hL) (by kernel_rfl)
theorem N0:lG Tryz.prog 83 S3:=
 mg (m:=fun x=>NP.cn x 0) (gh vn (fun _=>rfl)) (fun _=>rfl) (fun _ _=>rfl) (fun x=>aW (inl:=(fun f=>f==153||f==152||f==154||f==155||f==156)) (ann:=aP) (ab bB (ab bL (ab gX ak))) (aD dO aC) (eH gr) (Je x.1 x.2.1) (by kernel_rfl)) (fun x=>aW (inl:=(fun f=>f==153||f==152||f==154||f==155||f==156)) (ann:=aP) (ab bB (ab bL (ab gX ak))) (aD dO aC) (eH gr) (Lx x.1 x.2.1) (by kernel_rfl)) fun L x hL _ _=>Od L x.1 x.2.1 hL
theorem HO (k:Key):
 true=true/\true=true/\((!decide (0<an []))=true->0=eJ [] k/\1=aK [] k)/\((!decide (0<an []))=false->true=true/\((!(aU [] k&&decide (k.kind=4)))=true->0
  =eJ [] k/\190=aK [] k)/\((!(aU [] k&&decide (k.kind=4)))=false->true=true/\((!(decide (((aa [] k).slots.at 0).kind=1)&&decide (((aa [] k).slots.at 1).kind=1)&&
  decide (0<=((aa [] k).slots.at 0).value)&&decide (((aa [] k).slots.at 0).value<=((aa [] k).slots.at 1).value)&&decide (((aa [] k).slots.at 1).value<an [])))=true->0=
  eJ [] k/\220=aK [] k)/\((!(decide (((aa [] k).slots.at 0).kind=1)&&decide (((aa [] k).slots.at 1).kind=1)&&decide (0<=((aa [] k).slots.at 0).value)&&decide (((aa
  [] k).slots.at 0).value<=((aa [] k).slots.at 1).value)&&decide (((aa [] k).slots.at 1).value<an [])))=false->true=true/\true=true/\∀(r0:Loop),False))):=by
 exact⟨rfl,rfl,fun h=>(yA (F9 h) (by omega)).1,fun h=>absurd h (by decide)⟩
theorem HN (k:Key):
 true=true/\true=true/\((!decide (0<an []))=true->0=eJ [] k/\1=aK [] k)/\((!decide (0<an []))=false->true=true/\((!(aU [] k&&decide (k.kind=4)))=true->0
  =eJ [] k/\190=aK [] k)/\((!(aU [] k&&decide (k.kind=4)))=false->true=true/\((!(decide (((aa [] k).slots.at 0).kind=1)&&decide (((aa [] k).slots.at 1).kind=1)&&
  decide (0<=((aa [] k).slots.at 0).value)&&decide (((aa [] k).slots.at 0).value<=((aa [] k).slots.at 1).value)&&decide (((aa [] k).slots.at 1).value<an [])))=true->0=
  eJ [] k/\220=aK [] k)/\((!(decide (((aa [] k).slots.at 0).kind=1)&&decide (((aa [] k).slots.at 1).kind=1)&&decide (0<=((aa [] k).slots.at 0).value)&&decide (((aa
  [] k).slots.at 0).value<=((aa [] k).slots.at 1).value)&&decide (((aa [] k).slots.at 1).value<an [])))=false->true=true/\true=true/\∀(r0:Loop),False))):=by
 exact⟨rfl,rfl,fun h=>(yA (F9 h) (by omega)).1,fun h=>absurd h (by decide)⟩
theorem Nh (L:List Sx.Obj) (k:Key) (hL:aq L):
 true=true/\true=true/\((!decide (0<an L))=true->(0=eJ L k/\1=aK L k)/\L=gf L k)/\((!decide (0<an L))=false->true=true/\((!(aU L k&&decide (k.kind=
  4)))=true->(0=eJ L k/\190=aK L k)/\L=gf L k)/\((!(aU L k&&decide (k.kind=4)))=false->true=true/\((!(decide (((aa L k).slots.at 0).kind=1)&&decide (((aa L
  k).slots.at 1).kind=1)&&decide (0<=((aa L k).slots.at 0).value)&&decide (((aa L k).slots.at 0).value<=((aa L k).slots.at 1).value)&&decide (((aa L k).slots.at 1).value<
  an L)))=true->(0=eJ L k/\220=aK L k)/\L=gf L k)/\((!(decide (((aa L k).slots.at 0).kind=1)&&decide (((aa L k).slots.at 1).kind=1)&&decide (0<=((aa L
  k).slots.at 0).value)&&decide (((aa L k).slots.at 0).value<=((aa L k).slots.at 1).value)&&decide (((aa L k).slots.at 1).value<an L)))=false->true=true/\true=true/\∀(r0
  :Loop),(∃g,qL L k g/\((aa L k).slots.at 0).value=g/\L=di L (au L k) g k.oid/\k=k/\0=dX L (au L k) g k.oid/\k=k/\aa L k=aa L k/\k.oid=k.oid/\
  ((aa L k).slots.at 0).value=((aa L k).slots.at 0).value/\((aa L k).slots.at 1).value=((aa L k).slots.at 1).value/\aa L k=aa L k/\(aa L k).slots.at 0=(aa L
  k).slots.at 0/\(aa L k).slots.at 1=(aa L k).slots.at 1/\aa L k=aa L k/\k.oid=k.oid/\((aa L k).slots.at 0).value=((aa L k).slots.at 0).value/\((aa L k).slots.at
  1).value=((aa L k).slots.at 1).value/\aa L k=aa L k/\k.oid=k.oid/\((aa L k).slots.at 0).value=((aa L k).slots.at 0).value/\((aa L k).slots.at 1).value=((aa L
  k).slots.at 1).value/\r0=r0)/\∀(g:Int),qL L k g->(decide (g<=((aa L k).slots.at 1).value)=true->r0=r0/\r0=r0/\((decide ((aR (di L (au L k) g k.oid) g).kind=1)||
  decide ((aR (di L (au L k) g k.oid) g).kind=2))=true->true=true/\((decide (((aa L k).slots.at 0).value<=g)&&decide (g<=((aa L k).slots.at 1).value)&& !decide (g=k.oid))
  =true->true=true/\true=true/\aG IntKind.i64 (dX L (au L k) g k.oid+1)/\r0=r0/\aG IntKind.i64 (g+1)/\∃g',qL L k g'/\(aE L k+1-g').toNat<(aE L k+1-
  g).toNat/\g+1=g'/\cW (di L (au L k) g k.oid) g (Obj.mk free.kind (aR (di L (au L k) g k.oid) g).count free.calls free.slots free.bytes)=di L (au L k) g' k.oid/\k=
  k/\dX L (au L k) g k.oid+1=dX L (au L k) g' k.oid/\k=k/\aa L k=aa L k/\k.oid=k.oid/\((aa L k).slots.at 0).value=((aa L k).slots.at 0).value/\((aa L
  k).slots.at 1).value=((aa L k).slots.at 1).value/\aa L k=aa L k/\(aa L k).slots.at 0=(aa L k).slots.at 0/\(aa L k).slots.at 1=(aa L k).slots.at 1/\aa L k=
  aa L k/\k.oid=k.oid/\((aa L k).slots.at 0).value=((aa L k).slots.at 0).value/\((aa L k).slots.at 1).value=((aa L k).slots.at 1).value/\aa L k=aa L k/\k.oid=
  k.oid/\((aa L k).slots.at 0).value=((aa L k).slots.at 0).value/\((aa L k).slots.at 1).value=((aa L k).slots.at 1).value/\r0=r0)/\((decide (((aa L k).slots.at 0).value<=g)
  &&decide (g<=((aa L k).slots.at 1).value)&& !decide (g=k.oid))=false->r0=r0/\aG IntKind.i64 (g+1)/\∃g',qL L k g'/\(aE L k+1-g').toNat<(aE L k+1-g).toNat/\
  g+1=g'/\di L (au L k) g k.oid=di L (au L k) g' k.oid/\k=k/\dX L (au L k) g k.oid=dX L (au L k) g' k.oid/\k=k/\aa L k=aa L k/\k.oid=k.oid/\
  ((aa L k).slots.at 0).value=((aa L k).slots.at 0).value/\((aa L k).slots.at 1).value=((aa L k).slots.at 1).value/\aa L k=aa L k/\(aa L k).slots.at 0=(aa L
  k).slots.at 0/\(aa L k).slots.at 1=(aa L k).slots.at 1/\aa L k=aa L k/\k.oid=k.oid/\((aa L k).slots.at 0).value=((aa L k).slots.at 0).value/\((aa L k).slots.at
  1).value=((aa L k).slots.at 1).value/\aa L k=aa L k/\k.oid=k.oid/\((aa L k).slots.at 0).value=((aa L k).slots.at 0).value/\((aa L k).slots.at 1).value=((aa L
  k).slots.at 1).value/\r0=r0))/\((decide ((aR (di L (au L k) g k.oid) g).kind=1)||decide ((aR (di L (au L k) g k.oid) g).kind=2))=false->r0=r0/\aG IntKind.i64 (g+
  1)/\∃g',qL L k g'/\(aE L k+1-g').toNat<(aE L k+1-g).toNat/\g+1=g'/\di L (au L k) g k.oid=di L (au L k) g' k.oid/\k=k/\dX L (au L k) g k.oid=
  dX L (au L k) g' k.oid/\k=k/\aa L k=aa L k/\k.oid=k.oid/\((aa L k).slots.at 0).value=((aa L k).slots.at 0).value/\((aa L k).slots.at 1).value=((aa L
  k).slots.at 1).value/\aa L k=aa L k/\(aa L k).slots.at 0=(aa L k).slots.at 0/\(aa L k).slots.at 1=(aa L k).slots.at 1/\aa L k=aa L k/\k.oid=k.oid/\
  ((aa L k).slots.at 0).value=((aa L k).slots.at 0).value/\((aa L k).slots.at 1).value=((aa L k).slots.at 1).value/\aa L k=aa L k/\k.oid=k.oid/\((aa L k).slots.at
  0).value=((aa L k).slots.at 0).value/\((aa L k).slots.at 1).value=((aa L k).slots.at 1).value/\r0=r0))/\(decide (g<=((aa L k).slots.at 1).value)=false->(dX L (au L
  k) g k.oid=eJ L k/\0=aK L k)/\di L (au L k) g k.oid=gf L k)))):=by
 refine⟨rfl,rfl,fun h=>yA (F9 h) (by omega),fun h=>⟨rfl,fun h2=>yA (Vg h h2) (by omega),fun h2=>⟨rfl,fun h3=>yA (VH h h2 h3) (by omega),fun h3=>⟨rfl,rfl,fun r0=>?_⟩⟩⟩⟩
 obtain⟨e,e1,e2⟩:=OB h h2 h3;obtain⟨_,a0,a1,a2,_⟩:=lE e;rw[e1,e2];have hlen:=kG hL;have hin:∀g:Int,au L k<=g->g<=aE L k->aG IntKind.i64 (g+1):=fun g h1 h2=>by simp only[aG,bY];omega
 have hnn:∀g:Int,aG IntKind.i64 (dX L (au L k) g k.oid+1):=fun g=>by
  have:=sC (L:=L) (f:=au L k) (g:=g) (oid:=k.oid);have:=Ly (L:=L) (f:=au L k) (g:=g) (oid:=k.oid);simp only[aG,bY];omega
 refine⟨⟨au L k,⟨by omega,by omega⟩,rfl,JM,rfl,sK.symm,(by(repeat' apply And.intro)<;>rfl)⟩,fun g hg=>⟨fun hgl=>?_,fun hgl=>?_⟩⟩
 ·obtain⟨g0,g1⟩:=hg;have hgl:=Ys hgl;have hgz:(di L (au L k) g k.oid).length=L.length:=AO;have hgt:aR (di L (au L k) g k.oid) g=ah L g.toNat free:=by rw[gD (by omega) (by omega),Lc (by omega)]
  rw[hgt];refine⟨rfl,rfl,fun hk=>⟨rfl,fun hb=>?_,fun hb=>?_⟩,fun hk=>?_⟩
  ·have hne:¬g=k.oid:=by
    simp only[Yo,Bool.not_eq_true',decide_eq_false_iff_not]at hb;exact hb.2
   have hh:jl L g k.oid=true:=by unfold jl lB;rw[hk];simp[hne]
   have hs:=yS (L:=L) (f:=au L k) (oid:=k.oid) (by omega:0<=g) (by omega) g0 hh
   have hs2:=BG (L:=L) (f:=au L k) (oid:=k.oid) (by omega:0<=g) (by omega) g0 hh
   have hp:=(nn (L:=di L (au L k) g k.oid) (i:=g) (by omega) (by omega) (hgz▸wc (dW hL g.toNat (by omega)))).1
   exact⟨rfl,rfl,hnn g,rfl,hin g g0 hgl,g+1,⟨by omega,by omega⟩,by omega,rfl,hp.trans hs2,rfl,hs.symm,(by(repeat' apply And.intro)<;>rfl)⟩
  ·have hh:jl L g k.oid=false:=by
    have e3:decide (au L k<=g)=true:=by simp;omega
    have e4:decide (g<=aE L k)=true:=by simp;omega
    rw[e3,e4]at hb;unfold jl;rw[Bool.and_eq_false_iff];right
    simpa using hb
   have hs:=tn (L:=L) (f:=au L k) (oid:=k.oid) (by omega:0<=g) g0 hh
   have hs2:=wY (L:=L) (f:=au L k) (oid:=k.oid) (by omega:0<=g) g0 hh
   exact⟨rfl,hin g g0 hgl,g+1,⟨by omega,by omega⟩,by omega,rfl,hs2.symm,rfl,hs.symm,(by(repeat' apply And.intro)<;>rfl)⟩
  ·have hh:jl L g k.oid=false:=by unfold jl lB;rw[hk];rfl
   have hs:=tn (L:=L) (f:=au L k) (oid:=k.oid) (by omega:0<=g) g0 hh
   have hs2:=wY (L:=L) (f:=au L k) (oid:=k.oid) (by omega:0<=g) g0 hh
   exact⟨rfl,hin g g0 hgl,g+1,⟨by omega,by omega⟩,by omega,rfl,hs2.symm,rfl,hs.symm,(by(repeat' apply And.intro)<;>rfl)⟩
 ·obtain⟨g0,g1⟩:=hg;have hgl:=Yr hgl;have:g=aE L k+1:=by omega
  subst this;exact⟨⟨by unfold eJ;rw[Yv e],e.symm⟩,by unfold gf;rw[Yv e]⟩
theorem Iu (L:List Sx.Obj) (k:Key) (hL:aq L):ai Tryz.prog 166 [.lp 0 0,.key k] [.store tS eS L] (B8 (.tp [.it .i64 (eJ L k),.it .i64 (aK L k)]) (gf L k)) (fun _ _=>False):=
 aW (inl:=(fun f=>f==153||f==152||f==155||f==156||f==159||f==1000000+186)) (ann:=(iz [(5000+186,1,XT [0,1] (fun(g:Int)=> [(3,.it .i64 g)]) (fun g=> [(0,.store tS eS (di L (au L k) g k.oid)),(2,.blk 3 (.it .i64 (dX L (au L k) g k.oid)))]) (qL L k) (fun g=>oZ (rN (yy (aE L k) 1) g)))])) (ab bB (ab bL (ab gX ak))) (aD dO aC) (eH gr) (Nh L k hL) (by kernel_rfl)
theorem LB:lG Tryz.prog 166 Qp:=
 mg (m:=fun x=>kB.cn x 0) (gh CR (fun _=>rfl)) (fun _=>rfl) (fun _ _=>rfl) (fun x=>aW (inl:=(fun f=>f==153||f==152||f==155||f==156||f==159||f==1000000+186)) (ann:=aP) (ab bB (ab bL (ab gX ak))) (aD dO aC) (eH gr) (HO x.1) (by kernel_rfl)) (fun x=>aW (inl:=(fun f=>f==153||f==152||f==155||f==156||f==159||f==1000000+186)) (ann:=aP) (ab bB (ab bL (ab gX ak))) (aD dO aC) (eH gr) (HN x.1) (by kernel_rfl)) fun L x hL _ _=>Iu L x.1 hL
theorem GO (k:Key) (kind:Int):
 true=true/\true=true/\((!decide (0<an []))=true->void=cN [] k kind/\1=bX [] k kind)/\((!decide (0<an []))=false->true=true/\((!(aU [] k&&decide (k.kind=
  4)))=true->void=cN [] k kind/\190=bX [] k kind)/\((!(aU [] k&&decide (k.kind=4)))=false->true=true/\((!(decide (((aa [] k).slots.at 0).kind=1)&&decide (((aa []
  k).slots.at 1).kind=1)&&decide (0<=((aa [] k).slots.at 0).value)&&decide (((aa [] k).slots.at 0).value<=((aa [] k).slots.at 1).value)&&decide (((aa [] k).slots.at 1).value<
  an [])))=true->void=cN [] k kind/\220=bX [] k kind)/\((!(decide (((aa [] k).slots.at 0).kind=1)&&decide (((aa [] k).slots.at 1).kind=1)&&decide (0<=((aa []
  k).slots.at 0).value)&&decide (((aa [] k).slots.at 0).value<=((aa [] k).slots.at 1).value)&&decide (((aa [] k).slots.at 1).value<an [])))=false->true=true/\((!(decide (kind
  =1)||decide (kind=2)))=true->void=cN [] k kind/\2=bX [] k kind)/\((!(decide (kind=1)||decide (kind=2)))=false->true=true/\true=true/\true=true/\∀(r0:Loop),
  False)))):=by
 exact⟨rfl,rfl,fun h=>(u4 (pV (F9 h) (by omega)) (by omega)).1,fun h=>absurd h (by decide)⟩
theorem HA (k:Key) (kind:Int):
 true=true/\true=true/\((!decide (0<an []))=true->void=cN [] k kind/\1=bX [] k kind)/\((!decide (0<an []))=false->true=true/\((!(aU [] k&&decide (k.kind=
  4)))=true->void=cN [] k kind/\190=bX [] k kind)/\((!(aU [] k&&decide (k.kind=4)))=false->true=true/\((!(decide (((aa [] k).slots.at 0).kind=1)&&decide (((aa []
  k).slots.at 1).kind=1)&&decide (0<=((aa [] k).slots.at 0).value)&&decide (((aa [] k).slots.at 0).value<=((aa [] k).slots.at 1).value)&&decide (((aa [] k).slots.at 1).value<
  an [])))=true->void=cN [] k kind/\220=bX [] k kind)/\((!(decide (((aa [] k).slots.at 0).kind=1)&&decide (((aa [] k).slots.at 1).kind=1)&&decide (0<=((aa []
  k).slots.at 0).value)&&decide (((aa [] k).slots.at 0).value<=((aa [] k).slots.at 1).value)&&decide (((aa [] k).slots.at 1).value<an [])))=false->true=true/\((!(decide (kind
  =1)||decide (kind=2)))=true->void=cN [] k kind/\2=bX [] k kind)/\((!(decide (kind=1)||decide (kind=2)))=false->true=true/\true=true/\true=true/\∀(r0:Loop),
  False)))):=by
 exact⟨rfl,rfl,fun h=>(u4 (pV (F9 h) (by omega)) (by omega)).1,fun h=>absurd h (by decide)⟩
theorem MQ (L:List Sx.Obj) (k:Key) (kind:Int) (hL:aq L):
 true=true/\true=true/\((!decide (0<an L))=true->(void=cN L k kind/\1=bX L k kind)/\L=eI L k kind)/\((!decide (0<an L))=false->true=true/\((!(aU L k&&
  decide (k.kind=4)))=true->(void=cN L k kind/\190=bX L k kind)/\L=eI L k kind)/\((!(aU L k&&decide (k.kind=4)))=false->true=true/\((!(decide (((aa L k).slots.at
  0).kind=1)&&decide (((aa L k).slots.at 1).kind=1)&&decide (0<=((aa L k).slots.at 0).value)&&decide (((aa L k).slots.at 0).value<=((aa L k).slots.at 1).value)&&decide
  (((aa L k).slots.at 1).value<an L)))=true->(void=cN L k kind/\220=bX L k kind)/\L=eI L k kind)/\((!(decide (((aa L k).slots.at 0).kind=1)&&decide (((aa L
  k).slots.at 1).kind=1)&&decide (0<=((aa L k).slots.at 0).value)&&decide (((aa L k).slots.at 0).value<=((aa L k).slots.at 1).value)&&decide (((aa L k).slots.at 1).value<
  an L)))=false->true=true/\((!(decide (kind=1)||decide (kind=2)))=true->(void=cN L k kind/\2=bX L k kind)/\L=eI L k kind)/\((!(decide (kind=1)||decide (kind=
  2)))=false->true=true/\true=true/\true=true/\∀(r0:Loop),(∃g,iG L k g/\((aa L k).slots.at 0).value=g/\L=bE L (au L k) g/\k=k/\void=void/\k=k/\aa L k
  =aa L k/\k.oid=k.oid/\((aa L k).slots.at 0).value=((aa L k).slots.at 0).value/\((aa L k).slots.at 1).value=((aa L k).slots.at 1).value/\aa L k=aa L k/\(aa
  L k).slots.at 0=(aa L k).slots.at 0/\(aa L k).slots.at 1=(aa L k).slots.at 1/\aa L k=aa L k/\k.oid=k.oid/\((aa L k).slots.at 0).value=((aa L k).slots.at
  0).value/\((aa L k).slots.at 1).value=((aa L k).slots.at 1).value/\aa L k=aa L k/\k.oid=k.oid/\((aa L k).slots.at 0).value=((aa L k).slots.at 0).value/\((aa L
  k).slots.at 1).value=((aa L k).slots.at 1).value/\kind=kind/\void=void/\false=false/\aa L k=aa L k/\k.oid=k.oid/\((aa L k).slots.at 0).value=((aa L k).slots.at
  0).value/\((aa L k).slots.at 1).value=((aa L k).slots.at 1).value/\r0=r0)/\∀(g:Int),iG L k g->(decide (g<=((aa L k).slots.at 1).value)=true->r0=r0/\r0=r0/\
  ((!decide ((aR (bE L (au L k) g) g).kind=0))=true->r0=r0/\aG IntKind.i64 (g+1)/\∃g',iG L k g'/\(aE L k+1-g').toNat<(aE L k+1-g).toNat/\g+1=g'/\
  bE L (au L k) g=bE L (au L k) g'/\k=k/\void=void/\k=k/\aa L k=aa L k/\k.oid=k.oid/\((aa L k).slots.at 0).value=((aa L k).slots.at 0).value/\((aa L
  k).slots.at 1).value=((aa L k).slots.at 1).value/\aa L k=aa L k/\(aa L k).slots.at 0=(aa L k).slots.at 0/\(aa L k).slots.at 1=(aa L k).slots.at 1/\aa L k=
  aa L k/\k.oid=k.oid/\((aa L k).slots.at 0).value=((aa L k).slots.at 0).value/\((aa L k).slots.at 1).value=((aa L k).slots.at 1).value/\aa L k=aa L k/\k.oid=
  k.oid/\((aa L k).slots.at 0).value=((aa L k).slots.at 0).value/\((aa L k).slots.at 1).value=((aa L k).slots.at 1).value/\kind=kind/\void=void/\false=false/\aa L k=
  aa L k/\k.oid=k.oid/\((aa L k).slots.at 0).value=((aa L k).slots.at 0).value/\((aa L k).slots.at 1).value=((aa L k).slots.at 1).value/\r0=r0)/\((!decide ((aR (bE
  L (au L k) g) g).kind=0))=false->(decide ((aR (bE L (au L k) g) g).count=4294967295)=true->true=true/\r0=r0/\aG IntKind.i64 (g+1)/\∃g',iG L k g'/\(aE L k
  +1-g').toNat<(aE L k+1-g).toNat/\g+1=g'/\cW (bE L (au L k) g) g (Obj.mk 3 (aR (bE L (au L k) g) g).count free.calls free.slots free.bytes)=bE L (au L k)
  g'/\k=k/\void=void/\k=k/\aa L k=aa L k/\k.oid=k.oid/\((aa L k).slots.at 0).value=((aa L k).slots.at 0).value/\((aa L k).slots.at 1).value=((aa L k).slots.at
  1).value/\aa L k=aa L k/\(aa L k).slots.at 0=(aa L k).slots.at 0/\(aa L k).slots.at 1=(aa L k).slots.at 1/\aa L k=aa L k/\k.oid=k.oid/\((aa L
  k).slots.at 0).value=((aa L k).slots.at 0).value/\((aa L k).slots.at 1).value=((aa L k).slots.at 1).value/\aa L k=aa L k/\k.oid=k.oid/\((aa L k).slots.at 0).value=
  ((aa L k).slots.at 0).value/\((aa L k).slots.at 1).value=((aa L k).slots.at 1).value/\kind=kind/\void=void/\false=false/\aa L k=aa L k/\k.oid=k.oid/\((aa L
  k).slots.at 0).value=((aa L k).slots.at 0).value/\((aa L k).slots.at 1).value=((aa L k).slots.at 1).value/\r0=r0)/\(decide ((aR (bE L (au L k) g) g).count=4294967295)=
  false->aG IntKind.i64 ((aR (bE L (au L k) g) g).count+1)/\true=true/\aG IntKind.i64 ((aR (bE L (au L k) g) g).count+1)/\r0=r0/\true=true/\(cJ kind g ((aR
  (bE L (au L k) g) g).count+1)=cN L k kind/\0=bX L k kind)/\cW (bE L (au L k) g) g (Obj.mk kind ((aR (bE L (au L k) g) g).count+1) free.calls free.slots
  free.bytes)=eI L k kind)))/\(decide (g<=((aa L k).slots.at 1).value)=false->true=true/\(void=cN L k kind/\221=bX L k kind)/\bE L (au L k) g=eI L k kind))))):=by
 refine⟨rfl,rfl,fun h=>u4 (pV (F9 h) (by omega)) (by omega),fun h=>⟨rfl,fun h2=>u4 (pV (Vg h h2) (by omega)) (by omega),fun h2=>⟨rfl,fun h3=>u4 (pV (VH h h2 h3) (by omega)) (by omega),fun h3=>⟨rfl,fun h4=>u4 (Kp (OB h h2 h3).1 h4) (by omega),fun h4=>⟨rfl,rfl,rfl,fun r0=>?_⟩⟩⟩⟩⟩
 obtain⟨e,e1,e2⟩:=OB h h2 h3;obtain⟨_,a0,a1,a2,_⟩:=lE e;rw[e1,e2]
 have hk:kind=1\/kind=2:=by
  simp only[Bool.not_eq_false',Bool.or_eq_true,Yp]at h4;exact h4
 have hlen:=kG hL;have hin:∀g:Int,au L k<=g->g<=aE L k->aG IntKind.i64 (g+1):=fun g h1 h2=>by simp only[aG,bY];omega
 have hcnt:∀j:Nat,j<L.length->0<=(ah L j free).count/\(ah L j free).count<=4294967295:=fun j hj=>⟨(jg (dW hL j hj)).1,(jg (dW hL j hj)).2.1⟩
 have hci:∀j:Nat,j<L.length->aG IntKind.i64 ((ah L j free).count+1):=fun j hj=>by have:=hcnt j hj;simp only[aG,bY];omega
 refine⟨⟨au L k,⟨by omega,by omega,sd⟩,rfl,Dc,(by(repeat' apply And.intro)<;>rfl)⟩,fun g hg=>⟨fun hgl=>?_,fun hgl=>?_⟩⟩
 ·obtain⟨g0,g1,g2⟩:=hg;have hgl:=Ys hgl;have hgn:g.toNat<L.length:=by omega
  have hgz:(bE L (au L k) g).length=L.length:=jK;have hgt:aR (bE L (au L k) g) g=ah L g.toNat free:=by rw[gD (by omega) (by omega),AD (by omega)]
  rw[hgt];refine⟨rfl,rfl,fun hk0=>?_,fun hk0=>⟨fun hc=>?_,fun hc=>?_⟩⟩
  ·obtain⟨f1,f2⟩:=wA (o:=ah L g.toNat free) (by simpa using hk0)
   exact⟨rfl,hin g g0 hgl,g+1,⟨by omega,by omega,iY g2 f2⟩,by omega,rfl,(xj (by omega) f1).symm,(by(repeat' apply And.intro)<;>rfl)⟩
  ·obtain⟨f1,f2⟩:=Bp (o:=ah L g.toNat free) (by simpa using hk0) (by have:=Ys hc;omega)
   have hp:=(nn (L:=bE L (au L k) g) (i:=g) (by omega) (by omega) (hgz▸BD (dW hL g.toNat hgn))).1
   exact⟨rfl,rfl,hin g g0 hgl,g+1,⟨by omega,by omega,iY g2 f2⟩,by omega,rfl,hp.trans (wR (by omega) (by omega) g0 f1),(by(repeat' apply And.intro)<;>rfl)⟩
  ·have hc:=Yr hc;have:=hcnt _ hgn;obtain⟨f1,f2⟩:=AB (o:=ah L g.toNat free) (by simpa using hk0) (by omega)
   obtain⟨m1,m2,m3⟩:=wP kind a0 g0 hgl (by omega) g2 f2
   obtain⟨n1,n2,n3,n4⟩:=FK (kind:=kind) e hk (by rw[m1];omega)
   have hp:=(nn (L:=bE L (au L k) g) (i:=g) (by omega) (by omega) (hgz▸BO (dW hL g.toNat hgn) f2 hk)).1
   refine⟨hci _ hgn,rfl,hci _ hgn,rfl,rfl,⟨?_,n3⟩,hp.trans (m3.symm.trans n4)⟩;have hK:cN L k kind=cJ kind (bh L (au L k) (aE L k)) ((ah L (bh L (au L k) (aE L k)).toNat free).count+1):=by unfold cN;rw[Yv n3.symm]
   rw[hK,m1]
 ·obtain⟨g0,g1,g2⟩:=hg;have hgl:=Yr hgl;have:g=aE L k+1:=by omega
  subst this;obtain⟨m1,m2,m3⟩:=Bl kind g2;obtain⟨n1,n2,n3,n4⟩:=xN (kind:=kind) e hk m1;exact⟨rfl,⟨n2,n3⟩,m2.symm.trans n4⟩
theorem J4 (L:List Sx.Obj) (k:Key) (kind:Int) (hL:aq L):ai Tryz.prog 150 [.lp 0 0,.key k,.it .i64 kind] [.store tS eS L] (B8 (.tp [.key (cN L k kind),.it .i64 (bX L k kind)]) (eI L k kind)) (fun _ _=>False):=
 aW (inl:=(fun f=>f==153||f==152||f==158||f==159||f==1000000+186)) (ann:=(iz [(3000+186,1,UP [0,1] (fun g=> [(3,.it .i64 g)]) 0 (fun g=> .store tS eS (bE L (au L k) g)) (iG L k) (yy (aE L k) 1))])) (ab bB (ab bL (ab gX (ab qO ak)))) (aD dO aC) (eH gr) (MQ L k kind hL) (by kernel_rfl)
theorem C6:lG Tryz.prog 150 Px:=
 mg (m:=fun x=>QT.cn x 0) (gh Bv (fun _=>rfl)) (fun _=>rfl) (fun _ _=>rfl) (fun x=>aW (inl:=(fun f=>f==153||f==152||f==158||f==159||f==1000000+186)) (ann:=aP) (ab bB (ab bL (ab gX (ab qO ak)))) (aD dO aC) (eH gr) (GO x.1 x.2.1) (by kernel_rfl)) (fun x=>aW (inl:=(fun f=>f==153||f==152||f==158||f==159||f==1000000+186)) (ann:=aP) (ab bB (ab bL (ab gX (ab qO ak)))) (aD dO aC) (eH gr) (HA x.1 x.2.1) (by kernel_rfl)) fun L x hL _ _=>J4 L x.1 x.2.1 hL
end Go.Proofs.YtghpaegglbbocaaGreat
