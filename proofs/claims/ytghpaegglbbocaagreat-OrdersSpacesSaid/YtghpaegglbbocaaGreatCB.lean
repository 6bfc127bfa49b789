import Derived.Test.YtghpaegglbbocaaGreatCP
import Derived.Test.YtghpaegglbbocaaGreatSpB
import Derived.Test.YtghpaegglbbocaaGreatKS
import Derived.Test.YtghpaegglbbocaaGreatCV
set_option linter.unusedSimpArgs false
set_option linter.unusedVariables false
namespace Go.Proofs.YtghpaegglbbocaaGreat
open Go.Sx
theorem Mi (L:List Sx.Obj) (k:Key):
 ((!decide (aw L k 4 false=0))=true->0=aG L k/\0=az L k/\aw L k 4 false=aK L k)/\((!decide (aw L k 4 false=0))=false->(0<=k.oid/\k.oid< ↑(aj L))/\
   k.oid.toNat<aj L/\(0<=k.oid/\k.oid< ↑(aj L))/\k.oid.toNat<aj L/\((!decide (((ah L k.oid.toNat free).slots.at 0).kind=1)|| !decide (((ah L k.oid.toNat free).slots.at 1).kind=1)
   ||decide (((ah L k.oid.toNat free).slots.at 0).value<0)||decide (((ah L k.oid.toNat free).slots.at 1).value<((ah L k.oid.toNat free).slots.at 0).value)||decide (cw (aj L)<=((ah L
   k.oid.toNat free).slots.at 1).value))=true->0=aG L k/\0=az L k/\220=aK L k)/\((!decide (((ah L k.oid.toNat free).slots.at 0).kind=1)|| !decide (((ah L k.oid.toNat
   free).slots.at 1).kind=1)||decide (((ah L k.oid.toNat free).slots.at 0).value<0)||decide (((ah L k.oid.toNat free).slots.at 1).value<((ah L k.oid.toNat free).slots.at 0).value)||
   decide (cw (aj L)<=((ah L k.oid.toNat free).slots.at 1).value))=false->((ah L k.oid.toNat free).slots.at 0).value=aG L k/\((ah L k.oid.toNat free).slots.at 1).value=az L k/\0
   =aK L k)):=by
 rw[Jz];refine⟨fun h=>?_,fun h=>?_⟩
 ·obtain⟨e1,e2,e3⟩:=D2 (show aw L k 4 false≠0 by simpa using h)
  rw[e1,e2,e3];exact⟨rfl,rfl,rfl⟩
 ·have h0:aw L k 4 false=0:=by simpa using h
  obtain⟨_,b2,b3,_⟩:=dB (fD h0).1;refine⟨⟨b2,b3⟩,by unfold aj;omega,⟨b2,b3⟩,by unfold aj;omega,fun h2=>?_,fun h2=>?_⟩
  ·obtain⟨e1,e2,e3⟩:=AJ h0 (by simpa using h2)
   rw[e1,e2,e3];exact⟨rfl,rfl,rfl⟩
  ·obtain⟨e1,e2,e3⟩:=sN h0 (by simpa using h2)
   rw[e1,e2,e3];exact⟨rfl,rfl,rfl⟩
theorem qa:cj Tryz.prog 181 QQ:=
 eY (aJ jo BM) (fun _=>rfl) fun a hq hok=>by
  obtain⟨L,k,_⟩:=a;exact aW (inl:=bn) (ann:=aP) (ae nI an) (Mi L k) (by kernel_rfl)
theorem F8 (L:List Sx.Obj) (f l kind:Int) (hq:B5 L f l):
 (∃g,ti L f l g/\f=f/\l=l/\kind=kind/\f=g/\L=L)/\(∀(g:Int),ti L f l g->(decide (g<=l)=true->(0<=g/\g< ↑(aj L))/\g.toNat<aj L/\((!decide ((ah L g.toNat
  free).kind=0))=true->aI IntKind.i64 (g+1)/\((∃g',ti L f l g'/\(l+1-g').toNat<(l+1-g).toNat/\f=f/\l=l/\kind=kind/\g+1=g'/\L=L)\/∃g',qD L f l g'/\(l
  +1-g').toNat<(l+1-g).toNat/\False))/\((!decide ((ah L g.toNat free).kind=0))=false->(decide (4294967295<=(ah L g.toNat free).count)=true->dN L g/\aI IntKind.i64 (g+1)
  /\((∃g',ti L f l g'/\(l+1-g').toNat<(l+1-g).toNat/\False)\/∃g',qD L f l g'/\(l+1-g').toNat<(l+1-g).toNat/\f=f/\l=l/\kind=kind/\g+1=g'/\L=L/\cx
  L g.toNat (Obj.mk 3 (ah L g.toNat free).count free.calls free.slots free.bytes)=bE L f g'))/\(decide (4294967295<=(ah L g.toNat free).count)=false->aI IntKind.i64 ((ah L g.toNat
  free).count+1)/\dN L g/\km L f l=true/\g=bj L f l/\cx L g.toNat (Obj.mk kind ((ah L g.toNat free).count+1) free.calls free.slots free.bytes)=b9 L f l kind)))/\(decide
  (g<=l)=false->km L f l=false/\ -1=bj L f l))/\∀(g:Int),qD L f l g->(decide (g<=l)=true->(0<=g/\g< ↑(aj (bE L f g)))/\g.toNat<aj (bE L f g)/\((!decide
  ((ah (bE L f g) g.toNat free).kind=0))=true->aI IntKind.i64 (g+1)/\∃g',qD L f l g'/\(l+1-g').toNat<(l+1-g).toNat/\f=f/\l=l/\kind=kind/\g+1=g'/\L=L/\
  bE L f g=bE L f g')/\((!decide ((ah (bE L f g) g.toNat free).kind=0))=false->(decide (4294967295<=(ah (bE L f g) g.toNat free).count)=true->dN (bE L f g) g/\aI
  IntKind.i64 (g+1)/\∃g',qD L f l g'/\(l+1-g').toNat<(l+1-g).toNat/\f=f/\l=l/\kind=kind/\g+1=g'/\L=L/\cx (bE L f g) g.toNat (Obj.mk 3 (ah (bE L f g)
  g.toNat free).count free.calls free.slots free.bytes)=bE L f g')/\(decide (4294967295<=(ah (bE L f g) g.toNat free).count)=false->aI IntKind.i64 ((ah (bE L f g) g.toNat
  free).count+1)/\dN (bE L f g) g/\km L f l=true/\g=bj L f l/\cx (bE L f g) g.toNat (Obj.mk kind ((ah (bE L f g) g.toNat free).count+1) free.calls free.slots
  free.bytes)=b9 L f l kind)))/\(decide (g<=l)=false->km L f l=true/\ -1=bj L f l/\bE L f g=b9 L f l kind):=by
 obtain⟨hL,h0,hl,hfl⟩:=hq;have hlen:=ku hL;have hll:(aj L:Int)=(L.length:Int):=rfl;have hrq:∀(M:List Sx.Obj) (g:Int),M.length=L.length->0<=g->g<=l->dN M g:=fun M g hM h1 h2=>⟨h1,by unfold aj;omega,by unfold aj;omega⟩
 have hin:∀g:Int,0<=g->g<=l->aI IntKind.i64 (g+1):=fun g h1 h2=>by simp only[aI,cg];omega
 have hcnt:∀j:Nat,j<L.length->0<=(ah L j free).count/\(ah L j free).count<=4294967295:=fun j hj=>⟨(jd (dW hL j hj)).1,(jd (dW hL j hj)).2.1⟩
 have hci:∀j:Nat,j<L.length->aI IntKind.i64 ((ah L j free).count+1):=fun j hj=>by have:=hcnt j hj;simp only[aI,cg];omega
 refine⟨⟨f,⟨by omega,hfl,rG,Hm⟩,(by(repeat' apply And.intro)<;>rfl)⟩,fun g hg=>⟨fun hgl=>?_,fun hgl=>?_⟩,fun g hg=>⟨fun hgl=>?_,fun hgl=>?_⟩⟩
 ·obtain⟨g0,g1,g2,g3⟩:=hg;have hgl:=XO hgl;have hgn:g.toNat<L.length:=by omega
  refine⟨⟨by omega,by omega⟩,hgn,fun hk=>?_,fun hk=>⟨fun hc=>?_,fun hc=>?_⟩⟩
  ·obtain⟨e1,e2⟩:=wb (o:=ah L g.toNat free) (by simpa using hk)
   exact⟨hin g (by omega) hgl,.inl ⟨g+1,⟨by omega,by omega,iS g2 e2,by rw[FA (by omega) e1];exact g3⟩,by omega,(by(repeat' apply And.intro)<;>rfl)⟩⟩
  ·obtain⟨e1,e2⟩:=z7 (o:=ah L g.toNat free) (by simpa using hk) (XO hc)
   have hs:=vP (L:=L) (f:=f) (g:=g) (by omega) (by omega) g0 e1
   rw[wE g3]at hs;exact⟨hrq L g rfl (by omega) hgl,hin g (by omega) hgl,.inr ⟨g+1,⟨by omega,by omega,iS g2 e2,CW (by omega) (by omega) g0 e1⟩,by omega,rfl,rfl,rfl,rfl,rfl,hs⟩⟩
  ·obtain⟨e1,e2⟩:=AH (o:=ah L g.toNat free) (by simpa using hk) (XN hc)
   obtain⟨m1,m2,m3⟩:=wv kind h0 g0 hgl (by omega) g2 e2
   rw[wE g3]at m3;exact⟨hci _ hgn,hrq L g rfl (by omega) hgl,m2,m1.symm,m3.symm⟩
 ·obtain⟨g0,g1,g2,g3⟩:=hg;have hgl:=XN hgl;have:g=l+1:=by omega
  subst this;obtain⟨m1,m2,m3⟩:=A3 kind g2;exact⟨by rw[m3];exact g3,m1.symm⟩
 ·obtain⟨g0,g1,g2,g3⟩:=hg;have hgl:=XO hgl;have hgn:g.toNat<L.length:=by omega
  have hgl2:(aj (bE L f g):Int)=(L.length:Int):=by unfold aj;rw[jH]
  have hga:=AQ (L:=L) (f:=f) (g:=g) (by omega)
  rw[hga];refine⟨⟨by omega,by omega⟩,by omega,fun hk=>?_,fun hk=>⟨fun hc=>?_,fun hc=>?_⟩⟩
  ·obtain⟨e1,e2⟩:=wb (o:=ah L g.toNat free) (by simpa using hk)
   exact⟨hin g (by omega) hgl,g+1,⟨by omega,by omega,iS g2 e2,by rw[FA (by omega) e1];exact g3⟩,by omega,rfl,rfl,rfl,rfl,rfl,(xN (by omega) e1).symm⟩
  ·obtain⟨e1,e2⟩:=z7 (o:=ah L g.toNat free) (by simpa using hk) (XO hc)
   exact⟨hrq _ g jH (by omega) hgl,hin g (by omega) hgl,g+1,⟨by omega,by omega,iS g2 e2,CW (by omega) (by omega) g0 e1⟩,by omega,rfl,rfl,rfl,rfl,rfl,vP (by omega) (by omega) g0 e1⟩
  ·obtain⟨e1,e2⟩:=AH (o:=ah L g.toNat free) (by simpa using hk) (XN hc)
   obtain⟨m1,m2,m3⟩:=wv kind h0 g0 hgl (by omega) g2 e2
   exact⟨hci _ hgn,hrq _ g jH (by omega) hgl,m2,m1.symm,m3.symm⟩
 ·obtain⟨g0,g1,g2,g3⟩:=hg;have hgl:=XN hgl;have:g=l+1:=by omega
  subst this;obtain⟨m1,m2,m3⟩:=A3 kind g2;exact⟨by rw[m3];exact g3,m1.symm,m2.symm⟩
theorem GO (L:List Sx.Obj) (f l kind:Int) (hq:B5 L f l):ai Tryz.prog 182 [.sa 0,.it .i64 f,.it .i64 l,.it .i64 kind] [.ro (.arr none 163 (.ob L))] (yr (km L f l) (b9 L f l kind) [.it .i64 (bj L f l)]) (fun _ _=>False):=
 br (inl:=bn) (ann:=(jC [(182,2,VB [0,1,2,3] (fun g=> [(10,.it .i64 g)]) 0 tO 163 (fun g=> .ob (bE L f g)) (ti L f l) (qD L f l) (xb l 1))])) (ae j7 an) aC (F8 L f l kind hq) (by kernel_rfl)
theorem zt:ll Tryz.prog 182 Jx:=
 iq (m:=fun x=>W4.cn x 0) (gg TI (fun _=>rfl)) (fun _=>rfl) (fun _ _=>rfl) fun L x hq=>GO L x.1 x.2.1 x.2.2.1 hq
theorem My (L:List Sx.Obj) (k:Key) (kind:Int) (hL:aq L):
 ((decide (aK L k=0)&& !decide (kind=1)&& !decide (kind=2))=true->fL L k kind=false/\void=cH L k kind/\2=bW L k kind)/\((decide (aK L k=0)&& !decide (kind=1)
   && !decide (kind=2))=false->((!decide (aK L k=0))=true->fL L k kind=false/\void=cH L k kind/\aK L k=bW L k kind)/\((!decide (aK L k=0))=false->true=
   true/\B5 L (aG L k) (az L k)/\(km L (aG L k) (az L k)=false->(decide (bj L (aG L k) (az L k)<0)=true->fL L k kind=false/\void=cH L k kind/\221=
   bW L k kind)/\(decide (bj L (aG L k) (az L k)<0)=false->aI IntKind.i64 (1+kind)/\(0<=bj L (aG L k) (az L k)/\bj L (aG L k) (az L k)< ↑(aj L))/\
   (bj L (aG L k) (az L k)).toNat<aj L/\fL L k kind=false/\Key.mk (1+kind) (bj L (aG L k) (az L k)) (ah L (bj L (aG L k) (az L k)).toNat free).count
   void.call void.rights void.value=cH L k kind/\0=bW L k kind))/\(km L (aG L k) (az L k)=true->(decide (bj L (aG L k) (az L k)<0)=true->fL L k kind=true
   /\(void=cH L k kind/\221=bW L k kind)/\b9 L (aG L k) (az L k) kind=eF L k kind)/\(decide (bj L (aG L k) (az L k)<0)=false->aI IntKind.i64 (1+kind)/\
   (0<=bj L (aG L k) (az L k)/\bj L (aG L k) (az L k)< ↑(aj (b9 L (aG L k) (az L k) kind)))/\(bj L (aG L k) (az L k)).toNat<aj (b9 L (aG L k)
   (az L k) kind)/\fL L k kind=true/\(Key.mk (1+kind) (bj L (aG L k) (az L k)) (ah (b9 L (aG L k) (az L k) kind) (bj L (aG L k) (az L k)).toNat free).count
   void.call void.rights void.value=cH L k kind/\0=bW L k kind)/\b9 L (aG L k) (az L k) kind=eF L k kind)))):=by
 refine⟨fun h=>?_,fun h=>⟨fun h2=>?_,fun h2=>?_⟩⟩
 ·simp only[XK,Bool.not_eq_true',XL,decide_eq_false_iff_not]at h;exact PS h.1.1 h.1.2 h.2
 ·exact Ov (by simpa using h2)
 ·have h2:aK L k=0:=by simpa using h2
  have hk:kind=1\/kind=2:=by
   simp only[h2,decide_true,Bool.true_and,Bool.and_eq_false_iff,Bool.not_eq_false',XL]at h;exact h
  obtain⟨_,a0,a1,a2,_⟩:=lr h2;obtain⟨x1,x2⟩:=zx h2;have hlen:=ku hL;rw[x1,x2];have hin:aI IntKind.i64 (1+kind):=by simp only[aI,cg];omega
  have hm:=uU (L:=L) (l:=aD L k) a0;refine⟨rfl,⟨hL,a0,a2,by omega⟩,fun hc=>⟨fun hi=>?_,fun hi=>?_⟩,fun hc=>⟨fun hi=>?_,fun hi=>?_⟩⟩
  ·have hi:=XO hi;obtain⟨m1,m2,m3,m4⟩:=xI h2 hk (by omega)
   exact⟨m1.trans hc,m2,m3⟩
  ·have hi:=XN hi;rw[Ar (by omega)]at hc
   simp at hc
  ·have hi:=XO hi;obtain⟨m1,m2,m3,m4⟩:=xI h2 hk (by omega)
   exact⟨m1.trans hc,⟨m2,m3⟩,m4⟩
  ·have hi:=XN hi;obtain⟨m1,m2,m3,m4⟩:=F2 h2 hk (by omega)
   rw[show aj (b9 L (au L k) (aD L k) kind)=L.length from sj];exact⟨hin,⟨by omega,by omega⟩,by omega,m1,⟨m2,m3⟩,m4⟩
theorem HB (L:List Sx.Obj) (k:Key) (kind:Int) (hL:aq L):ai Tryz.prog 121 [.sa 0,.key k,.it .i64 kind] [.ro (.arr none 163 (.ob L))] (yr (fL L k kind) (eF L k kind) [.key (cH L k kind),.it .i64 (bW L k kind)]) (fun _ _=>False):=
 br (inl:=bn) (ann:=aP) (ae qa an) (aF zt aC) (My L k kind hL) (by kernel_rfl)
theorem MZ:ll Tryz.prog 121 NN:=
 iq (m:=fun x=>Py.cn x 0) (gg AE (fun _=>rfl)) (fun _=>rfl) (fun _ _=>rfl) fun L x hq=>HB L x.1 x.2.1 hq
theorem Ns (L:List Sx.Obj) (k v:Key) (hL:aq L):
 ((!decide (aK L k=0))=true->iP L k v=false/\aK L k=b6 L k v)/\((!decide (aK L k=0))=false->((!aU L v|| !decide (v.kind=2)&& !decide (v.kind=3))=true->
   iP L k v=false/\5=b6 L k v)/\((!aU L v|| !decide (v.kind=2)&& !decide (v.kind=3))=false->((decide (v.oid<aG L k)||decide (az L k<v.oid)||decide (v.oid=k.oid))
   =true->iP L k v=false/\4=b6 L k v)/\((decide (v.oid<aG L k)||decide (az L k<v.oid)||decide (v.oid=k.oid))=false->(0<=v.oid/\v.oid< ↑(aj L))/\v.oid.toNat<
   aj L/\dN L v.oid/\iP L k v=true/\0=b6 L k v/\cx L v.oid.toNat (Obj.mk free.kind (ah L v.oid.toNat free).count free.calls free.slots free.bytes)=fK L k v))):=by
 refine⟨fun h=>?_,fun h=>⟨fun h2=>?_,fun h2=>⟨fun h3=>?_,fun h3=>?_⟩⟩⟩
 ·have h:aK L k≠0:=by simpa using h
  have e:b6 L k v=aK L k:=by unfold b6;rw[XQ h]
  exact⟨by unfold iP;rw[e];simpa using h,e.symm⟩
 ·have h:aK L k=0:=by simpa using h
  have e:b6 L k v=5:=by unfold b6;rw[XR h,xh,h2];rfl
  exact⟨by unfold iP;rw[e];rfl,e.symm⟩
 ·have h:aK L k=0:=by simpa using h
  obtain⟨x1,x2⟩:=zx h;rw[x1,x2]at h3
  have e:b6 L k v=4:=by
   unfold b6;rw[XR h,xh,h2,XR (show(!false)=true from rfl),XQ];simp only[Bool.or_eq_true,XL]at h3;omega
  exact⟨by unfold iP;rw[e];rfl,e.symm⟩
 ·have h:aK L k=0:=by simpa using h
  obtain⟨x1,x2⟩:=zx h;rw[x1,x2]at h3;have ht:gU L v=true:=by rw[xh,h2];rfl
  obtain⟨_,b2,b3,_⟩:=dB (B0 ht)
  have e:b6 L k v=0:=by
   unfold b6;rw[XR h,ht,XR rfl,XR];simp only[Bool.or_eq_false_iff,decide_eq_false_iff_not]at h3;omega
  have hlen:=ku hL;exact⟨⟨b2,b3⟩,by unfold aj;omega,⟨b2,b3,by unfold aj;omega⟩,by unfold iP;rw[e];rfl,e.symm,by unfold fK;rw[XR e];rfl⟩
theorem NF (L:List Sx.Obj) (k v:Key) (hL:aq L):ai Tryz.prog 122 [.sa 0,.key k,.key v] [.ro (.arr none 163 (.ob L))] (yr (iP L k v) (fK L k v) [.it .i64 (b6 L k v)]) (fun _ _=>False):=
 br (inl:=bn) (ann:=aP) (ae qa (ae lZ (ae j7 an))) aC (Ns L k v hL) (by kernel_rfl)
theorem Q4:ll Tryz.prog 122 RQ:=
 iq (m:=fun x=>J4.cn x 0) (gg uX (fun _=>rfl)) (fun _=>rfl) (fun _ _=>rfl) fun L x hq=>NF L x.1 x.2.1 hq
theorem KZ (L:List Sx.Obj) (k:Key) (hL:aq L):
 ((!decide (aK L k=0))=true->jI L k=false/\0=eO L k/\aK L k=aK L k)/\((!decide (aK L k=0))=false->(∃g,tt L k g/\aG L k=aG L k/\az L k=
   az L k/\0=dY L (au L k) g k.oid/\aG L k=g/\L=L/\k=k)/\(∀(g:Int),tt L k g->(decide (g<=az L k)=true->(0<=g/\g< ↑(aj L))/\g.toNat<aj L/\((!decide
   ((ah L g.toNat free).kind=1))=true->0<=g/\g< ↑(aj L))/\((!decide ((ah L g.toNat free).kind=1))=true->g.toNat<aj L)/\(((decide ((ah L g.toNat free).kind=1)||decide ((ah
   L g.toNat free).kind=2))&& !decide (g=k.oid))=true->(0<=g/\g< ↑(aj L))/\g.toNat<aj L/\dN L g/\aI IntKind.i64 (dY L (au L k) g k.oid+1)/\aI IntKind.i64 (g+1)/\
   ((∃g',tt L k g'/\(aD L k+1-g').toNat<(aD L k+1-g).toNat/\False)\/∃g',qo L k g'/\(aD L k+1-g').toNat<(aD L k+1-g).toNat/\aG L k=aG L k/\
   az L k=az L k/\dY L (au L k) g k.oid+1=dY L (au L k) g' k.oid/\g+1=g'/\L=L/\k=k/\cx L g.toNat (Obj.mk free.kind (ah L g.toNat free).count free.calls
   free.slots free.bytes)=dn L (au L k) g' k.oid))/\(((decide ((ah L g.toNat free).kind=1)||decide ((ah L g.toNat free).kind=2))&& !decide (g=k.oid))=false->aI IntKind.i64 (g+
   1)/\((∃g',tt L k g'/\(aD L k+1-g').toNat<(aD L k+1-g).toNat/\aG L k=aG L k/\az L k=az L k/\dY L (au L k) g k.oid=dY L (au L k) g' k.oid
   /\g+1=g'/\L=L/\k=k)\/∃g',qo L k g'/\(aD L k+1-g').toNat<(aD L k+1-g).toNat/\False)))/\(decide (g<=az L k)=false->jI L k=false/\dY L (au L k)
   g k.oid=eO L k/\0=aK L k))/\∀(g:Int),qo L k g->(decide (g<=az L k)=true->(0<=g/\g< ↑(aj (dn L (au L k) g k.oid)))/\g.toNat<aj (dn L (au L k) g
   k.oid)/\((!decide ((ah (dn L (au L k) g k.oid) g.toNat free).kind=1))=true->0<=g/\g< ↑(aj (dn L (au L k) g k.oid)))/\((!decide ((ah (dn L (au L k) g k.oid) g.toNat
   free).kind=1))=true->g.toNat<aj (dn L (au L k) g k.oid))/\(((decide ((ah (dn L (au L k) g k.oid) g.toNat free).kind=1)||decide ((ah (dn L (au L k) g k.oid)
   g.toNat free).kind=2))&& !decide (g=k.oid))=true->(0<=g/\g< ↑(aj (dn L (au L k) g k.oid)))/\g.toNat<aj (dn L (au L k) g k.oid)/\dN (dn L (au L k) g k.oid) g
   /\aI IntKind.i64 (dY L (au L k) g k.oid+1)/\aI IntKind.i64 (g+1)/\∃g',qo L k g'/\(aD L k+1-g').toNat<(aD L k+1-g).toNat/\aG L k=aG L k/\az L k
   =az L k/\dY L (au L k) g k.oid+1=dY L (au L k) g' k.oid/\g+1=g'/\L=L/\k=k/\cx (dn L (au L k) g k.oid) g.toNat (Obj.mk free.kind (ah (dn L (au L k)
   g k.oid) g.toNat free).count free.calls free.slots free.bytes)=dn L (au L k) g' k.oid)/\(((decide ((ah (dn L (au L k) g k.oid) g.toNat free).kind=1)||decide ((ah (dn L
   (au L k) g k.oid) g.toNat free).kind=2))&& !decide (g=k.oid))=false->aI IntKind.i64 (g+1)/\∃g',qo L k g'/\(aD L k+1-g').toNat<(aD L k+1-g).toNat/\aG L k
   =aG L k/\az L k=az L k/\dY L (au L k) g k.oid=dY L (au L k) g' k.oid/\g+1=g'/\L=L/\k=k/\dn L (au L k) g k.oid=dn L (au L k) g' k.oid))/\
   (decide (g<=az L k)=false->jI L k=true/\(dY L (au L k) g k.oid=eO L k/\0=aK L k)/\dn L (au L k) g k.oid=ga L k)):=by
 refine⟨fun h=>?_,fun h=>?_⟩
 ·have h:aK L k≠0:=by simpa using h
  exact⟨by unfold jI;simp[h],by unfold eO;rw[XQ h],rfl⟩
 have h:aK L k=0:=by simpa using h
 obtain⟨_,a0,a1,a2,_⟩:=lr h;obtain⟨x1,x2⟩:=zx h;have hlen:=ku hL;have hll:(aj L:Int)=(L.length:Int):=rfl;rw[x1,x2];have hit:∀g:Int,(((decide ((ah L g.toNat free).kind=1)||decide ((ah L g.toNat free).kind=2))&& !decide (g=k.oid)))=ja L g k.oid:=fun g=>rfl
 have hin:∀g:Int,au L k<=g->g<=aD L k->aI IntKind.i64 (g+1):=fun g h1 h2=>by simp only[aI,cg];omega
 have hnn:∀g:Int,aI IntKind.i64 (dY L (au L k) g k.oid+1):=fun g=>by
  have:=rz (L:=L) (f:=au L k) (g:=g) (oid:=k.oid);have:=Lk (L:=L) (f:=au L k) (g:=g) (oid:=k.oid);simp only[aI,cg];omega
 refine⟨⟨au L k,⟨by omega,by omega,sX⟩,rfl,rfl,sX.symm,rfl,rfl,rfl⟩,fun g hg=>⟨fun hgl=>?_,fun hgl=>?_⟩,fun g hg=>⟨fun hgl=>?_,fun hgl=>?_⟩⟩
 ·obtain⟨g0,g1,g2⟩:=hg;have hgl:=XO hgl;have hr1:0<=g/\g<(aj L:Int):=⟨by omega,by omega⟩
  have hr2:g.toNat<aj L:=by omega
  rw[hit g];refine⟨hr1,hr2,fun _=>hr1,fun _=>hr2,fun hh=>?_,fun hh=>?_⟩
  ·have hs:=wz (L:=L) (f:=au L k) (oid:=k.oid) (by omega:0<=g) (by omega) g0 hh
   have hs2:=Ac (L:=L) (f:=au L k) (oid:=k.oid) (by omega:0<=g) (by omega) g0 hh
   rw[xW g2]at hs2;exact⟨hr1,hr2,⟨by omega,by omega,by omega⟩,hnn g,hin g g0 hgl,.inr ⟨g+1,⟨by omega,by omega,by omega⟩,by omega,rfl,rfl,hs.symm,rfl,rfl,rfl,hs2⟩⟩
  ·have hs:=ua (L:=L) (f:=au L k) (oid:=k.oid) (by omega:0<=g) g0 hh
   exact⟨hin g g0 hgl,.inl ⟨g+1,⟨by omega,by omega,by omega⟩,by omega,rfl,rfl,hs.symm,rfl,rfl,rfl⟩⟩
 ·obtain⟨g0,g1,g2⟩:=hg;have hgl:=XN hgl;have:g=aD L k+1:=by omega
  subst this;exact⟨by unfold jI;simp[h,g2],by unfold eO;rw[XR h],h.symm⟩
 ·obtain⟨g0,g1,g2⟩:=hg;have hgl:=XO hgl;have hgz:(aj (dn L (au L k) g k.oid))=L.length:=A1;have hr1:0<=g/\g<((L.length:Nat):Int):=⟨by omega,by omega⟩
  have hr2:g.toNat<L.length:=by omega
  rw[Iz (by omega),hit g,hgz]
  refine⟨hr1,hr2,fun _=>hr1,fun _=>hr2,fun hh=>?_,fun hh=>?_⟩
  ·have hs:=wz (L:=L) (f:=au L k) (oid:=k.oid) (by omega:0<=g) (by omega) g0 hh
   have hs2:=Ac (L:=L) (f:=au L k) (oid:=k.oid) (by omega:0<=g) (by omega) g0 hh
   have:=rz (L:=L) (f:=au L k) (g:=g) (oid:=k.oid);exact⟨hr1,hr2,⟨by omega,by omega,by omega⟩,hnn g,hin g g0 hgl,g+1,⟨by omega,by omega,by omega⟩,by omega,rfl,rfl,hs.symm,rfl,rfl,rfl,hs2⟩
  ·have hs:=ua (L:=L) (f:=au L k) (oid:=k.oid) (by omega:0<=g) g0 hh
   have hs2:=yd (L:=L) (f:=au L k) (oid:=k.oid) (by omega:0<=g) g0 hh
   exact⟨hin g g0 hgl,g+1,⟨by omega,by omega,by omega⟩,by omega,rfl,rfl,hs.symm,rfl,rfl,rfl,hs2.symm⟩
 ·obtain⟨g0,g1,g2⟩:=hg;have hgl:=XN hgl;have:g=aD L k+1:=by omega
  subst this;exact⟨by unfold jI;simp[h,g2],⟨by unfold eO;rw[XR h],h.symm⟩,by unfold ga;rw[XR h]⟩
theorem Mu (L:List Sx.Obj) (k:Key) (hL:aq L):ai Tryz.prog 125 [.sa 0,.key k] [.ro (.arr none 163 (.ob L))] (yr (jI L k) (ga L k) [.it .i64 (eO L k),.it .i64 (aK L k)]) (fun _ _=>False):=
 br (inl:=bn) (ann:=(jC [(125,6,VB [0,3,7,8] (fun g=> [(10,.it .i64 (dY L (au L k) g k.oid)),(11,.it .i64 g)]) 0 tO 163 (fun g=> .ob (dn L (au L k) g k.oid)) (tt L k) (qo L k) (xb (aD L k) 1))])) (ae qa (ae j7 an)) aC (KZ L k hL) (by kernel_rfl)
theorem Io:ll Tryz.prog 125 Qz:=
 iq (m:=fun x=>kB.cn x 0) (gg BM (fun _=>rfl)) (fun _=>rfl) (fun _ _=>rfl) fun L x hq=>Mu L x.1 hq
theorem MO (L:List Sx.Obj) (k v:Key):
 ((!decide (aK L k=0))=true->false=iD L k v/\aK L k=aK L k)/\((!decide (aK L k=0))=false->(aU L v&&(decide (v.kind=2)||decide (v.kind=3))&&decide (aG L
   k<=v.oid)&&decide (v.oid<=az L k))=iD L k v/\0=aK L k):=by
 refine⟨fun h=>?_,fun h=>?_⟩
 ·have h:aK L k≠0:=by simpa using h
  exact⟨by unfold iD;simp[h],rfl⟩
 ·have h:aK L k=0:=by simpa using h
  obtain⟨x1,x2⟩:=zx h;rw[x1,x2];exact⟨by unfold iD gU;simp[h],h.symm⟩
theorem I7:cj Tryz.prog 124 Oo:=
 eY (aJ jo uX) (fun _=>rfl) fun a hq hok=>by
  obtain⟨L,k,v,_⟩:=a;exact aW (inl:=bn) (ann:=aP) (ae qa (ae lZ an)) (MO L k v) (by kernel_rfl)
theorem Hp (L:List Sx.Obj) (k:Key) (n:Int) (hL:aq L):
 ((!decide (n<1)&&decide (aK L k=0))=true->aI IntKind.i64 (az L k-aG L k))/\((decide (aK L k=0)&&(decide (n<1)||decide (az L k-aG L k<n)))=true->
   jU L k n=false/\void=bQ L k n/\4=bL L k n)/\((decide (aK L k=0)&&(decide (n<1)||decide (az L k-aG L k<n)))=false->((!decide (aK L k=0))=true->jU
   L k n=false/\void=bQ L k n/\aK L k=bL L k n)/\((!decide (aK L k=0))=false->true=true/\B5 L (aG L k) (az L k)/\(km L (aG L k) (az L k)=false->
   ((!decide (bj L (aG L k) (az L k)<0))=true->aI IntKind.i64 (az L k-n))/\((decide (bj L (aG L k) (az L k)<0)||decide (az L k-n<bj L (aG L k)
   (az L k)))=true->jU L k n=false/\void=bQ L k n/\221=bL L k n)/\((decide (bj L (aG L k) (az L k)<0)||decide (az L k-n<bj L (aG L k) (az L k)))
   =false->aI IntKind.i64 (az L k-n)/\aI IntKind.i64 (az L k-n+1)/\(∃g,oO L k n g/\n=n/\aG L k=aG L k/\az L k=az L k/\bj L (aG L k) (az L
   k)=bj L (aG L k) (az L k)/\az L k-n+1=g/\L=L/\k=k/\void=void)/\∀(g:Int),oO L k n g->(decide (g<=az L k)=true->(0<=g/\g< ↑(aj L))/\g.toNat<
   aj L/\((!decide ((ah L g.toNat free).kind=1))=true->0<=g/\g< ↑(aj L))/\((!decide ((ah L g.toNat free).kind=1))=true->g.toNat<aj L)/\((decide ((ah L g.toNat free).kind=1)
   ||decide ((ah L g.toNat free).kind=2))=true->jU L k n=false/\void=bQ L k n/\221=bL L k n)/\((decide ((ah L g.toNat free).kind=1)||decide ((ah L g.toNat free).kind=
   2))=false->aI IntKind.i64 (g+1)/\∃g',oO L k n g'/\(aD L k+1-g').toNat<(aD L k+1-g).toNat/\n=n/\aG L k=aG L k/\az L k=az L k/\bj L (aG
   L k) (az L k)=bj L (aG L k) (az L k)/\g+1=g'/\L=L/\k=k/\void=void))/\(decide (g<=az L k)=false->(0<=bj L (aG L k) (az L k)/\bj L (aG L k)
   (az L k)< ↑(aj L))/\(bj L (aG L k) (az L k)).toNat<aj L/\(0<=k.oid/\k.oid< ↑(aj L))/\k.oid.toNat<aj L/\aI IntKind.i64 (az L k-n)/\aI IntKind.i64 (az L
   k-n+1)/\aI IntKind.i64 (az L k-n)/\dN L (bj L (aG L k) (az L k))/\dN (cx L (bj L (aG L k) (az L k)).toNat (Obj.mk (ah L (bj L (aG L k) (az
   L k)).toNat free).kind (ah L (bj L (aG L k) (az L k)).toNat free).count (ah L (bj L (aG L k) (az L k)).toNat free).calls (((ah L (bj L (aG L k) (az L k)).toNat
   free).slots.put 0 (Key.mk 1 void.oid void.count void.call void.rights (az L k-n+1))).put 1 (Key.mk 1 void.oid void.count void.call void.rights (az L k))) (ah L (bj L (aG L k)
   (az L k)).toNat free).bytes)) k.oid/\jU L k n=true/\(Key.mk 4 (bj L (aG L k) (az L k)) (ah L (bj L (aG L k) (az L k)).toNat free).count void.call void.rights
   void.value=bQ L k n/\0=bL L k n)/\cx (cx L (bj L (aG L k) (az L k)).toNat (Obj.mk (ah L (bj L (aG L k) (az L k)).toNat free).kind (ah L (bj L (aG L k)
   (az L k)).toNat free).count (ah L (bj L (aG L k) (az L k)).toNat free).calls (((ah L (bj L (aG L k) (az L k)).toNat free).slots.put 0 (Key.mk 1 void.oid void.count
   void.call void.rights (az L k-n+1))).put 1 (Key.mk 1 void.oid void.count void.call void.rights (az L k))) (ah L (bj L (aG L k) (az L k)).toNat free).bytes)) k.oid.toNat (Obj.mk
   (ah L k.oid.toNat free).kind (ah L k.oid.toNat free).count (ah L k.oid.toNat free).calls ((ah L k.oid.toNat free).slots.put 1 (Key.mk 1 void.oid void.count void.call void.rights (az L k-
   n))) (ah L k.oid.toNat free).bytes)=bq L k n)))/\(km L (aG L k) (az L k)=true->((!decide (bj L (aG L k) (az L k)<0))=true->aI IntKind.i64 (az L k-n))/\
   ((decide (bj L (aG L k) (az L k)<0)||decide (az L k-n<bj L (aG L k) (az L k)))=true->jU L k n=false/\void=bQ L k n/\221=bL L k n)/\((decide (bj
   L (aG L k) (az L k)<0)||decide (az L k-n<bj L (aG L k) (az L k)))=false->aI IntKind.i64 (az L k-n)/\aI IntKind.i64 (az L k-n+1)/\(∃g,oO L k
   n g/\n=n/\aG L k=aG L k/\az L k=az L k/\bj L (aG L k) (az L k)=bj L (aG L k) (az L k)/\az L k-n+1=g/\L=L/\k=k/\void=void/\b9 L
   (aG L k) (az L k) 1=b9 L (aG L k) (az L k) 1)/\∀(g:Int),oO L k n g->(decide (g<=az L k)=true->(0<=g/\g< ↑(aj (b9 L (aG L k) (az L k) 1)))/\
   g.toNat<aj (b9 L (aG L k) (az L k) 1)/\((!decide ((ah (b9 L (aG L k) (az L k) 1) g.toNat free).kind=1))=true->0<=g/\g< ↑(aj (b9 L (aG L k) (az L k)
   1)))/\((!decide ((ah (b9 L (aG L k) (az L k) 1) g.toNat free).kind=1))=true->g.toNat<aj (b9 L (aG L k) (az L k) 1))/\((decide ((ah (b9 L (aG L k) (az L
   k) 1) g.toNat free).kind=1)||decide ((ah (b9 L (aG L k) (az L k) 1) g.toNat free).kind=2))=true->jU L k n=false/\void=bQ L k n/\221=bL L k n)/\((decide ((ah
   (b9 L (aG L k) (az L k) 1) g.toNat free).kind=1)||decide ((ah (b9 L (aG L k) (az L k) 1) g.toNat free).kind=2))=false->aI IntKind.i64 (g+1)/\∃g',oO L k n g'
   /\(aD L k+1-g').toNat<(aD L k+1-g).toNat/\n=n/\aG L k=aG L k/\az L k=az L k/\bj L (aG L k) (az L k)=bj L (aG L k) (az L k)/\g+1=
   g'/\L=L/\k=k/\void=void/\b9 L (aG L k) (az L k) 1=b9 L (aG L k) (az L k) 1))/\(decide (g<=az L k)=false->(0<=bj L (aG L k) (az L k)/\bj L
   (aG L k) (az L k)< ↑(aj (b9 L (aG L k) (az L k) 1)))/\(bj L (aG L k) (az L k)).toNat<aj (b9 L (aG L k) (az L k) 1)/\(0<=k.oid/\k.oid< ↑(aj (b9
   L (aG L k) (az L k) 1)))/\k.oid.toNat<aj (b9 L (aG L k) (az L k) 1)/\aI IntKind.i64 (az L k-n)/\aI IntKind.i64 (az L k-n+1)/\aI IntKind.i64 (az L k-
   n)/\dN (b9 L (aG L k) (az L k) 1) (bj L (aG L k) (az L k))/\dN (cx (b9 L (aG L k) (az L k) 1) (bj L (aG L k) (az L k)).toNat (Obj.mk (ah
   (b9 L (aG L k) (az L k) 1) (bj L (aG L k) (az L k)).toNat free).kind (ah (b9 L (aG L k) (az L k) 1) (bj L (aG L k) (az L k)).toNat free).count (ah (b9
   L (aG L k) (az L k) 1) (bj L (aG L k) (az L k)).toNat free).calls (((ah (b9 L (aG L k) (az L k) 1) (bj L (aG L k) (az L k)).toNat free).slots.put 0 (Key.mk 1
   void.oid void.count void.call void.rights (az L k-n+1))).put 1 (Key.mk 1 void.oid void.count void.call void.rights (az L k))) (ah (b9 L (aG L k) (az L k) 1) (bj L (aG L
   k) (az L k)).toNat free).bytes)) k.oid/\jU L k n=true/\(Key.mk 4 (bj L (aG L k) (az L k)) (ah (b9 L (aG L k) (az L k) 1) (bj L (aG L k) (az L k)).toNat
   free).count void.call void.rights void.value=bQ L k n/\0=bL L k n)/\cx (cx (b9 L (aG L k) (az L k) 1) (bj L (aG L k) (az L k)).toNat (Obj.mk (ah (b9 L (aG
   L k) (az L k) 1) (bj L (aG L k) (az L k)).toNat free).kind (ah (b9 L (aG L k) (az L k) 1) (bj L (aG L k) (az L k)).toNat free).count (ah (b9 L (aG L k)
   (az L k) 1) (bj L (aG L k) (az L k)).toNat free).calls (((ah (b9 L (aG L k) (az L k) 1) (bj L (aG L k) (az L k)).toNat free).slots.put 0 (Key.mk 1 void.oid
   void.count void.call void.rights (az L k-n+1))).put 1 (Key.mk 1 void.oid void.count void.call void.rights (az L k))) (ah (b9 L (aG L k) (az L k) 1) (bj L (aG L k)
   (az L k)).toNat free).bytes)) k.oid.toNat (Obj.mk (ah (b9 L (aG L k) (az L k) 1) k.oid.toNat free).kind (ah (b9 L (aG L k) (az L k) 1) k.oid.toNat free).count (ah (b9
   L (aG L k) (az L k) 1) k.oid.toNat free).calls ((ah (b9 L (aG L k) (az L k) 1) k.oid.toNat free).slots.put 1 (Key.mk 1 void.oid void.count void.call void.rights (az L k-n)))
   (ah (b9 L (aG L k) (az L k) 1) k.oid.toNat free).bytes)=bq L k n))))):=by
 by_cases hE:aK L k≠0
 ·rw[show decide (aK L k=0)=false by simpa using hE]
  refine⟨fun h=>by simp at h,fun h=>by simp at h,fun _=>⟨fun _=>Cq (yi hE) hE,fun h=>by simp at h⟩⟩
 replace hE:aK L k=0:=Decidable.not_not.1 hE
 obtain⟨_,a0,a1,a2,a3,a4⟩:=lr hE;obtain⟨x1,x2⟩:=zx hE;have hlen:=ku hL;rw[x1,x2,show decide (aK L k=0)=true by simpa using hE]
 have hr:∀x:Int,-1000<=x->x<=1000->aI IntKind.i64 x:=fun x h1 h2=>by simp only[aI,cg];omega
 have hI:bj L (au L k) (aD L k)=fE L k:=rfl;have hM:b9 L (au L k) (aD L k) 1=dw L k:=rfl;have hlM:aj (dw L k)=L.length:=sj;have hlM2:(dw L k).length=L.length:=sj;have hll:aj L=L.length:=rfl;rw[hI,hM];refine⟨fun _=>hr _ (by omega) (by omega),fun h=>Cq (zj hE (by simp only[Bool.true_and,Bool.or_eq_true,XL]at h;omega)) (by omega),fun h=>⟨fun h=>by simp at h,fun _=>?_⟩⟩
 have hn:1<=n/\n<=aD L k-au L k:=by simp only[Bool.true_and,Bool.or_eq_false_iff,decide_eq_false_iff_not]at h;omega
 obtain⟨hn1,hn2⟩:=hn;have h0:=ER hE hn1 hn2;have hm:=uU (L:=L) (l:=aD L k) a0;rw[hI]at hm;refine⟨rfl,⟨hL,a0,a2,by omega⟩,fun hc=>⟨fun _=>hr _ (by omega) (by omega),fun hi=>?_,fun hi=>?_⟩,fun hc=>⟨fun _=>hr _ (by omega) (by omega),fun hi=>?_,fun hi=>?_⟩⟩
 ·exact Cq (tQ h0 (by simp only[Bool.or_eq_true,XL]at hi;omega)) (by omega)
 ·simp only[Bool.or_eq_false_iff,decide_eq_false_iff_not]at hi;rw[Ar (by rw[hI];omega)]at hc
  simp at hc
 ·exact Cq (tQ h0 (by simp only[Bool.or_eq_true,XL]at hi;omega)) (by omega)
 simp only[Bool.or_eq_false_iff,decide_eq_false_iff_not]at hi;have hbz:∀o:Sx.Obj,(decide (o.kind=1)||decide (o.kind=2))=lg o:=fun o=>rfl
 refine⟨hr _ (by omega) (by omega),hr _ (by omega) (by omega),⟨aD L k-n+1,⟨by omega,by omega,G6⟩,rfl,rfl,rfl,rfl,rfl,rfl,rfl,rfl,rfl⟩,fun g hg=>⟨fun hgl=>?_,fun hgl=>?_⟩⟩
 ·obtain⟨g0,g1,g2⟩:=hg;have hgl:=XO hgl;rw[hbz];have hr1:0<=g/\g<(aj (dw L k):Int):=⟨by omega,by omega⟩
  have hr2:g.toNat<aj (dw L k):=by omega
  refine⟨hr1,hr2,fun _=>hr1,fun _=>hr2,fun hb=>?_,fun hb=>?_⟩
  ·exact Cq (BG h0 (C4 (by omega) (by omega) g0 (by omega) hb)) (by omega)
  ·exact⟨hr _ (by omega) (by omega),g+1,⟨by omega,by omega,by rw[FG (by omega) hb];exact g2⟩,by omega,rfl,rfl,rfl,rfl,rfl,rfl,rfl,rfl,rfl⟩
 ·obtain⟨g0,g1,g2⟩:=hg;have hgl:=XN hgl;have:g=aD L k+1:=by omega
  subst this;have e:=FL h0 (by omega) (by omega) g2
  have hp:∀(M:List Sx.Obj) (x:Int),M.length=L.length->0<=x->x<(L.length:Int)->dN M x:=fun M x hM h1 h2=>⟨h1,by unfold aj;omega,by unfold aj;omega⟩
  exact⟨⟨by omega,by omega⟩,by omega,⟨by omega,by omega⟩,by omega,hr _ (by omega) (by omega),hr _ (by omega) (by omega),hr _ (by omega) (by omega),hp _ _ hlM2 (by omega) (by omega),hp _ _ (by rw[jt];exact hlM2) a3 a4,by unfold jU;rw[e];rfl,⟨by unfold bQ;rw[XR e];rfl,e.symm⟩,by unfold bq;rw[XR e];rfl⟩
theorem Ge (L:List Sx.Obj) (k:Key) (n:Int) (hL:aq L):ai Tryz.prog 123 [.sa 0,.key k,.it .i64 n] [.ro (.arr none 163 (.ob L))] (yr (jU L k n) (bq L k n) [.key (bQ L k n),.it .i64 (bL L k n)]) (fun _ _=>False):=
 br (inl:=bn) (ann:=(jC [(123,10,T2 [0,2,4,7,9,10,12,13] (fun g=> [(14,.it .i64 g)]) (oO L k n) (xb (aD L k) 1))])) (ae qa (ae j7 an)) (aF zt aC) (Hp L k n hL) (by kernel_rfl)
theorem Gv:ll Tryz.prog 123 Mf:=
 iq (m:=fun x=>Py.cn x 0) (gg AE (fun _=>rfl)) (fun _=>rfl) (fun _ _=>rfl) fun L x hq=>Ge L x.1 x.2.1 hq
end Go.Proofs.YtghpaegglbbocaaGreat
namespace Go.Proofs.YtghpaegglbbocaaGreat
open Go.Sx
set_option maxRecDepth 100000
theorem PH (kind oid count:Int):
 (decide (kind=2)=true->Key.mk 3 oid count void.call void.rights void.value=cI kind oid count)/\(decide (kind=2)=false->Key.mk 2 oid count void.call void.rights void.value=cI kind
  oid count):=by
 unfold cI;exact⟨fun h=>by rw[XR (XO h)];rfl,fun h=>by rw[XQ (XN h)];rfl⟩
theorem qt:cj Tryz.prog 185 RW:=
 J1 (fy .i64) (fy .i64) (fy .i64) (fun _ _ _=>rfl) fun i j k _ _ _=>aW (inl:=bn) (ann:=aP) an (PH i j k) (by kernel_rfl)
theorem GR (k v:Key):
 true=true/\true=true/\((!decide (0<ak []))=true->false=iD [] k v/\1=aK [] k)/\((!decide (0<ak []))=false->true=true/\((!(aU [] k&&decide (k.kind=4)))=
  true->false=iD [] k v/\190=aK [] k)/\((!(aU [] k&&decide (k.kind=4)))=false->true=true/\((!(decide (((aa [] k).slots.at 0).kind=1)&&decide (((aa [] k).slots.at
  1).kind=1)&&decide (0<=((aa [] k).slots.at 0).value)&&decide (((aa [] k).slots.at 0).value<=((aa [] k).slots.at 1).value)&&decide (((aa [] k).slots.at 1).value<ak [])))
  =true->false=iD [] k v/\220=aK [] k)/\((!(decide (((aa [] k).slots.at 0).kind=1)&&decide (((aa [] k).slots.at 1).kind=1)&&decide (0<=((aa [] k).slots.at 0).value)&&
  decide (((aa [] k).slots.at 0).value<=((aa [] k).slots.at 1).value)&&decide (((aa [] k).slots.at 1).value<ak [])))=false->true=true/\(aU [] v&&(decide (v.kind=2)||
  decide (v.kind=3))&&decide (((aa [] k).slots.at 0).value<=cR v)&&decide (cR v<=((aa [] k).slots.at 1).value))=iD [] k v/\0=aK [] k))):=by
 exact⟨rfl,rfl,fun h=>A9 (Ey h) (by omega),fun h=>absurd h (by decide)⟩
theorem KA (L:List Sx.Obj) (k v:Key):
 true=true/\true=true/\((!decide (0<ak L))=true->false=iD L k v/\1=aK L k)/\((!decide (0<ak L))=false->true=true/\((!(aU L k&&decide (k.kind=4)))=true->
  false=iD L k v/\190=aK L k)/\((!(aU L k&&decide (k.kind=4)))=false->true=true/\((!(decide (((aa L k).slots.at 0).kind=1)&&decide (((aa L k).slots.at 1).kind=1)&&
  decide (0<=((aa L k).slots.at 0).value)&&decide (((aa L k).slots.at 0).value<=((aa L k).slots.at 1).value)&&decide (((aa L k).slots.at 1).value<ak L)))=true->false=
  iD L k v/\220=aK L k)/\((!(decide (((aa L k).slots.at 0).kind=1)&&decide (((aa L k).slots.at 1).kind=1)&&decide (0<=((aa L k).slots.at 0).value)&&decide (((aa L
  k).slots.at 0).value<=((aa L k).slots.at 1).value)&&decide (((aa L k).slots.at 1).value<ak L)))=false->true=true/\(aU L v&&(decide (v.kind=2)||decide (v.kind=3))&&
  decide (((aa L k).slots.at 0).value<=cR v)&&decide (cR v<=((aa L k).slots.at 1).value))=iD L k v/\0=aK L k))):=by
 refine⟨rfl,rfl,fun h=>A9 (Ey h) (by omega),fun h=>⟨rfl,fun h2=>A9 (UJ h h2) (by omega),fun h2=>⟨rfl,fun h3=>A9 (Vb h h2 h3) (by omega),fun h3=>⟨rfl,?_,(Qj h h2 h3).1.symm⟩⟩⟩⟩
 obtain⟨e,e1,e2⟩:=Qj h h2 h3;rw[e1,e2];unfold iD gU;rw[e];cases hi:aU L v with
 |false=>simp
 |true=>
  cases hk:(decide (v.kind=2)||decide (v.kind=3))with
  |false=>simp
  |true=>
   have hn:cR v=v.oid:=SS hi;rw[hn];simp
theorem LA:cj Tryz.prog 165 O2:=
 eY (aJ tf uX) (fun _=>rfl) fun a hq hok=>by
  obtain⟨S,k,v,_⟩:=a;cases S with
  |none=>exact aV (inl:=(fun f=>f==153||f==152||f==154)) (ann:=aP) (ae bB (ae bK (ae eV an))) aC (eD gp) (GR k v) (by kernel_rfl)
  |some L=>exact aV (inl:=(fun f=>f==153||f==152||f==154)) (ann:=aP) (ae bB (ae bK (ae eV an))) aC (eD gp) (KA L k v) (by kernel_rfl)
theorem JY (k v:Key):
 true=true/\true=true/\((!decide (0<ak []))=true->1=b6 [] k v)/\((!decide (0<ak []))=false->true=true/\((!(aU [] k&&decide (k.kind=4)))=true->190=b6 [] k
  v)/\((!(aU [] k&&decide (k.kind=4)))=false->true=true/\((!(decide (((aa [] k).slots.at 0).kind=1)&&decide (((aa [] k).slots.at 1).kind=1)&&decide (0<=((aa []
  k).slots.at 0).value)&&decide (((aa [] k).slots.at 0).value<=((aa [] k).slots.at 1).value)&&decide (((aa [] k).slots.at 1).value<ak [])))=true->220=b6 [] k v)/\
  ((!(decide (((aa [] k).slots.at 0).kind=1)&&decide (((aa [] k).slots.at 1).kind=1)&&decide (0<=((aa [] k).slots.at 0).value)&&decide (((aa [] k).slots.at 0).value<=((aa
  [] k).slots.at 1).value)&&decide (((aa [] k).slots.at 1).value<ak [])))=false->true=true/\true=true/\((!(aU [] v&&(decide (v.kind=2)||decide (v.kind=3))))=true->5=
  b6 [] k v)/\((!(aU [] v&&(decide (v.kind=2)||decide (v.kind=3))))=false->true=true/\true=true/\((!(decide (((aa [] k).slots.at 0).value<=v.oid)&&decide (v.oid<=((aa
  [] k).slots.at 1).value)&& !decide (v.oid=k.oid)))=true->4=b6 [] k v)/\((!(decide (((aa [] k).slots.at 0).value<=v.oid)&&decide (v.oid<=((aa [] k).slots.at 1).value)&& !decide
  (v.oid=k.oid)))=false->true=true/\true=true/\0=b6 [] k v))))):=by
 exact⟨rfl,rfl,fun h=>(rr (pN (Ey h) (by omega)) (by omega)).1,fun h=>absurd h (by decide)⟩
theorem KB (k v:Key):
 true=true/\true=true/\((!decide (0<ak []))=true->1=b6 [] k v)/\((!decide (0<ak []))=false->true=true/\((!(aU [] k&&decide (k.kind=4)))=true->190=b6 [] k
  v)/\((!(aU [] k&&decide (k.kind=4)))=false->true=true/\((!(decide (((aa [] k).slots.at 0).kind=1)&&decide (((aa [] k).slots.at 1).kind=1)&&decide (0<=((aa []
  k).slots.at 0).value)&&decide (((aa [] k).slots.at 0).value<=((aa [] k).slots.at 1).value)&&decide (((aa [] k).slots.at 1).value<ak [])))=true->220=b6 [] k v)/\
  ((!(decide (((aa [] k).slots.at 0).kind=1)&&decide (((aa [] k).slots.at 1).kind=1)&&decide (0<=((aa [] k).slots.at 0).value)&&decide (((aa [] k).slots.at 0).value<=((aa
  [] k).slots.at 1).value)&&decide (((aa [] k).slots.at 1).value<ak [])))=false->true=true/\true=true/\((!(aU [] v&&(decide (v.kind=2)||decide (v.kind=3))))=true->5=
  b6 [] k v)/\((!(aU [] v&&(decide (v.kind=2)||decide (v.kind=3))))=false->true=true/\true=true/\((!(decide (((aa [] k).slots.at 0).value<=v.oid)&&decide (v.oid<=((aa
  [] k).slots.at 1).value)&& !decide (v.oid=k.oid)))=true->4=b6 [] k v)/\((!(decide (((aa [] k).slots.at 0).value<=v.oid)&&decide (v.oid<=((aa [] k).slots.at 1).value)&& !decide
  (v.oid=k.oid)))=false->true=true/\true=true/\False))))):=by
 exact⟨rfl,rfl,fun h=>(rr (pN (Ey h) (by omega)) (by omega)).1,fun h=>absurd h (by decide)⟩
theorem NU (L:List Sx.Obj) (k v:Key) (hL:aq L):
 true=true/\true=true/\((!decide (0<ak L))=true->1=b6 L k v/\L=fK L k v)/\((!decide (0<ak L))=false->true=true/\((!(aU L k&&decide (k.kind=4)))=true->
  190=b6 L k v/\L=fK L k v)/\((!(aU L k&&decide (k.kind=4)))=false->true=true/\((!(decide (((aa L k).slots.at 0).kind=1)&&decide (((aa L k).slots.at 1).kind=1)&&
  decide (0<=((aa L k).slots.at 0).value)&&decide (((aa L k).slots.at 0).value<=((aa L k).slots.at 1).value)&&decide (((aa L k).slots.at 1).value<ak L)))=true->220=b6
  L k v/\L=fK L k v)/\((!(decide (((aa L k).slots.at 0).kind=1)&&decide (((aa L k).slots.at 1).kind=1)&&decide (0<=((aa L k).slots.at 0).value)&&decide (((aa L
  k).slots.at 0).value<=((aa L k).slots.at 1).value)&&decide (((aa L k).slots.at 1).value<ak L)))=false->true=true/\true=true/\((!(aU L v&&(decide (v.kind=2)||decide
  (v.kind=3))))=true->5=b6 L k v/\L=fK L k v)/\((!(aU L v&&(decide (v.kind=2)||decide (v.kind=3))))=false->true=true/\true=true/\((!(decide (((aa L k).slots.at
  0).value<=v.oid)&&decide (v.oid<=((aa L k).slots.at 1).value)&& !decide (v.oid=k.oid)))=true->4=b6 L k v/\L=fK L k v)/\((!(decide (((aa L k).slots.at 0).value<=v.oid)
  &&decide (v.oid<=((aa L k).slots.at 1).value)&& !decide (v.oid=k.oid)))=false->true=true/\true=true/\0=b6 L k v/\cW L v.oid (Obj.mk free.kind (aR L v.oid).count
  free.calls free.slots free.bytes)=fK L k v))))):=by
 refine⟨rfl,rfl,fun h=>rr (pN (Ey h) (by omega)) (by omega),fun h=>⟨rfl,fun h2=>rr (pN (UJ h h2) (by omega)) (by omega),fun h2=>⟨rfl,fun h3=>rr (pN (Vb h h2 h3) (by omega)) (by omega),fun h3=>⟨rfl,rfl,fun h4=>?_,fun h4=>⟨rfl,rfl,fun h5=>?_,fun h5=>⟨rfl,rfl,?_⟩⟩⟩⟩⟩⟩
 ·obtain⟨e,e1,e2⟩:=Qj h h2 h3;have ht:gU L v=false:=by have h4':(!gU L v)=true:=h4;simpa using h4'
  exact rr (by unfold b6;rw[XR e,ht];rfl) (by omega)
 ·obtain⟨e,e1,e2⟩:=Qj h h2 h3;have ht:gU L v=true:=by have h4':(!gU L v)=false:=h4;simpa using h4'
  rw[e1,e2]at h5
  exact rr (by
   unfold b6;rw[XR e,ht,XR rfl,XQ];intro hh;simp only[Bool.not_eq_true',Bool.and_eq_false_iff,Bool.not_eq_false',decide_eq_false_iff_not,XL]at h5;omega) (by omega)
 ·obtain⟨e,e1,e2⟩:=Qj h h2 h3;have ht:gU L v=true:=by have h4':(!gU L v)=false:=h4;simpa using h4'
  rw[e1,e2]at h5
  have hE:b6 L k v=0:=by
   unfold b6;rw[XR e,ht,XR rfl,XR];simp only[Bool.not_eq_false',XK,Bool.not_eq_true',XL,decide_eq_false_iff_not]at h5;omega
  obtain⟨_,b2,b3,_⟩:=dB (B0 ht);rw[gF b2 b3];refine⟨hE.symm,?_⟩;unfold fK;rw[XR hE];exact(nt b2 b3 (v7 (dW hL v.oid.toNat (by omega)))).1
theorem Pv (L:List Sx.Obj) (k v:Key) (hL:aq L):ai Tryz.prog 83 [.lp 0 0,.key k,.key v] [.store tS eS L] (CP (.it .i64 (b6 L k v)) (fK L k v)) (fun _ _=>False):=
 aV (inl:=(fun f=>f==153||f==152||f==154||f==155||f==156)) (ann:=aP) (ae bB (ae bK (ae gW an))) (aF dM aC) (eD gp) (NU L k v hL) (by kernel_rfl)
theorem N7:ll Tryz.prog 83 RG:=
 mj (m:=fun x=>J4.cn x 0) (gg uX (fun _=>rfl)) (fun _=>rfl) (fun _ _=>rfl) (fun x=>aV (inl:=(fun f=>f==153||f==152||f==154||f==155||f==156)) (ann:=aP) (ae bB (ae bK (ae gW an))) (aF dM aC) (eD gp) (JY x.1 x.2.1) (by kernel_rfl)) (fun x=>aV (inl:=(fun f=>f==153||f==152||f==154||f==155||f==156)) (ann:=aP) (ae bB (ae bK (ae gW an))) (aF dM aC) (eD gp) (KB x.1 x.2.1) (by kernel_rfl)) fun L x hL _ _=>Pv L x.1 x.2.1 hL
theorem Gq (k:Key):
 true=true/\true=true/\((!decide (0<ak []))=true->0=eO [] k/\1=aK [] k)/\((!decide (0<ak []))=false->true=true/\((!(aU [] k&&decide (k.kind=4)))=true->0
  =eO [] k/\190=aK [] k)/\((!(aU [] k&&decide (k.kind=4)))=false->true=true/\((!(decide (((aa [] k).slots.at 0).kind=1)&&decide (((aa [] k).slots.at 1).kind=1)&&
  decide (0<=((aa [] k).slots.at 0).value)&&decide (((aa [] k).slots.at 0).value<=((aa [] k).slots.at 1).value)&&decide (((aa [] k).slots.at 1).value<ak [])))=true->0=
  eO [] k/\220=aK [] k)/\((!(decide (((aa [] k).slots.at 0).kind=1)&&decide (((aa [] k).slots.at 1).kind=1)&&decide (0<=((aa [] k).slots.at 0).value)&&decide (((aa
  [] k).slots.at 0).value<=((aa [] k).slots.at 1).value)&&decide (((aa [] k).slots.at 1).value<ak [])))=false->true=true/\true=true/\∀(r0:Loop),False))):=by
 exact⟨rfl,rfl,fun h=>(w8 (Ey h) (by omega)).1,fun h=>absurd h (by decide)⟩
theorem F5 (k:Key):
 true=true/\true=true/\((!decide (0<ak []))=true->0=eO [] k/\1=aK [] k)/\((!decide (0<ak []))=false->true=true/\((!(aU [] k&&decide (k.kind=4)))=true->0
  =eO [] k/\190=aK [] k)/\((!(aU [] k&&decide (k.kind=4)))=false->true=true/\((!(decide (((aa [] k).slots.at 0).kind=1)&&decide (((aa [] k).slots.at 1).kind=1)&&
  decide (0<=((aa [] k).slots.at 0).value)&&decide (((aa [] k).slots.at 0).value<=((aa [] k).slots.at 1).value)&&decide (((aa [] k).slots.at 1).value<ak [])))=true->0=
  eO [] k/\220=aK [] k)/\((!(decide (((aa [] k).slots.at 0).kind=1)&&decide (((aa [] k).slots.at 1).kind=1)&&decide (0<=((aa [] k).slots.at 0).value)&&decide (((aa
  [] k).slots.at 0).value<=((aa [] k).slots.at 1).value)&&decide (((aa [] k).slots.at 1).value<ak [])))=false->true=true/\true=true/\∀(r0:Loop),False))):=by
 exact⟨rfl,rfl,fun h=>(w8 (Ey h) (by omega)).1,fun h=>absurd h (by decide)⟩
theorem H9 (L:List Sx.Obj) (k:Key) (hL:aq L):
 true=true/\true=true/\((!decide (0<ak L))=true->(0=eO L k/\1=aK L k)/\L=ga L k)/\((!decide (0<ak L))=false->true=true/\((!(aU L k&&decide (k.kind=
  4)))=true->(0=eO L k/\190=aK L k)/\L=ga L k)/\((!(aU L k&&decide (k.kind=4)))=false->true=true/\((!(decide (((aa L k).slots.at 0).kind=1)&&decide (((aa L
  k).slots.at 1).kind=1)&&decide (0<=((aa L k).slots.at 0).value)&&decide (((aa L k).slots.at 0).value<=((aa L k).slots.at 1).value)&&decide (((aa L k).slots.at 1).value<
  ak L)))=true->(0=eO L k/\220=aK L k)/\L=ga L k)/\((!(decide (((aa L k).slots.at 0).kind=1)&&decide (((aa L k).slots.at 1).kind=1)&&decide (0<=((aa L
  k).slots.at 0).value)&&decide (((aa L k).slots.at 0).value<=((aa L k).slots.at 1).value)&&decide (((aa L k).slots.at 1).value<ak L)))=false->true=true/\true=true/\∀(r0
  :Loop),(∃g,qN L k g/\((aa L k).slots.at 0).value=g/\L=dn L (au L k) g k.oid/\k=k/\0=dY L (au L k) g k.oid/\k=k/\aa L k=aa L k/\k.oid=k.oid/\
  ((aa L k).slots.at 0).value=((aa L k).slots.at 0).value/\((aa L k).slots.at 1).value=((aa L k).slots.at 1).value/\aa L k=aa L k/\(aa L k).slots.at 0=(aa L
  k).slots.at 0/\(aa L k).slots.at 1=(aa L k).slots.at 1/\aa L k=aa L k/\k.oid=k.oid/\((aa L k).slots.at 0).value=((aa L k).slots.at 0).value/\((aa L k).slots.at
  1).value=((aa L k).slots.at 1).value/\aa L k=aa L k/\k.oid=k.oid/\((aa L k).slots.at 0).value=((aa L k).slots.at 0).value/\((aa L k).slots.at 1).value=((aa L
  k).slots.at 1).value/\r0=r0)/\∀(g:Int),qN L k g->(decide (g<=((aa L k).slots.at 1).value)=true->r0=r0/\r0=r0/\((decide ((aR (dn L (au L k) g k.oid) g).kind=1)||
  decide ((aR (dn L (au L k) g k.oid) g).kind=2))=true->true=true/\((decide (((aa L k).slots.at 0).value<=g)&&decide (g<=((aa L k).slots.at 1).value)&& !decide (g=k.oid))
  =true->true=true/\true=true/\aI IntKind.i64 (dY L (au L k) g k.oid+1)/\r0=r0/\aI IntKind.i64 (g+1)/\∃g',qN L k g'/\(aD L k+1-g').toNat<(aD L k+1-
  g).toNat/\g+1=g'/\cW (dn L (au L k) g k.oid) g (Obj.mk free.kind (aR (dn L (au L k) g k.oid) g).count free.calls free.slots free.bytes)=dn L (au L k) g' k.oid/\k=
  k/\dY L (au L k) g k.oid+1=dY L (au L k) g' k.oid/\k=k/\aa L k=aa L k/\k.oid=k.oid/\((aa L k).slots.at 0).value=((aa L k).slots.at 0).value/\((aa L
  k).slots.at 1).value=((aa L k).slots.at 1).value/\aa L k=aa L k/\(aa L k).slots.at 0=(aa L k).slots.at 0/\(aa L k).slots.at 1=(aa L k).slots.at 1/\aa L k=
  aa L k/\k.oid=k.oid/\((aa L k).slots.at 0).value=((aa L k).slots.at 0).value/\((aa L k).slots.at 1).value=((aa L k).slots.at 1).value/\aa L k=aa L k/\k.oid=
  k.oid/\((aa L k).slots.at 0).value=((aa L k).slots.at 0).value/\((aa L k).slots.at 1).value=((aa L k).slots.at 1).value/\r0=r0)/\((decide (((aa L k).slots.at 0).value<=g)
  &&decide (g<=((aa L k).slots.at 1).value)&& !decide (g=k.oid))=false->r0=r0/\aI IntKind.i64 (g+1)/\∃g',qN L k g'/\(aD L k+1-g').toNat<(aD L k+1-g).toNat/\
  g+1=g'/\dn L (au L k) g k.oid=dn L (au L k) g' k.oid/\k=k/\dY L (au L k) g k.oid=dY L (au L k) g' k.oid/\k=k/\aa L k=aa L k/\k.oid=k.oid/\
  ((aa L k).slots.at 0).value=((aa L k).slots.at 0).value/\((aa L k).slots.at 1).value=((aa L k).slots.at 1).value/\aa L k=aa L k/\(aa L k).slots.at 0=(aa L
  k).slots.at 0/\(aa L k).slots.at 1=(aa L k).slots.at 1/\aa L k=aa L k/\k.oid=k.oid/\((aa L k).slots.at 0).value=((aa L k).slots.at 0).value/\((aa L k).slots.at
  1).value=((aa L k).slots.at 1).value/\aa L k=aa L k/\k.oid=k.oid/\((aa L k).slots.at 0).value=((aa L k).slots.at 0).value/\((aa L k).slots.at 1).value=((aa L
  k).slots.at 1).value/\r0=r0))/\((decide ((aR (dn L (au L k) g k.oid) g).kind=1)||decide ((aR (dn L (au L k) g k.oid) g).kind=2))=false->r0=r0/\aI IntKind.i64 (g+
  1)/\∃g',qN L k g'/\(aD L k+1-g').toNat<(aD L k+1-g).toNat/\g+1=g'/\dn L (au L k) g k.oid=dn L (au L k) g' k.oid/\k=k/\dY L (au L k) g k.oid=
  dY L (au L k) g' k.oid/\k=k/\aa L k=aa L k/\k.oid=k.oid/\((aa L k).slots.at 0).value=((aa L k).slots.at 0).value/\((aa L k).slots.at 1).value=((aa L
  k).slots.at 1).value/\aa L k=aa L k/\(aa L k).slots.at 0=(aa L k).slots.at 0/\(aa L k).slots.at 1=(aa L k).slots.at 1/\aa L k=aa L k/\k.oid=k.oid/\
  ((aa L k).slots.at 0).value=((aa L k).slots.at 0).value/\((aa L k).slots.at 1).value=((aa L k).slots.at 1).value/\aa L k=aa L k/\k.oid=k.oid/\((aa L k).slots.at
  0).value=((aa L k).slots.at 0).value/\((aa L k).slots.at 1).value=((aa L k).slots.at 1).value/\r0=r0))/\(decide (g<=((aa L k).slots.at 1).value)=false->(dY L (au L
  k) g k.oid=eO L k/\0=aK L k)/\dn L (au L k) g k.oid=ga L k)))):=by
 refine⟨rfl,rfl,fun h=>w8 (Ey h) (by omega),fun h=>⟨rfl,fun h2=>w8 (UJ h h2) (by omega),fun h2=>⟨rfl,fun h3=>w8 (Vb h h2 h3) (by omega),fun h3=>⟨rfl,rfl,fun r0=>?_⟩⟩⟩⟩
 obtain⟨e,e1,e2⟩:=Qj h h2 h3;obtain⟨_,a0,a1,a2,_⟩:=lr e;rw[e1,e2];have hlen:=ku hL;have hin:∀g:Int,au L k<=g->g<=aD L k->aI IntKind.i64 (g+1):=fun g h1 h2=>by simp only[aI,cg];omega
 have hnn:∀g:Int,aI IntKind.i64 (dY L (au L k) g k.oid+1):=fun g=>by
  have:=rz (L:=L) (f:=au L k) (g:=g) (oid:=k.oid);have:=Lk (L:=L) (f:=au L k) (g:=g) (oid:=k.oid);simp only[aI,cg];omega
 refine⟨⟨au L k,⟨by omega,by omega⟩,rfl,Ip,rfl,sX.symm,(by(repeat' apply And.intro)<;>rfl)⟩,fun g hg=>⟨fun hgl=>?_,fun hgl=>?_⟩⟩
 ·obtain⟨g0,g1⟩:=hg;have hgl:=XO hgl;have hgz:(dn L (au L k) g k.oid).length=L.length:=A1;have hgt:aR (dn L (au L k) g k.oid) g=ah L g.toNat free:=by rw[gF (by omega) (by omega),Iz (by omega)]
  rw[hgt];refine⟨rfl,rfl,fun hk=>⟨rfl,fun hb=>?_,fun hb=>?_⟩,fun hk=>?_⟩
  ·have hne:¬g=k.oid:=by
    simp only[XK,Bool.not_eq_true',decide_eq_false_iff_not]at hb;exact hb.2
   have hh:ja L g k.oid=true:=by unfold ja lg;rw[hk];simp[hne]
   have hs:=wz (L:=L) (f:=au L k) (oid:=k.oid) (by omega:0<=g) (by omega) g0 hh
   have hs2:=Ac (L:=L) (f:=au L k) (oid:=k.oid) (by omega:0<=g) (by omega) g0 hh
   have hp:=(nt (L:=dn L (au L k) g k.oid) (i:=g) (by omega) (by omega) (hgz▸v7 (dW hL g.toNat (by omega)))).1
   exact⟨rfl,rfl,hnn g,rfl,hin g g0 hgl,g+1,⟨by omega,by omega⟩,by omega,rfl,hp.trans hs2,rfl,hs.symm,(by(repeat' apply And.intro)<;>rfl)⟩
  ·have hh:ja L g k.oid=false:=by
    have e3:decide (au L k<=g)=true:=by simp;omega
    have e4:decide (g<=aD L k)=true:=by simp;omega
    rw[e3,e4]at hb;unfold ja;rw[Bool.and_eq_false_iff];right
    simpa using hb
   have hs:=ua (L:=L) (f:=au L k) (oid:=k.oid) (by omega:0<=g) g0 hh
   have hs2:=yd (L:=L) (f:=au L k) (oid:=k.oid) (by omega:0<=g) g0 hh
   exact⟨rfl,hin g g0 hgl,g+1,⟨by omega,by omega⟩,by omega,rfl,hs2.symm,rfl,hs.symm,(by(repeat' apply And.intro)<;>rfl)⟩
  ·have hh:ja L g k.oid=false:=by unfold ja lg;rw[hk];rfl
   have hs:=ua (L:=L) (f:=au L k) (oid:=k.oid) (by omega:0<=g) g0 hh
   have hs2:=yd (L:=L) (f:=au L k) (oid:=k.oid) (by omega:0<=g) g0 hh
   exact⟨rfl,hin g g0 hgl,g+1,⟨by omega,by omega⟩,by omega,rfl,hs2.symm,rfl,hs.symm,(by(repeat' apply And.intro)<;>rfl)⟩
 ·obtain⟨g0,g1⟩:=hg;have hgl:=XN hgl;have:g=aD L k+1:=by omega
  subst this;exact⟨⟨by unfold eO;rw[XR e],e.symm⟩,by unfold ga;rw[XR e]⟩
theorem MQ (L:List Sx.Obj) (k:Key) (hL:aq L):ai Tryz.prog 166 [.lp 0 0,.key k] [.store tS eS L] (CP (.tp [.it .i64 (eO L k),.it .i64 (aK L k)]) (ga L k)) (fun _ _=>False):=
 aV (inl:=(fun f=>f==153||f==152||f==155||f==156||f==159||f==1000000+186)) (ann:=(jC [(5000+186,1,Xn [0,1] (fun(g:Int)=> [(3,.it .i64 g)]) (fun g=> [(0,.store tS eS (dn L (au L k) g k.oid)),(2,.blk 3 (.it .i64 (dY L (au L k) g k.oid)))]) (qN L k) (fun g=>ot (rW (xb (aD L k) 1) g)))])) (ae bB (ae bK (ae gW an))) (aF dM aC) (eD gp) (H9 L k hL) (by kernel_rfl)
theorem KH:ll Tryz.prog 166 Qr:=
 mj (m:=fun x=>kB.cn x 0) (gg BM (fun _=>rfl)) (fun _=>rfl) (fun _ _=>rfl) (fun x=>aV (inl:=(fun f=>f==153||f==152||f==155||f==156||f==159||f==1000000+186)) (ann:=aP) (ae bB (ae bK (ae gW an))) (aF dM aC) (eD gp) (Gq x.1) (by kernel_rfl)) (fun x=>aV (inl:=(fun f=>f==153||f==152||f==155||f==156||f==159||f==1000000+186)) (ann:=aP) (ae bB (ae bK (ae gW an))) (aF dM aC) (eD gp) (F5 x.1) (by kernel_rfl)) fun L x hL _ _=>MQ L x.1 hL
theorem GF (k:Key) (kind:Int):
 true=true/\true=true/\((!decide (0<ak []))=true->void=cH [] k kind/\1=bW [] k kind)/\((!decide (0<ak []))=false->true=true/\((!(aU [] k&&decide (k.kind=
  4)))=true->void=cH [] k kind/\190=bW [] k kind)/\((!(aU [] k&&decide (k.kind=4)))=false->true=true/\((!(decide (((aa [] k).slots.at 0).kind=1)&&decide (((aa []
  k).slots.at 1).kind=1)&&decide (0<=((aa [] k).slots.at 0).value)&&decide (((aa [] k).slots.at 0).value<=((aa [] k).slots.at 1).value)&&decide (((aa [] k).slots.at 1).value<
  ak [])))=true->void=cH [] k kind/\220=bW [] k kind)/\((!(decide (((aa [] k).slots.at 0).kind=1)&&decide (((aa [] k).slots.at 1).kind=1)&&decide (0<=((aa []
  k).slots.at 0).value)&&decide (((aa [] k).slots.at 0).value<=((aa [] k).slots.at 1).value)&&decide (((aa [] k).slots.at 1).value<ak [])))=false->true=true/\((!(decide (kind
  =1)||decide (kind=2)))=true->void=cH [] k kind/\2=bW [] k kind)/\((!(decide (kind=1)||decide (kind=2)))=false->true=true/\true=true/\true=true/\∀(r0:Loop),
  False)))):=by
 exact⟨rfl,rfl,fun h=>(uc (ph (Ey h) (by omega)) (by omega)).1,fun h=>absurd h (by decide)⟩
theorem GH (k:Key) (kind:Int):
 true=true/\true=true/\((!decide (0<ak []))=true->void=cH [] k kind/\1=bW [] k kind)/\((!decide (0<ak []))=false->true=true/\((!(aU [] k&&decide (k.kind=
  4)))=true->void=cH [] k kind/\190=bW [] k kind)/\((!(aU [] k&&decide (k.kind=4)))=false->true=true/\((!(decide (((aa [] k).slots.at 0).kind=1)&&decide (((aa []
  k).slots.at 1).kind=1)&&decide (0<=((aa [] k).slots.at 0).value)&&decide (((aa [] k).slots.at 0).value<=((aa [] k).slots.at 1).value)&&decide (((aa [] k).slots.at 1).value<
  ak [])))=true->void=cH [] k kind/\220=bW [] k kind)/\((!(decide (((aa [] k).slots.at 0).kind=1)&&decide (((aa [] k).slots.at 1).kind=1)&&decide (0<=((aa []
  k).slots.at 0).value)&&decide (((aa [] k).slots.at 0).value<=((aa [] k).slots.at 1).value)&&decide (((aa [] k).slots.at 1).value<ak [])))=false->true=true/\((!(decide (kind
  =1)||decide (kind=2)))=true->void=cH [] k kind/\2=bW [] k kind)/\((!(decide (kind=1)||decide (kind=2)))=false->true=true/\true=true/\true=true/\∀(r0:Loop),
  False)))):=by
 exact⟨rfl,rfl,fun h=>(uc (ph (Ey h) (by omega)) (by omega)).1,fun h=>absurd h (by decide)⟩
theorem Ka (L:List Sx.Obj) (k:Key) (kind:Int) (hL:aq L):
 true=true/\true=true/\((!decide (0<ak L))=true->(void=cH L k kind/\1=bW L k kind)/\L=eF L k kind)/\((!decide (0<ak L))=false->true=true/\((!(aU L k&&
  decide (k.kind=4)))=true->(void=cH L k kind/\190=bW L k kind)/\L=eF L k kind)/\((!(aU L k&&decide (k.kind=4)))=false->true=true/\((!(decide (((aa L k).slots.at
  0).kind=1)&&decide (((aa L k).slots.at 1).kind=1)&&decide (0<=((aa L k).slots.at 0).value)&&decide (((aa L k).slots.at 0).value<=((aa L k).slots.at 1).value)&&decide
  (((aa L k).slots.at 1).value<ak L)))=true->(void=cH L k kind/\220=bW L k kind)/\L=eF L k kind)/\((!(decide (((aa L k).slots.at 0).kind=1)&&decide (((aa L
  k).slots.at 1).kind=1)&&decide (0<=((aa L k).slots.at 0).value)&&decide (((aa L k).slots.at 0).value<=((aa L k).slots.at 1).value)&&decide (((aa L k).slots.at 1).value<
  ak L)))=false->true=true/\((!(decide (kind=1)||decide (kind=2)))=true->(void=cH L k kind/\2=bW L k kind)/\L=eF L k kind)/\((!(decide (kind=1)||decide (kind=
  2)))=false->true=true/\true=true/\true=true/\∀(r0:Loop),(∃g,iB L k g/\((aa L k).slots.at 0).value=g/\L=bE L (au L k) g/\k=k/\void=void/\k=k/\aa L k
  =aa L k/\k.oid=k.oid/\((aa L k).slots.at 0).value=((aa L k).slots.at 0).value/\((aa L k).slots.at 1).value=((aa L k).slots.at 1).value/\aa L k=aa L k/\(aa
  L k).slots.at 0=(aa L k).slots.at 0/\(aa L k).slots.at 1=(aa L k).slots.at 1/\aa L k=aa L k/\k.oid=k.oid/\((aa L k).slots.at 0).value=((aa L k).slots.at
  0).value/\((aa L k).slots.at 1).value=((aa L k).slots.at 1).value/\aa L k=aa L k/\k.oid=k.oid/\((aa L k).slots.at 0).value=((aa L k).slots.at 0).value/\((aa L
  k).slots.at 1).value=((aa L k).slots.at 1).value/\kind=kind/\void=void/\false=false/\aa L k=aa L k/\k.oid=k.oid/\((aa L k).slots.at 0).value=((aa L k).slots.at
  0).value/\((aa L k).slots.at 1).value=((aa L k).slots.at 1).value/\r0=r0)/\∀(g:Int),iB L k g->(decide (g<=((aa L k).slots.at 1).value)=true->r0=r0/\r0=r0/\
  ((!decide ((aR (bE L (au L k) g) g).kind=0))=true->r0=r0/\aI IntKind.i64 (g+1)/\∃g',iB L k g'/\(aD L k+1-g').toNat<(aD L k+1-g).toNat/\g+1=g'/\
  bE L (au L k) g=bE L (au L k) g'/\k=k/\void=void/\k=k/\aa L k=aa L k/\k.oid=k.oid/\((aa L k).slots.at 0).value=((aa L k).slots.at 0).value/\((aa L
  k).slots.at 1).value=((aa L k).slots.at 1).value/\aa L k=aa L k/\(aa L k).slots.at 0=(aa L k).slots.at 0/\(aa L k).slots.at 1=(aa L k).slots.at 1/\aa L k=
  aa L k/\k.oid=k.oid/\((aa L k).slots.at 0).value=((aa L k).slots.at 0).value/\((aa L k).slots.at 1).value=((aa L k).slots.at 1).value/\aa L k=aa L k/\k.oid=
  k.oid/\((aa L k).slots.at 0).value=((aa L k).slots.at 0).value/\((aa L k).slots.at 1).value=((aa L k).slots.at 1).value/\kind=kind/\void=void/\false=false/\aa L k=
  aa L k/\k.oid=k.oid/\((aa L k).slots.at 0).value=((aa L k).slots.at 0).value/\((aa L k).slots.at 1).value=((aa L k).slots.at 1).value/\r0=r0)/\((!decide ((aR (bE
  L (au L k) g) g).kind=0))=false->(decide ((aR (bE L (au L k) g) g).count=4294967295)=true->true=true/\r0=r0/\aI IntKind.i64 (g+1)/\∃g',iB L k g'/\(aD L k
  +1-g').toNat<(aD L k+1-g).toNat/\g+1=g'/\cW (bE L (au L k) g) g (Obj.mk 3 (aR (bE L (au L k) g) g).count free.calls free.slots free.bytes)=bE L (au L k)
  g'/\k=k/\void=void/\k=k/\aa L k=aa L k/\k.oid=k.oid/\((aa L k).slots.at 0).value=((aa L k).slots.at 0).value/\((aa L k).slots.at 1).value=((aa L k).slots.at
  1).value/\aa L k=aa L k/\(aa L k).slots.at 0=(aa L k).slots.at 0/\(aa L k).slots.at 1=(aa L k).slots.at 1/\aa L k=aa L k/\k.oid=k.oid/\((aa L
  k).slots.at 0).value=((aa L k).slots.at 0).value/\((aa L k).slots.at 1).value=((aa L k).slots.at 1).value/\aa L k=aa L k/\k.oid=k.oid/\((aa L k).slots.at 0).value=
  ((aa L k).slots.at 0).value/\((aa L k).slots.at 1).value=((aa L k).slots.at 1).value/\kind=kind/\void=void/\false=false/\aa L k=aa L k/\k.oid=k.oid/\((aa L
  k).slots.at 0).value=((aa L k).slots.at 0).value/\((aa L k).slots.at 1).value=((aa L k).slots.at 1).value/\r0=r0)/\(decide ((aR (bE L (au L k) g) g).count=4294967295)=
  false->aI IntKind.i64 ((aR (bE L (au L k) g) g).count+1)/\true=true/\aI IntKind.i64 ((aR (bE L (au L k) g) g).count+1)/\r0=r0/\true=true/\(cI kind g ((aR
  (bE L (au L k) g) g).count+1)=cH L k kind/\0=bW L k kind)/\cW (bE L (au L k) g) g (Obj.mk kind ((aR (bE L (au L k) g) g).count+1) free.calls free.slots
  free.bytes)=eF L k kind)))/\(decide (g<=((aa L k).slots.at 1).value)=false->true=true/\(void=cH L k kind/\221=bW L k kind)/\bE L (au L k) g=eF L k kind))))):=by
 refine⟨rfl,rfl,fun h=>uc (ph (Ey h) (by omega)) (by omega),fun h=>⟨rfl,fun h2=>uc (ph (UJ h h2) (by omega)) (by omega),fun h2=>⟨rfl,fun h3=>uc (ph (Vb h h2 h3) (by omega)) (by omega),fun h3=>⟨rfl,fun h4=>uc (I6 (Qj h h2 h3).1 h4) (by omega),fun h4=>⟨rfl,rfl,rfl,fun r0=>?_⟩⟩⟩⟩⟩
 obtain⟨e,e1,e2⟩:=Qj h h2 h3;obtain⟨_,a0,a1,a2,_⟩:=lr e;rw[e1,e2]
 have hk:kind=1\/kind=2:=by
  simp only[Bool.not_eq_false',Bool.or_eq_true,XL]at h4;exact h4
 have hlen:=ku hL;have hin:∀g:Int,au L k<=g->g<=aD L k->aI IntKind.i64 (g+1):=fun g h1 h2=>by simp only[aI,cg];omega
 have hcnt:∀j:Nat,j<L.length->0<=(ah L j free).count/\(ah L j free).count<=4294967295:=fun j hj=>⟨(jd (dW hL j hj)).1,(jd (dW hL j hj)).2.1⟩
 have hci:∀j:Nat,j<L.length->aI IntKind.i64 ((ah L j free).count+1):=fun j hj=>by have:=hcnt j hj;simp only[aI,cg];omega
 refine⟨⟨au L k,⟨by omega,by omega,rG⟩,rfl,Cf,(by(repeat' apply And.intro)<;>rfl)⟩,fun g hg=>⟨fun hgl=>?_,fun hgl=>?_⟩⟩
 ·obtain⟨g0,g1,g2⟩:=hg;have hgl:=XO hgl;have hgn:g.toNat<L.length:=by omega
  have hgz:(bE L (au L k) g).length=L.length:=jH;have hgt:aR (bE L (au L k) g) g=ah L g.toNat free:=by rw[gF (by omega) (by omega),AQ (by omega)]
  rw[hgt];refine⟨rfl,rfl,fun hk0=>?_,fun hk0=>⟨fun hc=>?_,fun hc=>?_⟩⟩
  ·obtain⟨f1,f2⟩:=wb (o:=ah L g.toNat free) (by simpa using hk0)
   exact⟨rfl,hin g g0 hgl,g+1,⟨by omega,by omega,iS g2 f2⟩,by omega,rfl,(xN (by omega) f1).symm,(by(repeat' apply And.intro)<;>rfl)⟩
  ·obtain⟨f1,f2⟩:=z7 (o:=ah L g.toNat free) (by simpa using hk0) (by have:=XO hc;omega)
   have hp:=(nt (L:=bE L (au L k) g) (i:=g) (by omega) (by omega) (hgz▸Bc (dW hL g.toNat hgn))).1
   exact⟨rfl,rfl,hin g g0 hgl,g+1,⟨by omega,by omega,iS g2 f2⟩,by omega,rfl,hp.trans (vP (by omega) (by omega) g0 f1),(by(repeat' apply And.intro)<;>rfl)⟩
  ·have hc:=XN hc;have:=hcnt _ hgn;obtain⟨f1,f2⟩:=AH (o:=ah L g.toNat free) (by simpa using hk0) (by omega)
   obtain⟨m1,m2,m3⟩:=wv kind a0 g0 hgl (by omega) g2 f2
   obtain⟨n1,n2,n3,n4⟩:=F2 (kind:=kind) e hk (by rw[m1];omega)
   have hp:=(nt (L:=bE L (au L k) g) (i:=g) (by omega) (by omega) (hgz▸A2 (dW hL g.toNat hgn) f2 hk)).1
   refine⟨hci _ hgn,rfl,hci _ hgn,rfl,rfl,⟨?_,n3⟩,hp.trans (m3.symm.trans n4)⟩;have hK:cH L k kind=cI kind (bj L (au L k) (aD L k)) ((ah L (bj L (au L k) (aD L k)).toNat free).count+1):=by unfold cH;rw[XR n3.symm]
   rw[hK,m1]
 ·obtain⟨g0,g1,g2⟩:=hg;have hgl:=XN hgl;have:g=aD L k+1:=by omega
  subst this;obtain⟨m1,m2,m3⟩:=A3 kind g2;obtain⟨n1,n2,n3,n4⟩:=xI (kind:=kind) e hk m1;exact⟨rfl,⟨n2,n3⟩,m2.symm.trans n4⟩
theorem Kg (L:List Sx.Obj) (k:Key) (kind:Int) (hL:aq L):ai Tryz.prog 150 [.lp 0 0,.key k,.it .i64 kind] [.store tS eS L] (CP (.tp [.key (cH L k kind),.it .i64 (bW L k kind)]) (eF L k kind)) (fun _ _=>False):=
 aV (inl:=(fun f=>f==153||f==152||f==158||f==159||f==1000000+186)) (ann:=(jC [(3000+186,1,Uh [0,1] (fun g=> [(3,.it .i64 g)]) 0 (fun g=> .store tS eS (bE L (au L k) g)) (iB L k) (xb (aD L k) 1))])) (ae bB (ae bK (ae gW (ae qt an)))) (aF dM aC) (eD gp) (Ka L k kind hL) (by kernel_rfl)
theorem BC:ll Tryz.prog 150 Ph:=
 mj (m:=fun x=>Py.cn x 0) (gg AE (fun _=>rfl)) (fun _=>rfl) (fun _ _=>rfl) (fun x=>aV (inl:=(fun f=>f==153||f==152||f==158||f==159||f==1000000+186)) (ann:=aP) (ae bB (ae bK (ae gW (ae qt an)))) (aF dM aC) (eD gp) (GF x.1 x.2.1) (by kernel_rfl)) (fun x=>aV (inl:=(fun f=>f==153||f==152||f==158||f==159||f==1000000+186)) (ann:=aP) (ae bB (ae bK (ae gW (ae qt an)))) (aF dM aC) (eD gp) (GH x.1 x.2.1) (by kernel_rfl)) fun L x hL _ _=>Kg L x.1 x.2.1 hL
end Go.Proofs.YtghpaegglbbocaaGreat
