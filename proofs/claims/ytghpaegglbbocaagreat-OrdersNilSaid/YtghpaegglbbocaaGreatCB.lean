import Derived.Test.YtghpaegglbbocaaGreatCP
import Derived.Test.YtghpaegglbbocaaGreatSpB
import Derived.Test.YtghpaegglbbocaaGreatKS
import Derived.Test.YtghpaegglbbocaaGreatCV
set_option linter.unusedSimpArgs false
set_option linter.unusedVariables false
namespace Go.Proofs.YtghpaegglbbocaaGreat
open Go.Sx
theorem JK (L:List Sx.Obj) (k:Key):
 ((!decide (ay L k 4 false=0))=true->0=aH L k/\0=aA L k/\ay L k 4 false=aK L k)/\((!decide (ay L k 4 false=0))=false->(0<=k.oid/\k.oid< ↑(aj L))/\
   k.oid.toNat<aj L/\(0<=k.oid/\k.oid< ↑(aj L))/\k.oid.toNat<aj L/\((!decide (((ah L k.oid.toNat free).slots.at 0).kind=1)|| !decide (((ah L k.oid.toNat free).slots.at 1).kind=1)
   ||decide (((ah L k.oid.toNat free).slots.at 0).value<0)||decide (((ah L k.oid.toNat free).slots.at 1).value<((ah L k.oid.toNat free).slots.at 0).value)||decide (b9 (aj L)<=((ah L
   k.oid.toNat free).slots.at 1).value))=true->0=aH L k/\0=aA L k/\220=aK L k)/\((!decide (((ah L k.oid.toNat free).slots.at 0).kind=1)|| !decide (((ah L k.oid.toNat
   free).slots.at 1).kind=1)||decide (((ah L k.oid.toNat free).slots.at 0).value<0)||decide (((ah L k.oid.toNat free).slots.at 1).value<((ah L k.oid.toNat free).slots.at 0).value)||
   decide (b9 (aj L)<=((ah L k.oid.toNat free).slots.at 1).value))=false->((ah L k.oid.toNat free).slots.at 0).value=aH L k/\((ah L k.oid.toNat free).slots.at 1).value=aA L k/\0
   =aK L k)):=by
 rw[Nh];refine⟨fun h=>?_,fun h=>?_⟩
 ·obtain⟨e1,e2,e3⟩:=EI (show ay L k 4 false≠0 by simpa using h)
  rw[e1,e2,e3];exact⟨rfl,rfl,rfl⟩
 ·have h0:ay L k 4 false=0:=by simpa using h
  obtain⟨_,b2,b3,_⟩:=dz (fG h0).1;refine⟨⟨b2,b3⟩,by unfold aj;omega,⟨b2,b3⟩,by unfold aj;omega,fun h2=>?_,fun h2=>?_⟩
  ·obtain⟨e1,e2,e3⟩:=AX h0 (by simpa using h2)
   rw[e1,e2,e3];exact⟨rfl,rfl,rfl⟩
  ·obtain⟨e1,e2,e3⟩:=ux h0 (by simpa using h2)
   rw[e1,e2,e3];exact⟨rfl,rfl,rfl⟩
theorem pA:ck Tryz.prog 181 N2:=
 eP (aJ js C4) (fun _=>rfl) fun a hq hok=>by
  obtain⟨L,k,_⟩:=a;exact aV (inl:=bp) (ann:=aP) (ab oi ak) (JK L k) (by kernel_rfl)
theorem G5 (L:List Sx.Obj) (f l kind:Int) (hq:CJ L f l):
 (∃g,uj L f l g/\f=f/\l=l/\kind=kind/\f=g/\L=L)/\(∀(g:Int),uj L f l g->(decide (g<=l)=true->(0<=g/\g< ↑(aj L))/\g.toNat<aj L/\((!decide ((ah L g.toNat
  free).kind=0))=true->aG IntKind.i64 (g+1)/\((∃g',uj L f l g'/\(l+1-g').toNat<(l+1-g).toNat/\f=f/\l=l/\kind=kind/\g+1=g'/\L=L)\/∃g',qF L f l g'/\(l
  +1-g').toNat<(l+1-g).toNat/\False))/\((!decide ((ah L g.toNat free).kind=0))=false->(decide (4294967295<=(ah L g.toNat free).count)=true->dL L g/\aG IntKind.i64 (g+1)
  /\((∃g',uj L f l g'/\(l+1-g').toNat<(l+1-g).toNat/\False)\/∃g',qF L f l g'/\(l+1-g').toNat<(l+1-g).toNat/\f=f/\l=l/\kind=kind/\g+1=g'/\L=L/\cC
  L g.toNat (Obj.mk 3 (ah L g.toNat free).count free.calls free.slots free.bytes)=bE L f g'))/\(decide (4294967295<=(ah L g.toNat free).count)=false->aG IntKind.i64 ((ah L g.toNat
  free).count+1)/\dL L g/\kD L f l=true/\g=bh L f l/\cC L g.toNat (Obj.mk kind ((ah L g.toNat free).count+1) free.calls free.slots free.bytes)=ca L f l kind)))/\(decide
  (g<=l)=false->kD L f l=false/\ -1=bh L f l))/\∀(g:Int),qF L f l g->(decide (g<=l)=true->(0<=g/\g< ↑(aj (bE L f g)))/\g.toNat<aj (bE L f g)/\((!decide
  ((ah (bE L f g) g.toNat free).kind=0))=true->aG IntKind.i64 (g+1)/\∃g',qF L f l g'/\(l+1-g').toNat<(l+1-g).toNat/\f=f/\l=l/\kind=kind/\g+1=g'/\L=L/\
  bE L f g=bE L f g')/\((!decide ((ah (bE L f g) g.toNat free).kind=0))=false->(decide (4294967295<=(ah (bE L f g) g.toNat free).count)=true->dL (bE L f g) g/\aG
  IntKind.i64 (g+1)/\∃g',qF L f l g'/\(l+1-g').toNat<(l+1-g).toNat/\f=f/\l=l/\kind=kind/\g+1=g'/\L=L/\cC (bE L f g) g.toNat (Obj.mk 3 (ah (bE L f g)
  g.toNat free).count free.calls free.slots free.bytes)=bE L f g')/\(decide (4294967295<=(ah (bE L f g) g.toNat free).count)=false->aG IntKind.i64 ((ah (bE L f g) g.toNat
  free).count+1)/\dL (bE L f g) g/\kD L f l=true/\g=bh L f l/\cC (bE L f g) g.toNat (Obj.mk kind ((ah (bE L f g) g.toNat free).count+1) free.calls free.slots
  free.bytes)=ca L f l kind)))/\(decide (g<=l)=false->kD L f l=true/\ -1=bh L f l/\bE L f g=ca L f l kind):=by
 obtain⟨hL,h0,hl,hfl⟩:=hq;have hlen:=kh hL;have hll:(aj L:Int)=(L.length:Int):=rfl;have hrq:∀(M:List Sx.Obj) (g:Int),M.length=L.length->0<=g->g<=l->dL M g:=fun M g hM h1 h2=>⟨h1,by unfold aj;omega,by unfold aj;omega⟩
 have hin:∀g:Int,0<=g->g<=l->aG IntKind.i64 (g+1):=fun g h1 h2=>by simp only[aG,bY];omega
 have hcnt:∀j:Nat,j<L.length->0<=(ah L j free).count/\(ah L j free).count<=4294967295:=fun j hj=>⟨(jd (dY hL j hj)).1,(jd (dY hL j hj)).2.1⟩
 have hci:∀j:Nat,j<L.length->aG IntKind.i64 ((ah L j free).count+1):=fun j hj=>by have:=hcnt j hj;simp only[aG,bY];omega
 refine⟨⟨f,⟨by omega,hfl,sw,HX⟩,(by(repeat' apply And.intro)<;>rfl)⟩,fun g hg=>⟨fun hgl=>?_,fun hgl=>?_⟩,fun g hg=>⟨fun hgl=>?_,fun hgl=>?_⟩⟩
 ·obtain⟨g0,g1,g2,g3⟩:=hg;have hgl:=Yn hgl;have hgn:g.toNat<L.length:=by omega
  refine⟨⟨by omega,by omega⟩,hgn,fun hk=>?_,fun hk=>⟨fun hc=>?_,fun hc=>?_⟩⟩
  ·obtain⟨e1,e2⟩:=wm (o:=ah L g.toNat free) (by simpa using hk)
   exact⟨hin g (by omega) hgl,.inl ⟨g+1,⟨by omega,by omega,iR g2 e2,by rw[FL (by omega) e1];exact g3⟩,by omega,(by(repeat' apply And.intro)<;>rfl)⟩⟩
  ·obtain⟨e1,e2⟩:=AD (o:=ah L g.toNat free) (by simpa using hk) (Yn hc)
   have hs:=wQ (L:=L) (f:=f) (g:=g) (by omega) (by omega) g0 e1
   rw[ya g3]at hs;exact⟨hrq L g rfl (by omega) hgl,hin g (by omega) hgl,.inr ⟨g+1,⟨by omega,by omega,iR g2 e2,Cx (by omega) (by omega) g0 e1⟩,by omega,rfl,rfl,rfl,rfl,rfl,hs⟩⟩
  ·obtain⟨e1,e2⟩:=Bs (o:=ah L g.toNat free) (by simpa using hk) (Ym hc)
   obtain⟨m1,m2,m3⟩:=vZ kind h0 g0 hgl (by omega) g2 e2
   rw[ya g3]at m3;exact⟨hci _ hgn,hrq L g rfl (by omega) hgl,m2,m1.symm,m3.symm⟩
 ·obtain⟨g0,g1,g2,g3⟩:=hg;have hgl:=Ym hgl;have:g=l+1:=by omega
  subst this;obtain⟨m1,m2,m3⟩:=AA kind g2;exact⟨by rw[m3];exact g3,m1.symm⟩
 ·obtain⟨g0,g1,g2,g3⟩:=hg;have hgl:=Yn hgl;have hgn:g.toNat<L.length:=by omega
  have hgl2:(aj (bE L f g):Int)=(L.length:Int):=by unfold aj;rw[jL]
  have hga:=AE (L:=L) (f:=f) (g:=g) (by omega)
  rw[hga];refine⟨⟨by omega,by omega⟩,by omega,fun hk=>?_,fun hk=>⟨fun hc=>?_,fun hc=>?_⟩⟩
  ·obtain⟨e1,e2⟩:=wm (o:=ah L g.toNat free) (by simpa using hk)
   exact⟨hin g (by omega) hgl,g+1,⟨by omega,by omega,iR g2 e2,by rw[FL (by omega) e1];exact g3⟩,by omega,rfl,rfl,rfl,rfl,rfl,(xf (by omega) e1).symm⟩
  ·obtain⟨e1,e2⟩:=AD (o:=ah L g.toNat free) (by simpa using hk) (Yn hc)
   exact⟨hrq _ g jL (by omega) hgl,hin g (by omega) hgl,g+1,⟨by omega,by omega,iR g2 e2,Cx (by omega) (by omega) g0 e1⟩,by omega,rfl,rfl,rfl,rfl,rfl,wQ (by omega) (by omega) g0 e1⟩
  ·obtain⟨e1,e2⟩:=Bs (o:=ah L g.toNat free) (by simpa using hk) (Ym hc)
   obtain⟨m1,m2,m3⟩:=vZ kind h0 g0 hgl (by omega) g2 e2
   exact⟨hci _ hgn,hrq _ g jL (by omega) hgl,m2,m1.symm,m3.symm⟩
 ·obtain⟨g0,g1,g2,g3⟩:=hg;have hgl:=Ym hgl;have:g=l+1:=by omega
  subst this;obtain⟨m1,m2,m3⟩:=AA kind g2;exact⟨by rw[m3];exact g3,m1.symm,m2.symm⟩
theorem HW (L:List Sx.Obj) (f l kind:Int) (hq:CJ L f l):ai Tryz.prog 182 [.sa 0,.it .i64 f,.it .i64 l,.it .i64 kind] [.ro (.arr none 163 (.ob L))] (yT (kD L f l) (ca L f l kind) [.it .i64 (bh L f l)]) (fun _ _=>False):=
 bn (inl:=bp) (ann:=(iy [(182,2,Wn [0,1,2,3] (fun g=> [(10,.it .i64 g)]) 0 tO 163 (fun g=> .ob (bE L f g)) (uj L f l) (qF L f l) (yw l 1))])) (ab kb ak) aC (G5 L f l kind hq) (by kernel_rfl)
theorem zo:lF Tryz.prog 182 Ia:=
 iC (m:=fun x=>Xd.cn x 0) (gg Sr (fun _=>rfl)) (fun _=>rfl) (fun _ _=>rfl) fun L x hq=>HW L x.1 x.2.1 x.2.2.1 hq
theorem JO (L:List Sx.Obj) (k:Key) (kind:Int) (hL:aq L):
 ((decide (aK L k=0)&& !decide (kind=1)&& !decide (kind=2))=true->fN L k kind=false/\void=cL L k kind/\2=bX L k kind)/\((decide (aK L k=0)&& !decide (kind=1)
   && !decide (kind=2))=false->((!decide (aK L k=0))=true->fN L k kind=false/\void=cL L k kind/\aK L k=bX L k kind)/\((!decide (aK L k=0))=false->true=
   true/\CJ L (aH L k) (aA L k)/\(kD L (aH L k) (aA L k)=false->(decide (bh L (aH L k) (aA L k)<0)=true->fN L k kind=false/\void=cL L k kind/\221=
   bX L k kind)/\(decide (bh L (aH L k) (aA L k)<0)=false->aG IntKind.i64 (1+kind)/\(0<=bh L (aH L k) (aA L k)/\bh L (aH L k) (aA L k)< ↑(aj L))/\
   (bh L (aH L k) (aA L k)).toNat<aj L/\fN L k kind=false/\Key.mk (1+kind) (bh L (aH L k) (aA L k)) (ah L (bh L (aH L k) (aA L k)).toNat free).count
   void.call void.rights void.value=cL L k kind/\0=bX L k kind))/\(kD L (aH L k) (aA L k)=true->(decide (bh L (aH L k) (aA L k)<0)=true->fN L k kind=true
   /\(void=cL L k kind/\221=bX L k kind)/\ca L (aH L k) (aA L k) kind=eI L k kind)/\(decide (bh L (aH L k) (aA L k)<0)=false->aG IntKind.i64 (1+kind)/\
   (0<=bh L (aH L k) (aA L k)/\bh L (aH L k) (aA L k)< ↑(aj (ca L (aH L k) (aA L k) kind)))/\(bh L (aH L k) (aA L k)).toNat<aj (ca L (aH L k)
   (aA L k) kind)/\fN L k kind=true/\(Key.mk (1+kind) (bh L (aH L k) (aA L k)) (ah (ca L (aH L k) (aA L k) kind) (bh L (aH L k) (aA L k)).toNat free).count
   void.call void.rights void.value=cL L k kind/\0=bX L k kind)/\ca L (aH L k) (aA L k) kind=eI L k kind)))):=by
 refine⟨fun h=>?_,fun h=>⟨fun h2=>?_,fun h2=>?_⟩⟩
 ·simp only[Yj,Bool.not_eq_true',Yk,decide_eq_false_iff_not]at h;exact PE h.1.1 h.1.2 h.2
 ·exact PY (by simpa using h2)
 ·have h2:aK L k=0:=by simpa using h2
  have hk:kind=1\/kind=2:=by
   simp only[h2,decide_true,Bool.true_and,Bool.and_eq_false_iff,Bool.not_eq_false',Yk]at h;exact h
  obtain⟨_,a0,a1,a2,_⟩:=lr h2;obtain⟨x1,x2⟩:=zg h2;have hlen:=kh hL;rw[x1,x2];have hin:aG IntKind.i64 (1+kind):=by simp only[aG,bY];omega
  have hm:=vg (L:=L) (l:=aE L k) a0;refine⟨rfl,⟨hL,a0,a2,by omega⟩,fun hc=>⟨fun hi=>?_,fun hi=>?_⟩,fun hc=>⟨fun hi=>?_,fun hi=>?_⟩⟩
  ·have hi:=Yn hi;obtain⟨m1,m2,m3,m4⟩:=xr h2 hk (by omega)
   exact⟨m1.trans hc,m2,m3⟩
  ·have hi:=Ym hi;rw[AB (by omega)]at hc
   simp at hc
  ·have hi:=Yn hi;obtain⟨m1,m2,m3,m4⟩:=xr h2 hk (by omega)
   exact⟨m1.trans hc,⟨m2,m3⟩,m4⟩
  ·have hi:=Ym hi;obtain⟨m1,m2,m3,m4⟩:=FP h2 hk (by omega)
   rw[show aj (ca L (au L k) (aE L k) kind)=L.length from sQ];exact⟨hin,⟨by omega,by omega⟩,by omega,m1,⟨m2,m3⟩,m4⟩
theorem J1 (L:List Sx.Obj) (k:Key) (kind:Int) (hL:aq L):ai Tryz.prog 121 [.sa 0,.key k,.it .i64 kind] [.ro (.arr none 163 (.ob L))] (yT (fN L k kind) (eI L k kind) [.key (cL L k kind),.it .i64 (bX L k kind)]) (fun _ _=>False):=
 bn (inl:=bp) (ann:=aP) (ab pA ak) (aD zo aC) (JO L k kind hL) (by kernel_rfl)
theorem L3:lF Tryz.prog 121 QY:=
 iC (m:=fun x=>Q3.cn x 0) (gg BG (fun _=>rfl)) (fun _=>rfl) (fun _ _=>rfl) fun L x hq=>J1 L x.1 x.2.1 hq
theorem Qc (L:List Sx.Obj) (k v:Key) (hL:aq L):
 ((!decide (aK L k=0))=true->iY L k v=false/\aK L k=b8 L k v)/\((!decide (aK L k=0))=false->((!aU L v|| !decide (v.kind=2)&& !decide (v.kind=3))=true->
   iY L k v=false/\5=b8 L k v)/\((!aU L v|| !decide (v.kind=2)&& !decide (v.kind=3))=false->((decide (v.oid<aH L k)||decide (aA L k<v.oid)||decide (v.oid=k.oid))
   =true->iY L k v=false/\4=b8 L k v)/\((decide (v.oid<aH L k)||decide (aA L k<v.oid)||decide (v.oid=k.oid))=false->(0<=v.oid/\v.oid< ↑(aj L))/\v.oid.toNat<
   aj L/\dL L v.oid/\iY L k v=true/\0=b8 L k v/\cC L v.oid.toNat (Obj.mk free.kind (ah L v.oid.toNat free).count free.calls free.slots free.bytes)=fI L k v))):=by
 refine⟨fun h=>?_,fun h=>⟨fun h2=>?_,fun h2=>⟨fun h3=>?_,fun h3=>?_⟩⟩⟩
 ·have h:aK L k≠0:=by simpa using h
  have e:b8 L k v=aK L k:=by unfold b8;rw[Yp h]
  exact⟨by unfold iY;rw[e];simpa using h,e.symm⟩
 ·have h:aK L k=0:=by simpa using h
  have e:b8 L k v=5:=by unfold b8;rw[Yq h,yD,h2];rfl
  exact⟨by unfold iY;rw[e];rfl,e.symm⟩
 ·have h:aK L k=0:=by simpa using h
  obtain⟨x1,x2⟩:=zg h;rw[x1,x2]at h3
  have e:b8 L k v=4:=by
   unfold b8;rw[Yq h,yD,h2,Yq (show(!false)=true from rfl),Yp];simp only[Bool.or_eq_true,Yk]at h3;omega
  exact⟨by unfold iY;rw[e];rfl,e.symm⟩
 ·have h:aK L k=0:=by simpa using h
  obtain⟨x1,x2⟩:=zg h;rw[x1,x2]at h3;have ht:gX L v=true:=by rw[yD,h2];rfl
  obtain⟨_,b2,b3,_⟩:=dz (CL ht)
  have e:b8 L k v=0:=by
   unfold b8;rw[Yq h,ht,Yq rfl,Yq];simp only[Bool.or_eq_false_iff,decide_eq_false_iff_not]at h3;omega
  have hlen:=kh hL;exact⟨⟨b2,b3⟩,by unfold aj;omega,⟨b2,b3,by unfold aj;omega⟩,by unfold iY;rw[e];rfl,e.symm,by unfold fI;rw[Yq e];rfl⟩
theorem OG (L:List Sx.Obj) (k v:Key) (hL:aq L):ai Tryz.prog 122 [.sa 0,.key k,.key v] [.ro (.arr none 163 (.ob L))] (yT (iY L k v) (fI L k v) [.it .i64 (b8 L k v)]) (fun _ _=>False):=
 bn (inl:=bp) (ann:=aP) (ab pA (ab mD (ab kb ak))) aC (Qc L k v hL) (by kernel_rfl)
theorem Rb:lF Tryz.prog 122 T1:=
 iC (m:=fun x=>Lv.cn x 0) (gg vj (fun _=>rfl)) (fun _=>rfl) (fun _ _=>rfl) fun L x hq=>OG L x.1 x.2.1 hq
theorem JC (L:List Sx.Obj) (k:Key) (hL:aq L):
 ((!decide (aK L k=0))=true->jP L k=false/\0=eL L k/\aK L k=aK L k)/\((!decide (aK L k=0))=false->(∃g,sG L k g/\aH L k=aH L k/\aA L k=
   aA L k/\0=dU L (au L k) g k.oid/\aH L k=g/\L=L/\k=k)/\(∀(g:Int),sG L k g->(decide (g<=aA L k)=true->(0<=g/\g< ↑(aj L))/\g.toNat<aj L/\((!decide
   ((ah L g.toNat free).kind=1))=true->0<=g/\g< ↑(aj L))/\((!decide ((ah L g.toNat free).kind=1))=true->g.toNat<aj L)/\(((decide ((ah L g.toNat free).kind=1)||decide ((ah
   L g.toNat free).kind=2))&& !decide (g=k.oid))=true->(0<=g/\g< ↑(aj L))/\g.toNat<aj L/\dL L g/\aG IntKind.i64 (dU L (au L k) g k.oid+1)/\aG IntKind.i64 (g+1)/\
   ((∃g',sG L k g'/\(aE L k+1-g').toNat<(aE L k+1-g).toNat/\False)\/∃g',qX L k g'/\(aE L k+1-g').toNat<(aE L k+1-g).toNat/\aH L k=aH L k/\
   aA L k=aA L k/\dU L (au L k) g k.oid+1=dU L (au L k) g' k.oid/\g+1=g'/\L=L/\k=k/\cC L g.toNat (Obj.mk free.kind (ah L g.toNat free).count free.calls
   free.slots free.bytes)=dq L (au L k) g' k.oid))/\(((decide ((ah L g.toNat free).kind=1)||decide ((ah L g.toNat free).kind=2))&& !decide (g=k.oid))=false->aG IntKind.i64 (g+
   1)/\((∃g',sG L k g'/\(aE L k+1-g').toNat<(aE L k+1-g).toNat/\aH L k=aH L k/\aA L k=aA L k/\dU L (au L k) g k.oid=dU L (au L k) g' k.oid
   /\g+1=g'/\L=L/\k=k)\/∃g',qX L k g'/\(aE L k+1-g').toNat<(aE L k+1-g).toNat/\False)))/\(decide (g<=aA L k)=false->jP L k=false/\dU L (au L k)
   g k.oid=eL L k/\0=aK L k))/\∀(g:Int),qX L k g->(decide (g<=aA L k)=true->(0<=g/\g< ↑(aj (dq L (au L k) g k.oid)))/\g.toNat<aj (dq L (au L k) g
   k.oid)/\((!decide ((ah (dq L (au L k) g k.oid) g.toNat free).kind=1))=true->0<=g/\g< ↑(aj (dq L (au L k) g k.oid)))/\((!decide ((ah (dq L (au L k) g k.oid) g.toNat
   free).kind=1))=true->g.toNat<aj (dq L (au L k) g k.oid))/\(((decide ((ah (dq L (au L k) g k.oid) g.toNat free).kind=1)||decide ((ah (dq L (au L k) g k.oid)
   g.toNat free).kind=2))&& !decide (g=k.oid))=true->(0<=g/\g< ↑(aj (dq L (au L k) g k.oid)))/\g.toNat<aj (dq L (au L k) g k.oid)/\dL (dq L (au L k) g k.oid) g
   /\aG IntKind.i64 (dU L (au L k) g k.oid+1)/\aG IntKind.i64 (g+1)/\∃g',qX L k g'/\(aE L k+1-g').toNat<(aE L k+1-g).toNat/\aH L k=aH L k/\aA L k
   =aA L k/\dU L (au L k) g k.oid+1=dU L (au L k) g' k.oid/\g+1=g'/\L=L/\k=k/\cC (dq L (au L k) g k.oid) g.toNat (Obj.mk free.kind (ah (dq L (au L k)
   g k.oid) g.toNat free).count free.calls free.slots free.bytes)=dq L (au L k) g' k.oid)/\(((decide ((ah (dq L (au L k) g k.oid) g.toNat free).kind=1)||decide ((ah (dq L
   (au L k) g k.oid) g.toNat free).kind=2))&& !decide (g=k.oid))=false->aG IntKind.i64 (g+1)/\∃g',qX L k g'/\(aE L k+1-g').toNat<(aE L k+1-g).toNat/\aH L k
   =aH L k/\aA L k=aA L k/\dU L (au L k) g k.oid=dU L (au L k) g' k.oid/\g+1=g'/\L=L/\k=k/\dq L (au L k) g k.oid=dq L (au L k) g' k.oid))/\
   (decide (g<=aA L k)=false->jP L k=true/\(dU L (au L k) g k.oid=eL L k/\0=aK L k)/\dq L (au L k) g k.oid=gi L k)):=by
 refine⟨fun h=>?_,fun h=>?_⟩
 ·have h:aK L k≠0:=by simpa using h
  exact⟨by unfold jP;simp[h],by unfold eL;rw[Yp h],rfl⟩
 have h:aK L k=0:=by simpa using h
 obtain⟨_,a0,a1,a2,_⟩:=lr h;obtain⟨x1,x2⟩:=zg h;have hlen:=kh hL;have hll:(aj L:Int)=(L.length:Int):=rfl;rw[x1,x2];have hit:∀g:Int,(((decide ((ah L g.toNat free).kind=1)||decide ((ah L g.toNat free).kind=2))&& !decide (g=k.oid)))=jl L g k.oid:=fun g=>rfl
 have hin:∀g:Int,au L k<=g->g<=aE L k->aG IntKind.i64 (g+1):=fun g h1 h2=>by simp only[aG,bY];omega
 have hnn:∀g:Int,aG IntKind.i64 (dU L (au L k) g k.oid+1):=fun g=>by
  have:=sf (L:=L) (f:=au L k) (g:=g) (oid:=k.oid);have:=MM (L:=L) (f:=au L k) (g:=g) (oid:=k.oid);simp only[aG,bY];omega
 refine⟨⟨au L k,⟨by omega,by omega,tX⟩,rfl,rfl,tX.symm,rfl,rfl,rfl⟩,fun g hg=>⟨fun hgl=>?_,fun hgl=>?_⟩,fun g hg=>⟨fun hgl=>?_,fun hgl=>?_⟩⟩
 ·obtain⟨g0,g1,g2⟩:=hg;have hgl:=Yn hgl;have hr1:0<=g/\g<(aj L:Int):=⟨by omega,by omega⟩
  have hr2:g.toNat<aj L:=by omega
  rw[hit g];refine⟨hr1,hr2,fun _=>hr1,fun _=>hr2,fun hh=>?_,fun hh=>?_⟩
  ·have hs:=xh (L:=L) (f:=au L k) (oid:=k.oid) (by omega:0<=g) (by omega) g0 hh
   have hs2:=BE (L:=L) (f:=au L k) (oid:=k.oid) (by omega:0<=g) (by omega) g0 hh
   rw[xI g2]at hs2;exact⟨hr1,hr2,⟨by omega,by omega,by omega⟩,hnn g,hin g g0 hgl,.inr ⟨g+1,⟨by omega,by omega,by omega⟩,by omega,rfl,rfl,hs.symm,rfl,rfl,rfl,hs2⟩⟩
  ·have hs:=ue (L:=L) (f:=au L k) (oid:=k.oid) (by omega:0<=g) g0 hh
   exact⟨hin g g0 hgl,.inl ⟨g+1,⟨by omega,by omega,by omega⟩,by omega,rfl,rfl,hs.symm,rfl,rfl,rfl⟩⟩
 ·obtain⟨g0,g1,g2⟩:=hg;have hgl:=Ym hgl;have:g=aE L k+1:=by omega
  subst this;exact⟨by unfold jP;simp[h,g2],by unfold eL;rw[Yq h],h.symm⟩
 ·obtain⟨g0,g1,g2⟩:=hg;have hgl:=Yn hgl;have hgz:(aj (dq L (au L k) g k.oid))=L.length:=BD;have hr1:0<=g/\g<((L.length:Nat):Int):=⟨by omega,by omega⟩
  have hr2:g.toNat<L.length:=by omega
  rw[LZ (by omega),hit g,hgz]
  refine⟨hr1,hr2,fun _=>hr1,fun _=>hr2,fun hh=>?_,fun hh=>?_⟩
  ·have hs:=xh (L:=L) (f:=au L k) (oid:=k.oid) (by omega:0<=g) (by omega) g0 hh
   have hs2:=BE (L:=L) (f:=au L k) (oid:=k.oid) (by omega:0<=g) (by omega) g0 hh
   have:=sf (L:=L) (f:=au L k) (g:=g) (oid:=k.oid);exact⟨hr1,hr2,⟨by omega,by omega,by omega⟩,hnn g,hin g g0 hgl,g+1,⟨by omega,by omega,by omega⟩,by omega,rfl,rfl,hs.symm,rfl,rfl,rfl,hs2⟩
  ·have hs:=ue (L:=L) (f:=au L k) (oid:=k.oid) (by omega:0<=g) g0 hh
   have hs2:=xc (L:=L) (f:=au L k) (oid:=k.oid) (by omega:0<=g) g0 hh
   exact⟨hin g g0 hgl,g+1,⟨by omega,by omega,by omega⟩,by omega,rfl,rfl,hs.symm,rfl,rfl,rfl,hs2.symm⟩
 ·obtain⟨g0,g1,g2⟩:=hg;have hgl:=Ym hgl;have:g=aE L k+1:=by omega
  subst this;exact⟨by unfold jP;simp[h,g2],⟨by unfold eL;rw[Yq h],h.symm⟩,by unfold gi;rw[Yq h]⟩
theorem Ji (L:List Sx.Obj) (k:Key) (hL:aq L):ai Tryz.prog 125 [.sa 0,.key k] [.ro (.arr none 163 (.ob L))] (yT (jP L k) (gi L k) [.it .i64 (eL L k),.it .i64 (aK L k)]) (fun _ _=>False):=
 bn (inl:=bp) (ann:=(iy [(125,6,Wn [0,3,7,8] (fun g=> [(10,.it .i64 (dU L (au L k) g k.oid)),(11,.it .i64 g)]) 0 tO 163 (fun g=> .ob (dq L (au L k) g k.oid)) (sG L k) (qX L k) (yw (aE L k) 1))])) (ab pA (ab kb ak)) aC (JC L k hL) (by kernel_rfl)
theorem Im:lF Tryz.prog 125 OT:=
 iC (m:=fun x=>kB.cn x 0) (gg C4 (fun _=>rfl)) (fun _=>rfl) (fun _ _=>rfl) fun L x hq=>Ji L x.1 hq
theorem KG (L:List Sx.Obj) (k v:Key):
 ((!decide (aK L k=0))=true->false=iF L k v/\aK L k=aK L k)/\((!decide (aK L k=0))=false->(aU L v&&(decide (v.kind=2)||decide (v.kind=3))&&decide (aH L
   k<=v.oid)&&decide (v.oid<=aA L k))=iF L k v/\0=aK L k):=by
 refine⟨fun h=>?_,fun h=>?_⟩
 ·have h:aK L k≠0:=by simpa using h
  exact⟨by unfold iF;simp[h],rfl⟩
 ·have h:aK L k=0:=by simpa using h
  obtain⟨x1,x2⟩:=zg h;rw[x1,x2];exact⟨by unfold iF gX;simp[h],h.symm⟩
theorem Ij:ck Tryz.prog 124 PZ:=
 eP (aJ js vj) (fun _=>rfl) fun a hq hok=>by
  obtain⟨L,k,v,_⟩:=a;exact aV (inl:=bp) (ann:=aP) (ab pA (ab mD ak)) (KG L k v) (by kernel_rfl)
theorem GO (L:List Sx.Obj) (k:Key) (n:Int) (hL:aq L):
 ((!decide (n<1)&&decide (aK L k=0))=true->aG IntKind.i64 (aA L k-aH L k))/\((decide (aK L k=0)&&(decide (n<1)||decide (aA L k-aH L k<n)))=true->
   j5 L k n=false/\void=bP L k n/\4=bM L k n)/\((decide (aK L k=0)&&(decide (n<1)||decide (aA L k-aH L k<n)))=false->((!decide (aK L k=0))=true->j5
   L k n=false/\void=bP L k n/\aK L k=bM L k n)/\((!decide (aK L k=0))=false->true=true/\CJ L (aH L k) (aA L k)/\(kD L (aH L k) (aA L k)=false->
   ((!decide (bh L (aH L k) (aA L k)<0))=true->aG IntKind.i64 (aA L k-n))/\((decide (bh L (aH L k) (aA L k)<0)||decide (aA L k-n<bh L (aH L k)
   (aA L k)))=true->j5 L k n=false/\void=bP L k n/\221=bM L k n)/\((decide (bh L (aH L k) (aA L k)<0)||decide (aA L k-n<bh L (aH L k) (aA L k)))
   =false->aG IntKind.i64 (aA L k-n)/\aG IntKind.i64 (aA L k-n+1)/\(∃g,oN L k n g/\n=n/\aH L k=aH L k/\aA L k=aA L k/\bh L (aH L k) (aA L
   k)=bh L (aH L k) (aA L k)/\aA L k-n+1=g/\L=L/\k=k/\void=void)/\∀(g:Int),oN L k n g->(decide (g<=aA L k)=true->(0<=g/\g< ↑(aj L))/\g.toNat<
   aj L/\((!decide ((ah L g.toNat free).kind=1))=true->0<=g/\g< ↑(aj L))/\((!decide ((ah L g.toNat free).kind=1))=true->g.toNat<aj L)/\((decide ((ah L g.toNat free).kind=1)
   ||decide ((ah L g.toNat free).kind=2))=true->j5 L k n=false/\void=bP L k n/\221=bM L k n)/\((decide ((ah L g.toNat free).kind=1)||decide ((ah L g.toNat free).kind=
   2))=false->aG IntKind.i64 (g+1)/\∃g',oN L k n g'/\(aE L k+1-g').toNat<(aE L k+1-g).toNat/\n=n/\aH L k=aH L k/\aA L k=aA L k/\bh L (aH
   L k) (aA L k)=bh L (aH L k) (aA L k)/\g+1=g'/\L=L/\k=k/\void=void))/\(decide (g<=aA L k)=false->(0<=bh L (aH L k) (aA L k)/\bh L (aH L k)
   (aA L k)< ↑(aj L))/\(bh L (aH L k) (aA L k)).toNat<aj L/\(0<=k.oid/\k.oid< ↑(aj L))/\k.oid.toNat<aj L/\aG IntKind.i64 (aA L k-n)/\aG IntKind.i64 (aA L
   k-n+1)/\aG IntKind.i64 (aA L k-n)/\dL L (bh L (aH L k) (aA L k))/\dL (cC L (bh L (aH L k) (aA L k)).toNat (Obj.mk (ah L (bh L (aH L k) (aA
   L k)).toNat free).kind (ah L (bh L (aH L k) (aA L k)).toNat free).count (ah L (bh L (aH L k) (aA L k)).toNat free).calls (((ah L (bh L (aH L k) (aA L k)).toNat
   free).slots.put 0 (Key.mk 1 void.oid void.count void.call void.rights (aA L k-n+1))).put 1 (Key.mk 1 void.oid void.count void.call void.rights (aA L k))) (ah L (bh L (aH L k)
   (aA L k)).toNat free).bytes)) k.oid/\j5 L k n=true/\(Key.mk 4 (bh L (aH L k) (aA L k)) (ah L (bh L (aH L k) (aA L k)).toNat free).count void.call void.rights
   void.value=bP L k n/\0=bM L k n)/\cC (cC L (bh L (aH L k) (aA L k)).toNat (Obj.mk (ah L (bh L (aH L k) (aA L k)).toNat free).kind (ah L (bh L (aH L k)
   (aA L k)).toNat free).count (ah L (bh L (aH L k) (aA L k)).toNat free).calls (((ah L (bh L (aH L k) (aA L k)).toNat free).slots.put 0 (Key.mk 1 void.oid void.count
   void.call void.rights (aA L k-n+1))).put 1 (Key.mk 1 void.oid void.count void.call void.rights (aA L k))) (ah L (bh L (aH L k) (aA L k)).toNat free).bytes)) k.oid.toNat (Obj.mk
   (ah L k.oid.toNat free).kind (ah L k.oid.toNat free).count (ah L k.oid.toNat free).calls ((ah L k.oid.toNat free).slots.put 1 (Key.mk 1 void.oid void.count void.call void.rights (aA L k-
   n))) (ah L k.oid.toNat free).bytes)=br L k n)))/\(kD L (aH L k) (aA L k)=true->((!decide (bh L (aH L k) (aA L k)<0))=true->aG IntKind.i64 (aA L k-n))/\
   ((decide (bh L (aH L k) (aA L k)<0)||decide (aA L k-n<bh L (aH L k) (aA L k)))=true->j5 L k n=false/\void=bP L k n/\221=bM L k n)/\((decide (bh
   L (aH L k) (aA L k)<0)||decide (aA L k-n<bh L (aH L k) (aA L k)))=false->aG IntKind.i64 (aA L k-n)/\aG IntKind.i64 (aA L k-n+1)/\(∃g,oN L k
   n g/\n=n/\aH L k=aH L k/\aA L k=aA L k/\bh L (aH L k) (aA L k)=bh L (aH L k) (aA L k)/\aA L k-n+1=g/\L=L/\k=k/\void=void/\ca L
   (aH L k) (aA L k) 1=ca L (aH L k) (aA L k) 1)/\∀(g:Int),oN L k n g->(decide (g<=aA L k)=true->(0<=g/\g< ↑(aj (ca L (aH L k) (aA L k) 1)))/\
   g.toNat<aj (ca L (aH L k) (aA L k) 1)/\((!decide ((ah (ca L (aH L k) (aA L k) 1) g.toNat free).kind=1))=true->0<=g/\g< ↑(aj (ca L (aH L k) (aA L k)
   1)))/\((!decide ((ah (ca L (aH L k) (aA L k) 1) g.toNat free).kind=1))=true->g.toNat<aj (ca L (aH L k) (aA L k) 1))/\((decide ((ah (ca L (aH L k) (aA L
   k) 1) g.toNat free).kind=1)||decide ((ah (ca L (aH L k) (aA L k) 1) g.toNat free).kind=2))=true->j5 L k n=false/\void=bP L k n/\221=bM L k n)/\((decide ((ah
   (ca L (aH L k) (aA L k) 1) g.toNat free).kind=1)||decide ((ah (ca L (aH L k) (aA L k) 1) g.toNat free).kind=2))=false->aG IntKind.i64 (g+1)/\∃g',oN L k n g'
   /\(aE L k+1-g').toNat<(aE L k+1-g).toNat/\n=n/\aH L k=aH L k/\aA L k=aA L k/\bh L (aH L k) (aA L k)=bh L (aH L k) (aA L k)/\g+1=
   g'/\L=L/\k=k/\void=void/\ca L (aH L k) (aA L k) 1=ca L (aH L k) (aA L k) 1))/\(decide (g<=aA L k)=false->(0<=bh L (aH L k) (aA L k)/\bh L
   (aH L k) (aA L k)< ↑(aj (ca L (aH L k) (aA L k) 1)))/\(bh L (aH L k) (aA L k)).toNat<aj (ca L (aH L k) (aA L k) 1)/\(0<=k.oid/\k.oid< ↑(aj (ca
   L (aH L k) (aA L k) 1)))/\k.oid.toNat<aj (ca L (aH L k) (aA L k) 1)/\aG IntKind.i64 (aA L k-n)/\aG IntKind.i64 (aA L k-n+1)/\aG IntKind.i64 (aA L k-
   n)/\dL (ca L (aH L k) (aA L k) 1) (bh L (aH L k) (aA L k))/\dL (cC (ca L (aH L k) (aA L k) 1) (bh L (aH L k) (aA L k)).toNat (Obj.mk (ah
   (ca L (aH L k) (aA L k) 1) (bh L (aH L k) (aA L k)).toNat free).kind (ah (ca L (aH L k) (aA L k) 1) (bh L (aH L k) (aA L k)).toNat free).count (ah (ca
   L (aH L k) (aA L k) 1) (bh L (aH L k) (aA L k)).toNat free).calls (((ah (ca L (aH L k) (aA L k) 1) (bh L (aH L k) (aA L k)).toNat free).slots.put 0 (Key.mk 1
   void.oid void.count void.call void.rights (aA L k-n+1))).put 1 (Key.mk 1 void.oid void.count void.call void.rights (aA L k))) (ah (ca L (aH L k) (aA L k) 1) (bh L (aH L
   k) (aA L k)).toNat free).bytes)) k.oid/\j5 L k n=true/\(Key.mk 4 (bh L (aH L k) (aA L k)) (ah (ca L (aH L k) (aA L k) 1) (bh L (aH L k) (aA L k)).toNat
   free).count void.call void.rights void.value=bP L k n/\0=bM L k n)/\cC (cC (ca L (aH L k) (aA L k) 1) (bh L (aH L k) (aA L k)).toNat (Obj.mk (ah (ca L (aH
   L k) (aA L k) 1) (bh L (aH L k) (aA L k)).toNat free).kind (ah (ca L (aH L k) (aA L k) 1) (bh L (aH L k) (aA L k)).toNat free).count (ah (ca L (aH L k)
   (aA L k) 1) (bh L (aH L k) (aA L k)).toNat free).calls (((ah (ca L (aH L k) (aA L k) 1) (bh L (aH L k) (aA L k)).toNat free).slots.put 0 (Key.mk 1 void.oid
   void.count void.call void.rights (aA L k-n+1))).put 1 (Key.mk 1 void.oid void.count void.call void.rights (aA L k))) (ah (ca L (aH L k) (aA L k) 1) (bh L (aH L k)
   (aA L k)).toNat free).bytes)) k.oid.toNat (Obj.mk (ah (ca L (aH L k) (aA L k) 1) k.oid.toNat free).kind (ah (ca L (aH L k) (aA L k) 1) k.oid.toNat free).count (ah (ca
   L (aH L k) (aA L k) 1) k.oid.toNat free).calls ((ah (ca L (aH L k) (aA L k) 1) k.oid.toNat free).slots.put 1 (Key.mk 1 void.oid void.count void.call void.rights (aA L k-n)))
   (ah (ca L (aH L k) (aA L k) 1) k.oid.toNat free).bytes)=br L k n))))):=by
 by_cases hE:aK L k≠0
 ·rw[show decide (aK L k=0)=false by simpa using hE]
  refine⟨fun h=>by simp at h,fun h=>by simp at h,fun _=>⟨fun _=>Dx (xD hE) hE,fun h=>by simp at h⟩⟩
 replace hE:aK L k=0:=Decidable.not_not.1 hE
 obtain⟨_,a0,a1,a2,a3,a4⟩:=lr hE;obtain⟨x1,x2⟩:=zg hE;have hlen:=kh hL;rw[x1,x2,show decide (aK L k=0)=true by simpa using hE]
 have hr:∀x:Int,-1000<=x->x<=1000->aG IntKind.i64 x:=fun x h1 h2=>by simp only[aG,bY];omega
 have hI:bh L (au L k) (aE L k)=fH L k:=rfl;have hM:ca L (au L k) (aE L k) 1=du L k:=rfl;have hlM:aj (du L k)=L.length:=sQ;have hlM2:(du L k).length=L.length:=sQ;have hll:aj L=L.length:=rfl;rw[hI,hM];refine⟨fun _=>hr _ (by omega) (by omega),fun h=>Dx (zR hE (by simp only[Bool.true_and,Bool.or_eq_true,Yk]at h;omega)) (by omega),fun h=>⟨fun h=>by simp at h,fun _=>?_⟩⟩
 have hn:1<=n/\n<=aE L k-au L k:=by simp only[Bool.true_and,Bool.or_eq_false_iff,decide_eq_false_iff_not]at h;omega
 obtain⟨hn1,hn2⟩:=hn;have h0:=Fb hE hn1 hn2;have hm:=vg (L:=L) (l:=aE L k) a0;rw[hI]at hm;refine⟨rfl,⟨hL,a0,a2,by omega⟩,fun hc=>⟨fun _=>hr _ (by omega) (by omega),fun hi=>?_,fun hi=>?_⟩,fun hc=>⟨fun _=>hr _ (by omega) (by omega),fun hi=>?_,fun hi=>?_⟩⟩
 ·exact Dx (sO h0 (by simp only[Bool.or_eq_true,Yk]at hi;omega)) (by omega)
 ·simp only[Bool.or_eq_false_iff,decide_eq_false_iff_not]at hi;rw[AB (by rw[hI];omega)]at hc
  simp at hc
 ·exact Dx (sO h0 (by simp only[Bool.or_eq_true,Yk]at hi;omega)) (by omega)
 simp only[Bool.or_eq_false_iff,decide_eq_false_iff_not]at hi;have hbz:∀o:Sx.Obj,(decide (o.kind=1)||decide (o.kind=2))=lA o:=fun o=>rfl
 refine⟨hr _ (by omega) (by omega),hr _ (by omega) (by omega),⟨aE L k-n+1,⟨by omega,by omega,GV⟩,rfl,rfl,rfl,rfl,rfl,rfl,rfl,rfl,rfl⟩,fun g hg=>⟨fun hgl=>?_,fun hgl=>?_⟩⟩
 ·obtain⟨g0,g1,g2⟩:=hg;have hgl:=Yn hgl;rw[hbz];have hr1:0<=g/\g<(aj (du L k):Int):=⟨by omega,by omega⟩
  have hr2:g.toNat<aj (du L k):=by omega
  refine⟨hr1,hr2,fun _=>hr1,fun _=>hr2,fun hb=>?_,fun hb=>?_⟩
  ·exact Dx (DA h0 (C8 (by omega) (by omega) g0 (by omega) hb)) (by omega)
  ·exact⟨hr _ (by omega) (by omega),g+1,⟨by omega,by omega,by rw[FY (by omega) hb];exact g2⟩,by omega,rfl,rfl,rfl,rfl,rfl,rfl,rfl,rfl,rfl⟩
 ·obtain⟨g0,g1,g2⟩:=hg;have hgl:=Ym hgl;have:g=aE L k+1:=by omega
  subst this;have e:=FE h0 (by omega) (by omega) g2
  have hp:∀(M:List Sx.Obj) (x:Int),M.length=L.length->0<=x->x<(L.length:Int)->dL M x:=fun M x hM h1 h2=>⟨h1,by unfold aj;omega,by unfold aj;omega⟩
  exact⟨⟨by omega,by omega⟩,by omega,⟨by omega,by omega⟩,by omega,hr _ (by omega) (by omega),hr _ (by omega) (by omega),hr _ (by omega) (by omega),hp _ _ hlM2 (by omega) (by omega),hp _ _ (by rw[jx];exact hlM2) a3 a4,by unfold j5;rw[e];rfl,⟨by unfold bP;rw[Yq e];rfl,e.symm⟩,by unfold br;rw[Yq e];rfl⟩
theorem H3 (L:List Sx.Obj) (k:Key) (n:Int) (hL:aq L):ai Tryz.prog 123 [.sa 0,.key k,.it .i64 n] [.ro (.arr none 163 (.ob L))] (yT (j5 L k n) (br L k n) [.key (bP L k n),.it .i64 (bM L k n)]) (fun _ _=>False):=
 bn (inl:=bp) (ann:=(iy [(123,10,Og [0,2,4,7,9,10,12,13] (fun g=> [(14,.it .i64 g)]) (oN L k n) (yw (aE L k) 1))])) (ab pA (ab kb ak)) (aD zo aC) (GO L k n hL) (by kernel_rfl)
theorem HS:lF Tryz.prog 123 Iz:=
 iC (m:=fun x=>Q3.cn x 0) (gg BG (fun _=>rfl)) (fun _=>rfl) (fun _ _=>rfl) fun L x hq=>H3 L x.1 x.2.1 hq
end Go.Proofs.YtghpaegglbbocaaGreat
namespace Go.Proofs.YtghpaegglbbocaaGreat
open Go.Sx
set_option maxRecDepth 100000
theorem Py (kind oid count:Int):
 (decide (kind=2)=true->Key.mk 3 oid count void.call void.rights void.value=cK kind oid count)/\(decide (kind=2)=false->Key.mk 2 oid count void.call void.rights void.value=cK kind
  oid count):=by
 unfold cK;exact⟨fun h=>by rw[Yq (Yn h)];rfl,fun h=>by rw[Yp (Ym h)];rfl⟩
theorem rh:ck Tryz.prog 185 Uc:=
 Md (fy .i64) (fy .i64) (fy .i64) (fun _ _ _=>rfl) fun i j k _ _ _=>aV (inl:=bp) (ann:=aP) ak (Py i j k) (by kernel_rfl)
theorem G4 (k v:Key):
 true=true/\true=true/\((!decide (0<an []))=true->false=iF [] k v/\1=aK [] k)/\((!decide (0<an []))=false->true=true/\((!(aU [] k&&decide (k.kind=4)))=
  true->false=iF [] k v/\190=aK [] k)/\((!(aU [] k&&decide (k.kind=4)))=false->true=true/\((!(decide (((aa [] k).slots.at 0).kind=1)&&decide (((aa [] k).slots.at
  1).kind=1)&&decide (0<=((aa [] k).slots.at 0).value)&&decide (((aa [] k).slots.at 0).value<=((aa [] k).slots.at 1).value)&&decide (((aa [] k).slots.at 1).value<an [])))
  =true->false=iF [] k v/\220=aK [] k)/\((!(decide (((aa [] k).slots.at 0).kind=1)&&decide (((aa [] k).slots.at 1).kind=1)&&decide (0<=((aa [] k).slots.at 0).value)&&
  decide (((aa [] k).slots.at 0).value<=((aa [] k).slots.at 1).value)&&decide (((aa [] k).slots.at 1).value<an [])))=false->true=true/\(aU [] v&&(decide (v.kind=2)||
  decide (v.kind=3))&&decide (((aa [] k).slots.at 0).value<=cS v)&&decide (cS v<=((aa [] k).slots.at 1).value))=iF [] k v/\0=aK [] k))):=by
 exact⟨rfl,rfl,fun h=>AQ (Fj h) (by omega),fun h=>absurd h (by decide)⟩
theorem Jy (L:List Sx.Obj) (k v:Key):
 true=true/\true=true/\((!decide (0<an L))=true->false=iF L k v/\1=aK L k)/\((!decide (0<an L))=false->true=true/\((!(aU L k&&decide (k.kind=4)))=true->
  false=iF L k v/\190=aK L k)/\((!(aU L k&&decide (k.kind=4)))=false->true=true/\((!(decide (((aa L k).slots.at 0).kind=1)&&decide (((aa L k).slots.at 1).kind=1)&&
  decide (0<=((aa L k).slots.at 0).value)&&decide (((aa L k).slots.at 0).value<=((aa L k).slots.at 1).value)&&decide (((aa L k).slots.at 1).value<an L)))=true->false=
  iF L k v/\220=aK L k)/\((!(decide (((aa L k).slots.at 0).kind=1)&&decide (((aa L k).slots.at 1).kind=1)&&decide (0<=((aa L k).slots.at 0).value)&&decide (((aa L
  k).slots.at 0).value<=((aa L k).slots.at 1).value)&&decide (((aa L k).slots.at 1).value<an L)))=false->true=true/\(aU L v&&(decide (v.kind=2)||decide (v.kind=3))&&
  decide (((aa L k).slots.at 0).value<=cS v)&&decide (cS v<=((aa L k).slots.at 1).value))=iF L k v/\0=aK L k))):=by
 refine⟨rfl,rfl,fun h=>AQ (Fj h) (by omega),fun h=>⟨rfl,fun h2=>AQ (U5 h h2) (by omega),fun h2=>⟨rfl,fun h3=>AQ (VA h h2 h3) (by omega),fun h3=>⟨rfl,?_,(Qk h h2 h3).1.symm⟩⟩⟩⟩
 obtain⟨e,e1,e2⟩:=Qk h h2 h3;rw[e1,e2];unfold iF gX;rw[e];cases hi:aU L v with
 |false=>simp
 |true=>
  cases hk:(decide (v.kind=2)||decide (v.kind=3))with
  |false=>simp
  |true=>
   have hn:cS v=v.oid:=TX hi;rw[hn];simp
theorem LG:ck Tryz.prog 165 Qg:=
 eP (aJ s8 vj) (fun _=>rfl) fun a hq hok=>by
  obtain⟨S,k,v,_⟩:=a;cases S with
  |none=>exact aW (inl:=(fun f=>f==153||f==152||f==154)) (ann:=aP) (ab bC (ab bL (ab eY ak))) aC (eH gr) (G4 k v) (by kernel_rfl)
  |some L=>exact aW (inl:=(fun f=>f==153||f==152||f==154)) (ann:=aP) (ab bC (ab bL (ab eY ak))) aC (eH gr) (Jy L k v) (by kernel_rfl)
theorem Iq (k v:Key):
 true=true/\true=true/\((!decide (0<an []))=true->1=b8 [] k v)/\((!decide (0<an []))=false->true=true/\((!(aU [] k&&decide (k.kind=4)))=true->190=b8 [] k
  v)/\((!(aU [] k&&decide (k.kind=4)))=false->true=true/\((!(decide (((aa [] k).slots.at 0).kind=1)&&decide (((aa [] k).slots.at 1).kind=1)&&decide (0<=((aa []
  k).slots.at 0).value)&&decide (((aa [] k).slots.at 0).value<=((aa [] k).slots.at 1).value)&&decide (((aa [] k).slots.at 1).value<an [])))=true->220=b8 [] k v)/\
  ((!(decide (((aa [] k).slots.at 0).kind=1)&&decide (((aa [] k).slots.at 1).kind=1)&&decide (0<=((aa [] k).slots.at 0).value)&&decide (((aa [] k).slots.at 0).value<=((aa
  [] k).slots.at 1).value)&&decide (((aa [] k).slots.at 1).value<an [])))=false->true=true/\true=true/\((!(aU [] v&&(decide (v.kind=2)||decide (v.kind=3))))=true->5=
  b8 [] k v)/\((!(aU [] v&&(decide (v.kind=2)||decide (v.kind=3))))=false->true=true/\true=true/\((!(decide (((aa [] k).slots.at 0).value<=v.oid)&&decide (v.oid<=((aa
  [] k).slots.at 1).value)&& !decide (v.oid=k.oid)))=true->4=b8 [] k v)/\((!(decide (((aa [] k).slots.at 0).value<=v.oid)&&decide (v.oid<=((aa [] k).slots.at 1).value)&& !decide
  (v.oid=k.oid)))=false->true=true/\true=true/\0=b8 [] k v))))):=by
 exact⟨rfl,rfl,fun h=>(r7 (pW (Fj h) (by omega)) (by omega)).1,fun h=>absurd h (by decide)⟩
theorem Kl (k v:Key):
 true=true/\true=true/\((!decide (0<an []))=true->1=b8 [] k v)/\((!decide (0<an []))=false->true=true/\((!(aU [] k&&decide (k.kind=4)))=true->190=b8 [] k
  v)/\((!(aU [] k&&decide (k.kind=4)))=false->true=true/\((!(decide (((aa [] k).slots.at 0).kind=1)&&decide (((aa [] k).slots.at 1).kind=1)&&decide (0<=((aa []
  k).slots.at 0).value)&&decide (((aa [] k).slots.at 0).value<=((aa [] k).slots.at 1).value)&&decide (((aa [] k).slots.at 1).value<an [])))=true->220=b8 [] k v)/\
  ((!(decide (((aa [] k).slots.at 0).kind=1)&&decide (((aa [] k).slots.at 1).kind=1)&&decide (0<=((aa [] k).slots.at 0).value)&&decide (((aa [] k).slots.at 0).value<=((aa
  [] k).slots.at 1).value)&&decide (((aa [] k).slots.at 1).value<an [])))=false->true=true/\true=true/\((!(aU [] v&&(decide (v.kind=2)||decide (v.kind=3))))=true->5=
  b8 [] k v)/\((!(aU [] v&&(decide (v.kind=2)||decide (v.kind=3))))=false->true=true/\true=true/\((!(decide (((aa [] k).slots.at 0).value<=v.oid)&&decide (v.oid<=((aa
  [] k).slots.at 1).value)&& !decide (v.oid=k.oid)))=true->4=b8 [] k v)/\((!(decide (((aa [] k).slots.at 0).value<=v.oid)&&decide (v.oid<=((aa [] k).slots.at 1).value)&& !decide
  (v.oid=k.oid)))=false->true=true/\true=true/\False))))):=by
 exact⟨rfl,rfl,fun h=>(r7 (pW (Fj h) (by omega)) (by omega)).1,fun h=>absurd h (by decide)⟩
theorem PU (L:List Sx.Obj) (k v:Key) (hL:aq L):
 true=true/\true=true/\((!decide (0<an L))=true->1=b8 L k v/\L=fI L k v)/\((!decide (0<an L))=false->true=true/\((!(aU L k&&decide (k.kind=4)))=true->
  190=b8 L k v/\L=fI L k v)/\((!(aU L k&&decide (k.kind=4)))=false->true=true/\((!(decide (((aa L k).slots.at 0).kind=1)&&decide (((aa L k).slots.at 1).kind=1)&&
  decide (0<=((aa L k).slots.at 0).value)&&decide (((aa L k).slots.at 0).value<=((aa L k).slots.at 1).value)&&decide (((aa L k).slots.at 1).value<an L)))=true->220=b8
  L k v/\L=fI L k v)/\((!(decide (((aa L k).slots.at 0).kind=1)&&decide (((aa L k).slots.at 1).kind=1)&&decide (0<=((aa L k).slots.at 0).value)&&decide (((aa L
  k).slots.at 0).value<=((aa L k).slots.at 1).value)&&decide (((aa L k).slots.at 1).value<an L)))=false->true=true/\true=true/\((!(aU L v&&(decide (v.kind=2)||decide
  (v.kind=3))))=true->5=b8 L k v/\L=fI L k v)/\((!(aU L v&&(decide (v.kind=2)||decide (v.kind=3))))=false->true=true/\true=true/\((!(decide (((aa L k).slots.at
  0).value<=v.oid)&&decide (v.oid<=((aa L k).slots.at 1).value)&& !decide (v.oid=k.oid)))=true->4=b8 L k v/\L=fI L k v)/\((!(decide (((aa L k).slots.at 0).value<=v.oid)
  &&decide (v.oid<=((aa L k).slots.at 1).value)&& !decide (v.oid=k.oid)))=false->true=true/\true=true/\0=b8 L k v/\cV L v.oid (Obj.mk free.kind (aR L v.oid).count
  free.calls free.slots free.bytes)=fI L k v))))):=by
 refine⟨rfl,rfl,fun h=>r7 (pW (Fj h) (by omega)) (by omega),fun h=>⟨rfl,fun h2=>r7 (pW (U5 h h2) (by omega)) (by omega),fun h2=>⟨rfl,fun h3=>r7 (pW (VA h h2 h3) (by omega)) (by omega),fun h3=>⟨rfl,rfl,fun h4=>?_,fun h4=>⟨rfl,rfl,fun h5=>?_,fun h5=>⟨rfl,rfl,?_⟩⟩⟩⟩⟩⟩
 ·obtain⟨e,e1,e2⟩:=Qk h h2 h3;have ht:gX L v=false:=by have h4':(!gX L v)=true:=h4;simpa using h4'
  exact r7 (by unfold b8;rw[Yq e,ht];rfl) (by omega)
 ·obtain⟨e,e1,e2⟩:=Qk h h2 h3;have ht:gX L v=true:=by have h4':(!gX L v)=false:=h4;simpa using h4'
  rw[e1,e2]at h5
  exact r7 (by
   unfold b8;rw[Yq e,ht,Yq rfl,Yp];intro hh;simp only[Bool.not_eq_true',Bool.and_eq_false_iff,Bool.not_eq_false',decide_eq_false_iff_not,Yk]at h5;omega) (by omega)
 ·obtain⟨e,e1,e2⟩:=Qk h h2 h3;have ht:gX L v=true:=by have h4':(!gX L v)=false:=h4;simpa using h4'
  rw[e1,e2]at h5
  have hE:b8 L k v=0:=by
   unfold b8;rw[Yq e,ht,Yq rfl,Yq];simp only[Bool.not_eq_false',Yj,Bool.not_eq_true',Yk,decide_eq_false_iff_not]at h5;omega
  obtain⟨_,b2,b3,_⟩:=dz (CL ht);rw[gG b2 b3];refine⟨hE.symm,?_⟩;unfold fI;rw[Yq hE];exact(nt b2 b3 (wi (dY hL v.oid.toNat (by omega)))).1
theorem QI (L:List Sx.Obj) (k v:Key) (hL:aq L):ai Tryz.prog 83 [.lp 0 0,.key k,.key v] [.store tS eS L] (B0 (.it .i64 (b8 L k v)) (fI L k v)) (fun _ _=>False):=
 aW (inl:=(fun f=>f==153||f==152||f==154||f==155||f==156)) (ann:=aP) (ab bC (ab bL (ab gY ak))) (aD dN aC) (eH gr) (PU L k v hL) (by kernel_rfl)
theorem Rj:lF Tryz.prog 83 SV:=
 mg (m:=fun x=>Lv.cn x 0) (gg vj (fun _=>rfl)) (fun _=>rfl) (fun _ _=>rfl) (fun x=>aW (inl:=(fun f=>f==153||f==152||f==154||f==155||f==156)) (ann:=aP) (ab bC (ab bL (ab gY ak))) (aD dN aC) (eH gr) (Iq x.1 x.2.1) (by kernel_rfl)) (fun x=>aW (inl:=(fun f=>f==153||f==152||f==154||f==155||f==156)) (ann:=aP) (ab bC (ab bL (ab gY ak))) (aD dN aC) (eH gr) (Kl x.1 x.2.1) (by kernel_rfl)) fun L x hL _ _=>QI L x.1 x.2.1 hL
theorem G0 (k:Key):
 true=true/\true=true/\((!decide (0<an []))=true->0=eL [] k/\1=aK [] k)/\((!decide (0<an []))=false->true=true/\((!(aU [] k&&decide (k.kind=4)))=true->0
  =eL [] k/\190=aK [] k)/\((!(aU [] k&&decide (k.kind=4)))=false->true=true/\((!(decide (((aa [] k).slots.at 0).kind=1)&&decide (((aa [] k).slots.at 1).kind=1)&&
  decide (0<=((aa [] k).slots.at 0).value)&&decide (((aa [] k).slots.at 0).value<=((aa [] k).slots.at 1).value)&&decide (((aa [] k).slots.at 1).value<an [])))=true->0=
  eL [] k/\220=aK [] k)/\((!(decide (((aa [] k).slots.at 0).kind=1)&&decide (((aa [] k).slots.at 1).kind=1)&&decide (0<=((aa [] k).slots.at 0).value)&&decide (((aa
  [] k).slots.at 0).value<=((aa [] k).slots.at 1).value)&&decide (((aa [] k).slots.at 1).value<an [])))=false->true=true/\true=true/\∀(r0:Loop),False))):=by
 exact⟨rfl,rfl,fun h=>(xy (Fj h) (by omega)).1,fun h=>absurd h (by decide)⟩
theorem GX (k:Key):
 true=true/\true=true/\((!decide (0<an []))=true->0=eL [] k/\1=aK [] k)/\((!decide (0<an []))=false->true=true/\((!(aU [] k&&decide (k.kind=4)))=true->0
  =eL [] k/\190=aK [] k)/\((!(aU [] k&&decide (k.kind=4)))=false->true=true/\((!(decide (((aa [] k).slots.at 0).kind=1)&&decide (((aa [] k).slots.at 1).kind=1)&&
  decide (0<=((aa [] k).slots.at 0).value)&&decide (((aa [] k).slots.at 0).value<=((aa [] k).slots.at 1).value)&&decide (((aa [] k).slots.at 1).value<an [])))=true->0=
  eL [] k/\220=aK [] k)/\((!(decide (((aa [] k).slots.at 0).kind=1)&&decide (((aa [] k).slots.at 1).kind=1)&&decide (0<=((aa [] k).slots.at 0).value)&&decide (((aa
  [] k).slots.at 0).value<=((aa [] k).slots.at 1).value)&&decide (((aa [] k).slots.at 1).value<an [])))=false->true=true/\true=true/\∀(r0:Loop),False))):=by
 exact⟨rfl,rfl,fun h=>(xy (Fj h) (by omega)).1,fun h=>absurd h (by decide)⟩
theorem Lp (L:List Sx.Obj) (k:Key) (hL:aq L):
 true=true/\true=true/\((!decide (0<an L))=true->(0=eL L k/\1=aK L k)/\L=gi L k)/\((!decide (0<an L))=false->true=true/\((!(aU L k&&decide (k.kind=
  4)))=true->(0=eL L k/\190=aK L k)/\L=gi L k)/\((!(aU L k&&decide (k.kind=4)))=false->true=true/\((!(decide (((aa L k).slots.at 0).kind=1)&&decide (((aa L
  k).slots.at 1).kind=1)&&decide (0<=((aa L k).slots.at 0).value)&&decide (((aa L k).slots.at 0).value<=((aa L k).slots.at 1).value)&&decide (((aa L k).slots.at 1).value<
  an L)))=true->(0=eL L k/\220=aK L k)/\L=gi L k)/\((!(decide (((aa L k).slots.at 0).kind=1)&&decide (((aa L k).slots.at 1).kind=1)&&decide (0<=((aa L
  k).slots.at 0).value)&&decide (((aa L k).slots.at 0).value<=((aa L k).slots.at 1).value)&&decide (((aa L k).slots.at 1).value<an L)))=false->true=true/\true=true/\∀(r0
  :Loop),(∃g,qN L k g/\((aa L k).slots.at 0).value=g/\L=dq L (au L k) g k.oid/\k=k/\0=dU L (au L k) g k.oid/\k=k/\aa L k=aa L k/\k.oid=k.oid/\
  ((aa L k).slots.at 0).value=((aa L k).slots.at 0).value/\((aa L k).slots.at 1).value=((aa L k).slots.at 1).value/\aa L k=aa L k/\(aa L k).slots.at 0=(aa L
  k).slots.at 0/\(aa L k).slots.at 1=(aa L k).slots.at 1/\aa L k=aa L k/\k.oid=k.oid/\((aa L k).slots.at 0).value=((aa L k).slots.at 0).value/\((aa L k).slots.at
  1).value=((aa L k).slots.at 1).value/\aa L k=aa L k/\k.oid=k.oid/\((aa L k).slots.at 0).value=((aa L k).slots.at 0).value/\((aa L k).slots.at 1).value=((aa L
  k).slots.at 1).value/\r0=r0)/\∀(g:Int),qN L k g->(decide (g<=((aa L k).slots.at 1).value)=true->r0=r0/\r0=r0/\((decide ((aR (dq L (au L k) g k.oid) g).kind=1)||
  decide ((aR (dq L (au L k) g k.oid) g).kind=2))=true->true=true/\((decide (((aa L k).slots.at 0).value<=g)&&decide (g<=((aa L k).slots.at 1).value)&& !decide (g=k.oid))
  =true->true=true/\true=true/\aG IntKind.i64 (dU L (au L k) g k.oid+1)/\r0=r0/\aG IntKind.i64 (g+1)/\∃g',qN L k g'/\(aE L k+1-g').toNat<(aE L k+1-
  g).toNat/\g+1=g'/\cV (dq L (au L k) g k.oid) g (Obj.mk free.kind (aR (dq L (au L k) g k.oid) g).count free.calls free.slots free.bytes)=dq L (au L k) g' k.oid/\k=
  k/\dU L (au L k) g k.oid+1=dU L (au L k) g' k.oid/\k=k/\aa L k=aa L k/\k.oid=k.oid/\((aa L k).slots.at 0).value=((aa L k).slots.at 0).value/\((aa L
  k).slots.at 1).value=((aa L k).slots.at 1).value/\aa L k=aa L k/\(aa L k).slots.at 0=(aa L k).slots.at 0/\(aa L k).slots.at 1=(aa L k).slots.at 1/\aa L k=
  aa L k/\k.oid=k.oid/\((aa L k).slots.at 0).value=((aa L k).slots.at 0).value/\((aa L k).slots.at 1).value=((aa L k).slots.at 1).value/\aa L k=aa L k/\k.oid=
  k.oid/\((aa L k).slots.at 0).value=((aa L k).slots.at 0).value/\((aa L k).slots.at 1).value=((aa L k).slots.at 1).value/\r0=r0)/\((decide (((aa L k).slots.at 0).value<=g)
  &&decide (g<=((aa L k).slots.at 1).value)&& !decide (g=k.oid))=false->r0=r0/\aG IntKind.i64 (g+1)/\∃g',qN L k g'/\(aE L k+1-g').toNat<(aE L k+1-g).toNat/\
  g+1=g'/\dq L (au L k) g k.oid=dq L (au L k) g' k.oid/\k=k/\dU L (au L k) g k.oid=dU L (au L k) g' k.oid/\k=k/\aa L k=aa L k/\k.oid=k.oid/\
  ((aa L k).slots.at 0).value=((aa L k).slots.at 0).value/\((aa L k).slots.at 1).value=((aa L k).slots.at 1).value/\aa L k=aa L k/\(aa L k).slots.at 0=(aa L
  k).slots.at 0/\(aa L k).slots.at 1=(aa L k).slots.at 1/\aa L k=aa L k/\k.oid=k.oid/\((aa L k).slots.at 0).value=((aa L k).slots.at 0).value/\((aa L k).slots.at
  1).value=((aa L k).slots.at 1).value/\aa L k=aa L k/\k.oid=k.oid/\((aa L k).slots.at 0).value=((aa L k).slots.at 0).value/\((aa L k).slots.at 1).value=((aa L
  k).slots.at 1).value/\r0=r0))/\((decide ((aR (dq L (au L k) g k.oid) g).kind=1)||decide ((aR (dq L (au L k) g k.oid) g).kind=2))=false->r0=r0/\aG IntKind.i64 (g+
  1)/\∃g',qN L k g'/\(aE L k+1-g').toNat<(aE L k+1-g).toNat/\g+1=g'/\dq L (au L k) g k.oid=dq L (au L k) g' k.oid/\k=k/\dU L (au L k) g k.oid=
  dU L (au L k) g' k.oid/\k=k/\aa L k=aa L k/\k.oid=k.oid/\((aa L k).slots.at 0).value=((aa L k).slots.at 0).value/\((aa L k).slots.at 1).value=((aa L
  k).slots.at 1).value/\aa L k=aa L k/\(aa L k).slots.at 0=(aa L k).slots.at 0/\(aa L k).slots.at 1=(aa L k).slots.at 1/\aa L k=aa L k/\k.oid=k.oid/\
  ((aa L k).slots.at 0).value=((aa L k).slots.at 0).value/\((aa L k).slots.at 1).value=((aa L k).slots.at 1).value/\aa L k=aa L k/\k.oid=k.oid/\((aa L k).slots.at
  0).value=((aa L k).slots.at 0).value/\((aa L k).slots.at 1).value=((aa L k).slots.at 1).value/\r0=r0))/\(decide (g<=((aa L k).slots.at 1).value)=false->(dU L (au L
  k) g k.oid=eL L k/\0=aK L k)/\dq L (au L k) g k.oid=gi L k)))):=by
 refine⟨rfl,rfl,fun h=>xy (Fj h) (by omega),fun h=>⟨rfl,fun h2=>xy (U5 h h2) (by omega),fun h2=>⟨rfl,fun h3=>xy (VA h h2 h3) (by omega),fun h3=>⟨rfl,rfl,fun r0=>?_⟩⟩⟩⟩
 obtain⟨e,e1,e2⟩:=Qk h h2 h3;obtain⟨_,a0,a1,a2,_⟩:=lr e;rw[e1,e2];have hlen:=kh hL;have hin:∀g:Int,au L k<=g->g<=aE L k->aG IntKind.i64 (g+1):=fun g h1 h2=>by simp only[aG,bY];omega
 have hnn:∀g:Int,aG IntKind.i64 (dU L (au L k) g k.oid+1):=fun g=>by
  have:=sf (L:=L) (f:=au L k) (g:=g) (oid:=k.oid);have:=MM (L:=L) (f:=au L k) (g:=g) (oid:=k.oid);simp only[aG,bY];omega
 refine⟨⟨au L k,⟨by omega,by omega⟩,rfl,Ms,rfl,tX.symm,(by(repeat' apply And.intro)<;>rfl)⟩,fun g hg=>⟨fun hgl=>?_,fun hgl=>?_⟩⟩
 ·obtain⟨g0,g1⟩:=hg;have hgl:=Yn hgl;have hgz:(dq L (au L k) g k.oid).length=L.length:=BD;have hgt:aR (dq L (au L k) g k.oid) g=ah L g.toNat free:=by rw[gG (by omega) (by omega),LZ (by omega)]
  rw[hgt];refine⟨rfl,rfl,fun hk=>⟨rfl,fun hb=>?_,fun hb=>?_⟩,fun hk=>?_⟩
  ·have hne:¬g=k.oid:=by
    simp only[Yj,Bool.not_eq_true',decide_eq_false_iff_not]at hb;exact hb.2
   have hh:jl L g k.oid=true:=by unfold jl lA;rw[hk];simp[hne]
   have hs:=xh (L:=L) (f:=au L k) (oid:=k.oid) (by omega:0<=g) (by omega) g0 hh
   have hs2:=BE (L:=L) (f:=au L k) (oid:=k.oid) (by omega:0<=g) (by omega) g0 hh
   have hp:=(nt (L:=dq L (au L k) g k.oid) (i:=g) (by omega) (by omega) (hgz▸wi (dY hL g.toNat (by omega)))).1
   exact⟨rfl,rfl,hnn g,rfl,hin g g0 hgl,g+1,⟨by omega,by omega⟩,by omega,rfl,hp.trans hs2,rfl,hs.symm,(by(repeat' apply And.intro)<;>rfl)⟩
  ·have hh:jl L g k.oid=false:=by
    have e3:decide (au L k<=g)=true:=by simp;omega
    have e4:decide (g<=aE L k)=true:=by simp;omega
    rw[e3,e4]at hb;unfold jl;rw[Bool.and_eq_false_iff];right
    simpa using hb
   have hs:=ue (L:=L) (f:=au L k) (oid:=k.oid) (by omega:0<=g) g0 hh
   have hs2:=xc (L:=L) (f:=au L k) (oid:=k.oid) (by omega:0<=g) g0 hh
   exact⟨rfl,hin g g0 hgl,g+1,⟨by omega,by omega⟩,by omega,rfl,hs2.symm,rfl,hs.symm,(by(repeat' apply And.intro)<;>rfl)⟩
  ·have hh:jl L g k.oid=false:=by unfold jl lA;rw[hk];rfl
   have hs:=ue (L:=L) (f:=au L k) (oid:=k.oid) (by omega:0<=g) g0 hh
   have hs2:=xc (L:=L) (f:=au L k) (oid:=k.oid) (by omega:0<=g) g0 hh
   exact⟨rfl,hin g g0 hgl,g+1,⟨by omega,by omega⟩,by omega,rfl,hs2.symm,rfl,hs.symm,(by(repeat' apply And.intro)<;>rfl)⟩
 ·obtain⟨g0,g1⟩:=hg;have hgl:=Ym hgl;have:g=aE L k+1:=by omega
  subst this;exact⟨⟨by unfold eL;rw[Yq e],e.symm⟩,by unfold gi;rw[Yq e]⟩
theorem Mq (L:List Sx.Obj) (k:Key) (hL:aq L):ai Tryz.prog 166 [.lp 0 0,.key k] [.store tS eS L] (B0 (.tp [.it .i64 (eL L k),.it .i64 (aK L k)]) (gi L k)) (fun _ _=>False):=
 aW (inl:=(fun f=>f==153||f==152||f==155||f==156||f==159||f==1000000+186)) (ann:=(iy [(5000+186,1,XO [0,1] (fun(g:Int)=> [(3,.it .i64 g)]) (fun g=> [(0,.store tS eS (dq L (au L k) g k.oid)),(2,.blk 3 (.it .i64 (dU L (au L k) g k.oid)))]) (qN L k) (fun g=>oX (rU (yw (aE L k) 1) g)))])) (ab bC (ab bL (ab gY ak))) (aD dN aC) (eH gr) (Lp L k hL) (by kernel_rfl)
theorem MX:lF Tryz.prog 166 Rh:=
 mg (m:=fun x=>kB.cn x 0) (gg C4 (fun _=>rfl)) (fun _=>rfl) (fun _ _=>rfl) (fun x=>aW (inl:=(fun f=>f==153||f==152||f==155||f==156||f==159||f==1000000+186)) (ann:=aP) (ab bC (ab bL (ab gY ak))) (aD dN aC) (eH gr) (G0 x.1) (by kernel_rfl)) (fun x=>aW (inl:=(fun f=>f==153||f==152||f==155||f==156||f==159||f==1000000+186)) (ann:=aP) (ab bC (ab bL (ab gY ak))) (aD dN aC) (eH gr) (GX x.1) (by kernel_rfl)) fun L x hL _ _=>Mq L x.1 hL
theorem GA (k:Key) (kind:Int):
 true=true/\true=true/\((!decide (0<an []))=true->void=cL [] k kind/\1=bX [] k kind)/\((!decide (0<an []))=false->true=true/\((!(aU [] k&&decide (k.kind=
  4)))=true->void=cL [] k kind/\190=bX [] k kind)/\((!(aU [] k&&decide (k.kind=4)))=false->true=true/\((!(decide (((aa [] k).slots.at 0).kind=1)&&decide (((aa []
  k).slots.at 1).kind=1)&&decide (0<=((aa [] k).slots.at 0).value)&&decide (((aa [] k).slots.at 0).value<=((aa [] k).slots.at 1).value)&&decide (((aa [] k).slots.at 1).value<
  an [])))=true->void=cL [] k kind/\220=bX [] k kind)/\((!(decide (((aa [] k).slots.at 0).kind=1)&&decide (((aa [] k).slots.at 1).kind=1)&&decide (0<=((aa []
  k).slots.at 0).value)&&decide (((aa [] k).slots.at 0).value<=((aa [] k).slots.at 1).value)&&decide (((aa [] k).slots.at 1).value<an [])))=false->true=true/\((!(decide (kind
  =1)||decide (kind=2)))=true->void=cL [] k kind/\2=bX [] k kind)/\((!(decide (kind=1)||decide (kind=2)))=false->true=true/\true=true/\true=true/\∀(r0:Loop),
  False)))):=by
 exact⟨rfl,rfl,fun h=>(uS (qv (Fj h) (by omega)) (by omega)).1,fun h=>absurd h (by decide)⟩
theorem GJ (k:Key) (kind:Int):
 true=true/\true=true/\((!decide (0<an []))=true->void=cL [] k kind/\1=bX [] k kind)/\((!decide (0<an []))=false->true=true/\((!(aU [] k&&decide (k.kind=
  4)))=true->void=cL [] k kind/\190=bX [] k kind)/\((!(aU [] k&&decide (k.kind=4)))=false->true=true/\((!(decide (((aa [] k).slots.at 0).kind=1)&&decide (((aa []
  k).slots.at 1).kind=1)&&decide (0<=((aa [] k).slots.at 0).value)&&decide (((aa [] k).slots.at 0).value<=((aa [] k).slots.at 1).value)&&decide (((aa [] k).slots.at 1).value<
  an [])))=true->void=cL [] k kind/\220=bX [] k kind)/\((!(decide (((aa [] k).slots.at 0).kind=1)&&decide (((aa [] k).slots.at 1).kind=1)&&decide (0<=((aa []
  k).slots.at 0).value)&&decide (((aa [] k).slots.at 0).value<=((aa [] k).slots.at 1).value)&&decide (((aa [] k).slots.at 1).value<an [])))=false->true=true/\((!(decide (kind
  =1)||decide (kind=2)))=true->void=cL [] k kind/\2=bX [] k kind)/\((!(decide (kind=1)||decide (kind=2)))=false->true=true/\true=true/\true=true/\∀(r0:Loop),
  False)))):=by
 exact⟨rfl,rfl,fun h=>(uS (qv (Fj h) (by omega)) (by omega)).1,fun h=>absurd h (by decide)⟩
theorem Nr (L:List Sx.Obj) (k:Key) (kind:Int) (hL:aq L):
 true=true/\true=true/\((!decide (0<an L))=true->(void=cL L k kind/\1=bX L k kind)/\L=eI L k kind)/\((!decide (0<an L))=false->true=true/\((!(aU L k&&
  decide (k.kind=4)))=true->(void=cL L k kind/\190=bX L k kind)/\L=eI L k kind)/\((!(aU L k&&decide (k.kind=4)))=false->true=true/\((!(decide (((aa L k).slots.at
  0).kind=1)&&decide (((aa L k).slots.at 1).kind=1)&&decide (0<=((aa L k).slots.at 0).value)&&decide (((aa L k).slots.at 0).value<=((aa L k).slots.at 1).value)&&decide
  (((aa L k).slots.at 1).value<an L)))=true->(void=cL L k kind/\220=bX L k kind)/\L=eI L k kind)/\((!(decide (((aa L k).slots.at 0).kind=1)&&decide (((aa L
  k).slots.at 1).kind=1)&&decide (0<=((aa L k).slots.at 0).value)&&decide (((aa L k).slots.at 0).value<=((aa L k).slots.at 1).value)&&decide (((aa L k).slots.at 1).value<
  an L)))=false->true=true/\((!(decide (kind=1)||decide (kind=2)))=true->(void=cL L k kind/\2=bX L k kind)/\L=eI L k kind)/\((!(decide (kind=1)||decide (kind=
  2)))=false->true=true/\true=true/\true=true/\∀(r0:Loop),(∃g,iH L k g/\((aa L k).slots.at 0).value=g/\L=bE L (au L k) g/\k=k/\void=void/\k=k/\aa L k
  =aa L k/\k.oid=k.oid/\((aa L k).slots.at 0).value=((aa L k).slots.at 0).value/\((aa L k).slots.at 1).value=((aa L k).slots.at 1).value/\aa L k=aa L k/\(aa
  L k).slots.at 0=(aa L k).slots.at 0/\(aa L k).slots.at 1=(aa L k).slots.at 1/\aa L k=aa L k/\k.oid=k.oid/\((aa L k).slots.at 0).value=((aa L k).slots.at
  0).value/\((aa L k).slots.at 1).value=((aa L k).slots.at 1).value/\aa L k=aa L k/\k.oid=k.oid/\((aa L k).slots.at 0).value=((aa L k).slots.at 0).value/\((aa L
  k).slots.at 1).value=((aa L k).slots.at 1).value/\kind=kind/\void=void/\false=false/\aa L k=aa L k/\k.oid=k.oid/\((aa L k).slots.at 0).value=((aa L k).slots.at
  0).value/\((aa L k).slots.at 1).value=((aa L k).slots.at 1).value/\r0=r0)/\∀(g:Int),iH L k g->(decide (g<=((aa L k).slots.at 1).value)=true->r0=r0/\r0=r0/\
  ((!decide ((aR (bE L (au L k) g) g).kind=0))=true->r0=r0/\aG IntKind.i64 (g+1)/\∃g',iH L k g'/\(aE L k+1-g').toNat<(aE L k+1-g).toNat/\g+1=g'/\
  bE L (au L k) g=bE L (au L k) g'/\k=k/\void=void/\k=k/\aa L k=aa L k/\k.oid=k.oid/\((aa L k).slots.at 0).value=((aa L k).slots.at 0).value/\((aa L
  k).slots.at 1).value=((aa L k).slots.at 1).value/\aa L k=aa L k/\(aa L k).slots.at 0=(aa L k).slots.at 0/\(aa L k).slots.at 1=(aa L k).slots.at 1/\aa L k=
  aa L k/\k.oid=k.oid/\((aa L k).slots.at 0).value=((aa L k).slots.at 0).value/\((aa L k).slots.at 1).value=((aa L k).slots.at 1).value/\aa L k=aa L k/\k.oid=
  k.oid/\((aa L k).slots.at 0).value=((aa L k).slots.at 0).value/\((aa L k).slots.at 1).value=((aa L k).slots.at 1).value/\kind=kind/\void=void/\false=false/\aa L k=
  aa L k/\k.oid=k.oid/\((aa L k).slots.at 0).value=((aa L k).slots.at 0).value/\((aa L k).slots.at 1).value=((aa L k).slots.at 1).value/\r0=r0)/\((!decide ((aR (bE
  L (au L k) g) g).kind=0))=false->(decide ((aR (bE L (au L k) g) g).count=4294967295)=true->true=true/\r0=r0/\aG IntKind.i64 (g+1)/\∃g',iH L k g'/\(aE L k
  +1-g').toNat<(aE L k+1-g).toNat/\g+1=g'/\cV (bE L (au L k) g) g (Obj.mk 3 (aR (bE L (au L k) g) g).count free.calls free.slots free.bytes)=bE L (au L k)
  g'/\k=k/\void=void/\k=k/\aa L k=aa L k/\k.oid=k.oid/\((aa L k).slots.at 0).value=((aa L k).slots.at 0).value/\((aa L k).slots.at 1).value=((aa L k).slots.at
  1).value/\aa L k=aa L k/\(aa L k).slots.at 0=(aa L k).slots.at 0/\(aa L k).slots.at 1=(aa L k).slots.at 1/\aa L k=aa L k/\k.oid=k.oid/\((aa L
  k).slots.at 0).value=((aa L k).slots.at 0).value/\((aa L k).slots.at 1).value=((aa L k).slots.at 1).value/\aa L k=aa L k/\k.oid=k.oid/\((aa L k).slots.at 0).value=
  ((aa L k).slots.at 0).value/\((aa L k).slots.at 1).value=((aa L k).slots.at 1).value/\kind=kind/\void=void/\false=false/\aa L k=aa L k/\k.oid=k.oid/\((aa L
  k).slots.at 0).value=((aa L k).slots.at 0).value/\((aa L k).slots.at 1).value=((aa L k).slots.at 1).value/\r0=r0)/\(decide ((aR (bE L (au L k) g) g).count=4294967295)=
  false->aG IntKind.i64 ((aR (bE L (au L k) g) g).count+1)/\true=true/\aG IntKind.i64 ((aR (bE L (au L k) g) g).count+1)/\r0=r0/\true=true/\(cK kind g ((aR
  (bE L (au L k) g) g).count+1)=cL L k kind/\0=bX L k kind)/\cV (bE L (au L k) g) g (Obj.mk kind ((aR (bE L (au L k) g) g).count+1) free.calls free.slots
  free.bytes)=eI L k kind)))/\(decide (g<=((aa L k).slots.at 1).value)=false->true=true/\(void=cL L k kind/\221=bX L k kind)/\bE L (au L k) g=eI L k kind))))):=by
 refine⟨rfl,rfl,fun h=>uS (qv (Fj h) (by omega)) (by omega),fun h=>⟨rfl,fun h2=>uS (qv (U5 h h2) (by omega)) (by omega),fun h2=>⟨rfl,fun h3=>uS (qv (VA h h2 h3) (by omega)) (by omega),fun h3=>⟨rfl,fun h4=>uS (Iv (Qk h h2 h3).1 h4) (by omega),fun h4=>⟨rfl,rfl,rfl,fun r0=>?_⟩⟩⟩⟩⟩
 obtain⟨e,e1,e2⟩:=Qk h h2 h3;obtain⟨_,a0,a1,a2,_⟩:=lr e;rw[e1,e2]
 have hk:kind=1\/kind=2:=by
  simp only[Bool.not_eq_false',Bool.or_eq_true,Yk]at h4;exact h4
 have hlen:=kh hL;have hin:∀g:Int,au L k<=g->g<=aE L k->aG IntKind.i64 (g+1):=fun g h1 h2=>by simp only[aG,bY];omega
 have hcnt:∀j:Nat,j<L.length->0<=(ah L j free).count/\(ah L j free).count<=4294967295:=fun j hj=>⟨(jd (dY hL j hj)).1,(jd (dY hL j hj)).2.1⟩
 have hci:∀j:Nat,j<L.length->aG IntKind.i64 ((ah L j free).count+1):=fun j hj=>by have:=hcnt j hj;simp only[aG,bY];omega
 refine⟨⟨au L k,⟨by omega,by omega,sw⟩,rfl,Ci,(by(repeat' apply And.intro)<;>rfl)⟩,fun g hg=>⟨fun hgl=>?_,fun hgl=>?_⟩⟩
 ·obtain⟨g0,g1,g2⟩:=hg;have hgl:=Yn hgl;have hgn:g.toNat<L.length:=by omega
  have hgz:(bE L (au L k) g).length=L.length:=jL;have hgt:aR (bE L (au L k) g) g=ah L g.toNat free:=by rw[gG (by omega) (by omega),AE (by omega)]
  rw[hgt];refine⟨rfl,rfl,fun hk0=>?_,fun hk0=>⟨fun hc=>?_,fun hc=>?_⟩⟩
  ·obtain⟨f1,f2⟩:=wm (o:=ah L g.toNat free) (by simpa using hk0)
   exact⟨rfl,hin g g0 hgl,g+1,⟨by omega,by omega,iR g2 f2⟩,by omega,rfl,(xf (by omega) f1).symm,(by(repeat' apply And.intro)<;>rfl)⟩
  ·obtain⟨f1,f2⟩:=AD (o:=ah L g.toNat free) (by simpa using hk0) (by have:=Yn hc;omega)
   have hp:=(nt (L:=bE L (au L k) g) (i:=g) (by omega) (by omega) (hgz▸Aw (dY hL g.toNat hgn))).1
   exact⟨rfl,rfl,hin g g0 hgl,g+1,⟨by omega,by omega,iR g2 f2⟩,by omega,rfl,hp.trans (wQ (by omega) (by omega) g0 f1),(by(repeat' apply And.intro)<;>rfl)⟩
  ·have hc:=Ym hc;have:=hcnt _ hgn;obtain⟨f1,f2⟩:=Bs (o:=ah L g.toNat free) (by simpa using hk0) (by omega)
   obtain⟨m1,m2,m3⟩:=vZ kind a0 g0 hgl (by omega) g2 f2
   obtain⟨n1,n2,n3,n4⟩:=FP (kind:=kind) e hk (by rw[m1];omega)
   have hp:=(nt (L:=bE L (au L k) g) (i:=g) (by omega) (by omega) (hgz▸BN (dY hL g.toNat hgn) f2 hk)).1
   refine⟨hci _ hgn,rfl,hci _ hgn,rfl,rfl,⟨?_,n3⟩,hp.trans (m3.symm.trans n4)⟩;have hK:cL L k kind=cK kind (bh L (au L k) (aE L k)) ((ah L (bh L (au L k) (aE L k)).toNat free).count+1):=by unfold cL;rw[Yq n3.symm]
   rw[hK,m1]
 ·obtain⟨g0,g1,g2⟩:=hg;have hgl:=Ym hgl;have:g=aE L k+1:=by omega
  subst this;obtain⟨m1,m2,m3⟩:=AA kind g2;obtain⟨n1,n2,n3,n4⟩:=xr (kind:=kind) e hk m1;exact⟨rfl,⟨n2,n3⟩,m2.symm.trans n4⟩
theorem J4 (L:List Sx.Obj) (k:Key) (kind:Int) (hL:aq L):ai Tryz.prog 150 [.lp 0 0,.key k,.it .i64 kind] [.store tS eS L] (B0 (.tp [.key (cL L k kind),.it .i64 (bX L k kind)]) (eI L k kind)) (fun _ _=>False):=
 aW (inl:=(fun f=>f==153||f==152||f==158||f==159||f==1000000+186)) (ann:=(iy [(3000+186,1,UK [0,1] (fun g=> [(3,.it .i64 g)]) 0 (fun g=> .store tS eS (bE L (au L k) g)) (iH L k) (yw (aE L k) 1))])) (ab bC (ab bL (ab gY (ab rh ak)))) (aD dN aC) (eH gr) (Nr L k kind hL) (by kernel_rfl)
theorem Dw:lF Tryz.prog 150 OY:=
 mg (m:=fun x=>Q3.cn x 0) (gg BG (fun _=>rfl)) (fun _=>rfl) (fun _ _=>rfl) (fun x=>aW (inl:=(fun f=>f==153||f==152||f==158||f==159||f==1000000+186)) (ann:=aP) (ab bC (ab bL (ab gY (ab rh ak)))) (aD dN aC) (eH gr) (GA x.1 x.2.1) (by kernel_rfl)) (fun x=>aW (inl:=(fun f=>f==153||f==152||f==158||f==159||f==1000000+186)) (ann:=aP) (ab bC (ab bL (ab gY (ab rh ak)))) (aD dN aC) (eH gr) (GJ x.1 x.2.1) (by kernel_rfl)) fun L x hL _ _=>J4 L x.1 x.2.1 hL
end Go.Proofs.YtghpaegglbbocaaGreat
