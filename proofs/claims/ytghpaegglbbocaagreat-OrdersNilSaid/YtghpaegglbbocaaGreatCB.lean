import Derived.Test.YtghpaegglbbocaaGreatCP
import Derived.Test.YtghpaegglbbocaaGreatSpB
import Derived.Test.YtghpaegglbbocaaGreatKS
import Derived.Test.YtghpaegglbbocaaGreatCV
namespace Go.Proofs.YtghpaegglbbocaaGreat
open Go.Sx
theorem IE (L:List Sx.Obj) (k:Key):
 ((!decide (ay L k 4 false=0))=true->0=aH L k/\0=aA L k/\ay L k 4 false=aK L k)/\((!decide (ay L k 4 false=0))=false->(0<=k.oid/\k.oid< ↑(ai L))/\
   k.oid.toNat<ai L/\(0<=k.oid/\k.oid< ↑(ai L))/\k.oid.toNat<ai L/\((!decide (((ah L k.oid.toNat free).slots.at 0).kind=1)|| !decide (((ah L k.oid.toNat free).slots.at 1).kind=1)
   ||decide (((ah L k.oid.toNat free).slots.at 0).value<0)||decide (((ah L k.oid.toNat free).slots.at 1).value<((ah L k.oid.toNat free).slots.at 0).value)||decide (b9 (ai L)<=((ah L
   k.oid.toNat free).slots.at 1).value))=true->0=aH L k/\0=aA L k/\220=aK L k)/\((!decide (((ah L k.oid.toNat free).slots.at 0).kind=1)|| !decide (((ah L k.oid.toNat
   free).slots.at 1).kind=1)||decide (((ah L k.oid.toNat free).slots.at 0).value<0)||decide (((ah L k.oid.toNat free).slots.at 1).value<((ah L k.oid.toNat free).slots.at 0).value)||
   decide (b9 (ai L)<=((ah L k.oid.toNat free).slots.at 1).value))=false->((ah L k.oid.toNat free).slots.at 0).value=aH L k/\((ah L k.oid.toNat free).slots.at 1).value=aA L k/\0
   =aK L k)):=by
 rw[Kk];refine⟨fun h=>?_,fun h=>?_⟩
 ·obtain⟨e1,e2,e3⟩:=DP (show ay L k 4 false≠0 by simpa using h)
  rw[e1,e2,e3];exact⟨rfl,rfl,rfl⟩
 ·have h0:ay L k 4 false=0:=by simpa using h
  obtain⟨_,b2,b3,_⟩:=dz (fH h0).1;refine⟨⟨b2,b3⟩,by unfold ai;omega,⟨b2,b3⟩,by unfold ai;omega,fun h2=>?_,fun h2=>?_⟩
  ·obtain⟨e1,e2,e3⟩:=Au h0 (by simpa using h2)
   rw[e1,e2,e3];exact⟨rfl,rfl,rfl⟩
  ·obtain⟨e1,e2,e3⟩:=tH h0 (by simpa using h2)
   rw[e1,e2,e3];exact⟨rfl,rfl,rfl⟩
theorem qy:ck Tryz.prog 181 OX:=
 eW (aJ js Dv) (fun _=>rfl) fun a hq hok=>by
  obtain⟨L,k,_⟩:=a;exact aV (inl:=bp) (ann:=aP) (ab nP ak) (IE L k) (by kernel_rfl)
theorem HW (L:List Sx.Obj) (f l kind:Int) (hq:Dp L f l):
 (∃g,tE L f l g/\f=f/\l=l/\kind=kind/\f=g/\L=L)/\(∀(g:Int),tE L f l g->(decide (g<=l)=true->(0<=g/\g< ↑(ai L))/\g.toNat<ai L/\((!decide ((ah L g.toNat
  free).kind=0))=true->aG IntKind.i64 (g+1)/\((∃g',tE L f l g'/\(l+1-g').toNat<(l+1-g).toNat/\f=f/\l=l/\kind=kind/\g+1=g'/\L=L)\/∃g',qM L f l g'/\(l
  +1-g').toNat<(l+1-g).toNat/\False))/\((!decide ((ah L g.toNat free).kind=0))=false->(decide (4294967295<=(ah L g.toNat free).count)=true->dR L g/\aG IntKind.i64 (g+1)
  /\((∃g',tE L f l g'/\(l+1-g').toNat<(l+1-g).toNat/\False)\/∃g',qM L f l g'/\(l+1-g').toNat<(l+1-g).toNat/\f=f/\l=l/\kind=kind/\g+1=g'/\L=L/\cB
  L g.toNat (Obj.mk 3 (ah L g.toNat free).count free.calls free.slots free.bytes)=bE L f g'))/\(decide (4294967295<=(ah L g.toNat free).count)=false->aG IntKind.i64 ((ah L g.toNat
  free).count+1)/\dR L g/\j8 L f l=true/\g=bh L f l/\cB L g.toNat (Obj.mk kind ((ah L g.toNat free).count+1) free.calls free.slots free.bytes)=ca L f l kind)))/\(decide
  (g<=l)=false->j8 L f l=false/\ -1=bh L f l))/\∀(g:Int),qM L f l g->(decide (g<=l)=true->(0<=g/\g< ↑(ai (bE L f g)))/\g.toNat<ai (bE L f g)/\((!decide
  ((ah (bE L f g) g.toNat free).kind=0))=true->aG IntKind.i64 (g+1)/\∃g',qM L f l g'/\(l+1-g').toNat<(l+1-g).toNat/\f=f/\l=l/\kind=kind/\g+1=g'/\L=L/\
  bE L f g=bE L f g')/\((!decide ((ah (bE L f g) g.toNat free).kind=0))=false->(decide (4294967295<=(ah (bE L f g) g.toNat free).count)=true->dR (bE L f g) g/\aG
  IntKind.i64 (g+1)/\∃g',qM L f l g'/\(l+1-g').toNat<(l+1-g).toNat/\f=f/\l=l/\kind=kind/\g+1=g'/\L=L/\cB (bE L f g) g.toNat (Obj.mk 3 (ah (bE L f g)
  g.toNat free).count free.calls free.slots free.bytes)=bE L f g')/\(decide (4294967295<=(ah (bE L f g) g.toNat free).count)=false->aG IntKind.i64 ((ah (bE L f g) g.toNat
  free).count+1)/\dR (bE L f g) g/\j8 L f l=true/\g=bh L f l/\cB (bE L f g) g.toNat (Obj.mk kind ((ah (bE L f g) g.toNat free).count+1) free.calls free.slots
  free.bytes)=ca L f l kind)))/\(decide (g<=l)=false->j8 L f l=true/\ -1=bh L f l/\bE L f g=ca L f l kind):=by
 obtain⟨hL,h0,hl,hfl⟩:=hq;have hlen:=kz hL;have hll:(ai L:Int)=(L.length:Int):=rfl;have hrq:∀(M:List Sx.Obj) (g:Int),M.length=L.length->0<=g->g<=l->dR M g:=fun M g hM h1 h2=>⟨h1,by unfold ai;omega,by unfold ai;omega⟩
 have hin:∀g:Int,0<=g->g<=l->aG IntKind.i64 (g+1):=fun g h1 h2=>by simp only[aG,bY];omega
 have hcnt:∀j:Nat,j<L.length->0<=(ah L j free).count/\(ah L j free).count<=4294967295:=fun j hj=>⟨(jb (dY hL j hj)).1,(jb (dY hL j hj)).2.1⟩
 have hci:∀j:Nat,j<L.length->aG IntKind.i64 ((ah L j free).count+1):=fun j hj=>by have:=hcnt j hj;simp only[aG,bY];omega
 refine⟨⟨f,⟨by omega,hfl,r7,GX⟩,(by(repeat' apply And.intro)<;>rfl)⟩,fun g hg=>⟨fun hgl=>?_,fun hgl=>?_⟩,fun g hg=>⟨fun hgl=>?_,fun hgl=>?_⟩⟩
 ·obtain⟨g0,g1,g2,g3⟩:=hg;have hgl:=Yn hgl;have hgn:g.toNat<L.length:=by omega
  refine⟨⟨by omega,by omega⟩,hgn,fun hk=>?_,fun hk=>⟨fun hc=>?_,fun hc=>?_⟩⟩
  ·obtain⟨e1,e2⟩:=wx (o:=ah L g.toNat free) (by simpa using hk)
   exact⟨hin g (by omega) hgl,.inl ⟨g+1,⟨by omega,by omega,iT g2 e2,by rw[FK (by omega) e1];exact g3⟩,by omega,(by(repeat' apply And.intro)<;>rfl)⟩⟩
  ·obtain⟨e1,e2⟩:=Bo (o:=ah L g.toNat free) (by simpa using hk) (Yn hc)
   have hs:=v8 (L:=L) (f:=f) (g:=g) (by omega) (by omega) g0 e1
   rw[wZ g3]at hs;exact⟨hrq L g rfl (by omega) hgl,hin g (by omega) hgl,.inr ⟨g+1,⟨by omega,by omega,iT g2 e2,CR (by omega) (by omega) g0 e1⟩,by omega,rfl,rfl,rfl,rfl,rfl,hs⟩⟩
  ·obtain⟨e1,e2⟩:=AG (o:=ah L g.toNat free) (by simpa using hk) (Ym hc)
   obtain⟨m1,m2,m3⟩:=wC kind h0 g0 hgl (by omega) g2 e2
   rw[wZ g3]at m3;exact⟨hci _ hgn,hrq L g rfl (by omega) hgl,m2,m1.symm,m3.symm⟩
 ·obtain⟨g0,g1,g2,g3⟩:=hg;have hgl:=Ym hgl;have:g=l+1:=by omega
  subst this;obtain⟨m1,m2,m3⟩:=AR kind g2;exact⟨by rw[m3];exact g3,m1.symm⟩
 ·obtain⟨g0,g1,g2,g3⟩:=hg;have hgl:=Yn hgl;have hgn:g.toNat<L.length:=by omega
  have hgl2:(ai (bE L f g):Int)=(L.length:Int):=by unfold ai;rw[jJ]
  have hga:=AZ (L:=L) (f:=f) (g:=g) (by omega)
  rw[hga];refine⟨⟨by omega,by omega⟩,by omega,fun hk=>?_,fun hk=>⟨fun hc=>?_,fun hc=>?_⟩⟩
  ·obtain⟨e1,e2⟩:=wx (o:=ah L g.toNat free) (by simpa using hk)
   exact⟨hin g (by omega) hgl,g+1,⟨by omega,by omega,iT g2 e2,by rw[FK (by omega) e1];exact g3⟩,by omega,rfl,rfl,rfl,rfl,rfl,(yv (by omega) e1).symm⟩
  ·obtain⟨e1,e2⟩:=Bo (o:=ah L g.toNat free) (by simpa using hk) (Yn hc)
   exact⟨hrq _ g jJ (by omega) hgl,hin g (by omega) hgl,g+1,⟨by omega,by omega,iT g2 e2,CR (by omega) (by omega) g0 e1⟩,by omega,rfl,rfl,rfl,rfl,rfl,v8 (by omega) (by omega) g0 e1⟩
  ·obtain⟨e1,e2⟩:=AG (o:=ah L g.toNat free) (by simpa using hk) (Ym hc)
   obtain⟨m1,m2,m3⟩:=wC kind h0 g0 hgl (by omega) g2 e2
   exact⟨hci _ hgn,hrq _ g jJ (by omega) hgl,m2,m1.symm,m3.symm⟩
 ·obtain⟨g0,g1,g2,g3⟩:=hg;have hgl:=Ym hgl;have:g=l+1:=by omega
  subst this;obtain⟨m1,m2,m3⟩:=AR kind g2;exact⟨by rw[m3];exact g3,m1.symm,m2.symm⟩
theorem HE (L:List Sx.Obj) (f l kind:Int) (hq:Dp L f l):aj Tryz.prog 182 [.sa 0,.it .i64 f,.it .i64 l,.it .i64 kind] [.ro (.arr none 163 (.ob L))] (yT (j8 L f l) (ca L f l kind) [.it .i64 (bh L f l)]) (fun _ _=>False):=
 bn (inl:=bp) (ann:=(iB [(182,2,We [0,1,2,3] (fun g=> [(10,.it .i64 g)]) 0 tO 163 (fun g=> .ob (bE L f g)) (tE L f l) (qM L f l) (yS l 1))])) (ab kC ak) aC (HW L f l kind hq) (by kernel_rfl)
theorem Ab:lA Tryz.prog 182 MG:=
 iy (m:=fun x=>W4.cn x 0) (gf T3 (fun _=>rfl)) (fun _=>rfl) (fun _ _=>rfl) fun L x hq=>HE L x.1 x.2.1 x.2.2.1 hq
theorem Mo (L:List Sx.Obj) (k:Key) (kind:Int) (hL:aq L):
 ((decide (aK L k=0)&& !decide (kind=1)&& !decide (kind=2))=true->fN L k kind=false/\void=cJ L k kind/\2=bX L k kind)/\((decide (aK L k=0)&& !decide (kind=1)
   && !decide (kind=2))=false->((!decide (aK L k=0))=true->fN L k kind=false/\void=cJ L k kind/\aK L k=bX L k kind)/\((!decide (aK L k=0))=false->true=
   true/\Dp L (aH L k) (aA L k)/\(j8 L (aH L k) (aA L k)=false->(decide (bh L (aH L k) (aA L k)<0)=true->fN L k kind=false/\void=cJ L k kind/\221=
   bX L k kind)/\(decide (bh L (aH L k) (aA L k)<0)=false->aG IntKind.i64 (1+kind)/\(0<=bh L (aH L k) (aA L k)/\bh L (aH L k) (aA L k)< ↑(ai L))/\
   (bh L (aH L k) (aA L k)).toNat<ai L/\fN L k kind=false/\Key.mk (1+kind) (bh L (aH L k) (aA L k)) (ah L (bh L (aH L k) (aA L k)).toNat free).count
   void.call void.rights void.value=cJ L k kind/\0=bX L k kind))/\(j8 L (aH L k) (aA L k)=true->(decide (bh L (aH L k) (aA L k)<0)=true->fN L k kind=true
   /\(void=cJ L k kind/\221=bX L k kind)/\ca L (aH L k) (aA L k) kind=eH L k kind)/\(decide (bh L (aH L k) (aA L k)<0)=false->aG IntKind.i64 (1+kind)/\
   (0<=bh L (aH L k) (aA L k)/\bh L (aH L k) (aA L k)< ↑(ai (ca L (aH L k) (aA L k) kind)))/\(bh L (aH L k) (aA L k)).toNat<ai (ca L (aH L k)
   (aA L k) kind)/\fN L k kind=true/\(Key.mk (1+kind) (bh L (aH L k) (aA L k)) (ah (ca L (aH L k) (aA L k) kind) (bh L (aH L k) (aA L k)).toNat free).count
   void.call void.rights void.value=cJ L k kind/\0=bX L k kind)/\ca L (aH L k) (aA L k) kind=eH L k kind)))):=by
 refine⟨fun h=>?_,fun h=>⟨fun h2=>?_,fun h2=>?_⟩⟩
 ·simp only[Yj,Bool.not_eq_true',Yk,decide_eq_false_iff_not]at h;exact Pb h.1.1 h.1.2 h.2
 ·exact N0 (by simpa using h2)
 ·have h2:aK L k=0:=by simpa using h2
  have hk:kind=1\/kind=2:=by
   simp only[h2,decide_true,Bool.true_and,Bool.and_eq_false_iff,Bool.not_eq_false',Yk]at h;exact h
  obtain⟨_,a0,a1,a2,_⟩:=lu h2;obtain⟨x1,x2⟩:=z9 h2;have hlen:=kz hL;rw[x1,x2];have hin:aG IntKind.i64 (1+kind):=by simp only[aG,bY];omega
  have hm:=uP (L:=L) (l:=aE L k) a0;refine⟨rfl,⟨hL,a0,a2,by omega⟩,fun hc=>⟨fun hi=>?_,fun hi=>?_⟩,fun hc=>⟨fun hi=>?_,fun hi=>?_⟩⟩
  ·have hi:=Yn hi;obtain⟨m1,m2,m3,m4⟩:=xI h2 hk (by omega)
   exact⟨m1.trans hc,m2,m3⟩
  ·have hi:=Ym hi;rw[AL (by omega)]at hc
   simp at hc
  ·have hi:=Yn hi;obtain⟨m1,m2,m3,m4⟩:=xI h2 hk (by omega)
   exact⟨m1.trans hc,⟨m2,m3⟩,m4⟩
  ·have hi:=Ym hi;obtain⟨m1,m2,m3,m4⟩:=FN h2 hk (by omega)
   rw[show ai (ca L (au L k) (aE L k) kind)=L.length from sP];exact⟨hin,⟨by omega,by omega⟩,by omega,m1,⟨m2,m3⟩,m4⟩
theorem Jb (L:List Sx.Obj) (k:Key) (kind:Int) (hL:aq L):aj Tryz.prog 121 [.sa 0,.key k,.it .i64 kind] [.ro (.arr none 163 (.ob L))] (yT (fN L k kind) (eH L k kind) [.key (cJ L k kind),.it .i64 (bX L k kind)]) (fun _ _=>False):=
 bn (inl:=bp) (ann:=aP) (ab qy ak) (aD Ab aC) (Mo L k kind hL) (by kernel_rfl)
theorem Lz:lA Tryz.prog 121 RE:=
 iy (m:=fun x=>Og.cn x 0) (gf A4 (fun _=>rfl)) (fun _=>rfl) (fun _ _=>rfl) fun L x hq=>Jb L x.1 x.2.1 hq
theorem OG (L:List Sx.Obj) (k v:Key) (hL:aq L):
 ((!decide (aK L k=0))=true->iR L k v=false/\aK L k=b8 L k v)/\((!decide (aK L k=0))=false->((!aU L v|| !decide (v.kind=2)&& !decide (v.kind=3))=true->
   iR L k v=false/\5=b8 L k v)/\((!aU L v|| !decide (v.kind=2)&& !decide (v.kind=3))=false->((decide (v.oid<aH L k)||decide (aA L k<v.oid)||decide (v.oid=k.oid))
   =true->iR L k v=false/\4=b8 L k v)/\((decide (v.oid<aH L k)||decide (aA L k<v.oid)||decide (v.oid=k.oid))=false->(0<=v.oid/\v.oid< ↑(ai L))/\v.oid.toNat<
   ai L/\dR L v.oid/\iR L k v=true/\0=b8 L k v/\cB L v.oid.toNat (Obj.mk free.kind (ah L v.oid.toNat free).count free.calls free.slots free.bytes)=fL L k v))):=by
 refine⟨fun h=>?_,fun h=>⟨fun h2=>?_,fun h2=>⟨fun h3=>?_,fun h3=>?_⟩⟩⟩
 ·have h:aK L k≠0:=by simpa using h
  have e:b8 L k v=aK L k:=by unfold b8;rw[Yp h]
  exact⟨by unfold iR;rw[e];simpa using h,e.symm⟩
 ·have h:aK L k=0:=by simpa using h
  have e:b8 L k v=5:=by unfold b8;rw[Yq h,xm,h2];rfl
  exact⟨by unfold iR;rw[e];rfl,e.symm⟩
 ·have h:aK L k=0:=by simpa using h
  obtain⟨x1,x2⟩:=z9 h;rw[x1,x2]at h3
  have e:b8 L k v=4:=by
   unfold b8;rw[Yq h,xm,h2,Yq (show(!false)=true from rfl),Yp];simp only[Bool.or_eq_true,Yk]at h3;omega
  exact⟨by unfold iR;rw[e];rfl,e.symm⟩
 ·have h:aK L k=0:=by simpa using h
  obtain⟨x1,x2⟩:=z9 h;rw[x1,x2]at h3;have ht:g8 L v=true:=by rw[xm,h2];rfl
  obtain⟨_,b2,b3,_⟩:=dz (DA ht)
  have e:b8 L k v=0:=by
   unfold b8;rw[Yq h,ht,Yq rfl,Yq];simp only[Bool.or_eq_false_iff,decide_eq_false_iff_not]at h3;omega
  have hlen:=kz hL;exact⟨⟨b2,b3⟩,by unfold ai;omega,⟨b2,b3,by unfold ai;omega⟩,by unfold iR;rw[e];rfl,e.symm,by unfold fL;rw[Yq e];rfl⟩
theorem Oo (L:List Sx.Obj) (k v:Key) (hL:aq L):aj Tryz.prog 122 [.sa 0,.key k,.key v] [.ro (.arr none 163 (.ob L))] (yT (iR L k v) (fL L k v) [.it .i64 (b8 L k v)]) (fun _ _=>False):=
 bn (inl:=bp) (ann:=aP) (ab qy (ab mC (ab kC ak))) aC (OG L k v hL) (by kernel_rfl)
theorem OT:lA Tryz.prog 122 SM:=
 iy (m:=fun x=>LY.cn x 0) (gf uB (fun _=>rfl)) (fun _=>rfl) (fun _ _=>rfl) fun L x hq=>Oo L x.1 x.2.1 hq
theorem MK (L:List Sx.Obj) (k:Key) (hL:aq L):
 ((!decide (aK L k=0))=true->jN L k=false/\0=eX L k/\aK L k=aK L k)/\((!decide (aK L k=0))=false->(∃g,uy L k g/\aH L k=aH L k/\aA L k=
   aA L k/\0=dU L (au L k) g k.oid/\aH L k=g/\L=L/\k=k)/\(∀(g:Int),uy L k g->(decide (g<=aA L k)=true->(0<=g/\g< ↑(ai L))/\g.toNat<ai L/\((!decide
   ((ah L g.toNat free).kind=1))=true->0<=g/\g< ↑(ai L))/\((!decide ((ah L g.toNat free).kind=1))=true->g.toNat<ai L)/\(((decide ((ah L g.toNat free).kind=1)||decide ((ah
   L g.toNat free).kind=2))&& !decide (g=k.oid))=true->(0<=g/\g< ↑(ai L))/\g.toNat<ai L/\dR L g/\aG IntKind.i64 (dU L (au L k) g k.oid+1)/\aG IntKind.i64 (g+1)/\
   ((∃g',uy L k g'/\(aE L k+1-g').toNat<(aE L k+1-g).toNat/\False)\/∃g',qR L k g'/\(aE L k+1-g').toNat<(aE L k+1-g).toNat/\aH L k=aH L k/\
   aA L k=aA L k/\dU L (au L k) g k.oid+1=dU L (au L k) g' k.oid/\g+1=g'/\L=L/\k=k/\cB L g.toNat (Obj.mk free.kind (ah L g.toNat free).count free.calls
   free.slots free.bytes)=dh L (au L k) g' k.oid))/\(((decide ((ah L g.toNat free).kind=1)||decide ((ah L g.toNat free).kind=2))&& !decide (g=k.oid))=false->aG IntKind.i64 (g+
   1)/\((∃g',uy L k g'/\(aE L k+1-g').toNat<(aE L k+1-g).toNat/\aH L k=aH L k/\aA L k=aA L k/\dU L (au L k) g k.oid=dU L (au L k) g' k.oid
   /\g+1=g'/\L=L/\k=k)\/∃g',qR L k g'/\(aE L k+1-g').toNat<(aE L k+1-g).toNat/\False)))/\(decide (g<=aA L k)=false->jN L k=false/\dU L (au L k)
   g k.oid=eX L k/\0=aK L k))/\∀(g:Int),qR L k g->(decide (g<=aA L k)=true->(0<=g/\g< ↑(ai (dh L (au L k) g k.oid)))/\g.toNat<ai (dh L (au L k) g
   k.oid)/\((!decide ((ah (dh L (au L k) g k.oid) g.toNat free).kind=1))=true->0<=g/\g< ↑(ai (dh L (au L k) g k.oid)))/\((!decide ((ah (dh L (au L k) g k.oid) g.toNat
   free).kind=1))=true->g.toNat<ai (dh L (au L k) g k.oid))/\(((decide ((ah (dh L (au L k) g k.oid) g.toNat free).kind=1)||decide ((ah (dh L (au L k) g k.oid)
   g.toNat free).kind=2))&& !decide (g=k.oid))=true->(0<=g/\g< ↑(ai (dh L (au L k) g k.oid)))/\g.toNat<ai (dh L (au L k) g k.oid)/\dR (dh L (au L k) g k.oid) g
   /\aG IntKind.i64 (dU L (au L k) g k.oid+1)/\aG IntKind.i64 (g+1)/\∃g',qR L k g'/\(aE L k+1-g').toNat<(aE L k+1-g).toNat/\aH L k=aH L k/\aA L k
   =aA L k/\dU L (au L k) g k.oid+1=dU L (au L k) g' k.oid/\g+1=g'/\L=L/\k=k/\cB (dh L (au L k) g k.oid) g.toNat (Obj.mk free.kind (ah (dh L (au L k)
   g k.oid) g.toNat free).count free.calls free.slots free.bytes)=dh L (au L k) g' k.oid)/\(((decide ((ah (dh L (au L k) g k.oid) g.toNat free).kind=1)||decide ((ah (dh L
   (au L k) g k.oid) g.toNat free).kind=2))&& !decide (g=k.oid))=false->aG IntKind.i64 (g+1)/\∃g',qR L k g'/\(aE L k+1-g').toNat<(aE L k+1-g).toNat/\aH L k
   =aH L k/\aA L k=aA L k/\dU L (au L k) g k.oid=dU L (au L k) g' k.oid/\g+1=g'/\L=L/\k=k/\dh L (au L k) g k.oid=dh L (au L k) g' k.oid))/\
   (decide (g<=aA L k)=false->jN L k=true/\(dU L (au L k) g k.oid=eX L k/\0=aK L k)/\dh L (au L k) g k.oid=gi L k)):=by
 refine⟨fun h=>?_,fun h=>?_⟩
 ·have h:aK L k≠0:=by simpa using h
  exact⟨by unfold jN;simp[h],by unfold eX;rw[Yp h],rfl⟩
 have h:aK L k=0:=by simpa using h
 obtain⟨_,a0,a1,a2,_⟩:=lu h;obtain⟨x1,x2⟩:=z9 h;have hlen:=kz hL;have hll:(ai L:Int)=(L.length:Int):=rfl;rw[x1,x2];have hit:∀g:Int,(((decide ((ah L g.toNat free).kind=1)||decide ((ah L g.toNat free).kind=2))&& !decide (g=k.oid)))=jn L g k.oid:=fun g=>rfl
 have hin:∀g:Int,au L k<=g->g<=aE L k->aG IntKind.i64 (g+1):=fun g h1 h2=>by simp only[aG,bY];omega
 have hnn:∀g:Int,aG IntKind.i64 (dU L (au L k) g k.oid+1):=fun g=>by
  have:=rX (L:=L) (f:=au L k) (g:=g) (oid:=k.oid);have:=Mu (L:=L) (f:=au L k) (g:=g) (oid:=k.oid);simp only[aG,bY];omega
 refine⟨⟨au L k,⟨by omega,by omega,s6⟩,rfl,rfl,s6.symm,rfl,rfl,rfl⟩,fun g hg=>⟨fun hgl=>?_,fun hgl=>?_⟩,fun g hg=>⟨fun hgl=>?_,fun hgl=>?_⟩⟩
 ·obtain⟨g0,g1,g2⟩:=hg;have hgl:=Yn hgl;have hr1:0<=g/\g<(ai L:Int):=⟨by omega,by omega⟩
  have hr2:g.toNat<ai L:=by omega
  rw[hit g];refine⟨hr1,hr2,fun _=>hr1,fun _=>hr2,fun hh=>?_,fun hh=>?_⟩
  ·have hs:=xh (L:=L) (f:=au L k) (oid:=k.oid) (by omega:0<=g) (by omega) g0 hh
   have hs2:=Bv (L:=L) (f:=au L k) (oid:=k.oid) (by omega:0<=g) (by omega) g0 hh
   rw[ym g2]at hs2;exact⟨hr1,hr2,⟨by omega,by omega,by omega⟩,hnn g,hin g g0 hgl,.inr ⟨g+1,⟨by omega,by omega,by omega⟩,by omega,rfl,rfl,hs.symm,rfl,rfl,rfl,hs2⟩⟩
  ·have hs:=tB (L:=L) (f:=au L k) (oid:=k.oid) (by omega:0<=g) g0 hh
   exact⟨hin g g0 hgl,.inl ⟨g+1,⟨by omega,by omega,by omega⟩,by omega,rfl,rfl,hs.symm,rfl,rfl,rfl⟩⟩
 ·obtain⟨g0,g1,g2⟩:=hg;have hgl:=Ym hgl;have:g=aE L k+1:=by omega
  subst this;exact⟨by unfold jN;simp[h,g2],by unfold eX;rw[Yq h],h.symm⟩
 ·obtain⟨g0,g1,g2⟩:=hg;have hgl:=Yn hgl;have hgz:(ai (dh L (au L k) g k.oid))=L.length:=AW;have hr1:0<=g/\g<((L.length:Nat):Int):=⟨by omega,by omega⟩
  have hr2:g.toNat<L.length:=by omega
  rw[M7 (by omega),hit g,hgz]
  refine⟨hr1,hr2,fun _=>hr1,fun _=>hr2,fun hh=>?_,fun hh=>?_⟩
  ·have hs:=xh (L:=L) (f:=au L k) (oid:=k.oid) (by omega:0<=g) (by omega) g0 hh
   have hs2:=Bv (L:=L) (f:=au L k) (oid:=k.oid) (by omega:0<=g) (by omega) g0 hh
   have:=rX (L:=L) (f:=au L k) (g:=g) (oid:=k.oid);exact⟨hr1,hr2,⟨by omega,by omega,by omega⟩,hnn g,hin g g0 hgl,g+1,⟨by omega,by omega,by omega⟩,by omega,rfl,rfl,hs.symm,rfl,rfl,rfl,hs2⟩
  ·have hs:=tB (L:=L) (f:=au L k) (oid:=k.oid) (by omega:0<=g) g0 hh
   have hs2:=xH (L:=L) (f:=au L k) (oid:=k.oid) (by omega:0<=g) g0 hh
   exact⟨hin g g0 hgl,g+1,⟨by omega,by omega,by omega⟩,by omega,rfl,rfl,hs.symm,rfl,rfl,rfl,hs2.symm⟩
 ·obtain⟨g0,g1,g2⟩:=hg;have hgl:=Ym hgl;have:g=aE L k+1:=by omega
  subst this;exact⟨by unfold jN;simp[h,g2],⟨by unfold eX;rw[Yq h],h.symm⟩,by unfold gi;rw[Yq h]⟩
theorem KE (L:List Sx.Obj) (k:Key) (hL:aq L):aj Tryz.prog 125 [.sa 0,.key k] [.ro (.arr none 163 (.ob L))] (yT (jN L k) (gi L k) [.it .i64 (eX L k),.it .i64 (aK L k)]) (fun _ _=>False):=
 bn (inl:=bp) (ann:=(iB [(125,6,We [0,3,7,8] (fun g=> [(10,.it .i64 (dU L (au L k) g k.oid)),(11,.it .i64 g)]) 0 tO 163 (fun g=> .ob (dh L (au L k) g k.oid)) (uy L k) (qR L k) (yS (aE L k) 1))])) (ab qy (ab kC ak)) aC (MK L k hL) (by kernel_rfl)
theorem M4:lA Tryz.prog 125 OU:=
 iy (m:=fun x=>kB.cn x 0) (gf Dv (fun _=>rfl)) (fun _=>rfl) (fun _ _=>rfl) fun L x hq=>KE L x.1 hq
theorem Jr (L:List Sx.Obj) (k v:Key):
 ((!decide (aK L k=0))=true->false=iG L k v/\aK L k=aK L k)/\((!decide (aK L k=0))=false->(aU L v&&(decide (v.kind=2)||decide (v.kind=3))&&decide (aH L
   k<=v.oid)&&decide (v.oid<=aA L k))=iG L k v/\0=aK L k):=by
 refine⟨fun h=>?_,fun h=>?_⟩
 ·have h:aK L k≠0:=by simpa using h
  exact⟨by unfold iG;simp[h],rfl⟩
 ·have h:aK L k=0:=by simpa using h
  obtain⟨x1,x2⟩:=z9 h;rw[x1,x2];exact⟨by unfold iG g8;simp[h],h.symm⟩
theorem IJ:ck Tryz.prog 124 Rx:=
 eW (aJ js uB) (fun _=>rfl) fun a hq hok=>by
  obtain⟨L,k,v,_⟩:=a;exact aV (inl:=bp) (ann:=aP) (ab qy (ab mC ak)) (Jr L k v) (by kernel_rfl)
theorem HS (L:List Sx.Obj) (k:Key) (n:Int) (hL:aq L):
 ((!decide (n<1)&&decide (aK L k=0))=true->aG IntKind.i64 (aA L k-aH L k))/\((decide (aK L k=0)&&(decide (n<1)||decide (aA L k-aH L k<n)))=true->
   jV L k n=false/\void=bP L k n/\4=bM L k n)/\((decide (aK L k=0)&&(decide (n<1)||decide (aA L k-aH L k<n)))=false->((!decide (aK L k=0))=true->jV
   L k n=false/\void=bP L k n/\aK L k=bM L k n)/\((!decide (aK L k=0))=false->true=true/\Dp L (aH L k) (aA L k)/\(j8 L (aH L k) (aA L k)=false->
   ((!decide (bh L (aH L k) (aA L k)<0))=true->aG IntKind.i64 (aA L k-n))/\((decide (bh L (aH L k) (aA L k)<0)||decide (aA L k-n<bh L (aH L k)
   (aA L k)))=true->jV L k n=false/\void=bP L k n/\221=bM L k n)/\((decide (bh L (aH L k) (aA L k)<0)||decide (aA L k-n<bh L (aH L k) (aA L k)))
   =false->aG IntKind.i64 (aA L k-n)/\aG IntKind.i64 (aA L k-n+1)/\(∃g,oG L k n g/\n=n/\aH L k=aH L k/\aA L k=aA L k/\bh L (aH L k) (aA L
   k)=bh L (aH L k) (aA L k)/\aA L k-n+1=g/\L=L/\k=k/\void=void)/\∀(g:Int),oG L k n g->(decide (g<=aA L k)=true->(0<=g/\g< ↑(ai L))/\g.toNat<
   ai L/\((!decide ((ah L g.toNat free).kind=1))=true->0<=g/\g< ↑(ai L))/\((!decide ((ah L g.toNat free).kind=1))=true->g.toNat<ai L)/\((decide ((ah L g.toNat free).kind=1)
   ||decide ((ah L g.toNat free).kind=2))=true->jV L k n=false/\void=bP L k n/\221=bM L k n)/\((decide ((ah L g.toNat free).kind=1)||decide ((ah L g.toNat free).kind=
   2))=false->aG IntKind.i64 (g+1)/\∃g',oG L k n g'/\(aE L k+1-g').toNat<(aE L k+1-g).toNat/\n=n/\aH L k=aH L k/\aA L k=aA L k/\bh L (aH
   L k) (aA L k)=bh L (aH L k) (aA L k)/\g+1=g'/\L=L/\k=k/\void=void))/\(decide (g<=aA L k)=false->(0<=bh L (aH L k) (aA L k)/\bh L (aH L k)
   (aA L k)< ↑(ai L))/\(bh L (aH L k) (aA L k)).toNat<ai L/\(0<=k.oid/\k.oid< ↑(ai L))/\k.oid.toNat<ai L/\aG IntKind.i64 (aA L k-n)/\aG IntKind.i64 (aA L
   k-n+1)/\aG IntKind.i64 (aA L k-n)/\dR L (bh L (aH L k) (aA L k))/\dR (cB L (bh L (aH L k) (aA L k)).toNat (Obj.mk (ah L (bh L (aH L k) (aA
   L k)).toNat free).kind (ah L (bh L (aH L k) (aA L k)).toNat free).count (ah L (bh L (aH L k) (aA L k)).toNat free).calls (((ah L (bh L (aH L k) (aA L k)).toNat
   free).slots.put 0 (Key.mk 1 void.oid void.count void.call void.rights (aA L k-n+1))).put 1 (Key.mk 1 void.oid void.count void.call void.rights (aA L k))) (ah L (bh L (aH L k)
   (aA L k)).toNat free).bytes)) k.oid/\jV L k n=true/\(Key.mk 4 (bh L (aH L k) (aA L k)) (ah L (bh L (aH L k) (aA L k)).toNat free).count void.call void.rights
   void.value=bP L k n/\0=bM L k n)/\cB (cB L (bh L (aH L k) (aA L k)).toNat (Obj.mk (ah L (bh L (aH L k) (aA L k)).toNat free).kind (ah L (bh L (aH L k)
   (aA L k)).toNat free).count (ah L (bh L (aH L k) (aA L k)).toNat free).calls (((ah L (bh L (aH L k) (aA L k)).toNat free).slots.put 0 (Key.mk 1 void.oid void.count
   void.call void.rights (aA L k-n+1))).put 1 (Key.mk 1 void.oid void.count void.call void.rights (aA L k))) (ah L (bh L (aH L k) (aA L k)).toNat free).bytes)) k.oid.toNat (Obj.mk
   (ah L k.oid.toNat free).kind (ah L k.oid.toNat free).count (ah L k.oid.toNat free).calls ((ah L k.oid.toNat free).slots.put 1 (Key.mk 1 void.oid void.count void.call void.rights (aA L k-
   n))) (ah L k.oid.toNat free).bytes)=br L k n)))/\(j8 L (aH L k) (aA L k)=true->((!decide (bh L (aH L k) (aA L k)<0))=true->aG IntKind.i64 (aA L k-n))/\
   ((decide (bh L (aH L k) (aA L k)<0)||decide (aA L k-n<bh L (aH L k) (aA L k)))=true->jV L k n=false/\void=bP L k n/\221=bM L k n)/\((decide (bh
   L (aH L k) (aA L k)<0)||decide (aA L k-n<bh L (aH L k) (aA L k)))=false->aG IntKind.i64 (aA L k-n)/\aG IntKind.i64 (aA L k-n+1)/\(∃g,oG L k
   n g/\n=n/\aH L k=aH L k/\aA L k=aA L k/\bh L (aH L k) (aA L k)=bh L (aH L k) (aA L k)/\aA L k-n+1=g/\L=L/\k=k/\void=void/\ca L
   (aH L k) (aA L k) 1=ca L (aH L k) (aA L k) 1)/\∀(g:Int),oG L k n g->(decide (g<=aA L k)=true->(0<=g/\g< ↑(ai (ca L (aH L k) (aA L k) 1)))/\
   g.toNat<ai (ca L (aH L k) (aA L k) 1)/\((!decide ((ah (ca L (aH L k) (aA L k) 1) g.toNat free).kind=1))=true->0<=g/\g< ↑(ai (ca L (aH L k) (aA L k)
   1)))/\((!decide ((ah (ca L (aH L k) (aA L k) 1) g.toNat free).kind=1))=true->g.toNat<ai (ca L (aH L k) (aA L k) 1))/\((decide ((ah (ca L (aH L k) (aA L
   k) 1) g.toNat free).kind=1)||decide ((ah (ca L (aH L k) (aA L k) 1) g.toNat free).kind=2))=true->jV L k n=false/\void=bP L k n/\221=bM L k n)/\((decide ((ah
   (ca L (aH L k) (aA L k) 1) g.toNat free).kind=1)||decide ((ah (ca L (aH L k) (aA L k) 1) g.toNat free).kind=2))=false->aG IntKind.i64 (g+1)/\∃g',oG L k n g'
   /\(aE L k+1-g').toNat<(aE L k+1-g).toNat/\n=n/\aH L k=aH L k/\aA L k=aA L k/\bh L (aH L k) (aA L k)=bh L (aH L k) (aA L k)/\g+1=
   g'/\L=L/\k=k/\void=void/\ca L (aH L k) (aA L k) 1=ca L (aH L k) (aA L k) 1))/\(decide (g<=aA L k)=false->(0<=bh L (aH L k) (aA L k)/\bh L
   (aH L k) (aA L k)< ↑(ai (ca L (aH L k) (aA L k) 1)))/\(bh L (aH L k) (aA L k)).toNat<ai (ca L (aH L k) (aA L k) 1)/\(0<=k.oid/\k.oid< ↑(ai (ca
   L (aH L k) (aA L k) 1)))/\k.oid.toNat<ai (ca L (aH L k) (aA L k) 1)/\aG IntKind.i64 (aA L k-n)/\aG IntKind.i64 (aA L k-n+1)/\aG IntKind.i64 (aA L k-
   n)/\dR (ca L (aH L k) (aA L k) 1) (bh L (aH L k) (aA L k))/\dR (cB (ca L (aH L k) (aA L k) 1) (bh L (aH L k) (aA L k)).toNat (Obj.mk (ah
   (ca L (aH L k) (aA L k) 1) (bh L (aH L k) (aA L k)).toNat free).kind (ah (ca L (aH L k) (aA L k) 1) (bh L (aH L k) (aA L k)).toNat free).count (ah (ca
   L (aH L k) (aA L k) 1) (bh L (aH L k) (aA L k)).toNat free).calls (((ah (ca L (aH L k) (aA L k) 1) (bh L (aH L k) (aA L k)).toNat free).slots.put 0 (Key.mk 1
   void.oid void.count void.call void.rights (aA L k-n+1))).put 1 (Key.mk 1 void.oid void.count void.call void.rights (aA L k))) (ah (ca L (aH L k) (aA L k) 1) (bh L (aH L
   k) (aA L k)).toNat free).bytes)) k.oid/\jV L k n=true/\(Key.mk 4 (bh L (aH L k) (aA L k)) (ah (ca L (aH L k) (aA L k) 1) (bh L (aH L k) (aA L k)).toNat
   free).count void.call void.rights void.value=bP L k n/\0=bM L k n)/\cB (cB (ca L (aH L k) (aA L k) 1) (bh L (aH L k) (aA L k)).toNat (Obj.mk (ah (ca L (aH
   L k) (aA L k) 1) (bh L (aH L k) (aA L k)).toNat free).kind (ah (ca L (aH L k) (aA L k) 1) (bh L (aH L k) (aA L k)).toNat free).count (ah (ca L (aH L k)
   (aA L k) 1) (bh L (aH L k) (aA L k)).toNat free).calls (((ah (ca L (aH L k) (aA L k) 1) (bh L (aH L k) (aA L k)).toNat free).slots.put 0 (Key.mk 1 void.oid
   void.count void.call void.rights (aA L k-n+1))).put 1 (Key.mk 1 void.oid void.count void.call void.rights (aA L k))) (ah (ca L (aH L k) (aA L k) 1) (bh L (aH L k)
   (aA L k)).toNat free).bytes)) k.oid.toNat (Obj.mk (ah (ca L (aH L k) (aA L k) 1) k.oid.toNat free).kind (ah (ca L (aH L k) (aA L k) 1) k.oid.toNat free).count (ah (ca
   L (aH L k) (aA L k) 1) k.oid.toNat free).calls ((ah (ca L (aH L k) (aA L k) 1) k.oid.toNat free).slots.put 1 (Key.mk 1 void.oid void.count void.call void.rights (aA L k-n)))
   (ah (ca L (aH L k) (aA L k) 1) k.oid.toNat free).bytes)=br L k n))))):=by
 by_cases hE:aK L k≠0
 ·rw[show decide (aK L k=0)=false by simpa using hE]
  refine⟨fun h=>by simp at h,fun h=>by simp at h,fun _=>⟨fun _=>Cu (xN hE) hE,fun h=>by simp at h⟩⟩
 replace hE:aK L k=0:=Decidable.not_not.1 hE
 obtain⟨_,a0,a1,a2,a3,a4⟩:=lu hE;obtain⟨x1,x2⟩:=z9 hE;have hlen:=kz hL;rw[x1,x2,show decide (aK L k=0)=true by simpa using hE]
 have hr:∀x:Int,-1000<=x->x<=1000->aG IntKind.i64 x:=fun x h1 h2=>by simp only[aG,bY];omega
 have hI:bh L (au L k) (aE L k)=fF L k:=rfl;have hM:ca L (au L k) (aE L k) 1=du L k:=rfl;have hlM:ai (du L k)=L.length:=sP;have hlM2:(du L k).length=L.length:=sP;have hll:ai L=L.length:=rfl;rw[hI,hM];refine⟨fun _=>hr _ (by omega) (by omega),fun h=>Cu (Ak hE (by simp only[Bool.true_and,Bool.or_eq_true,Yk]at h;omega)) (by omega),fun h=>⟨fun h=>by simp at h,fun _=>?_⟩⟩
 have hn:1<=n/\n<=aE L k-au L k:=by simp only[Bool.true_and,Bool.or_eq_false_iff,decide_eq_false_iff_not]at h;omega
 obtain⟨hn1,hn2⟩:=hn;have h0:=Ft hE hn1 hn2;have hm:=uP (L:=L) (l:=aE L k) a0;rw[hI]at hm;refine⟨rfl,⟨hL,a0,a2,by omega⟩,fun hc=>⟨fun _=>hr _ (by omega) (by omega),fun hi=>?_,fun hi=>?_⟩,fun hc=>⟨fun _=>hr _ (by omega) (by omega),fun hi=>?_,fun hi=>?_⟩⟩
 ·exact Cu (tG h0 (by simp only[Bool.or_eq_true,Yk]at hi;omega)) (by omega)
 ·simp only[Bool.or_eq_false_iff,decide_eq_false_iff_not]at hi;rw[AL (by rw[hI];omega)]at hc
  simp at hc
 ·exact Cu (tG h0 (by simp only[Bool.or_eq_true,Yk]at hi;omega)) (by omega)
 simp only[Bool.or_eq_false_iff,decide_eq_false_iff_not]at hi;have hbz:∀o:Sx.Obj,(decide (o.kind=1)||decide (o.kind=2))=lr o:=fun o=>rfl
 refine⟨hr _ (by omega) (by omega),hr _ (by omega) (by omega),⟨aE L k-n+1,⟨by omega,by omega,GW⟩,rfl,rfl,rfl,rfl,rfl,rfl,rfl,rfl,rfl⟩,fun g hg=>⟨fun hgl=>?_,fun hgl=>?_⟩⟩
 ·obtain⟨g0,g1,g2⟩:=hg;have hgl:=Yn hgl;rw[hbz];have hr1:0<=g/\g<(ai (du L k):Int):=⟨by omega,by omega⟩
  have hr2:g.toNat<ai (du L k):=by omega
  refine⟨hr1,hr2,fun _=>hr1,fun _=>hr2,fun hb=>?_,fun hb=>?_⟩
  ·exact Cu (Cy h0 (Dz (by omega) (by omega) g0 (by omega) hb)) (by omega)
  ·exact⟨hr _ (by omega) (by omega),g+1,⟨by omega,by omega,by rw[Gx (by omega) hb];exact g2⟩,by omega,rfl,rfl,rfl,rfl,rfl,rfl,rfl,rfl,rfl⟩
 ·obtain⟨g0,g1,g2⟩:=hg;have hgl:=Ym hgl;have:g=aE L k+1:=by omega
  subst this;have e:=FX h0 (by omega) (by omega) g2
  have hp:∀(M:List Sx.Obj) (x:Int),M.length=L.length->0<=x->x<(L.length:Int)->dR M x:=fun M x hM h1 h2=>⟨h1,by unfold ai;omega,by unfold ai;omega⟩
  exact⟨⟨by omega,by omega⟩,by omega,⟨by omega,by omega⟩,by omega,hr _ (by omega) (by omega),hr _ (by omega) (by omega),hr _ (by omega) (by omega),hp _ _ hlM2 (by omega) (by omega),hp _ _ (by rw[jz];exact hlM2) a3 a4,by unfold jV;rw[e];rfl,⟨by unfold bP;rw[Yq e];rfl,e.symm⟩,by unfold br;rw[Yq e];rfl⟩
theorem HD (L:List Sx.Obj) (k:Key) (n:Int) (hL:aq L):aj Tryz.prog 123 [.sa 0,.key k,.it .i64 n] [.ro (.arr none 163 (.ob L))] (yT (jV L k n) (br L k n) [.key (bP L k n),.it .i64 (bM L k n)]) (fun _ _=>False):=
 bn (inl:=bp) (ann:=(iB [(123,10,Rk [0,2,4,7,9,10,12,13] (fun g=> [(14,.it .i64 g)]) (oG L k n) (yS (aE L k) 1))])) (ab qy (ab kC ak)) (aD Ab aC) (HS L k n hL) (by kernel_rfl)
theorem Hq:lA Tryz.prog 123 JC:=
 iy (m:=fun x=>Og.cn x 0) (gf A4 (fun _=>rfl)) (fun _=>rfl) (fun _ _=>rfl) fun L x hq=>HD L x.1 x.2.1 hq
end Go.Proofs.YtghpaegglbbocaaGreat
namespace Go.Proofs.YtghpaegglbbocaaGreat
open Go.Sx
set_option maxRecDepth 100000
theorem NX (kind oid count:Int):
 (decide (kind=2)=true->Key.mk 3 oid count void.call void.rights void.value=cL kind oid count)/\(decide (kind=2)=false->Key.mk 2 oid count void.call void.rights void.value=cL kind
  oid count):=by
 unfold cL;exact⟨fun h=>by rw[Yq (Yn h)];rfl,fun h=>by rw[Yp (Ym h)];rfl⟩
theorem qX:ck Tryz.prog 185 TA:=
 Kc (fy .i64) (fy .i64) (fy .i64) (fun _ _ _=>rfl) fun i j k _ _ _=>aV (inl:=bp) (ann:=aP) ak (NX i j k) (by kernel_rfl)
theorem Hp (k v:Key):
 true=true/\true=true/\((!decide (0<an []))=true->false=iG [] k v/\1=aK [] k)/\((!decide (0<an []))=false->true=true/\((!(aU [] k&&decide (k.kind=4)))=
  true->false=iG [] k v/\190=aK [] k)/\((!(aU [] k&&decide (k.kind=4)))=false->true=true/\((!(decide (((aa [] k).slots.at 0).kind=1)&&decide (((aa [] k).slots.at
  1).kind=1)&&decide (0<=((aa [] k).slots.at 0).value)&&decide (((aa [] k).slots.at 0).value<=((aa [] k).slots.at 1).value)&&decide (((aa [] k).slots.at 1).value<an [])))
  =true->false=iG [] k v/\220=aK [] k)/\((!(decide (((aa [] k).slots.at 0).kind=1)&&decide (((aa [] k).slots.at 1).kind=1)&&decide (0<=((aa [] k).slots.at 0).value)&&
  decide (((aa [] k).slots.at 0).value<=((aa [] k).slots.at 1).value)&&decide (((aa [] k).slots.at 1).value<an [])))=false->true=true/\(aU [] v&&(decide (v.kind=2)||
  decide (v.kind=3))&&decide (((aa [] k).slots.at 0).value<=cS v)&&decide (cS v<=((aa [] k).slots.at 1).value))=iG [] k v/\0=aK [] k))):=by
 exact⟨rfl,rfl,fun h=>Bh (Gc h) (by omega),fun h=>absurd h (by decide)⟩
theorem LF (L:List Sx.Obj) (k v:Key):
 true=true/\true=true/\((!decide (0<an L))=true->false=iG L k v/\1=aK L k)/\((!decide (0<an L))=false->true=true/\((!(aU L k&&decide (k.kind=4)))=true->
  false=iG L k v/\190=aK L k)/\((!(aU L k&&decide (k.kind=4)))=false->true=true/\((!(decide (((aa L k).slots.at 0).kind=1)&&decide (((aa L k).slots.at 1).kind=1)&&
  decide (0<=((aa L k).slots.at 0).value)&&decide (((aa L k).slots.at 0).value<=((aa L k).slots.at 1).value)&&decide (((aa L k).slots.at 1).value<an L)))=true->false=
  iG L k v/\220=aK L k)/\((!(decide (((aa L k).slots.at 0).kind=1)&&decide (((aa L k).slots.at 1).kind=1)&&decide (0<=((aa L k).slots.at 0).value)&&decide (((aa L
  k).slots.at 0).value<=((aa L k).slots.at 1).value)&&decide (((aa L k).slots.at 1).value<an L)))=false->true=true/\(aU L v&&(decide (v.kind=2)||decide (v.kind=3))&&
  decide (((aa L k).slots.at 0).value<=cS v)&&decide (cS v<=((aa L k).slots.at 1).value))=iG L k v/\0=aK L k))):=by
 refine⟨rfl,rfl,fun h=>Bh (Gc h) (by omega),fun h=>⟨rfl,fun h2=>Bh (VX h h2) (by omega),fun h2=>⟨rfl,fun h3=>Bh (V8 h h2 h3) (by omega),fun h3=>⟨rfl,?_,(QH h h2 h3).1.symm⟩⟩⟩⟩
 obtain⟨e,e1,e2⟩:=QH h h2 h3;rw[e1,e2];unfold iG g8;rw[e];cases hi:aU L v with
 |false=>simp
 |true=>
  cases hk:(decide (v.kind=2)||decide (v.kind=3))with
  |false=>simp
  |true=>
   have hn:cS v=v.oid:=SD hi;rw[hn];simp
theorem LP:ck Tryz.prog 165 QW:=
 eW (aJ sZ uB) (fun _=>rfl) fun a hq hok=>by
  obtain⟨S,k,v,_⟩:=a;cases S with
  |none=>exact aW (inl:=(fun f=>f==153||f==152||f==154)) (ann:=aP) (ab bB (ab bL (ab eY ak))) aC (eF gq) (Hp k v) (by kernel_rfl)
  |some L=>exact aW (inl:=(fun f=>f==153||f==152||f==154)) (ann:=aP) (ab bB (ab bL (ab eY ak))) aC (eF gq) (LF L k v) (by kernel_rfl)
theorem JR (k v:Key):
 true=true/\true=true/\((!decide (0<an []))=true->1=b8 [] k v)/\((!decide (0<an []))=false->true=true/\((!(aU [] k&&decide (k.kind=4)))=true->190=b8 [] k
  v)/\((!(aU [] k&&decide (k.kind=4)))=false->true=true/\((!(decide (((aa [] k).slots.at 0).kind=1)&&decide (((aa [] k).slots.at 1).kind=1)&&decide (0<=((aa []
  k).slots.at 0).value)&&decide (((aa [] k).slots.at 0).value<=((aa [] k).slots.at 1).value)&&decide (((aa [] k).slots.at 1).value<an [])))=true->220=b8 [] k v)/\
  ((!(decide (((aa [] k).slots.at 0).kind=1)&&decide (((aa [] k).slots.at 1).kind=1)&&decide (0<=((aa [] k).slots.at 0).value)&&decide (((aa [] k).slots.at 0).value<=((aa
  [] k).slots.at 1).value)&&decide (((aa [] k).slots.at 1).value<an [])))=false->true=true/\true=true/\((!(aU [] v&&(decide (v.kind=2)||decide (v.kind=3))))=true->5=
  b8 [] k v)/\((!(aU [] v&&(decide (v.kind=2)||decide (v.kind=3))))=false->true=true/\true=true/\((!(decide (((aa [] k).slots.at 0).value<=v.oid)&&decide (v.oid<=((aa
  [] k).slots.at 1).value)&& !decide (v.oid=k.oid)))=true->4=b8 [] k v)/\((!(decide (((aa [] k).slots.at 0).value<=v.oid)&&decide (v.oid<=((aa [] k).slots.at 1).value)&& !decide
  (v.oid=k.oid)))=false->true=true/\true=true/\0=b8 [] k v))))):=by
 exact⟨rfl,rfl,fun h=>(rM (pL (Gc h) (by omega)) (by omega)).1,fun h=>absurd h (by decide)⟩
theorem MS (k v:Key):
 true=true/\true=true/\((!decide (0<an []))=true->1=b8 [] k v)/\((!decide (0<an []))=false->true=true/\((!(aU [] k&&decide (k.kind=4)))=true->190=b8 [] k
  v)/\((!(aU [] k&&decide (k.kind=4)))=false->true=true/\((!(decide (((aa [] k).slots.at 0).kind=1)&&decide (((aa [] k).slots.at 1).kind=1)&&decide (0<=((aa []
  k).slots.at 0).value)&&decide (((aa [] k).slots.at 0).value<=((aa [] k).slots.at 1).value)&&decide (((aa [] k).slots.at 1).value<an [])))=true->220=b8 [] k v)/\
  ((!(decide (((aa [] k).slots.at 0).kind=1)&&decide (((aa [] k).slots.at 1).kind=1)&&decide (0<=((aa [] k).slots.at 0).value)&&decide (((aa [] k).slots.at 0).value<=((aa
  [] k).slots.at 1).value)&&decide (((aa [] k).slots.at 1).value<an [])))=false->true=true/\true=true/\((!(aU [] v&&(decide (v.kind=2)||decide (v.kind=3))))=true->5=
  b8 [] k v)/\((!(aU [] v&&(decide (v.kind=2)||decide (v.kind=3))))=false->true=true/\true=true/\((!(decide (((aa [] k).slots.at 0).value<=v.oid)&&decide (v.oid<=((aa
  [] k).slots.at 1).value)&& !decide (v.oid=k.oid)))=true->4=b8 [] k v)/\((!(decide (((aa [] k).slots.at 0).value<=v.oid)&&decide (v.oid<=((aa [] k).slots.at 1).value)&& !decide
  (v.oid=k.oid)))=false->true=true/\true=true/\False))))):=by
 exact⟨rfl,rfl,fun h=>(rM (pL (Gc h) (by omega)) (by omega)).1,fun h=>absurd h (by decide)⟩
theorem PA (L:List Sx.Obj) (k v:Key) (hL:aq L):
 true=true/\true=true/\((!decide (0<an L))=true->1=b8 L k v/\L=fL L k v)/\((!decide (0<an L))=false->true=true/\((!(aU L k&&decide (k.kind=4)))=true->
  190=b8 L k v/\L=fL L k v)/\((!(aU L k&&decide (k.kind=4)))=false->true=true/\((!(decide (((aa L k).slots.at 0).kind=1)&&decide (((aa L k).slots.at 1).kind=1)&&
  decide (0<=((aa L k).slots.at 0).value)&&decide (((aa L k).slots.at 0).value<=((aa L k).slots.at 1).value)&&decide (((aa L k).slots.at 1).value<an L)))=true->220=b8
  L k v/\L=fL L k v)/\((!(decide (((aa L k).slots.at 0).kind=1)&&decide (((aa L k).slots.at 1).kind=1)&&decide (0<=((aa L k).slots.at 0).value)&&decide (((aa L
  k).slots.at 0).value<=((aa L k).slots.at 1).value)&&decide (((aa L k).slots.at 1).value<an L)))=false->true=true/\true=true/\((!(aU L v&&(decide (v.kind=2)||decide
  (v.kind=3))))=true->5=b8 L k v/\L=fL L k v)/\((!(aU L v&&(decide (v.kind=2)||decide (v.kind=3))))=false->true=true/\true=true/\((!(decide (((aa L k).slots.at
  0).value<=v.oid)&&decide (v.oid<=((aa L k).slots.at 1).value)&& !decide (v.oid=k.oid)))=true->4=b8 L k v/\L=fL L k v)/\((!(decide (((aa L k).slots.at 0).value<=v.oid)
  &&decide (v.oid<=((aa L k).slots.at 1).value)&& !decide (v.oid=k.oid)))=false->true=true/\true=true/\0=b8 L k v/\cW L v.oid (Obj.mk free.kind (aR L v.oid).count
  free.calls free.slots free.bytes)=fL L k v))))):=by
 refine⟨rfl,rfl,fun h=>rM (pL (Gc h) (by omega)) (by omega),fun h=>⟨rfl,fun h2=>rM (pL (VX h h2) (by omega)) (by omega),fun h2=>⟨rfl,fun h3=>rM (pL (V8 h h2 h3) (by omega)) (by omega),fun h3=>⟨rfl,rfl,fun h4=>?_,fun h4=>⟨rfl,rfl,fun h5=>?_,fun h5=>⟨rfl,rfl,?_⟩⟩⟩⟩⟩⟩
 ·obtain⟨e,e1,e2⟩:=QH h h2 h3;have ht:g8 L v=false:=by have h4':(!g8 L v)=true:=h4;simpa using h4'
  exact rM (by unfold b8;rw[Yq e,ht];rfl) (by omega)
 ·obtain⟨e,e1,e2⟩:=QH h h2 h3;have ht:g8 L v=true:=by have h4':(!g8 L v)=false:=h4;simpa using h4'
  rw[e1,e2]at h5
  exact rM (by
   unfold b8;rw[Yq e,ht,Yq rfl,Yp];intro hh;simp only[Bool.not_eq_true',Bool.and_eq_false_iff,Bool.not_eq_false',decide_eq_false_iff_not,Yk]at h5;omega) (by omega)
 ·obtain⟨e,e1,e2⟩:=QH h h2 h3;have ht:g8 L v=true:=by have h4':(!g8 L v)=false:=h4;simpa using h4'
  rw[e1,e2]at h5
  have hE:b8 L k v=0:=by
   unfold b8;rw[Yq e,ht,Yq rfl,Yq];simp only[Bool.not_eq_false',Yj,Bool.not_eq_true',Yk,decide_eq_false_iff_not]at h5;omega
  obtain⟨_,b2,b3,_⟩:=dz (DA ht);rw[gE b2 b3];refine⟨hE.symm,?_⟩;unfold fL;rw[Yq hE];exact(nw b2 b3 (wN (dY hL v.oid.toNat (by omega)))).1
theorem PG (L:List Sx.Obj) (k v:Key) (hL:aq L):aj Tryz.prog 83 [.lp 0 0,.key k,.key v] [.store tS eS L] (Cn (.it .i64 (b8 L k v)) (fL L k v)) (fun _ _=>False):=
 aW (inl:=(fun f=>f==153||f==152||f==154||f==155||f==156)) (ann:=aP) (ab bB (ab bL (ab gY ak))) (aD dO aC) (eF gq) (PA L k v hL) (by kernel_rfl)
theorem RB:lA Tryz.prog 83 Sl:=
 mD (m:=fun x=>LY.cn x 0) (gf uB (fun _=>rfl)) (fun _=>rfl) (fun _ _=>rfl) (fun x=>aW (inl:=(fun f=>f==153||f==152||f==154||f==155||f==156)) (ann:=aP) (ab bB (ab bL (ab gY ak))) (aD dO aC) (eF gq) (JR x.1 x.2.1) (by kernel_rfl)) (fun x=>aW (inl:=(fun f=>f==153||f==152||f==154||f==155||f==156)) (ann:=aP) (ab bB (ab bL (ab gY ak))) (aD dO aC) (eF gq) (MS x.1 x.2.1) (by kernel_rfl)) fun L x hL _ _=>PG L x.1 x.2.1 hL
theorem Hv (k:Key):
 true=true/\true=true/\((!decide (0<an []))=true->0=eX [] k/\1=aK [] k)/\((!decide (0<an []))=false->true=true/\((!(aU [] k&&decide (k.kind=4)))=true->0
  =eX [] k/\190=aK [] k)/\((!(aU [] k&&decide (k.kind=4)))=false->true=true/\((!(decide (((aa [] k).slots.at 0).kind=1)&&decide (((aa [] k).slots.at 1).kind=1)&&
  decide (0<=((aa [] k).slots.at 0).value)&&decide (((aa [] k).slots.at 0).value<=((aa [] k).slots.at 1).value)&&decide (((aa [] k).slots.at 1).value<an [])))=true->0=
  eX [] k/\220=aK [] k)/\((!(decide (((aa [] k).slots.at 0).kind=1)&&decide (((aa [] k).slots.at 1).kind=1)&&decide (0<=((aa [] k).slots.at 0).value)&&decide (((aa
  [] k).slots.at 0).value<=((aa [] k).slots.at 1).value)&&decide (((aa [] k).slots.at 1).value<an [])))=false->true=true/\true=true/\∀(r0:Loop),False))):=by
 exact⟨rfl,rfl,fun h=>(xO (Gc h) (by omega)).1,fun h=>absurd h (by decide)⟩
theorem Hk (k:Key):
 true=true/\true=true/\((!decide (0<an []))=true->0=eX [] k/\1=aK [] k)/\((!decide (0<an []))=false->true=true/\((!(aU [] k&&decide (k.kind=4)))=true->0
  =eX [] k/\190=aK [] k)/\((!(aU [] k&&decide (k.kind=4)))=false->true=true/\((!(decide (((aa [] k).slots.at 0).kind=1)&&decide (((aa [] k).slots.at 1).kind=1)&&
  decide (0<=((aa [] k).slots.at 0).value)&&decide (((aa [] k).slots.at 0).value<=((aa [] k).slots.at 1).value)&&decide (((aa [] k).slots.at 1).value<an [])))=true->0=
  eX [] k/\220=aK [] k)/\((!(decide (((aa [] k).slots.at 0).kind=1)&&decide (((aa [] k).slots.at 1).kind=1)&&decide (0<=((aa [] k).slots.at 0).value)&&decide (((aa
  [] k).slots.at 0).value<=((aa [] k).slots.at 1).value)&&decide (((aa [] k).slots.at 1).value<an [])))=false->true=true/\true=true/\∀(r0:Loop),False))):=by
 exact⟨rfl,rfl,fun h=>(xO (Gc h) (by omega)).1,fun h=>absurd h (by decide)⟩
theorem Js (L:List Sx.Obj) (k:Key) (hL:aq L):
 true=true/\true=true/\((!decide (0<an L))=true->(0=eX L k/\1=aK L k)/\L=gi L k)/\((!decide (0<an L))=false->true=true/\((!(aU L k&&decide (k.kind=
  4)))=true->(0=eX L k/\190=aK L k)/\L=gi L k)/\((!(aU L k&&decide (k.kind=4)))=false->true=true/\((!(decide (((aa L k).slots.at 0).kind=1)&&decide (((aa L
  k).slots.at 1).kind=1)&&decide (0<=((aa L k).slots.at 0).value)&&decide (((aa L k).slots.at 0).value<=((aa L k).slots.at 1).value)&&decide (((aa L k).slots.at 1).value<
  an L)))=true->(0=eX L k/\220=aK L k)/\L=gi L k)/\((!(decide (((aa L k).slots.at 0).kind=1)&&decide (((aa L k).slots.at 1).kind=1)&&decide (0<=((aa L
  k).slots.at 0).value)&&decide (((aa L k).slots.at 0).value<=((aa L k).slots.at 1).value)&&decide (((aa L k).slots.at 1).value<an L)))=false->true=true/\true=true/\∀(r0
  :Loop),(∃g,qV L k g/\((aa L k).slots.at 0).value=g/\L=dh L (au L k) g k.oid/\k=k/\0=dU L (au L k) g k.oid/\k=k/\aa L k=aa L k/\k.oid=k.oid/\
  ((aa L k).slots.at 0).value=((aa L k).slots.at 0).value/\((aa L k).slots.at 1).value=((aa L k).slots.at 1).value/\aa L k=aa L k/\(aa L k).slots.at 0=(aa L
  k).slots.at 0/\(aa L k).slots.at 1=(aa L k).slots.at 1/\aa L k=aa L k/\k.oid=k.oid/\((aa L k).slots.at 0).value=((aa L k).slots.at 0).value/\((aa L k).slots.at
  1).value=((aa L k).slots.at 1).value/\aa L k=aa L k/\k.oid=k.oid/\((aa L k).slots.at 0).value=((aa L k).slots.at 0).value/\((aa L k).slots.at 1).value=((aa L
  k).slots.at 1).value/\r0=r0)/\∀(g:Int),qV L k g->(decide (g<=((aa L k).slots.at 1).value)=true->r0=r0/\r0=r0/\((decide ((aR (dh L (au L k) g k.oid) g).kind=1)||
  decide ((aR (dh L (au L k) g k.oid) g).kind=2))=true->true=true/\((decide (((aa L k).slots.at 0).value<=g)&&decide (g<=((aa L k).slots.at 1).value)&& !decide (g=k.oid))
  =true->true=true/\true=true/\aG IntKind.i64 (dU L (au L k) g k.oid+1)/\r0=r0/\aG IntKind.i64 (g+1)/\∃g',qV L k g'/\(aE L k+1-g').toNat<(aE L k+1-
  g).toNat/\g+1=g'/\cW (dh L (au L k) g k.oid) g (Obj.mk free.kind (aR (dh L (au L k) g k.oid) g).count free.calls free.slots free.bytes)=dh L (au L k) g' k.oid/\k=
  k/\dU L (au L k) g k.oid+1=dU L (au L k) g' k.oid/\k=k/\aa L k=aa L k/\k.oid=k.oid/\((aa L k).slots.at 0).value=((aa L k).slots.at 0).value/\((aa L
  k).slots.at 1).value=((aa L k).slots.at 1).value/\aa L k=aa L k/\(aa L k).slots.at 0=(aa L k).slots.at 0/\(aa L k).slots.at 1=(aa L k).slots.at 1/\aa L k=
  aa L k/\k.oid=k.oid/\((aa L k).slots.at 0).value=((aa L k).slots.at 0).value/\((aa L k).slots.at 1).value=((aa L k).slots.at 1).value/\aa L k=aa L k/\k.oid=
  k.oid/\((aa L k).slots.at 0).value=((aa L k).slots.at 0).value/\((aa L k).slots.at 1).value=((aa L k).slots.at 1).value/\r0=r0)/\((decide (((aa L k).slots.at 0).value<=g)
  &&decide (g<=((aa L k).slots.at 1).value)&& !decide (g=k.oid))=false->r0=r0/\aG IntKind.i64 (g+1)/\∃g',qV L k g'/\(aE L k+1-g').toNat<(aE L k+1-g).toNat/\
  g+1=g'/\dh L (au L k) g k.oid=dh L (au L k) g' k.oid/\k=k/\dU L (au L k) g k.oid=dU L (au L k) g' k.oid/\k=k/\aa L k=aa L k/\k.oid=k.oid/\
  ((aa L k).slots.at 0).value=((aa L k).slots.at 0).value/\((aa L k).slots.at 1).value=((aa L k).slots.at 1).value/\aa L k=aa L k/\(aa L k).slots.at 0=(aa L
  k).slots.at 0/\(aa L k).slots.at 1=(aa L k).slots.at 1/\aa L k=aa L k/\k.oid=k.oid/\((aa L k).slots.at 0).value=((aa L k).slots.at 0).value/\((aa L k).slots.at
  1).value=((aa L k).slots.at 1).value/\aa L k=aa L k/\k.oid=k.oid/\((aa L k).slots.at 0).value=((aa L k).slots.at 0).value/\((aa L k).slots.at 1).value=((aa L
  k).slots.at 1).value/\r0=r0))/\((decide ((aR (dh L (au L k) g k.oid) g).kind=1)||decide ((aR (dh L (au L k) g k.oid) g).kind=2))=false->r0=r0/\aG IntKind.i64 (g+
  1)/\∃g',qV L k g'/\(aE L k+1-g').toNat<(aE L k+1-g).toNat/\g+1=g'/\dh L (au L k) g k.oid=dh L (au L k) g' k.oid/\k=k/\dU L (au L k) g k.oid=
  dU L (au L k) g' k.oid/\k=k/\aa L k=aa L k/\k.oid=k.oid/\((aa L k).slots.at 0).value=((aa L k).slots.at 0).value/\((aa L k).slots.at 1).value=((aa L
  k).slots.at 1).value/\aa L k=aa L k/\(aa L k).slots.at 0=(aa L k).slots.at 0/\(aa L k).slots.at 1=(aa L k).slots.at 1/\aa L k=aa L k/\k.oid=k.oid/\
  ((aa L k).slots.at 0).value=((aa L k).slots.at 0).value/\((aa L k).slots.at 1).value=((aa L k).slots.at 1).value/\aa L k=aa L k/\k.oid=k.oid/\((aa L k).slots.at
  0).value=((aa L k).slots.at 0).value/\((aa L k).slots.at 1).value=((aa L k).slots.at 1).value/\r0=r0))/\(decide (g<=((aa L k).slots.at 1).value)=false->(dU L (au L
  k) g k.oid=eX L k/\0=aK L k)/\dh L (au L k) g k.oid=gi L k)))):=by
 refine⟨rfl,rfl,fun h=>xO (Gc h) (by omega),fun h=>⟨rfl,fun h2=>xO (VX h h2) (by omega),fun h2=>⟨rfl,fun h3=>xO (V8 h h2 h3) (by omega),fun h3=>⟨rfl,rfl,fun r0=>?_⟩⟩⟩⟩
 obtain⟨e,e1,e2⟩:=QH h h2 h3;obtain⟨_,a0,a1,a2,_⟩:=lu e;rw[e1,e2];have hlen:=kz hL;have hin:∀g:Int,au L k<=g->g<=aE L k->aG IntKind.i64 (g+1):=fun g h1 h2=>by simp only[aG,bY];omega
 have hnn:∀g:Int,aG IntKind.i64 (dU L (au L k) g k.oid+1):=fun g=>by
  have:=rX (L:=L) (f:=au L k) (g:=g) (oid:=k.oid);have:=Mu (L:=L) (f:=au L k) (g:=g) (oid:=k.oid);simp only[aG,bY];omega
 refine⟨⟨au L k,⟨by omega,by omega⟩,rfl,Is,rfl,s6.symm,(by(repeat' apply And.intro)<;>rfl)⟩,fun g hg=>⟨fun hgl=>?_,fun hgl=>?_⟩⟩
 ·obtain⟨g0,g1⟩:=hg;have hgl:=Yn hgl;have hgz:(dh L (au L k) g k.oid).length=L.length:=AW;have hgt:aR (dh L (au L k) g k.oid) g=ah L g.toNat free:=by rw[gE (by omega) (by omega),M7 (by omega)]
  rw[hgt];refine⟨rfl,rfl,fun hk=>⟨rfl,fun hb=>?_,fun hb=>?_⟩,fun hk=>?_⟩
  ·have hne:¬g=k.oid:=by
    simp only[Yj,Bool.not_eq_true',decide_eq_false_iff_not]at hb;exact hb.2
   have hh:jn L g k.oid=true:=by unfold jn lr;rw[hk];simp[hne]
   have hs:=xh (L:=L) (f:=au L k) (oid:=k.oid) (by omega:0<=g) (by omega) g0 hh
   have hs2:=Bv (L:=L) (f:=au L k) (oid:=k.oid) (by omega:0<=g) (by omega) g0 hh
   have hp:=(nw (L:=dh L (au L k) g k.oid) (i:=g) (by omega) (by omega) (hgz▸wN (dY hL g.toNat (by omega)))).1
   exact⟨rfl,rfl,hnn g,rfl,hin g g0 hgl,g+1,⟨by omega,by omega⟩,by omega,rfl,hp.trans hs2,rfl,hs.symm,(by(repeat' apply And.intro)<;>rfl)⟩
  ·have hh:jn L g k.oid=false:=by
    have e3:decide (au L k<=g)=true:=by simp;omega
    have e4:decide (g<=aE L k)=true:=by simp;omega
    rw[e3,e4]at hb;unfold jn;rw[Bool.and_eq_false_iff];right
    simpa using hb
   have hs:=tB (L:=L) (f:=au L k) (oid:=k.oid) (by omega:0<=g) g0 hh
   have hs2:=xH (L:=L) (f:=au L k) (oid:=k.oid) (by omega:0<=g) g0 hh
   exact⟨rfl,hin g g0 hgl,g+1,⟨by omega,by omega⟩,by omega,rfl,hs2.symm,rfl,hs.symm,(by(repeat' apply And.intro)<;>rfl)⟩
  ·have hh:jn L g k.oid=false:=by unfold jn lr;rw[hk];rfl
   have hs:=tB (L:=L) (f:=au L k) (oid:=k.oid) (by omega:0<=g) g0 hh
   have hs2:=xH (L:=L) (f:=au L k) (oid:=k.oid) (by omega:0<=g) g0 hh
   exact⟨rfl,hin g g0 hgl,g+1,⟨by omega,by omega⟩,by omega,rfl,hs2.symm,rfl,hs.symm,(by(repeat' apply And.intro)<;>rfl)⟩
 ·obtain⟨g0,g1⟩:=hg;have hgl:=Ym hgl;have:g=aE L k+1:=by omega
  subst this;exact⟨⟨by unfold eX;rw[Yq e],e.symm⟩,by unfold gi;rw[Yq e]⟩
theorem Ko (L:List Sx.Obj) (k:Key) (hL:aq L):aj Tryz.prog 166 [.lp 0 0,.key k] [.store tS eS L] (Cn (.tp [.it .i64 (eX L k),.it .i64 (aK L k)]) (gi L k)) (fun _ _=>False):=
 aW (inl:=(fun f=>f==153||f==152||f==155||f==156||f==159||f==1000000+186)) (ann:=(iB [(5000+186,1,XU [0,1] (fun(g:Int)=> [(3,.it .i64 g)]) (fun g=> [(0,.store tS eS (dh L (au L k) g k.oid)),(2,.blk 3 (.it .i64 (dU L (au L k) g k.oid)))]) (qV L k) (fun g=>oY (rZ (yS (aE L k) 1) g)))])) (ab bB (ab bL (ab gY ak))) (aD dO aC) (eF gq) (Js L k hL) (by kernel_rfl)
theorem Lo:lA Tryz.prog 166 QA:=
 mD (m:=fun x=>kB.cn x 0) (gf Dv (fun _=>rfl)) (fun _=>rfl) (fun _ _=>rfl) (fun x=>aW (inl:=(fun f=>f==153||f==152||f==155||f==156||f==159||f==1000000+186)) (ann:=aP) (ab bB (ab bL (ab gY ak))) (aD dO aC) (eF gq) (Hv x.1) (by kernel_rfl)) (fun x=>aW (inl:=(fun f=>f==153||f==152||f==155||f==156||f==159||f==1000000+186)) (ann:=aP) (ab bB (ab bL (ab gY ak))) (aD dO aC) (eF gq) (Hk x.1) (by kernel_rfl)) fun L x hL _ _=>Ko L x.1 hL
theorem HG (k:Key) (kind:Int):
 true=true/\true=true/\((!decide (0<an []))=true->void=cJ [] k kind/\1=bX [] k kind)/\((!decide (0<an []))=false->true=true/\((!(aU [] k&&decide (k.kind=
  4)))=true->void=cJ [] k kind/\190=bX [] k kind)/\((!(aU [] k&&decide (k.kind=4)))=false->true=true/\((!(decide (((aa [] k).slots.at 0).kind=1)&&decide (((aa []
  k).slots.at 1).kind=1)&&decide (0<=((aa [] k).slots.at 0).value)&&decide (((aa [] k).slots.at 0).value<=((aa [] k).slots.at 1).value)&&decide (((aa [] k).slots.at 1).value<
  an [])))=true->void=cJ [] k kind/\220=bX [] k kind)/\((!(decide (((aa [] k).slots.at 0).kind=1)&&decide (((aa [] k).slots.at 1).kind=1)&&decide (0<=((aa []
  k).slots.at 0).value)&&decide (((aa [] k).slots.at 0).value<=((aa [] k).slots.at 1).value)&&decide (((aa [] k).slots.at 1).value<an [])))=false->true=true/\((!(decide (kind
  =1)||decide (kind=2)))=true->void=cJ [] k kind/\2=bX [] k kind)/\((!(decide (kind=1)||decide (kind=2)))=false->true=true/\true=true/\true=true/\∀(r0:Loop),
  False)))):=by
 exact⟨rfl,rfl,fun h=>(u0 (pW (Gc h) (by omega)) (by omega)).1,fun h=>absurd h (by decide)⟩
theorem G7 (k:Key) (kind:Int):
 true=true/\true=true/\((!decide (0<an []))=true->void=cJ [] k kind/\1=bX [] k kind)/\((!decide (0<an []))=false->true=true/\((!(aU [] k&&decide (k.kind=
  4)))=true->void=cJ [] k kind/\190=bX [] k kind)/\((!(aU [] k&&decide (k.kind=4)))=false->true=true/\((!(decide (((aa [] k).slots.at 0).kind=1)&&decide (((aa []
  k).slots.at 1).kind=1)&&decide (0<=((aa [] k).slots.at 0).value)&&decide (((aa [] k).slots.at 0).value<=((aa [] k).slots.at 1).value)&&decide (((aa [] k).slots.at 1).value<
  an [])))=true->void=cJ [] k kind/\220=bX [] k kind)/\((!(decide (((aa [] k).slots.at 0).kind=1)&&decide (((aa [] k).slots.at 1).kind=1)&&decide (0<=((aa []
  k).slots.at 0).value)&&decide (((aa [] k).slots.at 0).value<=((aa [] k).slots.at 1).value)&&decide (((aa [] k).slots.at 1).value<an [])))=false->true=true/\((!(decide (kind
  =1)||decide (kind=2)))=true->void=cJ [] k kind/\2=bX [] k kind)/\((!(decide (kind=1)||decide (kind=2)))=false->true=true/\true=true/\true=true/\∀(r0:Loop),
  False)))):=by
 exact⟨rfl,rfl,fun h=>(u0 (pW (Gc h) (by omega)) (by omega)).1,fun h=>absurd h (by decide)⟩
theorem NL (L:List Sx.Obj) (k:Key) (kind:Int) (hL:aq L):
 true=true/\true=true/\((!decide (0<an L))=true->(void=cJ L k kind/\1=bX L k kind)/\L=eH L k kind)/\((!decide (0<an L))=false->true=true/\((!(aU L k&&
  decide (k.kind=4)))=true->(void=cJ L k kind/\190=bX L k kind)/\L=eH L k kind)/\((!(aU L k&&decide (k.kind=4)))=false->true=true/\((!(decide (((aa L k).slots.at
  0).kind=1)&&decide (((aa L k).slots.at 1).kind=1)&&decide (0<=((aa L k).slots.at 0).value)&&decide (((aa L k).slots.at 0).value<=((aa L k).slots.at 1).value)&&decide
  (((aa L k).slots.at 1).value<an L)))=true->(void=cJ L k kind/\220=bX L k kind)/\L=eH L k kind)/\((!(decide (((aa L k).slots.at 0).kind=1)&&decide (((aa L
  k).slots.at 1).kind=1)&&decide (0<=((aa L k).slots.at 0).value)&&decide (((aa L k).slots.at 0).value<=((aa L k).slots.at 1).value)&&decide (((aa L k).slots.at 1).value<
  an L)))=false->true=true/\((!(decide (kind=1)||decide (kind=2)))=true->(void=cJ L k kind/\2=bX L k kind)/\L=eH L k kind)/\((!(decide (kind=1)||decide (kind=
  2)))=false->true=true/\true=true/\true=true/\∀(r0:Loop),(∃g,iE L k g/\((aa L k).slots.at 0).value=g/\L=bE L (au L k) g/\k=k/\void=void/\k=k/\aa L k
  =aa L k/\k.oid=k.oid/\((aa L k).slots.at 0).value=((aa L k).slots.at 0).value/\((aa L k).slots.at 1).value=((aa L k).slots.at 1).value/\aa L k=aa L k/\(aa
  L k).slots.at 0=(aa L k).slots.at 0/\(aa L k).slots.at 1=(aa L k).slots.at 1/\aa L k=aa L k/\k.oid=k.oid/\((aa L k).slots.at 0).value=((aa L k).slots.at
  0).value/\((aa L k).slots.at 1).value=((aa L k).slots.at 1).value/\aa L k=aa L k/\k.oid=k.oid/\((aa L k).slots.at 0).value=((aa L k).slots.at 0).value/\((aa L
  k).slots.at 1).value=((aa L k).slots.at 1).value/\kind=kind/\void=void/\false=false/\aa L k=aa L k/\k.oid=k.oid/\((aa L k).slots.at 0).value=((aa L k).slots.at
  0).value/\((aa L k).slots.at 1).value=((aa L k).slots.at 1).value/\r0=r0)/\∀(g:Int),iE L k g->(decide (g<=((aa L k).slots.at 1).value)=true->r0=r0/\r0=r0/\
  ((!decide ((aR (bE L (au L k) g) g).kind=0))=true->r0=r0/\aG IntKind.i64 (g+1)/\∃g',iE L k g'/\(aE L k+1-g').toNat<(aE L k+1-g).toNat/\g+1=g'/\
  bE L (au L k) g=bE L (au L k) g'/\k=k/\void=void/\k=k/\aa L k=aa L k/\k.oid=k.oid/\((aa L k).slots.at 0).value=((aa L k).slots.at 0).value/\((aa L
  k).slots.at 1).value=((aa L k).slots.at 1).value/\aa L k=aa L k/\(aa L k).slots.at 0=(aa L k).slots.at 0/\(aa L k).slots.at 1=(aa L k).slots.at 1/\aa L k=
  aa L k/\k.oid=k.oid/\((aa L k).slots.at 0).value=((aa L k).slots.at 0).value/\((aa L k).slots.at 1).value=((aa L k).slots.at 1).value/\aa L k=aa L k/\k.oid=
  k.oid/\((aa L k).slots.at 0).value=((aa L k).slots.at 0).value/\((aa L k).slots.at 1).value=((aa L k).slots.at 1).value/\kind=kind/\void=void/\false=false/\aa L k=
  aa L k/\k.oid=k.oid/\((aa L k).slots.at 0).value=((aa L k).slots.at 0).value/\((aa L k).slots.at 1).value=((aa L k).slots.at 1).value/\r0=r0)/\((!decide ((aR (bE
  L (au L k) g) g).kind=0))=false->(decide ((aR (bE L (au L k) g) g).count=4294967295)=true->true=true/\r0=r0/\aG IntKind.i64 (g+1)/\∃g',iE L k g'/\(aE L k
  +1-g').toNat<(aE L k+1-g).toNat/\g+1=g'/\cW (bE L (au L k) g) g (Obj.mk 3 (aR (bE L (au L k) g) g).count free.calls free.slots free.bytes)=bE L (au L k)
  g'/\k=k/\void=void/\k=k/\aa L k=aa L k/\k.oid=k.oid/\((aa L k).slots.at 0).value=((aa L k).slots.at 0).value/\((aa L k).slots.at 1).value=((aa L k).slots.at
  1).value/\aa L k=aa L k/\(aa L k).slots.at 0=(aa L k).slots.at 0/\(aa L k).slots.at 1=(aa L k).slots.at 1/\aa L k=aa L k/\k.oid=k.oid/\((aa L
  k).slots.at 0).value=((aa L k).slots.at 0).value/\((aa L k).slots.at 1).value=((aa L k).slots.at 1).value/\aa L k=aa L k/\k.oid=k.oid/\((aa L k).slots.at 0).value=
  ((aa L k).slots.at 0).value/\((aa L k).slots.at 1).value=((aa L k).slots.at 1).value/\kind=kind/\void=void/\false=false/\aa L k=aa L k/\k.oid=k.oid/\((aa L
  k).slots.at 0).value=((aa L k).slots.at 0).value/\((aa L k).slots.at 1).value=((aa L k).slots.at 1).value/\r0=r0)/\(decide ((aR (bE L (au L k) g) g).count=4294967295)=
  false->aG IntKind.i64 ((aR (bE L (au L k) g) g).count+1)/\true=true/\aG IntKind.i64 ((aR (bE L (au L k) g) g).count+1)/\r0=r0/\true=true/\(cL kind g ((aR
  (bE L (au L k) g) g).count+1)=cJ L k kind/\0=bX L k kind)/\cW (bE L (au L k) g) g (Obj.mk kind ((aR (bE L (au L k) g) g).count+1) free.calls free.slots
  free.bytes)=eH L k kind)))/\(decide (g<=((aa L k).slots.at 1).value)=false->true=true/\(void=cJ L k kind/\221=bX L k kind)/\bE L (au L k) g=eH L k kind))))):=by
 refine⟨rfl,rfl,fun h=>u0 (pW (Gc h) (by omega)) (by omega),fun h=>⟨rfl,fun h2=>u0 (pW (VX h h2) (by omega)) (by omega),fun h2=>⟨rfl,fun h3=>u0 (pW (V8 h h2 h3) (by omega)) (by omega),fun h3=>⟨rfl,fun h4=>u0 (Ji (QH h h2 h3).1 h4) (by omega),fun h4=>⟨rfl,rfl,rfl,fun r0=>?_⟩⟩⟩⟩⟩
 obtain⟨e,e1,e2⟩:=QH h h2 h3;obtain⟨_,a0,a1,a2,_⟩:=lu e;rw[e1,e2]
 have hk:kind=1\/kind=2:=by
  simp only[Bool.not_eq_false',Bool.or_eq_true,Yk]at h4;exact h4
 have hlen:=kz hL;have hin:∀g:Int,au L k<=g->g<=aE L k->aG IntKind.i64 (g+1):=fun g h1 h2=>by simp only[aG,bY];omega
 have hcnt:∀j:Nat,j<L.length->0<=(ah L j free).count/\(ah L j free).count<=4294967295:=fun j hj=>⟨(jb (dY hL j hj)).1,(jb (dY hL j hj)).2.1⟩
 have hci:∀j:Nat,j<L.length->aG IntKind.i64 ((ah L j free).count+1):=fun j hj=>by have:=hcnt j hj;simp only[aG,bY];omega
 refine⟨⟨au L k,⟨by omega,by omega,r7⟩,rfl,C7,(by(repeat' apply And.intro)<;>rfl)⟩,fun g hg=>⟨fun hgl=>?_,fun hgl=>?_⟩⟩
 ·obtain⟨g0,g1,g2⟩:=hg;have hgl:=Yn hgl;have hgn:g.toNat<L.length:=by omega
  have hgz:(bE L (au L k) g).length=L.length:=jJ;have hgt:aR (bE L (au L k) g) g=ah L g.toNat free:=by rw[gE (by omega) (by omega),AZ (by omega)]
  rw[hgt];refine⟨rfl,rfl,fun hk0=>?_,fun hk0=>⟨fun hc=>?_,fun hc=>?_⟩⟩
  ·obtain⟨f1,f2⟩:=wx (o:=ah L g.toNat free) (by simpa using hk0)
   exact⟨rfl,hin g g0 hgl,g+1,⟨by omega,by omega,iT g2 f2⟩,by omega,rfl,(yv (by omega) f1).symm,(by(repeat' apply And.intro)<;>rfl)⟩
  ·obtain⟨f1,f2⟩:=Bo (o:=ah L g.toNat free) (by simpa using hk0) (by have:=Yn hc;omega)
   have hp:=(nw (L:=bE L (au L k) g) (i:=g) (by omega) (by omega) (hgz▸Bx (dY hL g.toNat hgn))).1
   exact⟨rfl,rfl,hin g g0 hgl,g+1,⟨by omega,by omega,iT g2 f2⟩,by omega,rfl,hp.trans (v8 (by omega) (by omega) g0 f1),(by(repeat' apply And.intro)<;>rfl)⟩
  ·have hc:=Ym hc;have:=hcnt _ hgn;obtain⟨f1,f2⟩:=AG (o:=ah L g.toNat free) (by simpa using hk0) (by omega)
   obtain⟨m1,m2,m3⟩:=wC kind a0 g0 hgl (by omega) g2 f2
   obtain⟨n1,n2,n3,n4⟩:=FN (kind:=kind) e hk (by rw[m1];omega)
   have hp:=(nw (L:=bE L (au L k) g) (i:=g) (by omega) (by omega) (hgz▸AQ (dY hL g.toNat hgn) f2 hk)).1
   refine⟨hci _ hgn,rfl,hci _ hgn,rfl,rfl,⟨?_,n3⟩,hp.trans (m3.symm.trans n4)⟩;have hK:cJ L k kind=cL kind (bh L (au L k) (aE L k)) ((ah L (bh L (au L k) (aE L k)).toNat free).count+1):=by unfold cJ;rw[Yq n3.symm]
   rw[hK,m1]
 ·obtain⟨g0,g1,g2⟩:=hg;have hgl:=Ym hgl;have:g=aE L k+1:=by omega
  subst this;obtain⟨m1,m2,m3⟩:=AR kind g2;obtain⟨n1,n2,n3,n4⟩:=xI (kind:=kind) e hk m1;exact⟨rfl,⟨n2,n3⟩,m2.symm.trans n4⟩
theorem Ml (L:List Sx.Obj) (k:Key) (kind:Int) (hL:aq L):aj Tryz.prog 150 [.lp 0 0,.key k,.it .i64 kind] [.store tS eS L] (Cn (.tp [.key (cJ L k kind),.it .i64 (bX L k kind)]) (eH L k kind)) (fun _ _=>False):=
 aW (inl:=(fun f=>f==153||f==152||f==158||f==159||f==1000000+186)) (ann:=(iB [(3000+186,1,UJ [0,1] (fun g=> [(3,.it .i64 g)]) 0 (fun g=> .store tS eS (bE L (au L k) g)) (iE L k) (yS (aE L k) 1))])) (ab bB (ab bL (ab gY (ab qX ak)))) (aD dO aC) (eF gq) (NL L k kind hL) (by kernel_rfl)
theorem Cq:lA Tryz.prog 150 Ol:=
 mD (m:=fun x=>Og.cn x 0) (gf A4 (fun _=>rfl)) (fun _=>rfl) (fun _ _=>rfl) (fun x=>aW (inl:=(fun f=>f==153||f==152||f==158||f==159||f==1000000+186)) (ann:=aP) (ab bB (ab bL (ab gY (ab qX ak)))) (aD dO aC) (eF gq) (HG x.1 x.2.1) (by kernel_rfl)) (fun x=>aW (inl:=(fun f=>f==153||f==152||f==158||f==159||f==1000000+186)) (ann:=aP) (ab bB (ab bL (ab gY (ab qX ak)))) (aD dO aC) (eF gq) (G7 x.1 x.2.1) (by kernel_rfl)) fun L x hL _ _=>Ml L x.1 x.2.1 hL
end Go.Proofs.YtghpaegglbbocaaGreat
