import Derived.Test.YtghpaegglbbocaaGreatCtWb
import Derived.Test.YtghpaegglbbocaaGreatSW
set_option linter.unusedSimpArgs false
set_option linter.unusedVariables false
namespace Go.Proofs.YtghpaegglbbocaaGreat
open Go.Sx
set_option maxRecDepth 100000
theorem Pv (k:Key) (a:Int) (n:Int) (w:Bool):
 true=true/\(decide (an []=0)=true->void=bV (bx [] k a n w)/\0=bU (bx [] k a n w)/\void=cO (bx [] k a n w)/\0=c9 (bx [] k a n w)/\0=bH [] k a n w/\void=
  eM [] k a n w/\0=eU [] k a n w/\1=bQ [] k a n)/\(decide (an []=0)=false->((!decide (bD k=0)||bf k&&decide (an []<=cS k))=true->void=bV (bx [] k a n
  w)/\0=bU (bx [] k a n w)/\void=cO (bx [] k a n w)/\0=c9 (bx [] k a n w)/\0=bH [] k a n w/\void=eM [] k a n w/\0=eU [] k a n w/\2=bQ [] k a n)/\((!decide (bD
  k=0)||bf k&&decide (an []<=cS k))=false->(decide (a<0)=true->void=bV (bx [] k a n w)/\0=bU (bx [] k a n w)/\void=cO (bx [] k a n w)/\0=c9 (bx [] k
  a n w)/\0=bH [] k a n w/\void=eM [] k a n w/\0=eU [] k a n w/\4=bQ [] k a n)/\(decide (a<0)=false->((decide (n<0)||decide (64<n))=true->void=bV (bx [] k a n w)
  /\0=bU (bx [] k a n w)/\void=cO (bx [] k a n w)/\0=c9 (bx [] k a n w)/\0=bH [] k a n w/\void=eM [] k a n w/\0=eU [] k a n w/\4=bQ [] k a n)/\((decide (n<0)||
  decide (64<n))=false->((!decide (ej (ar [] k a)=0))=true->void=bV (bx [] k a n w)/\0=bU (bx [] k a n w)/\void=cO (bx [] k a n w)/\0=c9 (bx [] k a n w)/\ej
  (ar [] k a)=bH [] k a n w/\fe (ar [] k a)=eM [] k a n w/\fc (ar [] k a) a=eU [] k a n w/\0=bQ [] k a n)/\((!decide (ej (ar [] k a)=0))=false->aG IntKind.i64
  (bU (ar [] k a)+n)/\(decide (64<bU (ar [] k a)+n)=true->true=true/\void=bV (bx [] k a n w)/\0=bU (bx [] k a n w)/\void=cO (bx [] k a n w)/\0=c9 (bx [] k
  a n w)/\5=bH [] k a n w/\cO (ar [] k a)=eM [] k a n w/\a=eU [] k a n w/\0=bQ [] k a n)/\(decide (64<bU (ar [] k a)+n)=false->((w&& !decide (bc BinOp.and
  IntKind.i64 (bV (ar [] k a)).rights 1=0))=true->true=true/\void=bV (bx [] k a n w)/\0=bU (bx [] k a n w)/\void=cO (bx [] k a n w)/\0=c9 (bx [] k a n w)/\6=bH
  [] k a n w/\cO (ar [] k a)=eM [] k a n w/\a=eU [] k a n w/\0=bQ [] k a n)/\((w&& !decide (bc BinOp.and IntKind.i64 (bV (ar [] k a)).rights 1=0))=false->bV (ar [] k
  a)=bV (bx [] k a n w)/\bU (ar [] k a)=bU (bx [] k a n w)/\cO (ar [] k a)=cO (bx [] k a n w)/\c9 (ar [] k a)=c9 (bx [] k a n w)/\0=bH [] k a n w/\void=eM
  [] k a n w/\0=eU [] k a n w/\0=bQ [] k a n))))))):=by
 exact⟨rfl,fun h=>oD (KX (Vk h) (by omega)) (by omega),fun h=>absurd h (by decide)⟩
theorem SK (L:List Sx.Obj) (k:Key) (a:Int) (n:Int) (w:Bool):
 true=true/\(decide (an L=0)=true->void=bV (bx L k a n w)/\0=bU (bx L k a n w)/\void=cO (bx L k a n w)/\0=c9 (bx L k a n w)/\0=bH L k a n w/\void=eM L k
  a n w/\0=eU L k a n w/\1=bQ L k a n)/\(decide (an L=0)=false->((!decide (bD k=0)||bf k&&decide (an L<=cS k))=true->void=bV (bx L k a n w)/\0=bU
  (bx L k a n w)/\void=cO (bx L k a n w)/\0=c9 (bx L k a n w)/\0=bH L k a n w/\void=eM L k a n w/\0=eU L k a n w/\2=bQ L k a n)/\((!decide (bD k=0)||bf k
  &&decide (an L<=cS k))=false->(decide (a<0)=true->void=bV (bx L k a n w)/\0=bU (bx L k a n w)/\void=cO (bx L k a n w)/\0=c9 (bx L k a n w)/\0=bH L k a n
  w/\void=eM L k a n w/\0=eU L k a n w/\4=bQ L k a n)/\(decide (a<0)=false->((decide (n<0)||decide (64<n))=true->void=bV (bx L k a n w)/\0=bU (bx L k a n w)/\
  void=cO (bx L k a n w)/\0=c9 (bx L k a n w)/\0=bH L k a n w/\void=eM L k a n w/\0=eU L k a n w/\4=bQ L k a n)/\((decide (n<0)||decide (64<n))=false->((!decide
  (ej (ar L k a)=0))=true->void=bV (bx L k a n w)/\0=bU (bx L k a n w)/\void=cO (bx L k a n w)/\0=c9 (bx L k a n w)/\ej (ar L k a)=bH L k a n w/\fe (ar L
  k a)=eM L k a n w/\fc (ar L k a) a=eU L k a n w/\0=bQ L k a n)/\((!decide (ej (ar L k a)=0))=false->aG IntKind.i64 (bU (ar L k a)+n)/\(decide (64<bU (ar L k
  a)+n)=true->true=true/\void=bV (bx L k a n w)/\0=bU (bx L k a n w)/\void=cO (bx L k a n w)/\0=c9 (bx L k a n w)/\5=bH L k a n w/\cO (ar L k a)=eM L k a
  n w/\a=eU L k a n w/\0=bQ L k a n)/\(decide (64<bU (ar L k a)+n)=false->((w&& !decide (bc BinOp.and IntKind.i64 (bV (ar L k a)).rights 1=0))=true->true=true/\void
  =bV (bx L k a n w)/\0=bU (bx L k a n w)/\void=cO (bx L k a n w)/\0=c9 (bx L k a n w)/\6=bH L k a n w/\cO (ar L k a)=eM L k a n w/\a=eU L k a n w/\0=bQ
  L k a n)/\((w&& !decide (bc BinOp.and IntKind.i64 (bV (ar L k a)).rights 1=0))=false->bV (ar L k a)=bV (bx L k a n w)/\bU (ar L k a)=bU (bx L k a n w)/\cO (ar L
  k a)=cO (bx L k a n w)/\c9 (ar L k a)=c9 (bx L k a n w)/\0=bH L k a n w/\void=eM L k a n w/\0=eU L k a n w/\0=bQ L k a n))))))):=by
 refine⟨rfl,fun h=>oD (KX (Vk h) (by omega)) (by omega),fun h=>⟨fun h2=>?_,fun h2=>⟨fun h3=>?_,fun h3=>?_⟩⟩⟩
 ·rw[zS,Bool.not_eq_true']at h2;exact oD (KX (by rw[OO h,h2];rfl) (by omega)) (by omega)
 ·rw[zS,Bool.not_eq_false']at h2;exact oD (KX (by rw[OO h,h2,Yq rfl,Yq (Yn h3)]) (by omega)) (by omega)
 rw[zS,Bool.not_eq_false']at h2;have hW:c8 L k a=0:=by rw[OO h,h2,Yq rfl,Yp (Ym h3)]
 clear h h2 h3;refine⟨fun h=>oD (VO hW h) (by omega),fun h=>?_⟩
 have hE:=Tt hW h;refine⟨fun hk=>?_,fun hk=>?_⟩
 ·have hk:ej (ar L k a)≠0:=by simpa using hk
  have hk:(ar L k a).kd≠0:=hk;obtain⟨u1,u2,u3⟩:=Vr (a:=a) hk;rw[u1,u2,u3];exact rj hE (VK hE hk) hk
 have hk:ej (ar L k a)=0:=by simpa using hk
 have hk:(ar L k a).kd=0:=hk;obtain⟨⟨e1,e2⟩,e3,e4⟩:=D2 hW hk;obtain⟨f1,f2,f3⟩:=Mu hk;have hr:=AG e1 e2;obtain⟨_,n0,n1⟩:=yd hE;rw[f1,f2,f3];rw[T3 hr.1 hr.2];refine⟨by simp only[aG,bY];omega,fun h5=>?_,fun h5=>⟨fun h6=>?_,fun h6=>?_⟩⟩
 ·exact⟨rfl,rj hE (Vs hE hk (Yn h5)) (by omega)⟩
 ·exact⟨rfl,rj hE (V6 hE hk (Ym h5) h6) (by omega)⟩
 ·have:=FO hE (Vf hE hk (Ym h5) h6);rw[f1,f2,f3]at this;exact this
theorem xg:ck Tryz.prog 189 U9:=
 eP (aJ s8 (aJ gQ (aJ ft (aJ ft (aJ E6 cF))))) (fun _=>rfl) fun a hq hok=>by
  obtain⟨S,k,i,n,w,_⟩:=a;cases S with
  |none=>exact aV (inl:=(fun f=>f==195||f==197)) (ann:=aP) (ab bC (ab jj (ab eY (ab Fq ak)))) (Pv k i n w) (by kernel_rfl)
  |some L=>exact aV (inl:=(fun f=>f==195||f==197)) (ann:=aP) (ab bC (ab jj (ab eY (ab Fq ak)))) (SK L k i n w) (by kernel_rfl)
theorem Po (L:List Sx.Obj) (k:Key) (a:Int) (n:Int) (w:Bool) (hL:aq L):
 aq L/\((decide (c8 L k a=0)&&(decide (n<0)||decide (64<n)))=true->void=bV (bx L k a n w)/\0=bU (bx L k a n w)/\void=cO (bx L k a n w)/\0=c9 (bx L k a n w)
  /\0=bH L k a n w/\void=eM L k a n w/\0=eU L k a n w/\4=bQ L k a n)/\((decide (c8 L k a=0)&&(decide (n<0)||decide (64<n)))=false->((!decide (c8 L k a=0)|| !decide
  (ej (ar L k a)=0))=true->void=bV (bx L k a n w)/\0=bU (bx L k a n w)/\void=cO (bx L k a n w)/\0=c9 (bx L k a n w)/\ej (ar L k a)=bH L k a n w/\fe (ar L
  k a)=eM L k a n w/\fc (ar L k a) a=eU L k a n w/\c8 L k a=bQ L k a n)/\((!decide (c8 L k a=0)|| !decide (ej (ar L k a)=0))=false->aG IntKind.i64 (bU (ar L k a)
  +n)/\(decide (64<bU (ar L k a)+n)=true->void=bV (bx L k a n w)/\0=bU (bx L k a n w)/\void=cO (bx L k a n w)/\0=c9 (bx L k a n w)/\5=bH L k a n w/\cO
  (ar L k a)=eM L k a n w/\a=eU L k a n w/\0=bQ L k a n)/\(decide (64<bU (ar L k a)+n)=false->((w&& !decide ((bV (ar L k a)).rights=0))=true->void=bV (bx L k a
  n w)/\0=bU (bx L k a n w)/\void=cO (bx L k a n w)/\0=c9 (bx L k a n w)/\6=bH L k a n w/\cO (ar L k a)=eM L k a n w/\a=eU L k a n w/\0=bQ L k a n)/\((w&&
  !decide ((bV (ar L k a)).rights=0))=false->bV (ar L k a)=bV (bx L k a n w)/\bU (ar L k a)=bU (bx L k a n w)/\cO (ar L k a)=cO (bx L k a n w)/\c9 (ar L k a)
  =c9 (bx L k a n w)/\0=bH L k a n w/\void=eM L k a n w/\0=eU L k a n w/\0=bQ L k a n)))):=by
 refine⟨hL,fun h=>?_,fun h=>⟨fun h2=>?_,fun h2=>?_⟩⟩
 ·rw[Yj,Yk]at h;exact oD (VO h.1 h.2) (by omega)
 ·by_cases hW:c8 L k a=0
  ·rw[decide_eq_true hW,Bool.true_and]at h;rw[decide_eq_true hW]at h2;have hE:=Tt hW h;have hk:ej (ar L k a)≠0:=by simpa using h2
   have hk:(ar L k a).kd≠0:=hk;obtain⟨u1,u2,u3⟩:=Vr (a:=a) hk;rw[u1,u2,u3,hW];exact rj hE (VK hE hk) hk
  ·have hr:ar L k a=UR:=by unfold ar;rw[Yp hW]
   rw[hr];exact oD (KX rfl hW) hW
 simp only[Bool.or_eq_false_iff,Bool.not_eq_false',Yk]at h2;obtain⟨hW,hk⟩:=h2;rw[decide_eq_true hW,Bool.true_and]at h;have hE:=Tt hW h;have hk:(ar L k a).kd=0:=hk;obtain⟨⟨e1,e2⟩,e3,e4⟩:=D2 hW hk;obtain⟨f1,f2,f3⟩:=Mu hk;obtain⟨_,n0,n1⟩:=yd hE;rw[f1,f2,f3];refine⟨by simp only[aG,bY];omega,fun h5=>?_,fun h5=>⟨fun h6=>?_,fun h6=>?_⟩⟩
 ·exact rj hE (Vs hE hk (Yn h5)) (by omega)
 ·exact rj hE (V6 hE hk (Ym h5) h6) (by omega)
 ·have:=FO hE (Vf hE hk (Ym h5) h6);rw[f1,f2,f3]at this;exact this
theorem F5:ck Tryz.prog 183 Su:=
 eP (aJ js (aJ gQ (aJ ft (aJ ft (aJ E6 cF))))) (fun _=>rfl) fun a hq hok=>by
  obtain⟨L,k,i,n,w,_⟩:=a;exact aV (inl:=bp) (ann:=aP) (ab LA ak) (Po L k i n w hq) (by kernel_rfl)
theorem SB (L:List Sx.Obj) (k:Key) (i:Int) (s:ByteArray) (hL:aq L) (hs:aw s):
 (decide (aS L k true=0)=true->aG IntKind.i64 (bW s))/\((decide (aS L k true=0)&& !bZ i (bW s))=true->jt L k i s=false/\4=cq L k i s)/\((decide (aS L k
  true=0)&& !bZ i (bW s))=false->((!decide (aS L k true=0))=true->jt L k i s=false/\aS L k true=cq L k i s)/\((!decide (aS L k true=0))=false->(0<=k.oid
  /\k.oid< ↑(aj L))/\k.oid.toNat<aj L/\(∃g,Bn s g/\k=k/\i=i/\s=s/\Value.slice none 0 0=Value.slice none 0 0/\aS L k true=aS L k true/\0=g/\L=L/\k=k/\ah L
  k.oid.toNat free=rN L k i s g)/\∀(g:Int),Bn s g->aG IntKind.i64 (bW s)/\(decide (g<bW s)=true->aG IntKind.i64 (i+g)/\Xr s g/\(0<=i+g/\i+g< ↑64)/\aG IntKind.i64
  (g+1)/\∃g',Bn s g'/\Gb s g'<Gb s g/\k=k/\i=i/\s=s/\Value.slice none 0 0=Value.slice none 0 0/\aS L k true=aS L k true/\g+1=g'/\L=L/\k=k/\Obj.mk
  (rN L k i s g).kind (rN L k i s g).count (rN L k i s g).calls (rN L k i s g).slots ((rN L k i s g).bytes.put (i+g).toNat (sat s g.toNat))=rN L k i s g')/\(decide (g<bW s)=false->
  dL L k.oid/\jt L k i s=true/\0=cq L k i s/\cC L k.oid.toNat (rN L k i s g)=ec L k i s))):=by
 have hsz:aG IntKind.i64 (bW s):=by unfold aw at hs;simp only[aG,bY,bW];omega
 refine⟨fun _=>hsz,fun h=>?_,fun h=>⟨fun h'=>?_,fun h'=>?_⟩⟩
 ·rw[Yj,Yk]at h;obtain⟨e1,e2⟩:=I9 h.1 h.2;exact⟨by unfold jt;rw[<-e1];rfl,e1⟩
 ·have h':aS L k true≠0:=by simpa using h'
  obtain⟨e1,e2⟩:=u6 (i:=i) (z:=s) rfl h';exact⟨by unfold jt;rw[<-e1];simpa using h',e1⟩
 ·have h':aS L k true=0:=by simpa using h'
  have hi:(!bZ i (bW s))=false:=by rw[h']at h;simpa using h
  have hi':bZ i (bW s)=true:=by simpa using hi
  obtain⟨i0,i1,i2,i3⟩:=mM.1 hi';have i3:(s.size:Int)<=64-i:=i3;have hE:cq L k i s=0:=by unfold cq;rw[Yq h',hi'];rfl
  obtain⟨r1,r2,r3,r4⟩:=nV hL (lP h').1;refine⟨⟨r2,r3⟩,r4,⟨0,⟨by omega,by omega⟩,?_⟩,fun g hg=>⟨hsz,fun hlt=>?_,fun hge=>?_⟩⟩
  ·have hz:=OM (L:=L) (k:=k) (i:=i) (s:=s);repeat' apply And.intro
   all_goals first|with_reducible rfl|exact hz
  ·obtain⟨g0,g1⟩:=hg;have hlt:g<(s.size:Int):=Yn hlt;have hs:=Ov (L:=L) (k:=k) (i:=i) (s:=s) (g:=g) i0 g0 (by omega)
   refine⟨by simp only[aG,bY];omega,⟨g0,hlt⟩,⟨by omega,by omega⟩,by simp only[aG,bY];omega,g+1,⟨by omega,by omega⟩,by unfold Gb;omega,?_⟩
   repeat' apply And.intro
   all_goals first|with_reducible rfl|exact hs
  ·obtain⟨g0,g1⟩:=hg;have hge:¬g<(s.size:Int):=Ym hge;have hg:g=(s.size:Int):=by omega
   subst hg;refine⟨r1,by unfold jt;simpa using hE,hE.symm,?_⟩
   unfold ec;rw[hE,Yq rfl];rfl
theorem TZ (L:List Sx.Obj) (k:Key) (i:Int) (s:ByteArray) (hL:aq L) (hs:aw s):ai Tryz.prog 118 [.sa 0,.key k,.it .i64 i,.st s] [.ro (.arr none 163 (.ob L))] (yT (jt L k i s) (ec L k i s) [.it .i64 (cq L k i s)]) (fun _ _=>False):=
 bn (inl:=bp) (ann:=(iy [(118,8,RV [0,1,2,3,4,5,8,9,10,11] (fun g=> [(12,.it .i64 g)]) 11 (fun g=> .blk tO (.ob (rN L k i s g))) (Bn s) (Gb s))])) (ab uk (ab rP (ab kb ak))) aC (SB L k i s hL hs) (by kernel_rfl)
theorem Lc:lF Tryz.prog 118 Wf:=
 iC (m:=fun x=> [.key x.1,.it .i64 x.2.1,.st x.2.2]) tQ (fun _=>rfl) (fun _ _=>rfl) fun L x hq=>TZ L x.1 x.2.1 x.2.2 hq.1 hq.2
theorem SI (k:Key) (a:Int) (n:Int):
 ((!decide (bQ [] k a n=0)|| !decide (bH [] k a n false=0))=true->ByteArray.mk (Array.mk [])=jH [] k a n/\bH [] k a n false=bH [] k a n false/\eM [] k a n false=eM [] k a
   n false/\eU [] k a n false=eU [] k a n false/\bQ [] k a n=bQ [] k a n)/\((!decide (bQ [] k a n=0)|| !decide (bH [] k a n false=0))=false->dQ [] (bV (bx [] k a n
   false)) (bU (bx [] k a n false)) n=jH [] k a n/\0=bH [] k a n false/\void=eM [] k a n false/\0=eU [] k a n false/\0=bQ [] k a n):=by
 rw[sd];refine⟨fun h=>⟨?_,rfl,rfl,rfl,rfl⟩,fun h=>?_⟩
 ·rw[Bool.not_eq_true']at h;unfold jH;rw[Yp (by rw[h];simp)]
 ·rw[Bool.not_eq_false']at h;have h0:=rM h;unfold jH eM eU;rw[Yq h,h0.1,h0.2];exact⟨rfl,rfl,rfl,rfl,rfl⟩
theorem UY (L:List Sx.Obj) (k:Key) (a:Int) (n:Int):
 ((!decide (bQ L k a n=0)|| !decide (bH L k a n false=0))=true->ByteArray.mk (Array.mk [])=jH L k a n/\bH L k a n false=bH L k a n false/\eM L k a n false=eM L k a n false
   /\eU L k a n false=eU L k a n false/\bQ L k a n=bQ L k a n)/\((!decide (bQ L k a n=0)|| !decide (bH L k a n false=0))=false->dQ L (bV (bx L k a n false)) (bU (bx
   L k a n false)) n=jH L k a n/\0=bH L k a n false/\void=eM L k a n false/\0=eU L k a n false/\0=bQ L k a n):=by
 rw[sd];refine⟨fun h=>⟨?_,rfl,rfl,rfl,rfl⟩,fun h=>?_⟩
 ·rw[Bool.not_eq_true']at h;unfold jH;rw[Yp (by rw[h];simp)]
 ·rw[Bool.not_eq_false']at h;have h0:=rM h;unfold jH eM eU;rw[Yq h,h0.1,h0.2];exact⟨rfl,rfl,rfl,rfl,rfl⟩
theorem VJ:ck Tryz.prog 171 Xh:=
 eP (aJ s8 (aJ gQ (aJ ft (aJ ft cF)))) (fun _=>rfl) fun a hq hok=>by
  obtain⟨S,k,i,n,_⟩:=a;cases S with
  |none=>exact aV (inl:=bp) (ann:=aP) (ab xg (ab nK (ab bC ak))) (SI k i n) (by kernel_rfl)
  |some L=>exact aV (inl:=bp) (ann:=aP) (ab xg (ab nK (ab bC ak))) (UY L k i n) (by kernel_rfl)
theorem Ts (L:List Sx.Obj) (k:Key) (a:Int) (n:Int) (hL:aq L):
 aq L/\((!decide (bQ L k a n=0)|| !decide (bH L k a n false=0))=true->ByteArray.mk (Array.mk [])=jH L k a n/\bH L k a n false=bH L k a n false/\eM L k a n false=eM L k
  a n false/\eU L k a n false=eU L k a n false/\bQ L k a n=bQ L k a n)/\((!decide (bQ L k a n=0)|| !decide (bH L k a n false=0))=false->true=true/\((decide (aS L (bV
  (bx L k a n false)) false=0)&& !bZ (bU (bx L k a n false)) n)=true->ByteArray.mk (Array.mk [])=jH L k a n/\bH L k a n false=bH L k a n false/\eM L k a n false=eM L
  k a n false/\eU L k a n false=eU L k a n false/\0=bQ L k a n)/\((decide (aS L (bV (bx L k a n false)) false=0)&& !bZ (bU (bx L k a n false)) n)=false->((!decide
  (aS L (bV (bx L k a n false)) false=0))=true->ByteArray.mk (Array.mk [])=jH L k a n/\bH L k a n false=bH L k a n false/\eM L k a n false=eM L k a n false/\eU L k a n
  false=eU L k a n false/\0=bQ L k a n)/\((!decide (aS L (bV (bx L k a n false)) false=0))=false->(0<=(bV (bx L k a n false)).oid/\(bV (bx L k a n false)).oid< ↑(aj
  L))/\aG IntKind.i64 (bU (bx L k a n false)+n)/\CB (bU (bx L k a n false)) (bU (bx L k a n false)+n) 64/\(bV (bx L k a n false)).oid.toNat<aj L/\BL (ah L (bV (bx L
  k a n false)).oid.toNat free).bytes (bU (bx L k a n false)).toNat (bU (bx L k a n false)+n).toNat=jH L k a n/\bH L k a n false=bH L k a n false/\eM L k a n false=eM L k a n
  false/\eU L k a n false=eU L k a n false/\0=bQ L k a n))):=by
 rw[sd];refine⟨hL,fun h=>⟨?_,rfl,rfl,rfl,rfl⟩,fun h=>?_⟩
 ·rw[Bool.not_eq_true']at h;unfold jH;rw[Yp (by rw[h];simp)]
 ·rw[Bool.not_eq_false']at h;have h0:=rM h;have hC:kQ L k a n false=true:=h;obtain⟨⟨p1,p2⟩,p3,p4⟩:=MN hC;obtain⟨r1,r2,r3,r4⟩:=nV hL p1;obtain⟨e1,e2,e3,e4⟩:=wz p3 (by rw[p4];rfl)
  refine⟨rfl,fun h=>?_,fun _=>⟨fun h=>?_,fun _=>⟨⟨r2,r3⟩,e1,e2,r4,?_,rfl,rfl,rfl,h0.1.symm⟩⟩⟩
  ·rw[p4]at h;simp at h
  ·rw[p3]at h;simp at h
  ·unfold jH;rw[Yq hC];exact e3
theorem SO:ck Tryz.prog 128 Ve:=
 eP (aJ js (aJ gQ (aJ ft (aJ ft cF)))) (fun _=>rfl) fun a hq hok=>by
  obtain⟨L,k,i,n,_⟩:=a;exact aV (inl:=(fun f=>f==117||f==113)) (ann:=aP) (ab F5 (ab uk (ab rP ak))) (Ts L k i n hq) (by kernel_rfl)
theorem QH (k:Key) (a:Int) (s:ByteArray) (hs:aw s):
 aG IntKind.i64 (bW s)/\((!decide (bQ [] k a (bW s)=0)|| !decide (bH [] k a (bW s) true=0))=true->bH [] k a (bW s) true=bH [] k a (bW s) true/\eM [] k a (bW s) true=eM
  [] k a (bW s) true/\eU [] k a (bW s) true=eU [] k a (bW s) true/\bQ [] k a (bW s)=bQ [] k a (bW s))/\((!decide (bQ [] k a (bW s)=0)|| !decide (bH [] k a (bW s) true=0))=
  false->true=true/\0=bH [] k a (bW s) true/\void=eM [] k a (bW s) true/\0=eU [] k a (bW s) true/\0=bQ [] k a (bW s)):=by
 have hsz:aG IntKind.i64 (bW s):=by unfold aw at hs;simp only[aG,bY,bW];omega
 rw[sd];refine⟨hsz,fun h=>⟨rfl,rfl,rfl,rfl⟩,fun h=>?_⟩
 rw[Bool.not_eq_false']at h;have:=(yd (rM h).1).1;have h1:c8 [] k a=1:=rfl;omega
theorem P7 (k:Key) (a:Int) (s:ByteArray) (hs:aw s):
 aG IntKind.i64 (bW s)/\((!decide (bQ [] k a (bW s)=0)|| !decide (bH [] k a (bW s) true=0))=true->bH [] k a (bW s) true=bH [] k a (bW s) true/\eM [] k a (bW s) true=eM
  [] k a (bW s) true/\eU [] k a (bW s) true=eU [] k a (bW s) true/\bQ [] k a (bW s)=bQ [] k a (bW s))/\((!decide (bQ [] k a (bW s)=0)|| !decide (bH [] k a (bW s) true=0))=
  false->true=true/\False):=by
 have hsz:aG IntKind.i64 (bW s):=by unfold aw at hs;simp only[aG,bY,bW];omega
 rw[sd];refine⟨hsz,fun h=>⟨rfl,rfl,rfl,rfl⟩,fun h=>?_⟩
 rw[Bool.not_eq_false']at h;have:=(yd (rM h).1).1;have h1:c8 [] k a=1:=rfl;omega
theorem Ti (L:List Sx.Obj) (k:Key) (a:Int) (s:ByteArray) (hL:aq L) (hs:aw s):
 aG IntKind.i64 (bW s)/\((!decide (bQ L k a (bW s)=0)|| !decide (bH L k a (bW s) true=0))=true->(bH L k a (bW s) true=bH L k a (bW s) true/\eM L k a (bW s) true=eM L k
  a (bW s) true/\eU L k a (bW s) true=eU L k a (bW s) true/\bQ L k a (bW s)=bQ L k a (bW s))/\L=jz L k a s)/\((!decide (bQ L k a (bW s)=0)|| !decide (bH L k a (bW s)
  true=0))=false->true=true/\(aq L/\aw s)/\(0=bH L k a (bW s) true/\void=eM L k a (bW s) true/\0=eU L k a (bW s) true/\0=bQ L k a (bW s))/\ec L (bV (bx L
  k a (bW s) true)) (bU (bx L k a (bW s) true)) s=jz L k a s):=by
 have hsz:aG IntKind.i64 (bW s):=by unfold aw at hs;simp only[aG,bY,bW];omega
 rw[sd];refine⟨hsz,fun h=>⟨⟨rfl,rfl,rfl,rfl⟩,?_⟩,fun h=>?_⟩
 ·rw[Bool.not_eq_true']at h;unfold jz;rw[Yp (by rw[h];simp)]
 ·rw[Bool.not_eq_false']at h;have h0:=rM h;refine⟨rfl,⟨hL,hs⟩,?_,?_⟩
  ·unfold eM eU;rw[h0.1,h0.2];exact⟨rfl,rfl,rfl,rfl⟩
  ·unfold jz;rw[Yq h]
theorem TE (L:List Sx.Obj) (k:Key) (a:Int) (s:ByteArray) (hL:aq L) (hs:aw s):ai Tryz.prog 173 [.lp 0 0,.key k,.it .i64 a,.st s] [.store tS eS L] (B0 (.tp [Sz L k a (bW s) true,.it .i64 (bQ L k a (bW s))]) (jz L k a s)) (fun _ _=>False):=
 bn (inl:=bp) (ann:=aP) (ab xg (ab nK (ab bC ak))) (aD Bg aC) (Ti L k a s hL hs) (by kernel_rfl)
theorem Tc:lF Tryz.prog 173 VN:=
 Kk (m:=fun x=> [.key x.1,.it .i64 x.2.1,.st x.2.2]) tQ (fun _=>rfl) (fun _ _=>rfl) (fun x hs=>bn (inl:=bp) (ann:=aP) (ab xg (ab nK (ab bC ak))) (aD Bg aC) (QH x.1 x.2.1 x.2.2 hs) (by kernel_rfl)) (fun x hs=>bn (inl:=bp) (ann:=aP) (ab xg (ab nK (ab bC ak))) (aD Bg aC) (P7 x.1 x.2.1 x.2.2 hs) (by kernel_rfl)) fun L x hL=>TE L x.1 x.2.1 x.2.2 hL.1 hL.2
theorem Tz (L:List Sx.Obj) (k:Key) (a:Int) (s:ByteArray) (hL:aq L) (hs:aw s):
 aG IntKind.i64 (bW s)/\aq L/\((!decide (bQ L k a (bW s)=0)|| !decide (bH L k a (bW s) true=0))=true->kQ L k a (bW s) true=false/\bH L k a (bW s) true=bH L k a (bW s)
  true/\eM L k a (bW s) true=eM L k a (bW s) true/\eU L k a (bW s) true=eU L k a (bW s) true/\bQ L k a (bW s)=bQ L k a (bW s))/\((!decide (bQ L k a (bW s)=0)|| !decide
  (bH L k a (bW s) true=0))=false->true=true/\(aq L/\aw s)/\(jt L (bV (bx L k a (bW s) true)) (bU (bx L k a (bW s) true)) s=false->kQ L k a (bW s) true=false/\
  bH L k a (bW s) true=bH L k a (bW s) true/\eM L k a (bW s) true=eM L k a (bW s) true/\eU L k a (bW s) true=eU L k a (bW s) true/\0=bQ L k a (bW s))/\(jt L (bV
  (bx L k a (bW s) true)) (bU (bx L k a (bW s) true)) s=true->kQ L k a (bW s) true=true/\(bH L k a (bW s) true=bH L k a (bW s) true/\eM L k a (bW s) true=eM L k a (bW s)
  true/\eU L k a (bW s) true=eU L k a (bW s) true/\0=bQ L k a (bW s))/\ec L (bV (bx L k a (bW s) true)) (bU (bx L k a (bW s) true)) s=jz L k a s)):=by
 have hsz:aG IntKind.i64 (bW s):=by unfold aw at hs;simp only[aG,bY,bW];omega
 rw[sd];refine⟨hsz,hL,fun h=>⟨?_,rfl,rfl,rfl,rfl⟩,fun h=>?_⟩
 ·rw[Bool.not_eq_true']at h;exact h
 ·rw[Bool.not_eq_false']at h;have h0:=rM h;have hC:kQ L k a (bW s) true=true:=h;obtain⟨⟨p1,p2⟩,p3,p4⟩:=MN hC;have hE:cq L (bV (bx L k a (bW s) true)) (bU (bx L k a (bW s) true)) s=0:=by unfold cq;rw[Yq p3,p4];rfl
  refine⟨rfl,⟨hL,hs⟩,fun h=>?_,fun _=>⟨hC,⟨rfl,rfl,rfl,h0.1.symm⟩,?_⟩⟩
  ·unfold jt at h;rw[hE]at h;simp at h
  ·unfold jz;rw[Yq hC]
theorem SF (L:List Sx.Obj) (k:Key) (a:Int) (s:ByteArray) (hL:aq L) (hs:aw s):ai Tryz.prog 129 [.sa 0,.key k,.it .i64 a,.st s] [.ro (.arr none 163 (.ob L))] (yT (kQ L k a (bW s) true) (jz L k a s) [Sz L k a (bW s) true,.it .i64 (bQ L k a (bW s))]) (fun _ _=>False):=
 bn (inl:=bp) (ann:=aP) (ab F5 ak) (aD Lc aC) (Tz L k a s hL hs) (by kernel_rfl)
theorem Up:lF Tryz.prog 129 Vl:=
 iC (m:=fun x=> [.key x.1,.it .i64 x.2.1,.st x.2.2]) tQ (fun _=>rfl) (fun _ _=>rfl) fun L x hq=>SF L x.1 x.2.1 x.2.2 hq.1 hq.2
end Go.Proofs.YtghpaegglbbocaaGreat
