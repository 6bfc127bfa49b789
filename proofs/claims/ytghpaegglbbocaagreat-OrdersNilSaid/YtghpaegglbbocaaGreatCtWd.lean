import Derived.Test.YtghpaegglbbocaaGreatCtWb
import Derived.Test.YtghpaegglbbocaaGreatSW
namespace Go.Proofs.YtghpaegglbbocaaGreat
open Go.Sx
set_option maxRecDepth 100000
theorem QL (k:Key) (a:Int) (n:Int) (w:Bool):
 true=true/\(decide (an []=0)=true->void=bV (bx [] k a n w)/\0=bU (bx [] k a n w)/\void=cO (bx [] k a n w)/\0=c9 (bx [] k a n w)/\0=bH [] k a n w/\void=
  eQ [] k a n w/\0=eR [] k a n w/\1=bR [] k a n)/\(decide (an []=0)=false->((!decide (bD k=0)||bf k&&decide (an []<=cS k))=true->void=bV (bx [] k a n
  w)/\0=bU (bx [] k a n w)/\void=cO (bx [] k a n w)/\0=c9 (bx [] k a n w)/\0=bH [] k a n w/\void=eQ [] k a n w/\0=eR [] k a n w/\2=bR [] k a n)/\((!decide (bD
  k=0)||bf k&&decide (an []<=cS k))=false->(decide (a<0)=true->void=bV (bx [] k a n w)/\0=bU (bx [] k a n w)/\void=cO (bx [] k a n w)/\0=c9 (bx [] k
  a n w)/\0=bH [] k a n w/\void=eQ [] k a n w/\0=eR [] k a n w/\4=bR [] k a n)/\(decide (a<0)=false->((decide (n<0)||decide (64<n))=true->void=bV (bx [] k a n w)
  /\0=bU (bx [] k a n w)/\void=cO (bx [] k a n w)/\0=c9 (bx [] k a n w)/\0=bH [] k a n w/\void=eQ [] k a n w/\0=eR [] k a n w/\4=bR [] k a n)/\((decide (n<0)||
  decide (64<n))=false->((!decide (en (ar [] k a)=0))=true->void=bV (bx [] k a n w)/\0=bU (bx [] k a n w)/\void=cO (bx [] k a n w)/\0=c9 (bx [] k a n w)/\en
  (ar [] k a)=bH [] k a n w/\fe (ar [] k a)=eQ [] k a n w/\fc (ar [] k a) a=eR [] k a n w/\0=bR [] k a n)/\((!decide (en (ar [] k a)=0))=false->aG IntKind.i64
  (bU (ar [] k a)+n)/\(decide (64<bU (ar [] k a)+n)=true->true=true/\void=bV (bx [] k a n w)/\0=bU (bx [] k a n w)/\void=cO (bx [] k a n w)/\0=c9 (bx [] k
  a n w)/\5=bH [] k a n w/\cO (ar [] k a)=eQ [] k a n w/\a=eR [] k a n w/\0=bR [] k a n)/\(decide (64<bU (ar [] k a)+n)=false->((w&& !decide (bc BinOp.and
  IntKind.i64 (bV (ar [] k a)).rights 1=0))=true->true=true/\void=bV (bx [] k a n w)/\0=bU (bx [] k a n w)/\void=cO (bx [] k a n w)/\0=c9 (bx [] k a n w)/\6=bH
  [] k a n w/\cO (ar [] k a)=eQ [] k a n w/\a=eR [] k a n w/\0=bR [] k a n)/\((w&& !decide (bc BinOp.and IntKind.i64 (bV (ar [] k a)).rights 1=0))=false->bV (ar [] k
  a)=bV (bx [] k a n w)/\bU (ar [] k a)=bU (bx [] k a n w)/\cO (ar [] k a)=cO (bx [] k a n w)/\c9 (ar [] k a)=c9 (bx [] k a n w)/\0=bH [] k a n w/\void=eQ
  [] k a n w/\0=eR [] k a n w/\0=bR [] k a n))))))):=by
 exact⟨rfl,fun h=>oJ (Nu (Vp h) (by omega)) (by omega),fun h=>absurd h (by decide)⟩
theorem Tw (L:List Sx.Obj) (k:Key) (a:Int) (n:Int) (w:Bool):
 true=true/\(decide (an L=0)=true->void=bV (bx L k a n w)/\0=bU (bx L k a n w)/\void=cO (bx L k a n w)/\0=c9 (bx L k a n w)/\0=bH L k a n w/\void=eQ L k
  a n w/\0=eR L k a n w/\1=bR L k a n)/\(decide (an L=0)=false->((!decide (bD k=0)||bf k&&decide (an L<=cS k))=true->void=bV (bx L k a n w)/\0=bU
  (bx L k a n w)/\void=cO (bx L k a n w)/\0=c9 (bx L k a n w)/\0=bH L k a n w/\void=eQ L k a n w/\0=eR L k a n w/\2=bR L k a n)/\((!decide (bD k=0)||bf k
  &&decide (an L<=cS k))=false->(decide (a<0)=true->void=bV (bx L k a n w)/\0=bU (bx L k a n w)/\void=cO (bx L k a n w)/\0=c9 (bx L k a n w)/\0=bH L k a n
  w/\void=eQ L k a n w/\0=eR L k a n w/\4=bR L k a n)/\(decide (a<0)=false->((decide (n<0)||decide (64<n))=true->void=bV (bx L k a n w)/\0=bU (bx L k a n w)/\
  void=cO (bx L k a n w)/\0=c9 (bx L k a n w)/\0=bH L k a n w/\void=eQ L k a n w/\0=eR L k a n w/\4=bR L k a n)/\((decide (n<0)||decide (64<n))=false->((!decide
  (en (ar L k a)=0))=true->void=bV (bx L k a n w)/\0=bU (bx L k a n w)/\void=cO (bx L k a n w)/\0=c9 (bx L k a n w)/\en (ar L k a)=bH L k a n w/\fe (ar L
  k a)=eQ L k a n w/\fc (ar L k a) a=eR L k a n w/\0=bR L k a n)/\((!decide (en (ar L k a)=0))=false->aG IntKind.i64 (bU (ar L k a)+n)/\(decide (64<bU (ar L k
  a)+n)=true->true=true/\void=bV (bx L k a n w)/\0=bU (bx L k a n w)/\void=cO (bx L k a n w)/\0=c9 (bx L k a n w)/\5=bH L k a n w/\cO (ar L k a)=eQ L k a
  n w/\a=eR L k a n w/\0=bR L k a n)/\(decide (64<bU (ar L k a)+n)=false->((w&& !decide (bc BinOp.and IntKind.i64 (bV (ar L k a)).rights 1=0))=true->true=true/\void
  =bV (bx L k a n w)/\0=bU (bx L k a n w)/\void=cO (bx L k a n w)/\0=c9 (bx L k a n w)/\6=bH L k a n w/\cO (ar L k a)=eQ L k a n w/\a=eR L k a n w/\0=bR
  L k a n)/\((w&& !decide (bc BinOp.and IntKind.i64 (bV (ar L k a)).rights 1=0))=false->bV (ar L k a)=bV (bx L k a n w)/\bU (ar L k a)=bU (bx L k a n w)/\cO (ar L
  k a)=cO (bx L k a n w)/\c9 (ar L k a)=c9 (bx L k a n w)/\0=bH L k a n w/\void=eQ L k a n w/\0=eR L k a n w/\0=bR L k a n))))))):=by
 refine⟨rfl,fun h=>oJ (Nu (Vp h) (by omega)) (by omega),fun h=>⟨fun h2=>?_,fun h2=>⟨fun h3=>?_,fun h3=>?_⟩⟩⟩
 ·rw[zI,Bool.not_eq_true']at h2;exact oJ (Nu (by rw[PR h,h2];rfl) (by omega)) (by omega)
 ·rw[zI,Bool.not_eq_false']at h2;exact oJ (Nu (by rw[PR h,h2,Yq rfl,Yq (Yn h3)]) (by omega)) (by omega)
 rw[zI,Bool.not_eq_false']at h2;have hW:c8 L k a=0:=by rw[PR h,h2,Yq rfl,Yp (Ym h3)]
 clear h h2 h3;refine⟨fun h=>oJ (Wf hW h) (by omega),fun h=>?_⟩
 have hE:=Uz hW h;refine⟨fun hk=>?_,fun hk=>?_⟩
 ·have hk:en (ar L k a)≠0:=by simpa using hk
  have hk:(ar L k a).kd≠0:=hk;obtain⟨u1,u2,u3⟩:=VR (a:=a) hk;rw[u1,u2,u3];exact rf hE (UY hE hk) hk
 have hk:en (ar L k a)=0:=by simpa using hk
 have hk:(ar L k a).kd=0:=hk;obtain⟨⟨e1,e2⟩,e3,e4⟩:=Ej hW hk;obtain⟨f1,f2,f3⟩:=J2 hk;have hr:=A8 e1 e2;obtain⟨_,n0,n1⟩:=xZ hE;rw[f1,f2,f3];rw[Tv hr.1 hr.2];refine⟨by simp only[aG,bY];omega,fun h5=>?_,fun h5=>⟨fun h6=>?_,fun h6=>?_⟩⟩
 ·exact⟨rfl,rf hE (WA hE hk (Yn h5)) (by omega)⟩
 ·exact⟨rfl,rf hE (VD hE hk (Ym h5) h6) (by omega)⟩
 ·have:=Fj hE (VZ hE hk (Ym h5) h6);rw[f1,f2,f3]at this;exact this
theorem wX:ck Tryz.prog 189 VQ:=
 eW (aJ sZ (aJ gQ (aJ fm (aJ fm (aJ Gs cF))))) (fun _=>rfl) fun a hq hok=>by
  obtain⟨S,k,i,n,w,_⟩:=a;cases S with
  |none=>exact aV (inl:=(fun f=>f==195||f==197)) (ann:=aP) (ab bB (ab jf (ab eY (ab E3 ak)))) (QL k i n w) (by kernel_rfl)
  |some L=>exact aV (inl:=(fun f=>f==195||f==197)) (ann:=aP) (ab bB (ab jf (ab eY (ab E3 ak)))) (Tw L k i n w) (by kernel_rfl)
theorem Om (L:List Sx.Obj) (k:Key) (a:Int) (n:Int) (w:Bool) (hL:aq L):
 aq L/\((decide (c8 L k a=0)&&(decide (n<0)||decide (64<n)))=true->void=bV (bx L k a n w)/\0=bU (bx L k a n w)/\void=cO (bx L k a n w)/\0=c9 (bx L k a n w)
  /\0=bH L k a n w/\void=eQ L k a n w/\0=eR L k a n w/\4=bR L k a n)/\((decide (c8 L k a=0)&&(decide (n<0)||decide (64<n)))=false->((!decide (c8 L k a=0)|| !decide
  (en (ar L k a)=0))=true->void=bV (bx L k a n w)/\0=bU (bx L k a n w)/\void=cO (bx L k a n w)/\0=c9 (bx L k a n w)/\en (ar L k a)=bH L k a n w/\fe (ar L
  k a)=eQ L k a n w/\fc (ar L k a) a=eR L k a n w/\c8 L k a=bR L k a n)/\((!decide (c8 L k a=0)|| !decide (en (ar L k a)=0))=false->aG IntKind.i64 (bU (ar L k a)
  +n)/\(decide (64<bU (ar L k a)+n)=true->void=bV (bx L k a n w)/\0=bU (bx L k a n w)/\void=cO (bx L k a n w)/\0=c9 (bx L k a n w)/\5=bH L k a n w/\cO
  (ar L k a)=eQ L k a n w/\a=eR L k a n w/\0=bR L k a n)/\(decide (64<bU (ar L k a)+n)=false->((w&& !decide ((bV (ar L k a)).rights=0))=true->void=bV (bx L k a
  n w)/\0=bU (bx L k a n w)/\void=cO (bx L k a n w)/\0=c9 (bx L k a n w)/\6=bH L k a n w/\cO (ar L k a)=eQ L k a n w/\a=eR L k a n w/\0=bR L k a n)/\((w&&
  !decide ((bV (ar L k a)).rights=0))=false->bV (ar L k a)=bV (bx L k a n w)/\bU (ar L k a)=bU (bx L k a n w)/\cO (ar L k a)=cO (bx L k a n w)/\c9 (ar L k a)
  =c9 (bx L k a n w)/\0=bH L k a n w/\void=eQ L k a n w/\0=eR L k a n w/\0=bR L k a n)))):=by
 refine⟨hL,fun h=>?_,fun h=>⟨fun h2=>?_,fun h2=>?_⟩⟩
 ·rw[Yj,Yk]at h;exact oJ (Wf h.1 h.2) (by omega)
 ·by_cases hW:c8 L k a=0
  ·rw[decide_eq_true hW,Bool.true_and]at h;rw[decide_eq_true hW]at h2;have hE:=Uz hW h;have hk:en (ar L k a)≠0:=by simpa using h2
   have hk:(ar L k a).kd≠0:=hk;obtain⟨u1,u2,u3⟩:=VR (a:=a) hk;rw[u1,u2,u3,hW];exact rf hE (UY hE hk) hk
  ·have hr:ar L k a=UT:=by unfold ar;rw[Yp hW]
   rw[hr];exact oJ (Nu rfl hW) hW
 simp only[Bool.or_eq_false_iff,Bool.not_eq_false',Yk]at h2;obtain⟨hW,hk⟩:=h2;rw[decide_eq_true hW,Bool.true_and]at h;have hE:=Uz hW h;have hk:(ar L k a).kd=0:=hk;obtain⟨⟨e1,e2⟩,e3,e4⟩:=Ej hW hk;obtain⟨f1,f2,f3⟩:=J2 hk;obtain⟨_,n0,n1⟩:=xZ hE;rw[f1,f2,f3];refine⟨by simp only[aG,bY];omega,fun h5=>?_,fun h5=>⟨fun h6=>?_,fun h6=>?_⟩⟩
 ·exact rf hE (WA hE hk (Yn h5)) (by omega)
 ·exact rf hE (VD hE hk (Ym h5) h6) (by omega)
 ·have:=Fj hE (VZ hE hk (Ym h5) h6);rw[f1,f2,f3]at this;exact this
theorem Ga:ck Tryz.prog 183 TY:=
 eW (aJ js (aJ gQ (aJ fm (aJ fm (aJ Gs cF))))) (fun _=>rfl) fun a hq hok=>by
  obtain⟨L,k,i,n,w,_⟩:=a;exact aV (inl:=bp) (ann:=aP) (ab Kw ak) (Om L k i n w hq) (by kernel_rfl)
theorem SX (L:List Sx.Obj) (k:Key) (i:Int) (s:ByteArray) (hL:aq L) (hs:aw s):
 (decide (aS L k true=0)=true->aG IntKind.i64 (bW s))/\((decide (aS L k true=0)&& !bZ i (bW s))=true->jt L k i s=false/\4=cq L k i s)/\((decide (aS L k
  true=0)&& !bZ i (bW s))=false->((!decide (aS L k true=0))=true->jt L k i s=false/\aS L k true=cq L k i s)/\((!decide (aS L k true=0))=false->(0<=k.oid
  /\k.oid< ↑(ai L))/\k.oid.toNat<ai L/\(∃g,A7 s g/\k=k/\i=i/\s=s/\Value.slice none 0 0=Value.slice none 0 0/\aS L k true=aS L k true/\0=g/\L=L/\k=k/\ah L
  k.oid.toNat free=sr L k i s g)/\∀(g:Int),A7 s g->aG IntKind.i64 (bW s)/\(decide (g<bW s)=true->aG IntKind.i64 (i+g)/\Xq s g/\(0<=i+g/\i+g< ↑64)/\aG IntKind.i64
  (g+1)/\∃g',A7 s g'/\Gv s g'<Gv s g/\k=k/\i=i/\s=s/\Value.slice none 0 0=Value.slice none 0 0/\aS L k true=aS L k true/\g+1=g'/\L=L/\k=k/\Obj.mk
  (sr L k i s g).kind (sr L k i s g).count (sr L k i s g).calls (sr L k i s g).slots ((sr L k i s g).bytes.put (i+g).toNat (sat s g.toNat))=sr L k i s g')/\(decide (g<bW s)=false->
  dR L k.oid/\jt L k i s=true/\0=cq L k i s/\cB L k.oid.toNat (sr L k i s g)=eh L k i s))):=by
 have hsz:aG IntKind.i64 (bW s):=by unfold aw at hs;simp only[aG,bY,bW];omega
 refine⟨fun _=>hsz,fun h=>?_,fun h=>⟨fun h'=>?_,fun h'=>?_⟩⟩
 ·rw[Yj,Yk]at h;obtain⟨e1,e2⟩:=LZ h.1 h.2;exact⟨by unfold jt;rw[<-e1];rfl,e1⟩
 ·have h':aS L k true≠0:=by simpa using h'
  obtain⟨e1,e2⟩:=uS (i:=i) (z:=s) rfl h';exact⟨by unfold jt;rw[<-e1];simpa using h',e1⟩
 ·have h':aS L k true=0:=by simpa using h'
  have hi:(!bZ i (bW s))=false:=by rw[h']at h;simpa using h
  have hi':bZ i (bW s)=true:=by simpa using hi
  obtain⟨i0,i1,i2,i3⟩:=mN.1 hi';have i3:(s.size:Int)<=64-i:=i3;have hE:cq L k i s=0:=by unfold cq;rw[Yq h',hi'];rfl
  obtain⟨r1,r2,r3,r4⟩:=nS hL (lK h').1;refine⟨⟨r2,r3⟩,r4,⟨0,⟨by omega,by omega⟩,?_⟩,fun g hg=>⟨hsz,fun hlt=>?_,fun hge=>?_⟩⟩
  ·have hz:=Rn (L:=L) (k:=k) (i:=i) (s:=s);repeat' apply And.intro
   all_goals first|with_reducible rfl|exact hz
  ·obtain⟨g0,g1⟩:=hg;have hlt:g<(s.size:Int):=Yn hlt;have hs:=Qb (L:=L) (k:=k) (i:=i) (s:=s) (g:=g) i0 g0 (by omega)
   refine⟨by simp only[aG,bY];omega,⟨g0,hlt⟩,⟨by omega,by omega⟩,by simp only[aG,bY];omega,g+1,⟨by omega,by omega⟩,by unfold Gv;omega,?_⟩
   repeat' apply And.intro
   all_goals first|with_reducible rfl|exact hs
  ·obtain⟨g0,g1⟩:=hg;have hge:¬g<(s.size:Int):=Ym hge;have hg:g=(s.size:Int):=by omega
   subst hg;refine⟨r1,by unfold jt;simpa using hE,hE.symm,?_⟩
   unfold eh;rw[hE,Yq rfl];rfl
theorem Tz (L:List Sx.Obj) (k:Key) (i:Int) (s:ByteArray) (hL:aq L) (hs:aw s):aj Tryz.prog 118 [.sa 0,.key k,.it .i64 i,.st s] [.ro (.arr none 163 (.ob L))] (yT (jt L k i s) (eh L k i s) [.it .i64 (cq L k i s)]) (fun _ _=>False):=
 bn (inl:=bp) (ann:=(iB [(118,8,RL [0,1,2,3,4,5,8,9,10,11] (fun g=> [(12,.it .i64 g)]) 11 (fun g=> .blk tO (.ob (sr L k i s g))) (A7 s) (Gv s))])) (ab sS (ab r8 (ab kC ak))) aC (SX L k i s hL hs) (by kernel_rfl)
theorem My:lA Tryz.prog 118 Wu:=
 iy (m:=fun x=> [.key x.1,.it .i64 x.2.1,.st x.2.2]) tX (fun _=>rfl) (fun _ _=>rfl) fun L x hq=>Tz L x.1 x.2.1 x.2.2 hq.1 hq.2
theorem S4 (k:Key) (a:Int) (n:Int):
 ((!decide (bR [] k a n=0)|| !decide (bH [] k a n false=0))=true->ByteArray.mk (Array.mk [])=jC [] k a n/\bH [] k a n false=bH [] k a n false/\eQ [] k a n false=eQ [] k a
   n false/\eR [] k a n false=eR [] k a n false/\bR [] k a n=bR [] k a n)/\((!decide (bR [] k a n=0)|| !decide (bH [] k a n false=0))=false->dP [] (bV (bx [] k a n
   false)) (bU (bx [] k a n false)) n=jC [] k a n/\0=bH [] k a n false/\void=eQ [] k a n false/\0=eR [] k a n false/\0=bR [] k a n):=by
 rw[sC];refine⟨fun h=>⟨?_,rfl,rfl,rfl,rfl⟩,fun h=>?_⟩
 ·rw[Bool.not_eq_true']at h;unfold jC;rw[Yp (by rw[h];simp)]
 ·rw[Bool.not_eq_false']at h;have h0:=rP h;unfold jC eQ eR;rw[Yq h,h0.1,h0.2];exact⟨rfl,rfl,rfl,rfl,rfl⟩
theorem Vm (L:List Sx.Obj) (k:Key) (a:Int) (n:Int):
 ((!decide (bR L k a n=0)|| !decide (bH L k a n false=0))=true->ByteArray.mk (Array.mk [])=jC L k a n/\bH L k a n false=bH L k a n false/\eQ L k a n false=eQ L k a n false
   /\eR L k a n false=eR L k a n false/\bR L k a n=bR L k a n)/\((!decide (bR L k a n=0)|| !decide (bH L k a n false=0))=false->dP L (bV (bx L k a n false)) (bU (bx
   L k a n false)) n=jC L k a n/\0=bH L k a n false/\void=eQ L k a n false/\0=eR L k a n false/\0=bR L k a n):=by
 rw[sC];refine⟨fun h=>⟨?_,rfl,rfl,rfl,rfl⟩,fun h=>?_⟩
 ·rw[Bool.not_eq_true']at h;unfold jC;rw[Yp (by rw[h];simp)]
 ·rw[Bool.not_eq_false']at h;have h0:=rP h;unfold jC eQ eR;rw[Yq h,h0.1,h0.2];exact⟨rfl,rfl,rfl,rfl,rfl⟩
theorem V1:ck Tryz.prog 171 XD:=
 eW (aJ sZ (aJ gQ (aJ fm (aJ fm cF)))) (fun _=>rfl) fun a hq hok=>by
  obtain⟨S,k,i,n,_⟩:=a;cases S with
  |none=>exact aV (inl:=bp) (ann:=aP) (ab wX (ab om (ab bB ak))) (S4 k i n) (by kernel_rfl)
  |some L=>exact aV (inl:=bp) (ann:=aP) (ab wX (ab om (ab bB ak))) (Vm L k i n) (by kernel_rfl)
theorem SR (L:List Sx.Obj) (k:Key) (a:Int) (n:Int) (hL:aq L):
 aq L/\((!decide (bR L k a n=0)|| !decide (bH L k a n false=0))=true->ByteArray.mk (Array.mk [])=jC L k a n/\bH L k a n false=bH L k a n false/\eQ L k a n false=eQ L k
  a n false/\eR L k a n false=eR L k a n false/\bR L k a n=bR L k a n)/\((!decide (bR L k a n=0)|| !decide (bH L k a n false=0))=false->true=true/\((decide (aS L (bV
  (bx L k a n false)) false=0)&& !bZ (bU (bx L k a n false)) n)=true->ByteArray.mk (Array.mk [])=jC L k a n/\bH L k a n false=bH L k a n false/\eQ L k a n false=eQ L
  k a n false/\eR L k a n false=eR L k a n false/\0=bR L k a n)/\((decide (aS L (bV (bx L k a n false)) false=0)&& !bZ (bU (bx L k a n false)) n)=false->((!decide
  (aS L (bV (bx L k a n false)) false=0))=true->ByteArray.mk (Array.mk [])=jC L k a n/\bH L k a n false=bH L k a n false/\eQ L k a n false=eQ L k a n false/\eR L k a n
  false=eR L k a n false/\0=bR L k a n)/\((!decide (aS L (bV (bx L k a n false)) false=0))=false->(0<=(bV (bx L k a n false)).oid/\(bV (bx L k a n false)).oid< ↑(ai
  L))/\aG IntKind.i64 (bU (bx L k a n false)+n)/\C5 (bU (bx L k a n false)) (bU (bx L k a n false)+n) 64/\(bV (bx L k a n false)).oid.toNat<ai L/\BH (ah L (bV (bx L
  k a n false)).oid.toNat free).bytes (bU (bx L k a n false)).toNat (bU (bx L k a n false)+n).toNat=jC L k a n/\bH L k a n false=bH L k a n false/\eQ L k a n false=eQ L k a n
  false/\eR L k a n false=eR L k a n false/\0=bR L k a n))):=by
 rw[sC];refine⟨hL,fun h=>⟨?_,rfl,rfl,rfl,rfl⟩,fun h=>?_⟩
 ·rw[Bool.not_eq_true']at h;unfold jC;rw[Yp (by rw[h];simp)]
 ·rw[Bool.not_eq_false']at h;have h0:=rP h;have hC:kW L k a n false=true:=h;obtain⟨⟨p1,p2⟩,p3,p4⟩:=I6 hC;obtain⟨r1,r2,r3,r4⟩:=nS hL p1;obtain⟨e1,e2,e3,e4⟩:=wj p3 (by rw[p4];rfl)
  refine⟨rfl,fun h=>?_,fun _=>⟨fun h=>?_,fun _=>⟨⟨r2,r3⟩,e1,e2,r4,?_,rfl,rfl,rfl,h0.1.symm⟩⟩⟩
  ·rw[p4]at h;simp at h
  ·rw[p3]at h;simp at h
  ·unfold jC;rw[Yq hC];exact e3
theorem Th:ck Tryz.prog 128 VO:=
 eW (aJ js (aJ gQ (aJ fm (aJ fm cF)))) (fun _=>rfl) fun a hq hok=>by
  obtain⟨L,k,i,n,_⟩:=a;exact aV (inl:=(fun f=>f==117||f==113)) (ann:=aP) (ab Ga (ab sS (ab r8 ak))) (SR L k i n hq) (by kernel_rfl)
theorem Qy (k:Key) (a:Int) (s:ByteArray) (hs:aw s):
 aG IntKind.i64 (bW s)/\((!decide (bR [] k a (bW s)=0)|| !decide (bH [] k a (bW s) true=0))=true->bH [] k a (bW s) true=bH [] k a (bW s) true/\eQ [] k a (bW s) true=eQ
  [] k a (bW s) true/\eR [] k a (bW s) true=eR [] k a (bW s) true/\bR [] k a (bW s)=bR [] k a (bW s))/\((!decide (bR [] k a (bW s)=0)|| !decide (bH [] k a (bW s) true=0))=
  false->true=true/\0=bH [] k a (bW s) true/\void=eQ [] k a (bW s) true/\0=eR [] k a (bW s) true/\0=bR [] k a (bW s)):=by
 have hsz:aG IntKind.i64 (bW s):=by unfold aw at hs;simp only[aG,bY,bW];omega
 rw[sC];refine⟨hsz,fun h=>⟨rfl,rfl,rfl,rfl⟩,fun h=>?_⟩
 rw[Bool.not_eq_false']at h;have:=(xZ (rP h).1).1;have h1:c8 [] k a=1:=rfl;omega
theorem Oq (k:Key) (a:Int) (s:ByteArray) (hs:aw s):
 aG IntKind.i64 (bW s)/\((!decide (bR [] k a (bW s)=0)|| !decide (bH [] k a (bW s) true=0))=true->bH [] k a (bW s) true=bH [] k a (bW s) true/\eQ [] k a (bW s) true=eQ
  [] k a (bW s) true/\eR [] k a (bW s) true=eR [] k a (bW s) true/\bR [] k a (bW s)=bR [] k a (bW s))/\((!decide (bR [] k a (bW s)=0)|| !decide (bH [] k a (bW s) true=0))=
  false->true=true/\False):=by
 have hsz:aG IntKind.i64 (bW s):=by unfold aw at hs;simp only[aG,bY,bW];omega
 rw[sC];refine⟨hsz,fun h=>⟨rfl,rfl,rfl,rfl⟩,fun h=>?_⟩
 rw[Bool.not_eq_false']at h;have:=(xZ (rP h).1).1;have h1:c8 [] k a=1:=rfl;omega
theorem Ss (L:List Sx.Obj) (k:Key) (a:Int) (s:ByteArray) (hL:aq L) (hs:aw s):
 aG IntKind.i64 (bW s)/\((!decide (bR L k a (bW s)=0)|| !decide (bH L k a (bW s) true=0))=true->(bH L k a (bW s) true=bH L k a (bW s) true/\eQ L k a (bW s) true=eQ L k
  a (bW s) true/\eR L k a (bW s) true=eR L k a (bW s) true/\bR L k a (bW s)=bR L k a (bW s))/\L=jD L k a s)/\((!decide (bR L k a (bW s)=0)|| !decide (bH L k a (bW s)
  true=0))=false->true=true/\(aq L/\aw s)/\(0=bH L k a (bW s) true/\void=eQ L k a (bW s) true/\0=eR L k a (bW s) true/\0=bR L k a (bW s))/\eh L (bV (bx L
  k a (bW s) true)) (bU (bx L k a (bW s) true)) s=jD L k a s):=by
 have hsz:aG IntKind.i64 (bW s):=by unfold aw at hs;simp only[aG,bY,bW];omega
 rw[sC];refine⟨hsz,fun h=>⟨⟨rfl,rfl,rfl,rfl⟩,?_⟩,fun h=>?_⟩
 ·rw[Bool.not_eq_true']at h;unfold jD;rw[Yp (by rw[h];simp)]
 ·rw[Bool.not_eq_false']at h;have h0:=rP h;refine⟨rfl,⟨hL,hs⟩,?_,?_⟩
  ·unfold eQ eR;rw[h0.1,h0.2];exact⟨rfl,rfl,rfl,rfl⟩
  ·unfold jD;rw[Yq h]
theorem TI (L:List Sx.Obj) (k:Key) (a:Int) (s:ByteArray) (hL:aq L) (hs:aw s):aj Tryz.prog 173 [.lp 0 0,.key k,.it .i64 a,.st s] [.store tS eS L] (Cn (.tp [Uw L k a (bW s) true,.it .i64 (bR L k a (bW s))]) (jD L k a s)) (fun _ _=>False):=
 bn (inl:=bp) (ann:=aP) (ab wX (ab om (ab bB ak))) (aD Bu aC) (Ss L k a s hL hs) (by kernel_rfl)
theorem Uj:lA Tryz.prog 173 U5:=
 Ip (m:=fun x=> [.key x.1,.it .i64 x.2.1,.st x.2.2]) tX (fun _=>rfl) (fun _ _=>rfl) (fun x hs=>bn (inl:=bp) (ann:=aP) (ab wX (ab om (ab bB ak))) (aD Bu aC) (Qy x.1 x.2.1 x.2.2 hs) (by kernel_rfl)) (fun x hs=>bn (inl:=bp) (ann:=aP) (ab wX (ab om (ab bB ak))) (aD Bu aC) (Oq x.1 x.2.1 x.2.2 hs) (by kernel_rfl)) fun L x hL=>TI L x.1 x.2.1 x.2.2 hL.1 hL.2
theorem Sj (L:List Sx.Obj) (k:Key) (a:Int) (s:ByteArray) (hL:aq L) (hs:aw s):
 aG IntKind.i64 (bW s)/\aq L/\((!decide (bR L k a (bW s)=0)|| !decide (bH L k a (bW s) true=0))=true->kW L k a (bW s) true=false/\bH L k a (bW s) true=bH L k a (bW s)
  true/\eQ L k a (bW s) true=eQ L k a (bW s) true/\eR L k a (bW s) true=eR L k a (bW s) true/\bR L k a (bW s)=bR L k a (bW s))/\((!decide (bR L k a (bW s)=0)|| !decide
  (bH L k a (bW s) true=0))=false->true=true/\(aq L/\aw s)/\(jt L (bV (bx L k a (bW s) true)) (bU (bx L k a (bW s) true)) s=false->kW L k a (bW s) true=false/\
  bH L k a (bW s) true=bH L k a (bW s) true/\eQ L k a (bW s) true=eQ L k a (bW s) true/\eR L k a (bW s) true=eR L k a (bW s) true/\0=bR L k a (bW s))/\(jt L (bV
  (bx L k a (bW s) true)) (bU (bx L k a (bW s) true)) s=true->kW L k a (bW s) true=true/\(bH L k a (bW s) true=bH L k a (bW s) true/\eQ L k a (bW s) true=eQ L k a (bW s)
  true/\eR L k a (bW s) true=eR L k a (bW s) true/\0=bR L k a (bW s))/\eh L (bV (bx L k a (bW s) true)) (bU (bx L k a (bW s) true)) s=jD L k a s)):=by
 have hsz:aG IntKind.i64 (bW s):=by unfold aw at hs;simp only[aG,bY,bW];omega
 rw[sC];refine⟨hsz,hL,fun h=>⟨?_,rfl,rfl,rfl,rfl⟩,fun h=>?_⟩
 ·rw[Bool.not_eq_true']at h;exact h
 ·rw[Bool.not_eq_false']at h;have h0:=rP h;have hC:kW L k a (bW s) true=true:=h;obtain⟨⟨p1,p2⟩,p3,p4⟩:=I6 hC;have hE:cq L (bV (bx L k a (bW s) true)) (bU (bx L k a (bW s) true)) s=0:=by unfold cq;rw[Yq p3,p4];rfl
  refine⟨rfl,⟨hL,hs⟩,fun h=>?_,fun _=>⟨hC,⟨rfl,rfl,rfl,h0.1.symm⟩,?_⟩⟩
  ·unfold jt at h;rw[hE]at h;simp at h
  ·unfold jD;rw[Yq hC]
theorem T0 (L:List Sx.Obj) (k:Key) (a:Int) (s:ByteArray) (hL:aq L) (hs:aw s):aj Tryz.prog 129 [.sa 0,.key k,.it .i64 a,.st s] [.ro (.arr none 163 (.ob L))] (yT (kW L k a (bW s) true) (jD L k a s) [Uw L k a (bW s) true,.it .i64 (bR L k a (bW s))]) (fun _ _=>False):=
 bn (inl:=bp) (ann:=aP) (ab Ga ak) (aD My aC) (Sj L k a s hL hs) (by kernel_rfl)
theorem UH:lA Tryz.prog 129 Wc:=
 iy (m:=fun x=> [.key x.1,.it .i64 x.2.1,.st x.2.2]) tX (fun _=>rfl) (fun _ _=>rfl) fun L x hq=>T0 L x.1 x.2.1 x.2.2 hq.1 hq.2
end Go.Proofs.YtghpaegglbbocaaGreat
