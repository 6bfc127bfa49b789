import Derived.Test.YtghpaegglbbocaaGreatCtWb
import Derived.Test.YtghpaegglbbocaaGreatSW
set_option linter.unusedSimpArgs false
set_option linter.unusedVariables false
namespace Go.Proofs.YtghpaegglbbocaaGreat
open Go.Sx
set_option maxRecDepth 100000
theorem PT (k:Key) (a:Int) (n:Int) (w:Bool):
 true=true/\(decide (an []=0)=true->void=bV (bz [] k a n w)/\0=bU (bz [] k a n w)/\void=cO (bz [] k a n w)/\0=c8 (bz [] k a n w)/\0=bH [] k a n w/\void=
  eV [] k a n w/\0=eR [] k a n w/\1=bR [] k a n)/\(decide (an []=0)=false->((!decide (bD k=0)||bg k&&decide (an []<=cS k))=true->void=bV (bz [] k a n
  w)/\0=bU (bz [] k a n w)/\void=cO (bz [] k a n w)/\0=c8 (bz [] k a n w)/\0=bH [] k a n w/\void=eV [] k a n w/\0=eR [] k a n w/\2=bR [] k a n)/\((!decide (bD
  k=0)||bg k&&decide (an []<=cS k))=false->(decide (a<0)=true->void=bV (bz [] k a n w)/\0=bU (bz [] k a n w)/\void=cO (bz [] k a n w)/\0=c8 (bz [] k
  a n w)/\0=bH [] k a n w/\void=eV [] k a n w/\0=eR [] k a n w/\4=bR [] k a n)/\(decide (a<0)=false->((decide (n<0)||decide (64<n))=true->void=bV (bz [] k a n w)
  /\0=bU (bz [] k a n w)/\void=cO (bz [] k a n w)/\0=c8 (bz [] k a n w)/\0=bH [] k a n w/\void=eV [] k a n w/\0=eR [] k a n w/\4=bR [] k a n)/\((decide (n<0)||
  decide (64<n))=false->((!decide (en (ar [] k a)=0))=true->void=bV (bz [] k a n w)/\0=bU (bz [] k a n w)/\void=cO (bz [] k a n w)/\0=c8 (bz [] k a n w)/\en
  (ar [] k a)=bH [] k a n w/\fc (ar [] k a)=eV [] k a n w/\fe (ar [] k a) a=eR [] k a n w/\0=bR [] k a n)/\((!decide (en (ar [] k a)=0))=false->aG IntKind.i64
  (bU (ar [] k a)+n)/\(decide (64<bU (ar [] k a)+n)=true->true=true/\void=bV (bz [] k a n w)/\0=bU (bz [] k a n w)/\void=cO (bz [] k a n w)/\0=c8 (bz [] k
  a n w)/\5=bH [] k a n w/\cO (ar [] k a)=eV [] k a n w/\a=eR [] k a n w/\0=bR [] k a n)/\(decide (64<bU (ar [] k a)+n)=false->((w&& !decide (bd BinOp.and
  IntKind.i64 (bV (ar [] k a)).rights 1=0))=true->true=true/\void=bV (bz [] k a n w)/\0=bU (bz [] k a n w)/\void=cO (bz [] k a n w)/\0=c8 (bz [] k a n w)/\6=bH
  [] k a n w/\cO (ar [] k a)=eV [] k a n w/\a=eR [] k a n w/\0=bR [] k a n)/\((w&& !decide (bd BinOp.and IntKind.i64 (bV (ar [] k a)).rights 1=0))=false->bV (ar [] k
  a)=bV (bz [] k a n w)/\bU (ar [] k a)=bU (bz [] k a n w)/\cO (ar [] k a)=cO (bz [] k a n w)/\c8 (ar [] k a)=c8 (bz [] k a n w)/\0=bH [] k a n w/\void=eV
  [] k a n w/\0=eR [] k a n w/\0=bR [] k a n))))))):=by
 exact⟨rfl,fun h=>oF (MI (Wp h) (by omega)) (by omega),fun h=>absurd h (by decide)⟩
theorem Ua (L:List Sx.Obj) (k:Key) (a:Int) (n:Int) (w:Bool):
 true=true/\(decide (an L=0)=true->void=bV (bz L k a n w)/\0=bU (bz L k a n w)/\void=cO (bz L k a n w)/\0=c8 (bz L k a n w)/\0=bH L k a n w/\void=eV L k
  a n w/\0=eR L k a n w/\1=bR L k a n)/\(decide (an L=0)=false->((!decide (bD k=0)||bg k&&decide (an L<=cS k))=true->void=bV (bz L k a n w)/\0=bU
  (bz L k a n w)/\void=cO (bz L k a n w)/\0=c8 (bz L k a n w)/\0=bH L k a n w/\void=eV L k a n w/\0=eR L k a n w/\2=bR L k a n)/\((!decide (bD k=0)||bg k
  &&decide (an L<=cS k))=false->(decide (a<0)=true->void=bV (bz L k a n w)/\0=bU (bz L k a n w)/\void=cO (bz L k a n w)/\0=c8 (bz L k a n w)/\0=bH L k a n
  w/\void=eV L k a n w/\0=eR L k a n w/\4=bR L k a n)/\(decide (a<0)=false->((decide (n<0)||decide (64<n))=true->void=bV (bz L k a n w)/\0=bU (bz L k a n w)/\
  void=cO (bz L k a n w)/\0=c8 (bz L k a n w)/\0=bH L k a n w/\void=eV L k a n w/\0=eR L k a n w/\4=bR L k a n)/\((decide (n<0)||decide (64<n))=false->((!decide
  (en (ar L k a)=0))=true->void=bV (bz L k a n w)/\0=bU (bz L k a n w)/\void=cO (bz L k a n w)/\0=c8 (bz L k a n w)/\en (ar L k a)=bH L k a n w/\fc (ar L
  k a)=eV L k a n w/\fe (ar L k a) a=eR L k a n w/\0=bR L k a n)/\((!decide (en (ar L k a)=0))=false->aG IntKind.i64 (bU (ar L k a)+n)/\(decide (64<bU (ar L k
  a)+n)=true->true=true/\void=bV (bz L k a n w)/\0=bU (bz L k a n w)/\void=cO (bz L k a n w)/\0=c8 (bz L k a n w)/\5=bH L k a n w/\cO (ar L k a)=eV L k a
  n w/\a=eR L k a n w/\0=bR L k a n)/\(decide (64<bU (ar L k a)+n)=false->((w&& !decide (bd BinOp.and IntKind.i64 (bV (ar L k a)).rights 1=0))=true->true=true/\void
  =bV (bz L k a n w)/\0=bU (bz L k a n w)/\void=cO (bz L k a n w)/\0=c8 (bz L k a n w)/\6=bH L k a n w/\cO (ar L k a)=eV L k a n w/\a=eR L k a n w/\0=bR
  L k a n)/\((w&& !decide (bd BinOp.and IntKind.i64 (bV (ar L k a)).rights 1=0))=false->bV (ar L k a)=bV (bz L k a n w)/\bU (ar L k a)=bU (bz L k a n w)/\cO (ar L
  k a)=cO (bz L k a n w)/\c8 (ar L k a)=c8 (bz L k a n w)/\0=bH L k a n w/\void=eV L k a n w/\0=eR L k a n w/\0=bR L k a n))))))):=by
 refine⟨rfl,fun h=>oF (MI (Wp h) (by omega)) (by omega),fun h=>⟨fun h2=>?_,fun h2=>⟨fun h3=>?_,fun h3=>?_⟩⟩⟩
 ·rw[At,Bool.not_eq_true']at h2;exact oF (MI (by rw[RB h,h2];rfl) (by omega)) (by omega)
 ·rw[At,Bool.not_eq_false']at h2;exact oF (MI (by rw[RB h,h2,Yv rfl,Yv (Ys h3)]) (by omega)) (by omega)
 rw[At,Bool.not_eq_false']at h2;have hW:c9 L k a=0:=by rw[RB h,h2,Yv rfl,Yu (Yr h3)]
 clear h h2 h3;refine⟨fun h=>oF (WH hW h) (by omega),fun h=>?_⟩
 have hE:=TM hW h;refine⟨fun hk=>?_,fun hk=>?_⟩
 ·have hk:en (ar L k a)≠0:=by simpa using hk
  have hk:(ar L k a).kd≠0:=hk;obtain⟨u1,u2,u3⟩:=Vn (a:=a) hk;rw[u1,u2,u3];exact qI hE (V4 hE hk) hk
 have hk:en (ar L k a)=0:=by simpa using hk
 have hk:(ar L k a).kd=0:=hk;obtain⟨⟨e1,e2⟩,e3,e4⟩:=DQ hW hk;obtain⟨f1,f2,f3⟩:=NJ hk;have hr:=A0 e1 e2;obtain⟨_,n0,n1⟩:=xX hE;rw[f1,f2,f3];rw[S8 hr.1 hr.2];refine⟨by simp only[aG,bY];omega,fun h5=>?_,fun h5=>⟨fun h6=>?_,fun h6=>?_⟩⟩
 ·exact⟨rfl,qI hE (VA hE hk (Ys h5)) (by omega)⟩
 ·exact⟨rfl,qI hE (Wj hE hk (Yr h5) h6) (by omega)⟩
 ·have:=Fb hE (V2 hE hk (Yr h5) h6);rw[f1,f2,f3]at this;exact this
theorem xM:ck Tryz.prog 189 VU:=
 eO (aJ tR (aJ gR (aJ ft (aJ ft (aJ E3 cF))))) (fun _=>rfl) fun a hq hok=>by
  obtain⟨S,k,i,n,w,_⟩:=a;cases S with
  |none=>exact aV (inl:=(fun f=>f==195||f==197)) (ann:=aP) (ab bB (ab je (ab eY (ab F8 ak)))) (PT k i n w) (by kernel_rfl)
  |some L=>exact aV (inl:=(fun f=>f==195||f==197)) (ann:=aP) (ab bB (ab je (ab eY (ab F8 ak)))) (Ua L k i n w) (by kernel_rfl)
theorem Pt (L:List Sx.Obj) (k:Key) (a:Int) (n:Int) (w:Bool) (hL:aq L):
 aq L/\((decide (c9 L k a=0)&&(decide (n<0)||decide (64<n)))=true->void=bV (bz L k a n w)/\0=bU (bz L k a n w)/\void=cO (bz L k a n w)/\0=c8 (bz L k a n w)
  /\0=bH L k a n w/\void=eV L k a n w/\0=eR L k a n w/\4=bR L k a n)/\((decide (c9 L k a=0)&&(decide (n<0)||decide (64<n)))=false->((!decide (c9 L k a=0)|| !decide
  (en (ar L k a)=0))=true->void=bV (bz L k a n w)/\0=bU (bz L k a n w)/\void=cO (bz L k a n w)/\0=c8 (bz L k a n w)/\en (ar L k a)=bH L k a n w/\fc (ar L
  k a)=eV L k a n w/\fe (ar L k a) a=eR L k a n w/\c9 L k a=bR L k a n)/\((!decide (c9 L k a=0)|| !decide (en (ar L k a)=0))=false->aG IntKind.i64 (bU (ar L k a)
  +n)/\(decide (64<bU (ar L k a)+n)=true->void=bV (bz L k a n w)/\0=bU (bz L k a n w)/\void=cO (bz L k a n w)/\0=c8 (bz L k a n w)/\5=bH L k a n w/\cO
  (ar L k a)=eV L k a n w/\a=eR L k a n w/\0=bR L k a n)/\(decide (64<bU (ar L k a)+n)=false->((w&& !decide ((bV (ar L k a)).rights=0))=true->void=bV (bz L k a
  n w)/\0=bU (bz L k a n w)/\void=cO (bz L k a n w)/\0=c8 (bz L k a n w)/\6=bH L k a n w/\cO (ar L k a)=eV L k a n w/\a=eR L k a n w/\0=bR L k a n)/\((w&&
  !decide ((bV (ar L k a)).rights=0))=false->bV (ar L k a)=bV (bz L k a n w)/\bU (ar L k a)=bU (bz L k a n w)/\cO (ar L k a)=cO (bz L k a n w)/\c8 (ar L k a)
  =c8 (bz L k a n w)/\0=bH L k a n w/\void=eV L k a n w/\0=eR L k a n w/\0=bR L k a n)))):=by
 refine⟨hL,fun h=>?_,fun h=>⟨fun h2=>?_,fun h2=>?_⟩⟩
 ·rw[Yo,Yp]at h;exact oF (WH h.1 h.2) (by omega)
 ·by_cases hW:c9 L k a=0
  ·rw[decide_eq_true hW,Bool.true_and]at h;rw[decide_eq_true hW]at h2;have hE:=TM hW h;have hk:en (ar L k a)≠0:=by simpa using h2
   have hk:(ar L k a).kd≠0:=hk;obtain⟨u1,u2,u3⟩:=Vn (a:=a) hk;rw[u1,u2,u3,hW];exact qI hE (V4 hE hk) hk
  ·have hr:ar L k a=UX:=by unfold ar;rw[Yu hW]
   rw[hr];exact oF (MI rfl hW) hW
 simp only[Bool.or_eq_false_iff,Bool.not_eq_false',Yp]at h2;obtain⟨hW,hk⟩:=h2;rw[decide_eq_true hW,Bool.true_and]at h;have hE:=TM hW h;have hk:(ar L k a).kd=0:=hk;obtain⟨⟨e1,e2⟩,e3,e4⟩:=DQ hW hk;obtain⟨f1,f2,f3⟩:=NJ hk;obtain⟨_,n0,n1⟩:=xX hE;rw[f1,f2,f3];refine⟨by simp only[aG,bY];omega,fun h5=>?_,fun h5=>⟨fun h6=>?_,fun h6=>?_⟩⟩
 ·exact qI hE (VA hE hk (Ys h5)) (by omega)
 ·exact qI hE (Wj hE hk (Yr h5) h6) (by omega)
 ·have:=Fb hE (V2 hE hk (Yr h5) h6);rw[f1,f2,f3]at this;exact this
theorem Fq:ck Tryz.prog 183 S9:=
 eO (aJ ju (aJ gR (aJ ft (aJ ft (aJ E3 cF))))) (fun _=>rfl) fun a hq hok=>by
  obtain⟨L,k,i,n,w,_⟩:=a;exact aV (inl:=bn) (ann:=aP) (ab It ak) (Pt L k i n w hq) (by kernel_rfl)
theorem UD (L:List Sx.Obj) (k:Key) (i:Int) (s:ByteArray) (hL:aq L) (hs:aw s):
 (decide (aS L k true=0)=true->aG IntKind.i64 (bW s))/\((decide (aS L k true=0)&& !bZ i (bW s))=true->jx L k i s=false/\4=cq L k i s)/\((decide (aS L k
  true=0)&& !bZ i (bW s))=false->((!decide (aS L k true=0))=true->jx L k i s=false/\aS L k true=cq L k i s)/\((!decide (aS L k true=0))=false->(0<=k.oid
  /\k.oid< ↑(aj L))/\k.oid.toNat<aj L/\(∃g,BK s g/\k=k/\i=i/\s=s/\Value.slice none 0 0=Value.slice none 0 0/\aS L k true=aS L k true/\0=g/\L=L/\k=k/\ah L
  k.oid.toNat free=sb L k i s g)/\∀(g:Int),BK s g->aG IntKind.i64 (bW s)/\(decide (g<bW s)=true->aG IntKind.i64 (i+g)/\Xm s g/\(0<=i+g/\i+g< ↑64)/\aG IntKind.i64
  (g+1)/\∃g',BK s g'/\Gr s g'<Gr s g/\k=k/\i=i/\s=s/\Value.slice none 0 0=Value.slice none 0 0/\aS L k true=aS L k true/\g+1=g'/\L=L/\k=k/\Obj.mk
  (sb L k i s g).kind (sb L k i s g).count (sb L k i s g).calls (sb L k i s g).slots ((sb L k i s g).bytes.put (i+g).toNat (sat s g.toNat))=sb L k i s g')/\(decide (g<bW s)=false->
  dS L k.oid/\jx L k i s=true/\0=cq L k i s/\cC L k.oid.toNat (sb L k i s g)=eg L k i s))):=by
 have hsz:aG IntKind.i64 (bW s):=by unfold aw at hs;simp only[aG,bY,bW];omega
 refine⟨fun _=>hsz,fun h=>?_,fun h=>⟨fun h'=>?_,fun h'=>?_⟩⟩
 ·rw[Yo,Yp]at h;obtain⟨e1,e2⟩:=KX h.1 h.2;exact⟨by unfold jx;rw[<-e1];rfl,e1⟩
 ·have h':aS L k true≠0:=by simpa using h'
  obtain⟨e1,e2⟩:=uY (i:=i) (z:=s) rfl h';exact⟨by unfold jx;rw[<-e1];simpa using h',e1⟩
 ·have h':aS L k true=0:=by simpa using h'
  have hi:(!bZ i (bW s))=false:=by rw[h']at h;simpa using h
  have hi':bZ i (bW s)=true:=by simpa using hi
  obtain⟨i0,i1,i2,i3⟩:=mL.1 hi';have i3:(s.size:Int)<=64-i:=i3;have hE:cq L k i s=0:=by unfold cq;rw[Yv h',hi'];rfl
  obtain⟨r1,r2,r3,r4⟩:=nL hL (lQ h').1;refine⟨⟨r2,r3⟩,r4,⟨0,⟨by omega,by omega⟩,?_⟩,fun g hg=>⟨hsz,fun hlt=>?_,fun hge=>?_⟩⟩
  ·have hz:=Qk (L:=L) (k:=k) (i:=i) (s:=s);repeat' apply And.intro
   all_goals first|with_reducible rfl|exact hz
  ·obtain⟨g0,g1⟩:=hg;have hlt:g<(s.size:Int):=Ys hlt;have hs:=Og (L:=L) (k:=k) (i:=i) (s:=s) (g:=g) i0 g0 (by omega)
   refine⟨by simp only[aG,bY];omega,⟨g0,hlt⟩,⟨by omega,by omega⟩,by simp only[aG,bY];omega,g+1,⟨by omega,by omega⟩,by unfold Gr;omega,?_⟩
   repeat' apply And.intro
   all_goals first|with_reducible rfl|exact hs
  ·obtain⟨g0,g1⟩:=hg;have hge:¬g<(s.size:Int):=Yr hge;have hg:g=(s.size:Int):=by omega
   subst hg;refine⟨r1,by unfold jx;simpa using hE,hE.symm,?_⟩
   unfold eg;rw[hE,Yv rfl];rfl
theorem SZ (L:List Sx.Obj) (k:Key) (i:Int) (s:ByteArray) (hL:aq L) (hs:aw s):ai Tryz.prog 118 [.sa 0,.key k,.it .i64 i,.st s] [.ro (.arr none 163 (.ob L))] (yV (jx L k i s) (eg L k i s) [.it .i64 (cq L k i s)]) (fun _ _=>False):=
 bp (inl:=bn) (ann:=(iz [(118,8,RK [0,1,2,3,4,5,8,9,10,11] (fun g=> [(12,.it .i64 g)]) 11 (fun g=> .blk tO (.ob (sb L k i s g))) (BK s) (Gr s))])) (ab uA (ab rY (ab kz ak))) aC (UD L k i s hL hs) (by kernel_rfl)
theorem Mq:lG Tryz.prog 118 VD:=
 iw (m:=fun x=> [.key x.1,.it .i64 x.2.1,.st x.2.2]) s5 (fun _=>rfl) (fun _ _=>rfl) fun L x hq=>SZ L x.1 x.2.1 x.2.2 hq.1 hq.2
theorem T5 (k:Key) (a:Int) (n:Int):
 ((!decide (bR [] k a n=0)|| !decide (bH [] k a n false=0))=true->ByteArray.mk (Array.mk [])=jA [] k a n/\bH [] k a n false=bH [] k a n false/\eV [] k a n false=eV [] k a
   n false/\eR [] k a n false=eR [] k a n false/\bR [] k a n=bR [] k a n)/\((!decide (bR [] k a n=0)|| !decide (bH [] k a n false=0))=false->dR [] (bV (bz [] k a n
   false)) (bU (bz [] k a n false)) n=jA [] k a n/\0=bH [] k a n false/\void=eV [] k a n false/\0=eR [] k a n false/\0=bR [] k a n):=by
 rw[sE];refine⟨fun h=>⟨?_,rfl,rfl,rfl,rfl⟩,fun h=>?_⟩
 ·rw[Bool.not_eq_true']at h;unfold jA;rw[Yu (by rw[h];simp)]
 ·rw[Bool.not_eq_false']at h;have h0:=sf h;unfold jA eV eR;rw[Yv h,h0.1,h0.2];exact⟨rfl,rfl,rfl,rfl,rfl⟩
theorem Vo (L:List Sx.Obj) (k:Key) (a:Int) (n:Int):
 ((!decide (bR L k a n=0)|| !decide (bH L k a n false=0))=true->ByteArray.mk (Array.mk [])=jA L k a n/\bH L k a n false=bH L k a n false/\eV L k a n false=eV L k a n false
   /\eR L k a n false=eR L k a n false/\bR L k a n=bR L k a n)/\((!decide (bR L k a n=0)|| !decide (bH L k a n false=0))=false->dR L (bV (bz L k a n false)) (bU (bz
   L k a n false)) n=jA L k a n/\0=bH L k a n false/\void=eV L k a n false/\0=eR L k a n false/\0=bR L k a n):=by
 rw[sE];refine⟨fun h=>⟨?_,rfl,rfl,rfl,rfl⟩,fun h=>?_⟩
 ·rw[Bool.not_eq_true']at h;unfold jA;rw[Yu (by rw[h];simp)]
 ·rw[Bool.not_eq_false']at h;have h0:=sf h;unfold jA eV eR;rw[Yv h,h0.1,h0.2];exact⟨rfl,rfl,rfl,rfl,rfl⟩
theorem VM:ck Tryz.prog 171 XK:=
 eO (aJ tR (aJ gR (aJ ft (aJ ft cF)))) (fun _=>rfl) fun a hq hok=>by
  obtain⟨S,k,i,n,_⟩:=a;cases S with
  |none=>exact aV (inl:=bn) (ann:=aP) (ab xM (ab n7 (ab bB ak))) (T5 k i n) (by kernel_rfl)
  |some L=>exact aV (inl:=bn) (ann:=aP) (ab xM (ab n7 (ab bB ak))) (Vo L k i n) (by kernel_rfl)
theorem Th (L:List Sx.Obj) (k:Key) (a:Int) (n:Int) (hL:aq L):
 aq L/\((!decide (bR L k a n=0)|| !decide (bH L k a n false=0))=true->ByteArray.mk (Array.mk [])=jA L k a n/\bH L k a n false=bH L k a n false/\eV L k a n false=eV L k
  a n false/\eR L k a n false=eR L k a n false/\bR L k a n=bR L k a n)/\((!decide (bR L k a n=0)|| !decide (bH L k a n false=0))=false->true=true/\((decide (aS L (bV
  (bz L k a n false)) false=0)&& !bZ (bU (bz L k a n false)) n)=true->ByteArray.mk (Array.mk [])=jA L k a n/\bH L k a n false=bH L k a n false/\eV L k a n false=eV L
  k a n false/\eR L k a n false=eR L k a n false/\0=bR L k a n)/\((decide (aS L (bV (bz L k a n false)) false=0)&& !bZ (bU (bz L k a n false)) n)=false->((!decide
  (aS L (bV (bz L k a n false)) false=0))=true->ByteArray.mk (Array.mk [])=jA L k a n/\bH L k a n false=bH L k a n false/\eV L k a n false=eV L k a n false/\eR L k a n
  false=eR L k a n false/\0=bR L k a n)/\((!decide (aS L (bV (bz L k a n false)) false=0))=false->(0<=(bV (bz L k a n false)).oid/\(bV (bz L k a n false)).oid< ↑(aj
  L))/\aG IntKind.i64 (bU (bz L k a n false)+n)/\B5 (bU (bz L k a n false)) (bU (bz L k a n false)+n) 64/\(bV (bz L k a n false)).oid.toNat<aj L/\Bn (ah L (bV (bz L
  k a n false)).oid.toNat free).bytes (bU (bz L k a n false)).toNat (bU (bz L k a n false)+n).toNat=jA L k a n/\bH L k a n false=bH L k a n false/\eV L k a n false=eV L k a n
  false/\eR L k a n false=eR L k a n false/\0=bR L k a n))):=by
 rw[sE];refine⟨hL,fun h=>⟨?_,rfl,rfl,rfl,rfl⟩,fun h=>?_⟩
 ·rw[Bool.not_eq_true']at h;unfold jA;rw[Yu (by rw[h];simp)]
 ·rw[Bool.not_eq_false']at h;have h0:=sf h;have hC:k7 L k a n false=true:=h;obtain⟨⟨p1,p2⟩,p3,p4⟩:=Jm hC;obtain⟨r1,r2,r3,r4⟩:=nL hL p1;obtain⟨e1,e2,e3,e4⟩:=wg p3 (by rw[p4];rfl)
  refine⟨rfl,fun h=>?_,fun _=>⟨fun h=>?_,fun _=>⟨⟨r2,r3⟩,e1,e2,r4,?_,rfl,rfl,rfl,h0.1.symm⟩⟩⟩
  ·rw[p4]at h;simp at h
  ·rw[p3]at h;simp at h
  ·unfold jA;rw[Yv hC];exact e3
theorem TC:ck Tryz.prog 128 WB:=
 eO (aJ ju (aJ gR (aJ ft (aJ ft cF)))) (fun _=>rfl) fun a hq hok=>by
  obtain⟨L,k,i,n,_⟩:=a;exact aV (inl:=(fun f=>f==117||f==113)) (ann:=aP) (ab Fq (ab uA (ab rY ak))) (Th L k i n hq) (by kernel_rfl)
theorem QN (k:Key) (a:Int) (s:ByteArray) (hs:aw s):
 aG IntKind.i64 (bW s)/\((!decide (bR [] k a (bW s)=0)|| !decide (bH [] k a (bW s) true=0))=true->bH [] k a (bW s) true=bH [] k a (bW s) true/\eV [] k a (bW s) true=eV
  [] k a (bW s) true/\eR [] k a (bW s) true=eR [] k a (bW s) true/\bR [] k a (bW s)=bR [] k a (bW s))/\((!decide (bR [] k a (bW s)=0)|| !decide (bH [] k a (bW s) true=0))=
  false->true=true/\0=bH [] k a (bW s) true/\void=eV [] k a (bW s) true/\0=eR [] k a (bW s) true/\0=bR [] k a (bW s)):=by
 have hsz:aG IntKind.i64 (bW s):=by unfold aw at hs;simp only[aG,bY,bW];omega
 rw[sE];refine⟨hsz,fun h=>⟨rfl,rfl,rfl,rfl⟩,fun h=>?_⟩
 rw[Bool.not_eq_false']at h;have:=(xX (sf h).1).1;have h1:c9 [] k a=1:=rfl;omega
theorem Qg (k:Key) (a:Int) (s:ByteArray) (hs:aw s):
 aG IntKind.i64 (bW s)/\((!decide (bR [] k a (bW s)=0)|| !decide (bH [] k a (bW s) true=0))=true->bH [] k a (bW s) true=bH [] k a (bW s) true/\eV [] k a (bW s) true=eV
  [] k a (bW s) true/\eR [] k a (bW s) true=eR [] k a (bW s) true/\bR [] k a (bW s)=bR [] k a (bW s))/\((!decide (bR [] k a (bW s)=0)|| !decide (bH [] k a (bW s) true=0))=
  false->true=true/\False):=by
 have hsz:aG IntKind.i64 (bW s):=by unfold aw at hs;simp only[aG,bY,bW];omega
 rw[sE];refine⟨hsz,fun h=>⟨rfl,rfl,rfl,rfl⟩,fun h=>?_⟩
 rw[Bool.not_eq_false']at h;have:=(xX (sf h).1).1;have h1:c9 [] k a=1:=rfl;omega
theorem TK (L:List Sx.Obj) (k:Key) (a:Int) (s:ByteArray) (hL:aq L) (hs:aw s):
 aG IntKind.i64 (bW s)/\((!decide (bR L k a (bW s)=0)|| !decide (bH L k a (bW s) true=0))=true->(bH L k a (bW s) true=bH L k a (bW s) true/\eV L k a (bW s) true=eV L k
  a (bW s) true/\eR L k a (bW s) true=eR L k a (bW s) true/\bR L k a (bW s)=bR L k a (bW s))/\L=jy L k a s)/\((!decide (bR L k a (bW s)=0)|| !decide (bH L k a (bW s)
  true=0))=false->true=true/\(aq L/\aw s)/\(0=bH L k a (bW s) true/\void=eV L k a (bW s) true/\0=eR L k a (bW s) true/\0=bR L k a (bW s))/\eg L (bV (bz L
  k a (bW s) true)) (bU (bz L k a (bW s) true)) s=jy L k a s):=by
 have hsz:aG IntKind.i64 (bW s):=by unfold aw at hs;simp only[aG,bY,bW];omega
 rw[sE];refine⟨hsz,fun h=>⟨⟨rfl,rfl,rfl,rfl⟩,?_⟩,fun h=>?_⟩
 ·rw[Bool.not_eq_true']at h;unfold jy;rw[Yu (by rw[h];simp)]
 ·rw[Bool.not_eq_false']at h;have h0:=sf h;refine⟨rfl,⟨hL,hs⟩,?_,?_⟩
  ·unfold eV eR;rw[h0.1,h0.2];exact⟨rfl,rfl,rfl,rfl⟩
  ·unfold jy;rw[Yv h]
theorem SW (L:List Sx.Obj) (k:Key) (a:Int) (s:ByteArray) (hL:aq L) (hs:aw s):ai Tryz.prog 173 [.lp 0 0,.key k,.it .i64 a,.st s] [.store tS eS L] (B8 (.tp [UJ L k a (bW s) true,.it .i64 (bR L k a (bW s))]) (jy L k a s)) (fun _ _=>False):=
 bp (inl:=bn) (ann:=aP) (ab xM (ab n7 (ab bB ak))) (aD AZ aC) (TK L k a s hL hs) (by kernel_rfl)
theorem Uf:lG Tryz.prog 173 Wt:=
 Nk (m:=fun x=> [.key x.1,.it .i64 x.2.1,.st x.2.2]) s5 (fun _=>rfl) (fun _ _=>rfl) (fun x hs=>bp (inl:=bn) (ann:=aP) (ab xM (ab n7 (ab bB ak))) (aD AZ aC) (QN x.1 x.2.1 x.2.2 hs) (by kernel_rfl)) (fun x hs=>bp (inl:=bn) (ann:=aP) (ab xM (ab n7 (ab bB ak))) (aD AZ aC) (Qg x.1 x.2.1 x.2.2 hs) (by kernel_rfl)) fun L x hL=>SW L x.1 x.2.1 x.2.2 hL.1 hL.2
theorem TV (L:List Sx.Obj) (k:Key) (a:Int) (s:ByteArray) (hL:aq L) (hs:aw s):
 aG IntKind.i64 (bW s)/\aq L/\((!decide (bR L k a (bW s)=0)|| !decide (bH L k a (bW s) true=0))=true->k7 L k a (bW s) true=false/\bH L k a (bW s) true=bH L k a (bW s)
  true/\eV L k a (bW s) true=eV L k a (bW s) true/\eR L k a (bW s) true=eR L k a (bW s) true/\bR L k a (bW s)=bR L k a (bW s))/\((!decide (bR L k a (bW s)=0)|| !decide
  (bH L k a (bW s) true=0))=false->true=true/\(aq L/\aw s)/\(jx L (bV (bz L k a (bW s) true)) (bU (bz L k a (bW s) true)) s=false->k7 L k a (bW s) true=false/\
  bH L k a (bW s) true=bH L k a (bW s) true/\eV L k a (bW s) true=eV L k a (bW s) true/\eR L k a (bW s) true=eR L k a (bW s) true/\0=bR L k a (bW s))/\(jx L (bV
  (bz L k a (bW s) true)) (bU (bz L k a (bW s) true)) s=true->k7 L k a (bW s) true=true/\(bH L k a (bW s) true=bH L k a (bW s) true/\eV L k a (bW s) true=eV L k a (bW s)
  true/\eR L k a (bW s) true=eR L k a (bW s) true/\0=bR L k a (bW s))/\eg L (bV (bz L k a (bW s) true)) (bU (bz L k a (bW s) true)) s=jy L k a s)):=by
 have hsz:aG IntKind.i64 (bW s):=by unfold aw at hs;simp only[aG,bY,bW];omega
 rw[sE];refine⟨hsz,hL,fun h=>⟨?_,rfl,rfl,rfl,rfl⟩,fun h=>?_⟩
 ·rw[Bool.not_eq_true']at h;exact h
 ·rw[Bool.not_eq_false']at h;have h0:=sf h;have hC:k7 L k a (bW s) true=true:=h;obtain⟨⟨p1,p2⟩,p3,p4⟩:=Jm hC;have hE:cq L (bV (bz L k a (bW s) true)) (bU (bz L k a (bW s) true)) s=0:=by unfold cq;rw[Yv p3,p4];rfl
  refine⟨rfl,⟨hL,hs⟩,fun h=>?_,fun _=>⟨hC,⟨rfl,rfl,rfl,h0.1.symm⟩,?_⟩⟩
  ·unfold jx at h;rw[hE]at h;simp at h
  ·unfold jy;rw[Yv hC]
theorem T0 (L:List Sx.Obj) (k:Key) (a:Int) (s:ByteArray) (hL:aq L) (hs:aw s):ai Tryz.prog 129 [.sa 0,.key k,.it .i64 a,.st s] [.ro (.arr none 163 (.ob L))] (yV (k7 L k a (bW s) true) (jy L k a s) [UJ L k a (bW s) true,.it .i64 (bR L k a (bW s))]) (fun _ _=>False):=
 bp (inl:=bn) (ann:=aP) (ab Fq ak) (aD Mq aC) (TV L k a s hL hs) (by kernel_rfl)
theorem Tz:lG Tryz.prog 129 WE:=
 iw (m:=fun x=> [.key x.1,.it .i64 x.2.1,.st x.2.2]) s5 (fun _=>rfl) (fun _ _=>rfl) fun L x hq=>T0 L x.1 x.2.1 x.2.2 hq.1 hq.2
end Go.Proofs.YtghpaegglbbocaaGreat
