import Derived.Test.YtghpaegglbbocaaGreatCtWb
import Derived.Test.YtghpaegglbbocaaGreatSW
set_option linter.unusedSimpArgs false
set_option linter.unusedVariables false
namespace Go.Proofs.YtghpaegglbbocaaGreat
open Go.Sx
set_option maxRecDepth 100000
theorem Q3 (k:Key) (a:Int) (n:Int) (w:Bool):
 true=true/\(decide (ak []=0)=true->void=bV (bz [] k a n w)/\0=bU (bz [] k a n w)/\void=cO (bz [] k a n w)/\0=dc (bz [] k a n w)/\0=bH [] k a n w/\void=
  eU [] k a n w/\0=eL [] k a n w/\1=bR [] k a n)/\(decide (ak []=0)=false->((!decide (bD k=0)||bg k&&decide (ak []<=cR k))=true->void=bV (bz [] k a n
  w)/\0=bU (bz [] k a n w)/\void=cO (bz [] k a n w)/\0=dc (bz [] k a n w)/\0=bH [] k a n w/\void=eU [] k a n w/\0=eL [] k a n w/\2=bR [] k a n)/\((!decide (bD
  k=0)||bg k&&decide (ak []<=cR k))=false->(decide (a<0)=true->void=bV (bz [] k a n w)/\0=bU (bz [] k a n w)/\void=cO (bz [] k a n w)/\0=dc (bz [] k
  a n w)/\0=bH [] k a n w/\void=eU [] k a n w/\0=eL [] k a n w/\4=bR [] k a n)/\(decide (a<0)=false->((decide (n<0)||decide (64<n))=true->void=bV (bz [] k a n w)
  /\0=bU (bz [] k a n w)/\void=cO (bz [] k a n w)/\0=dc (bz [] k a n w)/\0=bH [] k a n w/\void=eU [] k a n w/\0=eL [] k a n w/\4=bR [] k a n)/\((decide (n<0)||
  decide (64<n))=false->((!decide (ei (ar [] k a)=0))=true->void=bV (bz [] k a n w)/\0=bU (bz [] k a n w)/\void=cO (bz [] k a n w)/\0=dc (bz [] k a n w)/\ei
  (ar [] k a)=bH [] k a n w/\e9 (ar [] k a)=eU [] k a n w/\fa (ar [] k a) a=eL [] k a n w/\0=bR [] k a n)/\((!decide (ei (ar [] k a)=0))=false->aI IntKind.i64
  (bU (ar [] k a)+n)/\(decide (64<bU (ar [] k a)+n)=true->true=true/\void=bV (bz [] k a n w)/\0=bU (bz [] k a n w)/\void=cO (bz [] k a n w)/\0=dc (bz [] k
  a n w)/\5=bH [] k a n w/\cO (ar [] k a)=eU [] k a n w/\a=eL [] k a n w/\0=bR [] k a n)/\(decide (64<bU (ar [] k a)+n)=false->((w&& !decide (bd BinOp.and
  IntKind.i64 (bV (ar [] k a)).rights 1=0))=true->true=true/\void=bV (bz [] k a n w)/\0=bU (bz [] k a n w)/\void=cO (bz [] k a n w)/\0=dc (bz [] k a n w)/\6=bH
  [] k a n w/\cO (ar [] k a)=eU [] k a n w/\a=eL [] k a n w/\0=bR [] k a n)/\((w&& !decide (bd BinOp.and IntKind.i64 (bV (ar [] k a)).rights 1=0))=false->bV (ar [] k
  a)=bV (bz [] k a n w)/\bU (ar [] k a)=bU (bz [] k a n w)/\cO (ar [] k a)=cO (bz [] k a n w)/\dc (ar [] k a)=dc (bz [] k a n w)/\0=bH [] k a n w/\void=eU
  [] k a n w/\0=eL [] k a n w/\0=bR [] k a n))))))):=by
 exact⟨rfl,fun h=>oT (Mj (VI h) (by omega)) (by omega),fun h=>absurd h (by decide)⟩
theorem Tc (L:List Sx.Obj) (k:Key) (a:Int) (n:Int) (w:Bool):
 true=true/\(decide (ak L=0)=true->void=bV (bz L k a n w)/\0=bU (bz L k a n w)/\void=cO (bz L k a n w)/\0=dc (bz L k a n w)/\0=bH L k a n w/\void=eU L k
  a n w/\0=eL L k a n w/\1=bR L k a n)/\(decide (ak L=0)=false->((!decide (bD k=0)||bg k&&decide (ak L<=cR k))=true->void=bV (bz L k a n w)/\0=bU
  (bz L k a n w)/\void=cO (bz L k a n w)/\0=dc (bz L k a n w)/\0=bH L k a n w/\void=eU L k a n w/\0=eL L k a n w/\2=bR L k a n)/\((!decide (bD k=0)||bg k
  &&decide (ak L<=cR k))=false->(decide (a<0)=true->void=bV (bz L k a n w)/\0=bU (bz L k a n w)/\void=cO (bz L k a n w)/\0=dc (bz L k a n w)/\0=bH L k a n
  w/\void=eU L k a n w/\0=eL L k a n w/\4=bR L k a n)/\(decide (a<0)=false->((decide (n<0)||decide (64<n))=true->void=bV (bz L k a n w)/\0=bU (bz L k a n w)/\
  void=cO (bz L k a n w)/\0=dc (bz L k a n w)/\0=bH L k a n w/\void=eU L k a n w/\0=eL L k a n w/\4=bR L k a n)/\((decide (n<0)||decide (64<n))=false->((!decide
  (ei (ar L k a)=0))=true->void=bV (bz L k a n w)/\0=bU (bz L k a n w)/\void=cO (bz L k a n w)/\0=dc (bz L k a n w)/\ei (ar L k a)=bH L k a n w/\e9 (ar L
  k a)=eU L k a n w/\fa (ar L k a) a=eL L k a n w/\0=bR L k a n)/\((!decide (ei (ar L k a)=0))=false->aI IntKind.i64 (bU (ar L k a)+n)/\(decide (64<bU (ar L k
  a)+n)=true->true=true/\void=bV (bz L k a n w)/\0=bU (bz L k a n w)/\void=cO (bz L k a n w)/\0=dc (bz L k a n w)/\5=bH L k a n w/\cO (ar L k a)=eU L k a
  n w/\a=eL L k a n w/\0=bR L k a n)/\(decide (64<bU (ar L k a)+n)=false->((w&& !decide (bd BinOp.and IntKind.i64 (bV (ar L k a)).rights 1=0))=true->true=true/\void
  =bV (bz L k a n w)/\0=bU (bz L k a n w)/\void=cO (bz L k a n w)/\0=dc (bz L k a n w)/\6=bH L k a n w/\cO (ar L k a)=eU L k a n w/\a=eL L k a n w/\0=bR
  L k a n)/\((w&& !decide (bd BinOp.and IntKind.i64 (bV (ar L k a)).rights 1=0))=false->bV (ar L k a)=bV (bz L k a n w)/\bU (ar L k a)=bU (bz L k a n w)/\cO (ar L
  k a)=cO (bz L k a n w)/\dc (ar L k a)=dc (bz L k a n w)/\0=bH L k a n w/\void=eU L k a n w/\0=eL L k a n w/\0=bR L k a n))))))):=by
 refine⟨rfl,fun h=>oT (Mj (VI h) (by omega)) (by omega),fun h=>⟨fun h2=>?_,fun h2=>⟨fun h3=>?_,fun h3=>?_⟩⟩⟩
 ·rw[zW,Bool.not_eq_true']at h2;exact oT (Mj (by rw[Oc h,h2];rfl) (by omega)) (by omega)
 ·rw[zW,Bool.not_eq_false']at h2;exact oT (Mj (by rw[Oc h,h2,XR rfl,XR (XO h3)]) (by omega)) (by omega)
 rw[zW,Bool.not_eq_false']at h2;have hW:de L k a=0:=by rw[Oc h,h2,XR rfl,XQ (XN h3)]
 clear h h2 h3;refine⟨fun h=>oT (VK hW h) (by omega),fun h=>?_⟩
 have hE:=TS hW h;refine⟨fun hk=>?_,fun hk=>?_⟩
 ·have hk:ei (ar L k a)≠0:=by simpa using hk
  have hk:(ar L k a).kd≠0:=hk;obtain⟨u1,u2,u3⟩:=Uv (a:=a) hk;rw[u1,u2,u3];exact qv hE (Va hE hk) hk
 have hk:ei (ar L k a)=0:=by simpa using hk
 have hk:(ar L k a).kd=0:=hk;obtain⟨⟨e1,e2⟩,e3,e4⟩:=Eh hW hk;obtain⟨f1,f2,f3⟩:=JM hk;have hr:=AU e1 e2;obtain⟨_,n0,n1⟩:=xn hE;rw[f1,f2,f3];rw[Tm hr.1 hr.2];refine⟨by simp only[aI,cg];omega,fun h5=>?_,fun h5=>⟨fun h6=>?_,fun h6=>?_⟩⟩
 ·exact⟨rfl,qv hE (U4 hE hk (XO h5)) (by omega)⟩
 ·exact⟨rfl,qv hE (U8 hE hk (XN h5) h6) (by omega)⟩
 ·have:=Ff hE (V0 hE hk (XN h5) h6);rw[f1,f2,f3]at this;exact this
theorem xA:cj Tryz.prog 189 Ux:=
 eY (aJ tf (aJ gM (aJ fl (aJ fl (aJ FV cK))))) (fun _=>rfl) fun a hq hok=>by
  obtain⟨S,k,i,n,w,_⟩:=a;cases S with
  |none=>exact aW (inl:=(fun f=>f==195||f==197)) (ann:=aP) (ae bB (ae jf (ae eV (ae Fg an)))) (Q3 k i n w) (by kernel_rfl)
  |some L=>exact aW (inl:=(fun f=>f==195||f==197)) (ann:=aP) (ae bB (ae jf (ae eV (ae Fg an)))) (Tc L k i n w) (by kernel_rfl)
theorem OC (L:List Sx.Obj) (k:Key) (a:Int) (n:Int) (w:Bool) (hL:aq L):
 aq L/\((decide (de L k a=0)&&(decide (n<0)||decide (64<n)))=true->void=bV (bz L k a n w)/\0=bU (bz L k a n w)/\void=cO (bz L k a n w)/\0=dc (bz L k a n w)
  /\0=bH L k a n w/\void=eU L k a n w/\0=eL L k a n w/\4=bR L k a n)/\((decide (de L k a=0)&&(decide (n<0)||decide (64<n)))=false->((!decide (de L k a=0)|| !decide
  (ei (ar L k a)=0))=true->void=bV (bz L k a n w)/\0=bU (bz L k a n w)/\void=cO (bz L k a n w)/\0=dc (bz L k a n w)/\ei (ar L k a)=bH L k a n w/\e9 (ar L
  k a)=eU L k a n w/\fa (ar L k a) a=eL L k a n w/\de L k a=bR L k a n)/\((!decide (de L k a=0)|| !decide (ei (ar L k a)=0))=false->aI IntKind.i64 (bU (ar L k a)
  +n)/\(decide (64<bU (ar L k a)+n)=true->void=bV (bz L k a n w)/\0=bU (bz L k a n w)/\void=cO (bz L k a n w)/\0=dc (bz L k a n w)/\5=bH L k a n w/\cO
  (ar L k a)=eU L k a n w/\a=eL L k a n w/\0=bR L k a n)/\(decide (64<bU (ar L k a)+n)=false->((w&& !decide ((bV (ar L k a)).rights=0))=true->void=bV (bz L k a
  n w)/\0=bU (bz L k a n w)/\void=cO (bz L k a n w)/\0=dc (bz L k a n w)/\6=bH L k a n w/\cO (ar L k a)=eU L k a n w/\a=eL L k a n w/\0=bR L k a n)/\((w&&
  !decide ((bV (ar L k a)).rights=0))=false->bV (ar L k a)=bV (bz L k a n w)/\bU (ar L k a)=bU (bz L k a n w)/\cO (ar L k a)=cO (bz L k a n w)/\dc (ar L k a)
  =dc (bz L k a n w)/\0=bH L k a n w/\void=eU L k a n w/\0=eL L k a n w/\0=bR L k a n)))):=by
 refine⟨hL,fun h=>?_,fun h=>⟨fun h2=>?_,fun h2=>?_⟩⟩
 ·rw[XK,XL]at h;exact oT (VK h.1 h.2) (by omega)
 ·by_cases hW:de L k a=0
  ·rw[decide_eq_true hW,Bool.true_and]at h;rw[decide_eq_true hW]at h2;have hE:=TS hW h;have hk:ei (ar L k a)≠0:=by simpa using h2
   have hk:(ar L k a).kd≠0:=hk;obtain⟨u1,u2,u3⟩:=Uv (a:=a) hk;rw[u1,u2,u3,hW];exact qv hE (Va hE hk) hk
  ·have hr:ar L k a=Un:=by unfold ar;rw[XQ hW]
   rw[hr];exact oT (Mj rfl hW) hW
 simp only[Bool.or_eq_false_iff,Bool.not_eq_false',XL]at h2;obtain⟨hW,hk⟩:=h2;rw[decide_eq_true hW,Bool.true_and]at h;have hE:=TS hW h;have hk:(ar L k a).kd=0:=hk;obtain⟨⟨e1,e2⟩,e3,e4⟩:=Eh hW hk;obtain⟨f1,f2,f3⟩:=JM hk;obtain⟨_,n0,n1⟩:=xn hE;rw[f1,f2,f3];refine⟨by simp only[aI,cg];omega,fun h5=>?_,fun h5=>⟨fun h6=>?_,fun h6=>?_⟩⟩
 ·exact qv hE (U4 hE hk (XO h5)) (by omega)
 ·exact qv hE (U8 hE hk (XN h5) h6) (by omega)
 ·have:=Ff hE (V0 hE hk (XN h5) h6);rw[f1,f2,f3]at this;exact this
theorem FR:cj Tryz.prog 183 SZ:=
 eY (aJ jo (aJ gM (aJ fl (aJ fl (aJ FV cK))))) (fun _=>rfl) fun a hq hok=>by
  obtain⟨L,k,i,n,w,_⟩:=a;exact aW (inl:=bn) (ann:=aP) (ae LP an) (OC L k i n w hq) (by kernel_rfl)
theorem Tn (L:List Sx.Obj) (k:Key) (i:Int) (s:ByteArray) (hL:aq L) (hs:aA s):
 (decide (aS L k true=0)=true->aI IntKind.i64 (cc s))/\((decide (aS L k true=0)&& !bY i (cc s))=true->jl L k i s=false/\4=cm L k i s)/\((decide (aS L k
  true=0)&& !bY i (cc s))=false->((!decide (aS L k true=0))=true->jl L k i s=false/\aS L k true=cm L k i s)/\((!decide (aS L k true=0))=false->(0<=k.oid
  /\k.oid< ↑(aj L))/\k.oid.toNat<aj L/\(∃g,AO s g/\k=k/\i=i/\s=s/\Value.slice none 0 0=Value.slice none 0 0/\aS L k true=aS L k true/\0=g/\L=L/\k=k/\ah L
  k.oid.toNat free=rv L k i s g)/\∀(g:Int),AO s g->aI IntKind.i64 (cc s)/\(decide (g<cc s)=true->aI IntKind.i64 (i+g)/\Wv s g/\(0<=i+g/\i+g< ↑64)/\aI IntKind.i64
  (g+1)/\∃g',AO s g'/\FB s g'<FB s g/\k=k/\i=i/\s=s/\Value.slice none 0 0=Value.slice none 0 0/\aS L k true=aS L k true/\g+1=g'/\L=L/\k=k/\Obj.mk
  (rv L k i s g).kind (rv L k i s g).count (rv L k i s g).calls (rv L k i s g).slots ((rv L k i s g).bytes.put (i+g).toNat (sat s g.toNat))=rv L k i s g')/\(decide (g<cc s)=false->
  dN L k.oid/\jl L k i s=true/\0=cm L k i s/\cx L k.oid.toNat (rv L k i s g)=ea L k i s))):=by
 have hsz:aI IntKind.i64 (cc s):=by unfold aA at hs;simp only[aI,cg,cc];omega
 refine⟨fun _=>hsz,fun h=>?_,fun h=>⟨fun h'=>?_,fun h'=>?_⟩⟩
 ·rw[XK,XL]at h;obtain⟨e1,e2⟩:=HV h.1 h.2;exact⟨by unfold jl;rw[<-e1];rfl,e1⟩
 ·have h':aS L k true≠0:=by simpa using h'
  obtain⟨e1,e2⟩:=uz (i:=i) (z:=s) rfl h';exact⟨by unfold jl;rw[<-e1];simpa using h',e1⟩
 ·have h':aS L k true=0:=by simpa using h'
  have hi:(!bY i (cc s))=false:=by rw[h']at h;simpa using h
  have hi':bY i (cc s)=true:=by simpa using hi
  obtain⟨i0,i1,i2,i3⟩:=mi.1 hi';have i3:(s.size:Int)<=64-i:=i3;have hE:cm L k i s=0:=by unfold cm;rw[XR h',hi'];rfl
  obtain⟨r1,r2,r3,r4⟩:=nR hL (lO h').1;refine⟨⟨r2,r3⟩,r4,⟨0,⟨by omega,by omega⟩,?_⟩,fun g hg=>⟨hsz,fun hlt=>?_,fun hge=>?_⟩⟩
  ·have hz:=O0 (L:=L) (k:=k) (i:=i) (s:=s);repeat' apply And.intro
   all_goals first|with_reducible rfl|exact hz
  ·obtain⟨g0,g1⟩:=hg;have hlt:g<(s.size:Int):=XO hlt;have hs:=Qe (L:=L) (k:=k) (i:=i) (s:=s) (g:=g) i0 g0 (by omega)
   refine⟨by simp only[aI,cg];omega,⟨g0,hlt⟩,⟨by omega,by omega⟩,by simp only[aI,cg];omega,g+1,⟨by omega,by omega⟩,by unfold FB;omega,?_⟩
   repeat' apply And.intro
   all_goals first|with_reducible rfl|exact hs
  ·obtain⟨g0,g1⟩:=hg;have hge:¬g<(s.size:Int):=XN hge;have hg:g=(s.size:Int):=by omega
   subst hg;refine⟨r1,by unfold jl;simpa using hE,hE.symm,?_⟩
   unfold ea;rw[hE,XR rfl];rfl
theorem S9 (L:List Sx.Obj) (k:Key) (i:Int) (s:ByteArray) (hL:aq L) (hs:aA s):ai Tryz.prog 118 [.sa 0,.key k,.it .i64 i,.st s] [.ro (.arr none 163 (.ob L))] (yr (jl L k i s) (ea L k i s) [.it .i64 (cm L k i s)]) (fun _ _=>False):=
 br (inl:=bn) (ann:=(jC [(118,8,U7 [0,1,2,3,4,5,8,9,10,11] (fun g=> [(12,.it .i64 g)]) 11 (fun g=> .blk tO (.ob (rv L k i s g))) (AO s) (FB s))])) (ae tz (ae rR (ae j7 an))) aC (Tn L k i s hL hs) (by kernel_rfl)
theorem Kr:ll Tryz.prog 118 UU:=
 iq (m:=fun x=> [.key x.1,.it .i64 x.2.1,.st x.2.2]) su (fun _=>rfl) (fun _ _=>rfl) fun L x hq=>S9 L x.1 x.2.1 x.2.2 hq.1 hq.2
theorem Ub (k:Key) (a:Int) (n:Int):
 ((!decide (bR [] k a n=0)|| !decide (bH [] k a n false=0))=true->ByteArray.mk (Array.mk [])=jz [] k a n/\bH [] k a n false=bH [] k a n false/\eU [] k a n false=eU [] k a
   n false/\eL [] k a n false=eL [] k a n false/\bR [] k a n=bR [] k a n)/\((!decide (bR [] k a n=0)|| !decide (bH [] k a n false=0))=false->dO [] (bV (bz [] k a n
   false)) (bU (bz [] k a n false)) n=jz [] k a n/\0=bH [] k a n false/\void=eU [] k a n false/\0=eL [] k a n false/\0=bR [] k a n):=by
 rw[rJ];refine⟨fun h=>⟨?_,rfl,rfl,rfl,rfl⟩,fun h=>?_⟩
 ·rw[Bool.not_eq_true']at h;unfold jz;rw[XQ (by rw[h];simp)]
 ·rw[Bool.not_eq_false']at h;have h0:=r7 h;unfold jz eU eL;rw[XR h,h0.1,h0.2];exact⟨rfl,rfl,rfl,rfl,rfl⟩
theorem VS (L:List Sx.Obj) (k:Key) (a:Int) (n:Int):
 ((!decide (bR L k a n=0)|| !decide (bH L k a n false=0))=true->ByteArray.mk (Array.mk [])=jz L k a n/\bH L k a n false=bH L k a n false/\eU L k a n false=eU L k a n false
   /\eL L k a n false=eL L k a n false/\bR L k a n=bR L k a n)/\((!decide (bR L k a n=0)|| !decide (bH L k a n false=0))=false->dO L (bV (bz L k a n false)) (bU (bz
   L k a n false)) n=jz L k a n/\0=bH L k a n false/\void=eU L k a n false/\0=eL L k a n false/\0=bR L k a n):=by
 rw[rJ];refine⟨fun h=>⟨?_,rfl,rfl,rfl,rfl⟩,fun h=>?_⟩
 ·rw[Bool.not_eq_true']at h;unfold jz;rw[XQ (by rw[h];simp)]
 ·rw[Bool.not_eq_false']at h;have h0:=r7 h;unfold jz eU eL;rw[XR h,h0.1,h0.2];exact⟨rfl,rfl,rfl,rfl,rfl⟩
theorem UP:cj Tryz.prog 171 Xd:=
 eY (aJ tf (aJ gM (aJ fl (aJ fl cK)))) (fun _=>rfl) fun a hq hok=>by
  obtain⟨S,k,i,n,_⟩:=a;cases S with
  |none=>exact aW (inl:=bn) (ann:=aP) (ae xA (ae nP (ae bB an))) (Ub k i n) (by kernel_rfl)
  |some L=>exact aW (inl:=bn) (ann:=aP) (ae xA (ae nP (ae bB an))) (VS L k i n) (by kernel_rfl)
theorem To (L:List Sx.Obj) (k:Key) (a:Int) (n:Int) (hL:aq L):
 aq L/\((!decide (bR L k a n=0)|| !decide (bH L k a n false=0))=true->ByteArray.mk (Array.mk [])=jz L k a n/\bH L k a n false=bH L k a n false/\eU L k a n false=eU L k
  a n false/\eL L k a n false=eL L k a n false/\bR L k a n=bR L k a n)/\((!decide (bR L k a n=0)|| !decide (bH L k a n false=0))=false->true=true/\((decide (aS L (bV
  (bz L k a n false)) false=0)&& !bY (bU (bz L k a n false)) n)=true->ByteArray.mk (Array.mk [])=jz L k a n/\bH L k a n false=bH L k a n false/\eU L k a n false=eU L
  k a n false/\eL L k a n false=eL L k a n false/\0=bR L k a n)/\((decide (aS L (bV (bz L k a n false)) false=0)&& !bY (bU (bz L k a n false)) n)=false->((!decide
  (aS L (bV (bz L k a n false)) false=0))=true->ByteArray.mk (Array.mk [])=jz L k a n/\bH L k a n false=bH L k a n false/\eU L k a n false=eU L k a n false/\eL L k a n
  false=eL L k a n false/\0=bR L k a n)/\((!decide (aS L (bV (bz L k a n false)) false=0))=false->(0<=(bV (bz L k a n false)).oid/\(bV (bz L k a n false)).oid< ↑(aj
  L))/\aI IntKind.i64 (bU (bz L k a n false)+n)/\BL (bU (bz L k a n false)) (bU (bz L k a n false)+n) 64/\(bV (bz L k a n false)).oid.toNat<aj L/\Ab (ah L (bV (bz L
  k a n false)).oid.toNat free).bytes (bU (bz L k a n false)).toNat (bU (bz L k a n false)+n).toNat=jz L k a n/\bH L k a n false=bH L k a n false/\eU L k a n false=eU L k a n
  false/\eL L k a n false=eL L k a n false/\0=bR L k a n))):=by
 rw[rJ];refine⟨hL,fun h=>⟨?_,rfl,rfl,rfl,rfl⟩,fun h=>?_⟩
 ·rw[Bool.not_eq_true']at h;unfold jz;rw[XQ (by rw[h];simp)]
 ·rw[Bool.not_eq_false']at h;have h0:=r7 h;have hC:kH L k a n false=true:=h;obtain⟨⟨p1,p2⟩,p3,p4⟩:=MY hC;obtain⟨r1,r2,r3,r4⟩:=nR hL p1;obtain⟨e1,e2,e3,e4⟩:=vK p3 (by rw[p4];rfl)
  refine⟨rfl,fun h=>?_,fun _=>⟨fun h=>?_,fun _=>⟨⟨r2,r3⟩,e1,e2,r4,?_,rfl,rfl,rfl,h0.1.symm⟩⟩⟩
  ·rw[p4]at h;simp at h
  ·rw[p3]at h;simp at h
  ·unfold jz;rw[XR hC];exact e3
theorem SF:cj Tryz.prog 128 VM:=
 eY (aJ jo (aJ gM (aJ fl (aJ fl cK)))) (fun _=>rfl) fun a hq hok=>by
  obtain⟨L,k,i,n,_⟩:=a;exact aW (inl:=(fun f=>f==117||f==113)) (ann:=aP) (ae FR (ae tz (ae rR an))) (To L k i n hq) (by kernel_rfl)
theorem Oi (k:Key) (a:Int) (s:ByteArray) (hs:aA s):
 aI IntKind.i64 (cc s)/\((!decide (bR [] k a (cc s)=0)|| !decide (bH [] k a (cc s) true=0))=true->bH [] k a (cc s) true=bH [] k a (cc s) true/\eU [] k a (cc s) true=eU
  [] k a (cc s) true/\eL [] k a (cc s) true=eL [] k a (cc s) true/\bR [] k a (cc s)=bR [] k a (cc s))/\((!decide (bR [] k a (cc s)=0)|| !decide (bH [] k a (cc s) true=0))=
  false->true=true/\0=bH [] k a (cc s) true/\void=eU [] k a (cc s) true/\0=eL [] k a (cc s) true/\0=bR [] k a (cc s)):=by
 have hsz:aI IntKind.i64 (cc s):=by unfold aA at hs;simp only[aI,cg,cc];omega
 rw[rJ];refine⟨hsz,fun h=>⟨rfl,rfl,rfl,rfl⟩,fun h=>?_⟩
 rw[Bool.not_eq_false']at h;have:=(xn (r7 h).1).1;have h1:de [] k a=1:=rfl;omega
theorem N1 (k:Key) (a:Int) (s:ByteArray) (hs:aA s):
 aI IntKind.i64 (cc s)/\((!decide (bR [] k a (cc s)=0)|| !decide (bH [] k a (cc s) true=0))=true->bH [] k a (cc s) true=bH [] k a (cc s) true/\eU [] k a (cc s) true=eU
  [] k a (cc s) true/\eL [] k a (cc s) true=eL [] k a (cc s) true/\bR [] k a (cc s)=bR [] k a (cc s))/\((!decide (bR [] k a (cc s)=0)|| !decide (bH [] k a (cc s) true=0))=
  false->true=true/\False):=by
 have hsz:aI IntKind.i64 (cc s):=by unfold aA at hs;simp only[aI,cg,cc];omega
 rw[rJ];refine⟨hsz,fun h=>⟨rfl,rfl,rfl,rfl⟩,fun h=>?_⟩
 rw[Bool.not_eq_false']at h;have:=(xn (r7 h).1).1;have h1:de [] k a=1:=rfl;omega
theorem RN (L:List Sx.Obj) (k:Key) (a:Int) (s:ByteArray) (hL:aq L) (hs:aA s):
 aI IntKind.i64 (cc s)/\((!decide (bR L k a (cc s)=0)|| !decide (bH L k a (cc s) true=0))=true->(bH L k a (cc s) true=bH L k a (cc s) true/\eU L k a (cc s) true=eU L k
  a (cc s) true/\eL L k a (cc s) true=eL L k a (cc s) true/\bR L k a (cc s)=bR L k a (cc s))/\L=ju L k a s)/\((!decide (bR L k a (cc s)=0)|| !decide (bH L k a (cc s)
  true=0))=false->true=true/\(aq L/\aA s)/\(0=bH L k a (cc s) true/\void=eU L k a (cc s) true/\0=eL L k a (cc s) true/\0=bR L k a (cc s))/\ea L (bV (bz L
  k a (cc s) true)) (bU (bz L k a (cc s) true)) s=ju L k a s):=by
 have hsz:aI IntKind.i64 (cc s):=by unfold aA at hs;simp only[aI,cg,cc];omega
 rw[rJ];refine⟨hsz,fun h=>⟨⟨rfl,rfl,rfl,rfl⟩,?_⟩,fun h=>?_⟩
 ·rw[Bool.not_eq_true']at h;unfold ju;rw[XQ (by rw[h];simp)]
 ·rw[Bool.not_eq_false']at h;have h0:=r7 h;refine⟨rfl,⟨hL,hs⟩,?_,?_⟩
  ·unfold eU eL;rw[h0.1,h0.2];exact⟨rfl,rfl,rfl,rfl⟩
  ·unfold ju;rw[XR h]
theorem Sh (L:List Sx.Obj) (k:Key) (a:Int) (s:ByteArray) (hL:aq L) (hs:aA s):ai Tryz.prog 173 [.lp 0 0,.key k,.it .i64 a,.st s] [.store tS eS L] (CP (.tp [Tp L k a (cc s) true,.it .i64 (bR L k a (cc s))]) (ju L k a s)) (fun _ _=>False):=
 br (inl:=bn) (ann:=aP) (ae xA (ae nP (ae bB an))) (aF Ak aC) (RN L k a s hL hs) (by kernel_rfl)
theorem SY:ll Tryz.prog 173 VR:=
 Ii (m:=fun x=> [.key x.1,.it .i64 x.2.1,.st x.2.2]) su (fun _=>rfl) (fun _ _=>rfl) (fun x hs=>br (inl:=bn) (ann:=aP) (ae xA (ae nP (ae bB an))) (aF Ak aC) (Oi x.1 x.2.1 x.2.2 hs) (by kernel_rfl)) (fun x hs=>br (inl:=bn) (ann:=aP) (ae xA (ae nP (ae bB an))) (aF Ak aC) (N1 x.1 x.2.1 x.2.2 hs) (by kernel_rfl)) fun L x hL=>Sh L x.1 x.2.1 x.2.2 hL.1 hL.2
theorem RL (L:List Sx.Obj) (k:Key) (a:Int) (s:ByteArray) (hL:aq L) (hs:aA s):
 aI IntKind.i64 (cc s)/\aq L/\((!decide (bR L k a (cc s)=0)|| !decide (bH L k a (cc s) true=0))=true->kH L k a (cc s) true=false/\bH L k a (cc s) true=bH L k a (cc s)
  true/\eU L k a (cc s) true=eU L k a (cc s) true/\eL L k a (cc s) true=eL L k a (cc s) true/\bR L k a (cc s)=bR L k a (cc s))/\((!decide (bR L k a (cc s)=0)|| !decide
  (bH L k a (cc s) true=0))=false->true=true/\(aq L/\aA s)/\(jl L (bV (bz L k a (cc s) true)) (bU (bz L k a (cc s) true)) s=false->kH L k a (cc s) true=false/\
  bH L k a (cc s) true=bH L k a (cc s) true/\eU L k a (cc s) true=eU L k a (cc s) true/\eL L k a (cc s) true=eL L k a (cc s) true/\0=bR L k a (cc s))/\(jl L (bV
  (bz L k a (cc s) true)) (bU (bz L k a (cc s) true)) s=true->kH L k a (cc s) true=true/\(bH L k a (cc s) true=bH L k a (cc s) true/\eU L k a (cc s) true=eU L k a (cc s)
  true/\eL L k a (cc s) true=eL L k a (cc s) true/\0=bR L k a (cc s))/\ea L (bV (bz L k a (cc s) true)) (bU (bz L k a (cc s) true)) s=ju L k a s)):=by
 have hsz:aI IntKind.i64 (cc s):=by unfold aA at hs;simp only[aI,cg,cc];omega
 rw[rJ];refine⟨hsz,hL,fun h=>⟨?_,rfl,rfl,rfl,rfl⟩,fun h=>?_⟩
 ·rw[Bool.not_eq_true']at h;exact h
 ·rw[Bool.not_eq_false']at h;have h0:=r7 h;have hC:kH L k a (cc s) true=true:=h;obtain⟨⟨p1,p2⟩,p3,p4⟩:=MY hC;have hE:cm L (bV (bz L k a (cc s) true)) (bU (bz L k a (cc s) true)) s=0:=by unfold cm;rw[XR p3,p4];rfl
  refine⟨rfl,⟨hL,hs⟩,fun h=>?_,fun _=>⟨hC,⟨rfl,rfl,rfl,h0.1.symm⟩,?_⟩⟩
  ·unfold jl at h;rw[hE]at h;simp at h
  ·unfold ju;rw[XR hC]
theorem TZ (L:List Sx.Obj) (k:Key) (a:Int) (s:ByteArray) (hL:aq L) (hs:aA s):ai Tryz.prog 129 [.sa 0,.key k,.it .i64 a,.st s] [.ro (.arr none 163 (.ob L))] (yr (kH L k a (cc s) true) (ju L k a s) [Tp L k a (cc s) true,.it .i64 (bR L k a (cc s))]) (fun _ _=>False):=
 br (inl:=bn) (ann:=aP) (ae FR an) (aF Kr aC) (RL L k a s hL hs) (by kernel_rfl)
theorem S5:ll Tryz.prog 129 Vu:=
 iq (m:=fun x=> [.key x.1,.it .i64 x.2.1,.st x.2.2]) su (fun _=>rfl) (fun _ _=>rfl) fun L x hq=>TZ L x.1 x.2.1 x.2.2 hq.1 hq.2
end Go.Proofs.YtghpaegglbbocaaGreat
