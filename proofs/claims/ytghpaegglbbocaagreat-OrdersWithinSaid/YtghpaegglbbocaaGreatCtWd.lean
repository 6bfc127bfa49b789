import Derived.Test.YtghpaegglbbocaaGreatCtWb
import Derived.Test.YtghpaegglbbocaaGreatSW
set_option linter.unusedSimpArgs false
set_option linter.unusedVariables false
namespace Go.Proofs.YtghpaegglbbocaaGreat
open Go.Sx
set_option maxRecDepth 100000
theorem Kn (k:Key) (a:Int) (n:Int) (w:Bool):
 true=true/\(decide (ah []=0)=true->void=cP (bO [] k a n w)/\0=cH (bO [] k a n w)/\void=di (bO [] k a n w)/\0=dM (bO [] k a n w)/\0=bU [] k a n w/\void=
  fW [] k a n w/\0=fV [] k a n w/\1=b9 [] k a n)/\(decide (ah []=0)=false->((!decide (bf k=0)||aU k&&decide (ah []<=bW k))=true->void=cP (bO [] k a n
  w)/\0=cH (bO [] k a n w)/\void=di (bO [] k a n w)/\0=dM (bO [] k a n w)/\0=bU [] k a n w/\void=fW [] k a n w/\0=fV [] k a n w/\2=b9 [] k a n)/\((!decide (bf
  k=0)||aU k&&decide (ah []<=bW k))=false->(decide (a<0)=true->void=cP (bO [] k a n w)/\0=cH (bO [] k a n w)/\void=di (bO [] k a n w)/\0=dM (bO [] k
  a n w)/\0=bU [] k a n w/\void=fW [] k a n w/\0=fV [] k a n w/\4=b9 [] k a n)/\(decide (a<0)=false->((decide (n<0)||decide (64<n))=true->void=cP (bO [] k a n w)
  /\0=cH (bO [] k a n w)/\void=di (bO [] k a n w)/\0=dM (bO [] k a n w)/\0=bU [] k a n w/\void=fW [] k a n w/\0=fV [] k a n w/\4=b9 [] k a n)/\((decide (n<0)||
  decide (64<n))=false->((!decide (eX (ar [] k a)=0))=true->void=cP (bO [] k a n w)/\0=cH (bO [] k a n w)/\void=di (bO [] k a n w)/\0=dM (bO [] k a n w)/\eX
  (ar [] k a)=bU [] k a n w/\fD (ar [] k a)=fW [] k a n w/\fE (ar [] k a) a=fV [] k a n w/\0=b9 [] k a n)/\((!decide (eX (ar [] k a)=0))=false->aQ IntKind.i64
  (cH (ar [] k a)+n)/\(decide (64<cH (ar [] k a)+n)=true->true=true/\void=cP (bO [] k a n w)/\0=cH (bO [] k a n w)/\void=di (bO [] k a n w)/\0=dM (bO [] k
  a n w)/\5=bU [] k a n w/\di (ar [] k a)=fW [] k a n w/\a=fV [] k a n w/\0=b9 [] k a n)/\(decide (64<cH (ar [] k a)+n)=false->((w&& !decide (aO BinOp.and
  IntKind.i64 (cP (ar [] k a)).rights 1=0))=true->true=true/\void=cP (bO [] k a n w)/\0=cH (bO [] k a n w)/\void=di (bO [] k a n w)/\0=dM (bO [] k a n w)/\6=bU
  [] k a n w/\di (ar [] k a)=fW [] k a n w/\a=fV [] k a n w/\0=b9 [] k a n)/\((w&& !decide (aO BinOp.and IntKind.i64 (cP (ar [] k a)).rights 1=0))=false->cP (ar [] k
  a)=cP (bO [] k a n w)/\cH (ar [] k a)=cH (bO [] k a n w)/\di (ar [] k a)=di (bO [] k a n w)/\dM (ar [] k a)=dM (bO [] k a n w)/\0=bU [] k a n w/\void=fW
  [] k a n w/\0=fV [] k a n w/\0=b9 [] k a n))))))):=by
 exact⟨rfl,fun h=>rh (KZ (RA h) (by omega)) (by omega),fun h=>absurd h (by decide)⟩
theorem O6 (L:List Sx.Obj) (k:Key) (a:Int) (n:Int) (w:Bool):
 true=true/\(decide (ah L=0)=true->void=cP (bO L k a n w)/\0=cH (bO L k a n w)/\void=di (bO L k a n w)/\0=dM (bO L k a n w)/\0=bU L k a n w/\void=fW L k
  a n w/\0=fV L k a n w/\1=b9 L k a n)/\(decide (ah L=0)=false->((!decide (bf k=0)||aU k&&decide (ah L<=bW k))=true->void=cP (bO L k a n w)/\0=cH
  (bO L k a n w)/\void=di (bO L k a n w)/\0=dM (bO L k a n w)/\0=bU L k a n w/\void=fW L k a n w/\0=fV L k a n w/\2=b9 L k a n)/\((!decide (bf k=0)||aU k
  &&decide (ah L<=bW k))=false->(decide (a<0)=true->void=cP (bO L k a n w)/\0=cH (bO L k a n w)/\void=di (bO L k a n w)/\0=dM (bO L k a n w)/\0=bU L k a n
  w/\void=fW L k a n w/\0=fV L k a n w/\4=b9 L k a n)/\(decide (a<0)=false->((decide (n<0)||decide (64<n))=true->void=cP (bO L k a n w)/\0=cH (bO L k a n w)/\
  void=di (bO L k a n w)/\0=dM (bO L k a n w)/\0=bU L k a n w/\void=fW L k a n w/\0=fV L k a n w/\4=b9 L k a n)/\((decide (n<0)||decide (64<n))=false->((!decide
  (eX (ar L k a)=0))=true->void=cP (bO L k a n w)/\0=cH (bO L k a n w)/\void=di (bO L k a n w)/\0=dM (bO L k a n w)/\eX (ar L k a)=bU L k a n w/\fD (ar L
  k a)=fW L k a n w/\fE (ar L k a) a=fV L k a n w/\0=b9 L k a n)/\((!decide (eX (ar L k a)=0))=false->aQ IntKind.i64 (cH (ar L k a)+n)/\(decide (64<cH (ar L k
  a)+n)=true->true=true/\void=cP (bO L k a n w)/\0=cH (bO L k a n w)/\void=di (bO L k a n w)/\0=dM (bO L k a n w)/\5=bU L k a n w/\di (ar L k a)=fW L k a
  n w/\a=fV L k a n w/\0=b9 L k a n)/\(decide (64<cH (ar L k a)+n)=false->((w&& !decide (aO BinOp.and IntKind.i64 (cP (ar L k a)).rights 1=0))=true->true=true/\void
  =cP (bO L k a n w)/\0=cH (bO L k a n w)/\void=di (bO L k a n w)/\0=dM (bO L k a n w)/\6=bU L k a n w/\di (ar L k a)=fW L k a n w/\a=fV L k a n w/\0=b9
  L k a n)/\((w&& !decide (aO BinOp.and IntKind.i64 (cP (ar L k a)).rights 1=0))=false->cP (ar L k a)=cP (bO L k a n w)/\cH (ar L k a)=cH (bO L k a n w)/\di (ar L
  k a)=di (bO L k a n w)/\dM (ar L k a)=dM (bO L k a n w)/\0=bU L k a n w/\void=fW L k a n w/\0=fV L k a n w/\0=b9 L k a n))))))):=by
 refine⟨rfl,fun h=>rh (KZ (RA h) (by omega)) (by omega),fun h=>⟨fun h2=>?_,fun h2=>⟨fun h3=>?_,fun h3=>?_⟩⟩⟩
 ·rw[xa,Bool.not_eq_true']at h2;exact rh (KZ (by rw[P0 h,h2];rfl) (by omega)) (by omega)
 ·rw[xa,Bool.not_eq_false']at h2;exact rh (KZ (by rw[P0 h,h2,To rfl,To (Tl h3)]) (by omega)) (by omega)
 rw[xa,Bool.not_eq_false']at h2;have hW:dU L k a=0:=by rw[P0 h,h2,To rfl,Tn (Tk h3)]
 clear h h2 h3;refine⟨fun h=>rh (Sa hW h) (by omega),fun h=>?_⟩
 have hE:=Sp hW h;refine⟨fun hk=>?_,fun hk=>?_⟩
 ·have hk:eX (ar L k a)≠0:=by simpa using hk
  have hk:(ar L k a).kd≠0:=hk;obtain⟨u1,u2,u3⟩:=R7 (a:=a) hk;rw[u1,u2,u3];exact yK hE (SB hE hk) hk
 have hk:eX (ar L k a)=0:=by simpa using hk
 have hk:(ar L k a).kd=0:=hk;obtain⟨⟨e1,e2⟩,e3,e4⟩:=OJ hW hk;obtain⟨f1,f2,f3⟩:=QE hk;have hr:=zg e1 e2;obtain⟨_,n0,n1⟩:=Ce hE;rw[f1,f2,f3];rw[NJ hr.1 hr.2];refine⟨by simp only[aQ,cy];omega,fun h5=>?_,fun h5=>⟨fun h6=>?_,fun h6=>?_⟩⟩
 ·exact⟨rfl,yK hE (Sz hE hk (Tl h5)) (by omega)⟩
 ·exact⟨rfl,yK hE (Sg hE hk (Tk h5) h6) (by omega)⟩
 ·have:=MN hE (Sn hE hk (Tk h5) h6);rw[f1,f2,f3]at this;exact this
theorem vo:cW Tryz.prog 189 Qu:=
 kY (aY rf (aY mF (aY j6 (aY j6 (aY QI fz))))) (fun _=>rfl) fun a hq hok=>by
  obtain⟨S,k,i,n,w,_⟩:=a;cases S with
  |none=>exact bh (inl:=(fun f=>f==195||f==197)) (ann:=aL) (ab aX (ab ia (ab dX (ab DL ak)))) (Kn k i n w) (by kernel_rfl)
  |some L=>exact bh (inl:=(fun f=>f==195||f==197)) (ann:=aL) (ab aX (ab ia (ab dX (ab DL ak)))) (O6 L k i n w) (by kernel_rfl)
theorem NG (k:Key) (a:Int) (n:Int):
 ((!decide (b9 [] k a n=0)|| !decide (bU [] k a n false=0))=true->ByteArray.mk (Array.mk [])=nz [] k a n/\bU [] k a n false=bU [] k a n false/\fW [] k a n false=fW [] k a
   n false/\fV [] k a n false=fV [] k a n false/\b9 [] k a n=b9 [] k a n)/\((!decide (b9 [] k a n=0)|| !decide (bU [] k a n false=0))=false->ec [] (cP (bO [] k a n
   false)) (cH (bO [] k a n false)) n=nz [] k a n/\0=bU [] k a n false/\void=fW [] k a n false/\0=fV [] k a n false/\0=b9 [] k a n):=by
 rw[vQ];refine⟨fun h=>⟨?_,rfl,rfl,rfl,rfl⟩,fun h=>?_⟩
 ·rw[Bool.not_eq_true']at h;unfold nz;rw[Tn (by rw[h];simp)]
 ·rw[Bool.not_eq_false']at h;have h0:=vA h;unfold nz fW fV;rw[To h,h0.1,h0.2];exact⟨rfl,rfl,rfl,rfl,rfl⟩
theorem Qv (L:List Sx.Obj) (k:Key) (a:Int) (n:Int):
 ((!decide (b9 L k a n=0)|| !decide (bU L k a n false=0))=true->ByteArray.mk (Array.mk [])=nz L k a n/\bU L k a n false=bU L k a n false/\fW L k a n false=fW L k a n false
   /\fV L k a n false=fV L k a n false/\b9 L k a n=b9 L k a n)/\((!decide (b9 L k a n=0)|| !decide (bU L k a n false=0))=false->ec L (cP (bO L k a n false)) (cH (bO
   L k a n false)) n=nz L k a n/\0=bU L k a n false/\void=fW L k a n false/\0=fV L k a n false/\0=b9 L k a n):=by
 rw[vQ];refine⟨fun h=>⟨?_,rfl,rfl,rfl,rfl⟩,fun h=>?_⟩
 ·rw[Bool.not_eq_true']at h;unfold nz;rw[Tn (by rw[h];simp)]
 ·rw[Bool.not_eq_false']at h;have h0:=vA h;unfold nz fW fV;rw[To h,h0.1,h0.2];exact⟨rfl,rfl,rfl,rfl,rfl⟩
theorem Qx:cW Tryz.prog 171 SP:=
 kY (aY rf (aY mF (aY j6 (aY j6 fz)))) (fun _=>rfl) fun a hq hok=>by
  obtain⟨S,k,i,n,_⟩:=a;cases S with
  |none=>exact bh (inl:=bM) (ann:=aL) (ab vo (ab mi (ab aX ak))) (NG k i n) (by kernel_rfl)
  |some L=>exact bh (inl:=bM) (ann:=aL) (ab vo (ab mi (ab aX ak))) (Qv L k i n) (by kernel_rfl)
theorem KN (k:Key) (a:Int) (s:ByteArray) (hs:az s):
 aQ IntKind.i64 (dK s)/\((!decide (b9 [] k a (dK s)=0)|| !decide (bU [] k a (dK s) true=0))=true->bU [] k a (dK s) true=bU [] k a (dK s) true/\fW [] k a (dK s) true=fW
  [] k a (dK s) true/\fV [] k a (dK s) true=fV [] k a (dK s) true/\b9 [] k a (dK s)=b9 [] k a (dK s))/\((!decide (b9 [] k a (dK s)=0)|| !decide (bU [] k a (dK s) true=0))=
  false->true=true/\0=bU [] k a (dK s) true/\void=fW [] k a (dK s) true/\0=fV [] k a (dK s) true/\0=b9 [] k a (dK s)):=by
 have hsz:aQ IntKind.i64 (dK s):=by unfold az at hs;simp only[aQ,cy,dK];omega
 rw[vQ];refine⟨hsz,fun h=>⟨rfl,rfl,rfl,rfl⟩,fun h=>?_⟩
 rw[Bool.not_eq_false']at h;have:=(Ce (vA h).1).1;have h1:dU [] k a=1:=rfl;omega
theorem LA (k:Key) (a:Int) (s:ByteArray) (hs:az s):
 aQ IntKind.i64 (dK s)/\((!decide (b9 [] k a (dK s)=0)|| !decide (bU [] k a (dK s) true=0))=true->bU [] k a (dK s) true=bU [] k a (dK s) true/\fW [] k a (dK s) true=fW
  [] k a (dK s) true/\fV [] k a (dK s) true=fV [] k a (dK s) true/\b9 [] k a (dK s)=b9 [] k a (dK s))/\((!decide (b9 [] k a (dK s)=0)|| !decide (bU [] k a (dK s) true=0))=
  false->true=true/\False):=by
 have hsz:aQ IntKind.i64 (dK s):=by unfold az at hs;simp only[aQ,cy,dK];omega
 rw[vQ];refine⟨hsz,fun h=>⟨rfl,rfl,rfl,rfl⟩,fun h=>?_⟩
 rw[Bool.not_eq_false']at h;have:=(Ce (vA h).1).1;have h1:dU [] k a=1:=rfl;omega
theorem Oc (L:List Sx.Obj) (k:Key) (a:Int) (s:ByteArray) (hL:an L) (hs:az s):
 aQ IntKind.i64 (dK s)/\((!decide (b9 L k a (dK s)=0)|| !decide (bU L k a (dK s) true=0))=true->(bU L k a (dK s) true=bU L k a (dK s) true/\fW L k a (dK s) true=fW L k
  a (dK s) true/\fV L k a (dK s) true=fV L k a (dK s) true/\b9 L k a (dK s)=b9 L k a (dK s))/\L=j3 L k a s)/\((!decide (b9 L k a (dK s)=0)|| !decide (bU L k a (dK s)
  true=0))=false->true=true/\(an L/\az s)/\(0=bU L k a (dK s) true/\void=fW L k a (dK s) true/\0=fV L k a (dK s) true/\0=b9 L k a (dK s))/\ew L (cP (bO L
  k a (dK s) true)) (cH (bO L k a (dK s) true)) s=j3 L k a s):=by
 have hsz:aQ IntKind.i64 (dK s):=by unfold az at hs;simp only[aQ,cy,dK];omega
 rw[vQ];refine⟨hsz,fun h=>⟨⟨rfl,rfl,rfl,rfl⟩,?_⟩,fun h=>?_⟩
 ·rw[Bool.not_eq_true']at h;unfold j3;rw[Tn (by rw[h];simp)]
 ·rw[Bool.not_eq_false']at h;have h0:=vA h;refine⟨rfl,⟨hL,hs⟩,?_,?_⟩
  ·unfold fW fV;rw[h0.1,h0.2];exact⟨rfl,rfl,rfl,rfl⟩
  ·unfold j3;rw[To h]
theorem OV (L:List Sx.Obj) (k:Key) (a:Int) (s:ByteArray) (hL:an L) (hs:az s):ai Tryz.prog 173 [.lp 0 0,.key k,.it .i64 a,.st s] [.store tS eS L] (zO (.tp [RY L k a (dK s) true,.it .i64 (b9 L k a (dK s))]) (j3 L k a s)) (fun _ _=>False):=
 cg (inl:=bM) (ann:=aL) (ab vo (ab mi (ab aX ak))) (aG zk aA) (Oc L k a s hL hs) (by kernel_rfl)
theorem NF:ql Tryz.prog 173 Re:=
 Jk (m:=fun x=> [.key x.1,.it .i64 x.2.1,.st x.2.2]) Ag (fun _=>rfl) (fun _ _=>rfl) (fun x hs=>cg (inl:=bM) (ann:=aL) (ab vo (ab mi (ab aX ak))) (aG zk aA) (KN x.1 x.2.1 x.2.2 hs) (by kernel_rfl)) (fun x hs=>cg (inl:=bM) (ann:=aL) (ab vo (ab mi (ab aX ak))) (aG zk aA) (LA x.1 x.2.1 x.2.2 hs) (by kernel_rfl)) fun L x hL=>OV L x.1 x.2.1 x.2.2 hL.1 hL.2
end Go.Proofs.YtghpaegglbbocaaGreat
