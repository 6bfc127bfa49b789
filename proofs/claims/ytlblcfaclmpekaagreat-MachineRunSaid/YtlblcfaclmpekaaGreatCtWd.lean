import Derived.Test.YtlblcfaclmpekaaGreatCtWb
import Derived.Test.YtlblcfaclmpekaaGreatSW
set_option linter.unusedSimpArgs false
set_option linter.unusedVariables false
namespace Go.Proofs.YtlblcfaclmpekaaGreat
open Go.Sx
set_option maxRecDepth 100000
theorem M6 (k:Key) (a:Int) (n:Int) (w:Bool):
 true=true/\(decide (ah []=0)=true->void=c9 (bW [] k a n w)/\0=cS (bW [] k a n w)/\void=dB (bW [] k a n w)/\0=dZ (bW [] k a n w)/\0=cm [] k a n w/\void=
  gw [] k a n w/\0=gy [] k a n w/\1=cB [] k a n)/\(decide (ah []=0)=false->((!decide (bT k=0)||aP k&&decide (ah []<=bH k))=true->void=c9 (bW [] k a n
  w)/\0=cS (bW [] k a n w)/\void=dB (bW [] k a n w)/\0=dZ (bW [] k a n w)/\0=cm [] k a n w/\void=gw [] k a n w/\0=gy [] k a n w/\2=cB [] k a n)/\((!decide (bT
  k=0)||aP k&&decide (ah []<=bH k))=false->(decide (a<0)=true->void=c9 (bW [] k a n w)/\0=cS (bW [] k a n w)/\void=dB (bW [] k a n w)/\0=dZ (bW [] k
  a n w)/\0=cm [] k a n w/\void=gw [] k a n w/\0=gy [] k a n w/\4=cB [] k a n)/\(decide (a<0)=false->((decide (n<0)||decide (64<n))=true->void=c9 (bW [] k a n w)
  /\0=cS (bW [] k a n w)/\void=dB (bW [] k a n w)/\0=dZ (bW [] k a n w)/\0=cm [] k a n w/\void=gw [] k a n w/\0=gy [] k a n w/\4=cB [] k a n)/\((decide (n<0)||
  decide (64<n))=false->((!decide (fq (ay [] k a)=0))=true->void=c9 (bW [] k a n w)/\0=cS (bW [] k a n w)/\void=dB (bW [] k a n w)/\0=dZ (bW [] k a n w)/\fq
  (ay [] k a)=cm [] k a n w/\fU (ay [] k a)=gw [] k a n w/\fX (ay [] k a) a=gy [] k a n w/\0=cB [] k a n)/\((!decide (fq (ay [] k a)=0))=false->aM IntKind.i64
  (cS (ay [] k a)+n)/\(decide (64<cS (ay [] k a)+n)=true->true=true/\void=c9 (bW [] k a n w)/\0=cS (bW [] k a n w)/\void=dB (bW [] k a n w)/\0=dZ (bW [] k
  a n w)/\5=cm [] k a n w/\dB (ay [] k a)=gw [] k a n w/\a=gy [] k a n w/\0=cB [] k a n)/\(decide (64<cS (ay [] k a)+n)=false->((w&& !decide (aV BinOp.and
  IntKind.i64 (c9 (ay [] k a)).rights 1=0))=true->true=true/\void=c9 (bW [] k a n w)/\0=cS (bW [] k a n w)/\void=dB (bW [] k a n w)/\0=dZ (bW [] k a n w)/\6=cm
  [] k a n w/\dB (ay [] k a)=gw [] k a n w/\a=gy [] k a n w/\0=cB [] k a n)/\((w&& !decide (aV BinOp.and IntKind.i64 (c9 (ay [] k a)).rights 1=0))=false->c9 (ay [] k
  a)=c9 (bW [] k a n w)/\cS (ay [] k a)=cS (bW [] k a n w)/\dB (ay [] k a)=dB (bW [] k a n w)/\dZ (ay [] k a)=dZ (bW [] k a n w)/\0=cm [] k a n w/\void=gw
  [] k a n w/\0=gy [] k a n w/\0=cB [] k a n))))))):=by
 exact⟨rfl,fun h=>r7 (LN (TW h) (by omega)) (by omega),fun h=>absurd h (by decide)⟩
theorem Qm (L:List Sx.Obj) (k:Key) (a:Int) (n:Int) (w:Bool):
 true=true/\(decide (ah L=0)=true->void=c9 (bW L k a n w)/\0=cS (bW L k a n w)/\void=dB (bW L k a n w)/\0=dZ (bW L k a n w)/\0=cm L k a n w/\void=gw L k
  a n w/\0=gy L k a n w/\1=cB L k a n)/\(decide (ah L=0)=false->((!decide (bT k=0)||aP k&&decide (ah L<=bH k))=true->void=c9 (bW L k a n w)/\0=cS
  (bW L k a n w)/\void=dB (bW L k a n w)/\0=dZ (bW L k a n w)/\0=cm L k a n w/\void=gw L k a n w/\0=gy L k a n w/\2=cB L k a n)/\((!decide (bT k=0)||aP k
  &&decide (ah L<=bH k))=false->(decide (a<0)=true->void=c9 (bW L k a n w)/\0=cS (bW L k a n w)/\void=dB (bW L k a n w)/\0=dZ (bW L k a n w)/\0=cm L k a n
  w/\void=gw L k a n w/\0=gy L k a n w/\4=cB L k a n)/\(decide (a<0)=false->((decide (n<0)||decide (64<n))=true->void=c9 (bW L k a n w)/\0=cS (bW L k a n w)/\
  void=dB (bW L k a n w)/\0=dZ (bW L k a n w)/\0=cm L k a n w/\void=gw L k a n w/\0=gy L k a n w/\4=cB L k a n)/\((decide (n<0)||decide (64<n))=false->((!decide
  (fq (ay L k a)=0))=true->void=c9 (bW L k a n w)/\0=cS (bW L k a n w)/\void=dB (bW L k a n w)/\0=dZ (bW L k a n w)/\fq (ay L k a)=cm L k a n w/\fU (ay L
  k a)=gw L k a n w/\fX (ay L k a) a=gy L k a n w/\0=cB L k a n)/\((!decide (fq (ay L k a)=0))=false->aM IntKind.i64 (cS (ay L k a)+n)/\(decide (64<cS (ay L k
  a)+n)=true->true=true/\void=c9 (bW L k a n w)/\0=cS (bW L k a n w)/\void=dB (bW L k a n w)/\0=dZ (bW L k a n w)/\5=cm L k a n w/\dB (ay L k a)=gw L k a
  n w/\a=gy L k a n w/\0=cB L k a n)/\(decide (64<cS (ay L k a)+n)=false->((w&& !decide (aV BinOp.and IntKind.i64 (c9 (ay L k a)).rights 1=0))=true->true=true/\void
  =c9 (bW L k a n w)/\0=cS (bW L k a n w)/\void=dB (bW L k a n w)/\0=dZ (bW L k a n w)/\6=cm L k a n w/\dB (ay L k a)=gw L k a n w/\a=gy L k a n w/\0=cB
  L k a n)/\((w&& !decide (aV BinOp.and IntKind.i64 (c9 (ay L k a)).rights 1=0))=false->c9 (ay L k a)=c9 (bW L k a n w)/\cS (ay L k a)=cS (bW L k a n w)/\dB (ay L
  k a)=dB (bW L k a n w)/\dZ (ay L k a)=dZ (bW L k a n w)/\0=cm L k a n w/\void=gw L k a n w/\0=gy L k a n w/\0=cB L k a n))))))):=by
 refine⟨rfl,fun h=>r7 (LN (TW h) (by omega)) (by omega),fun h=>⟨fun h2=>?_,fun h2=>⟨fun h3=>?_,fun h3=>?_⟩⟩⟩
 ·rw[x9,Bool.not_eq_true']at h2;exact r7 (LN (by rw[RL h,h2];rfl) (by omega)) (by omega)
 ·rw[x9,Bool.not_eq_false']at h2;exact r7 (LN (by rw[RL h,h2,VN rfl,VN (VK h3)]) (by omega)) (by omega)
 rw[x9,Bool.not_eq_false']at h2;have hW:eh L k a=0:=by rw[RL h,h2,VN rfl,VM (VJ h3)]
 clear h h2 h3;refine⟨fun h=>r7 (Uj hW h) (by omega),fun h=>?_⟩
 have hE:=T9 hW h;refine⟨fun hk=>?_,fun hk=>?_⟩
 ·have hk:fq (ay L k a)≠0:=by simpa using hk
  have hk:(ay L k a).kd≠0:=hk;obtain⟨u1,u2,u3⟩:=Us (a:=a) hk;rw[u1,u2,u3];exact Ah hE (Ud hE hk) hk
 have hk:fq (ay L k a)=0:=by simpa using hk
 have hk:(ay L k a).kd=0:=hk;obtain⟨⟨e1,e2⟩,e3,e4⟩:=P8 hW hk;obtain⟨f1,f2,f3⟩:=Sm hk;have hr:=y9 e1 e2;obtain⟨_,n0,n1⟩:=Co hE;rw[f1,f2,f3];rw[Pd hr.1 hr.2];refine⟨by simp only[aM,cj];omega,fun h5=>?_,fun h5=>⟨fun h6=>?_,fun h6=>?_⟩⟩
 ·exact⟨rfl,Ah hE (U2 hE hk (VK h5)) (by omega)⟩
 ·exact⟨rfl,Ah hE (UY hE hk (VJ h5) h6) (by omega)⟩
 ·have:=Nf hE (Ut hE hk (VJ h5) h6);rw[f1,f2,f3]at this;exact this
theorem vz:dC Tryz.prog 233 SI:=
 jY (aN qK (aN mG (aN fN (aN fN (aN OV dX))))) (fun _=>rfl) fun a hq hok=>by
  obtain⟨S,k,i,n,w,_⟩:=a;cases S with
  |none=>exact bu (inl:=(fun f=>f==235||f==237)) (ann:=aR) (ab ba (ab fh (ab cF (ab Ec au)))) (M6 k i n w) (by kernel_rfl)
  |some L=>exact bu (inl:=(fun f=>f==235||f==237)) (ann:=aR) (ab ba (ab fh (ab cF (ab Ec au)))) (Qm L k i n w) (by kernel_rfl)
theorem Ri (k:Key) (a:Int) (n:Int):
 ((!decide (cB [] k a n=0)|| !decide (cm [] k a n false=0))=true->ByteArray.mk (Array.mk [])=mI [] k a n/\cm [] k a n false=cm [] k a n false/\gw [] k a n false=gw [] k a
   n false/\gy [] k a n false=gy [] k a n false/\cB [] k a n=cB [] k a n)/\((!decide (cB [] k a n=0)|| !decide (cm [] k a n false=0))=false->dV [] (c9 (bW [] k a n
   false)) (cS (bW [] k a n false)) n=mI [] k a n/\0=cm [] k a n false/\void=gw [] k a n false/\0=gy [] k a n false/\0=cB [] k a n):=by
 rw[wu];refine⟨fun h=>⟨?_,rfl,rfl,rfl,rfl⟩,fun h=>?_⟩
 ·rw[Bool.not_eq_true']at h;unfold mI;rw[VM (by rw[h];simp)]
 ·rw[Bool.not_eq_false']at h;have h0:=wL h;unfold mI gw gy;rw[VN h,h0.1,h0.2];exact⟨rfl,rfl,rfl,rfl,rfl⟩
theorem Sf (L:List Sx.Obj) (k:Key) (a:Int) (n:Int):
 ((!decide (cB L k a n=0)|| !decide (cm L k a n false=0))=true->ByteArray.mk (Array.mk [])=mI L k a n/\cm L k a n false=cm L k a n false/\gw L k a n false=gw L k a n false
   /\gy L k a n false=gy L k a n false/\cB L k a n=cB L k a n)/\((!decide (cB L k a n=0)|| !decide (cm L k a n false=0))=false->dV L (c9 (bW L k a n false)) (cS (bW
   L k a n false)) n=mI L k a n/\0=cm L k a n false/\void=gw L k a n false/\0=gy L k a n false/\0=cB L k a n):=by
 rw[wu];refine⟨fun h=>⟨?_,rfl,rfl,rfl,rfl⟩,fun h=>?_⟩
 ·rw[Bool.not_eq_true']at h;unfold mI;rw[VM (by rw[h];simp)]
 ·rw[Bool.not_eq_false']at h;have h0:=wL h;unfold mI gw gy;rw[VN h,h0.1,h0.2];exact⟨rfl,rfl,rfl,rfl,rfl⟩
theorem S1:dC Tryz.prog 226 Ul:=
 jY (aN qK (aN mG (aN fN (aN fN dX)))) (fun _=>rfl) fun a hq hok=>by
  obtain⟨S,k,i,n,_⟩:=a;cases S with
  |none=>exact bu (inl:=ca) (ann:=aR) (ab vz (ab nF (ab ba au))) (Ri k i n) (by kernel_rfl)
  |some L=>exact bu (inl:=ca) (ann:=aR) (ab vz (ab nF (ab ba au))) (Sf L k i n) (by kernel_rfl)
theorem LG (k:Key) (a:Int) (s:ByteArray) (hs:aw s):
 aM IntKind.i64 (cC s)/\((!decide (cB [] k a (cC s)=0)|| !decide (cm [] k a (cC s) true=0))=true->cm [] k a (cC s) true=cm [] k a (cC s) true/\gw [] k a (cC s) true=gw
  [] k a (cC s) true/\gy [] k a (cC s) true=gy [] k a (cC s) true/\cB [] k a (cC s)=cB [] k a (cC s))/\((!decide (cB [] k a (cC s)=0)|| !decide (cm [] k a (cC s) true=0))=
  false->true=true/\0=cm [] k a (cC s) true/\void=gw [] k a (cC s) true/\0=gy [] k a (cC s) true/\0=cB [] k a (cC s)):=by
 have hsz:aM IntKind.i64 (cC s):=by unfold aw at hs;simp only[aM,cj,cC];omega
 rw[wu];refine⟨hsz,fun h=>⟨rfl,rfl,rfl,rfl⟩,fun h=>?_⟩
 rw[Bool.not_eq_false']at h;have:=(Co (wL h).1).1;have h1:eh [] k a=1:=rfl;omega
theorem Ms (k:Key) (a:Int) (s:ByteArray) (hs:aw s):
 aM IntKind.i64 (cC s)/\((!decide (cB [] k a (cC s)=0)|| !decide (cm [] k a (cC s) true=0))=true->cm [] k a (cC s) true=cm [] k a (cC s) true/\gw [] k a (cC s) true=gw
  [] k a (cC s) true/\gy [] k a (cC s) true=gy [] k a (cC s) true/\cB [] k a (cC s)=cB [] k a (cC s))/\((!decide (cB [] k a (cC s)=0)|| !decide (cm [] k a (cC s) true=0))=
  false->true=true/\False):=by
 have hsz:aM IntKind.i64 (cC s):=by unfold aw at hs;simp only[aM,cj,cC];omega
 rw[wu];refine⟨hsz,fun h=>⟨rfl,rfl,rfl,rfl⟩,fun h=>?_⟩
 rw[Bool.not_eq_false']at h;have:=(Co (wL h).1).1;have h1:eh [] k a=1:=rfl;omega
theorem PC (L:List Sx.Obj) (k:Key) (a:Int) (s:ByteArray) (hL:ar L) (hs:aw s):
 aM IntKind.i64 (cC s)/\((!decide (cB L k a (cC s)=0)|| !decide (cm L k a (cC s) true=0))=true->(cm L k a (cC s) true=cm L k a (cC s) true/\gw L k a (cC s) true=gw L k
  a (cC s) true/\gy L k a (cC s) true=gy L k a (cC s) true/\cB L k a (cC s)=cB L k a (cC s))/\L=nz L k a s)/\((!decide (cB L k a (cC s)=0)|| !decide (cm L k a (cC s)
  true=0))=false->true=true/\(ar L/\aw s)/\(0=cm L k a (cC s) true/\void=gw L k a (cC s) true/\0=gy L k a (cC s) true/\0=cB L k a (cC s))/\ff L (c9 (bW L
  k a (cC s) true)) (cS (bW L k a (cC s) true)) s=nz L k a s):=by
 have hsz:aM IntKind.i64 (cC s):=by unfold aw at hs;simp only[aM,cj,cC];omega
 rw[wu];refine⟨hsz,fun h=>⟨⟨rfl,rfl,rfl,rfl⟩,?_⟩,fun h=>?_⟩
 ·rw[Bool.not_eq_true']at h;unfold nz;rw[VM (by rw[h];simp)]
 ·rw[Bool.not_eq_false']at h;have h0:=wL h;refine⟨rfl,⟨hL,hs⟩,?_,?_⟩
  ·unfold gw gy;rw[h0.1,h0.2];exact⟨rfl,rfl,rfl,rfl⟩
  ·unfold nz;rw[VN h]
theorem P9 (L:List Sx.Obj) (k:Key) (a:Int) (s:ByteArray) (hL:ar L) (hs:aw s):aj Tryz.prog 228 [.lp 0 0,.key k,.it .i64 a,.st s] [.store tS eS L] (zt (.tp [TB L k a (cC s) true,.it .i64 (cB L k a (cC s))]) (nz L k a s)) (fun _ _=>False):=
 bP (inl:=ca) (ann:=aR) (ab vz (ab nF (ab ba au))) (aE zd aA) (PC L k a s hL hs) (by kernel_rfl)
theorem Rx:oP Tryz.prog 228 Sj:=
 zi (m:=fun x=> [.key x.1,.it .i64 x.2.1,.st x.2.2]) BF (fun _=>rfl) (fun _ _=>rfl) (fun x hs=>bP (inl:=ca) (ann:=aR) (ab vz (ab nF (ab ba au))) (aE zd aA) (LG x.1 x.2.1 x.2.2 hs) (by kernel_rfl)) (fun x hs=>bP (inl:=ca) (ann:=aR) (ab vz (ab nF (ab ba au))) (aE zd aA) (Ms x.1 x.2.1 x.2.2 hs) (by kernel_rfl)) fun L x hL=>P9 L x.1 x.2.1 x.2.2 hL.1 hL.2
end Go.Proofs.YtlblcfaclmpekaaGreat
