import Derived.Test.YtlblcfaclmpekaaGreatCtWb
import Derived.Test.YtlblcfaclmpekaaGreatSW
set_option linter.unusedSimpArgs false
set_option linter.unusedVariables false
namespace Go.Proofs.YtlblcfaclmpekaaGreat
open Go.Sx
set_option maxRecDepth 100000
theorem N9 (k:Key) (a:Int) (n:Int) (w:Bool):
 true=true/\(decide (ah []=0)=true->void=dc (bW [] k a n w)/\0=cS (bW [] k a n w)/\void=dD (bW [] k a n w)/\0=dZ (bW [] k a n w)/\0=cx [] k a n w/\void=
  gB [] k a n w/\0=gC [] k a n w/\1=cD [] k a n)/\(decide (ah []=0)=false->((!decide (bg k=0)||aR k&&decide (ah []<=bG k))=true->void=dc (bW [] k a n
  w)/\0=cS (bW [] k a n w)/\void=dD (bW [] k a n w)/\0=dZ (bW [] k a n w)/\0=cx [] k a n w/\void=gB [] k a n w/\0=gC [] k a n w/\2=cD [] k a n)/\((!decide (bg
  k=0)||aR k&&decide (ah []<=bG k))=false->(decide (a<0)=true->void=dc (bW [] k a n w)/\0=cS (bW [] k a n w)/\void=dD (bW [] k a n w)/\0=dZ (bW [] k
  a n w)/\0=cx [] k a n w/\void=gB [] k a n w/\0=gC [] k a n w/\4=cD [] k a n)/\(decide (a<0)=false->((decide (n<0)||decide (64<n))=true->void=dc (bW [] k a n w)
  /\0=cS (bW [] k a n w)/\void=dD (bW [] k a n w)/\0=dZ (bW [] k a n w)/\0=cx [] k a n w/\void=gB [] k a n w/\0=gC [] k a n w/\4=cD [] k a n)/\((decide (n<0)||
  decide (64<n))=false->((!decide (fo (ay [] k a)=0))=true->void=dc (bW [] k a n w)/\0=cS (bW [] k a n w)/\void=dD (bW [] k a n w)/\0=dZ (bW [] k a n w)/\fo
  (ay [] k a)=cx [] k a n w/\fY (ay [] k a)=gB [] k a n w/\fV (ay [] k a) a=gC [] k a n w/\0=cD [] k a n)/\((!decide (fo (ay [] k a)=0))=false->aL IntKind.i64
  (cS (ay [] k a)+n)/\(decide (64<cS (ay [] k a)+n)=true->true=true/\void=dc (bW [] k a n w)/\0=cS (bW [] k a n w)/\void=dD (bW [] k a n w)/\0=dZ (bW [] k
  a n w)/\5=cx [] k a n w/\dD (ay [] k a)=gB [] k a n w/\a=gC [] k a n w/\0=cD [] k a n)/\(decide (64<cS (ay [] k a)+n)=false->((w&& !decide (aT BinOp.and
  IntKind.i64 (dc (ay [] k a)).rights 1=0))=true->true=true/\void=dc (bW [] k a n w)/\0=cS (bW [] k a n w)/\void=dD (bW [] k a n w)/\0=dZ (bW [] k a n w)/\6=cx
  [] k a n w/\dD (ay [] k a)=gB [] k a n w/\a=gC [] k a n w/\0=cD [] k a n)/\((w&& !decide (aT BinOp.and IntKind.i64 (dc (ay [] k a)).rights 1=0))=false->dc (ay [] k
  a)=dc (bW [] k a n w)/\cS (ay [] k a)=cS (bW [] k a n w)/\dD (ay [] k a)=dD (bW [] k a n w)/\dZ (ay [] k a)=dZ (bW [] k a n w)/\0=cx [] k a n w/\void=gB
  [] k a n w/\0=gC [] k a n w/\0=cD [] k a n))))))):=by
 exact⟨rfl,fun h=>s9 (PI (Vm h) (by omega)) (by omega),fun h=>absurd h (by decide)⟩
theorem Sp (L:List Sx.Obj) (k:Key) (a:Int) (n:Int) (w:Bool):
 true=true/\(decide (ah L=0)=true->void=dc (bW L k a n w)/\0=cS (bW L k a n w)/\void=dD (bW L k a n w)/\0=dZ (bW L k a n w)/\0=cx L k a n w/\void=gB L k
  a n w/\0=gC L k a n w/\1=cD L k a n)/\(decide (ah L=0)=false->((!decide (bg k=0)||aR k&&decide (ah L<=bG k))=true->void=dc (bW L k a n w)/\0=cS
  (bW L k a n w)/\void=dD (bW L k a n w)/\0=dZ (bW L k a n w)/\0=cx L k a n w/\void=gB L k a n w/\0=gC L k a n w/\2=cD L k a n)/\((!decide (bg k=0)||aR k
  &&decide (ah L<=bG k))=false->(decide (a<0)=true->void=dc (bW L k a n w)/\0=cS (bW L k a n w)/\void=dD (bW L k a n w)/\0=dZ (bW L k a n w)/\0=cx L k a n
  w/\void=gB L k a n w/\0=gC L k a n w/\4=cD L k a n)/\(decide (a<0)=false->((decide (n<0)||decide (64<n))=true->void=dc (bW L k a n w)/\0=cS (bW L k a n w)/\
  void=dD (bW L k a n w)/\0=dZ (bW L k a n w)/\0=cx L k a n w/\void=gB L k a n w/\0=gC L k a n w/\4=cD L k a n)/\((decide (n<0)||decide (64<n))=false->((!decide
  (fo (ay L k a)=0))=true->void=dc (bW L k a n w)/\0=cS (bW L k a n w)/\void=dD (bW L k a n w)/\0=dZ (bW L k a n w)/\fo (ay L k a)=cx L k a n w/\fY (ay L
  k a)=gB L k a n w/\fV (ay L k a) a=gC L k a n w/\0=cD L k a n)/\((!decide (fo (ay L k a)=0))=false->aL IntKind.i64 (cS (ay L k a)+n)/\(decide (64<cS (ay L k
  a)+n)=true->true=true/\void=dc (bW L k a n w)/\0=cS (bW L k a n w)/\void=dD (bW L k a n w)/\0=dZ (bW L k a n w)/\5=cx L k a n w/\dD (ay L k a)=gB L k a
  n w/\a=gC L k a n w/\0=cD L k a n)/\(decide (64<cS (ay L k a)+n)=false->((w&& !decide (aT BinOp.and IntKind.i64 (dc (ay L k a)).rights 1=0))=true->true=true/\void
  =dc (bW L k a n w)/\0=cS (bW L k a n w)/\void=dD (bW L k a n w)/\0=dZ (bW L k a n w)/\6=cx L k a n w/\dD (ay L k a)=gB L k a n w/\a=gC L k a n w/\0=cD
  L k a n)/\((w&& !decide (aT BinOp.and IntKind.i64 (dc (ay L k a)).rights 1=0))=false->dc (ay L k a)=dc (bW L k a n w)/\cS (ay L k a)=cS (bW L k a n w)/\dD (ay L
  k a)=dD (bW L k a n w)/\dZ (ay L k a)=dZ (bW L k a n w)/\0=cx L k a n w/\void=gB L k a n w/\0=gC L k a n w/\0=cD L k a n))))))):=by
 refine⟨rfl,fun h=>s9 (PI (Vm h) (by omega)) (by omega),fun h=>⟨fun h2=>?_,fun h2=>⟨fun h3=>?_,fun h3=>?_⟩⟩⟩
 ·rw[zb,Bool.not_eq_true']at h2;exact s9 (PI (by rw[To h,h2];rfl) (by omega)) (by omega)
 ·rw[zb,Bool.not_eq_false']at h2;exact s9 (PI (by rw[To h,h2,Xv rfl,Xv (Xs h3)]) (by omega)) (by omega)
 rw[zb,Bool.not_eq_false']at h2;have hW:eh L k a=0:=by rw[To h,h2,Xv rfl,Xu (Xr h3)]
 clear h h2 h3;refine⟨fun h=>s9 (VY hW h) (by omega),fun h=>?_⟩
 have hE:=VK hW h;refine⟨fun hk=>?_,fun hk=>?_⟩
 ·have hk:fo (ay L k a)≠0:=by simpa using hk
  have hk:(ay L k a).kd≠0:=hk;obtain⟨u1,u2,u3⟩:=Wo (a:=a) hk;rw[u1,u2,u3];exact zU hE (VN hE hk) hk
 have hk:fo (ay L k a)=0:=by simpa using hk
 have hk:(ay L k a).kd=0:=hk;obtain⟨⟨e1,e2⟩,e3,e4⟩:=S6 hW hk;obtain⟨f1,f2,f3⟩:=UQ hk;have hr:=AN e1 e2;obtain⟨_,n0,n1⟩:=CT hE;rw[f1,f2,f3];rw[Rg hr.1 hr.2];refine⟨by simp only[aL,cg];omega,fun h5=>?_,fun h5=>⟨fun h6=>?_,fun h6=>?_⟩⟩
 ·exact⟨rfl,zU hE (VO hE hk (Xs h5)) (by omega)⟩
 ·exact⟨rfl,zU hE (Wz hE hk (Xr h5) h6) (by omega)⟩
 ·have:=Nv hE (VV hE hk (Xr h5) h6);rw[f1,f2,f3]at this;exact this
theorem xA:cV Tryz.prog 233 U5:=
 jT (aM qQ (aM mL (aM fP (aM fP (aM QB dM))))) (fun _=>rfl) fun a hq hok=>by
  obtain⟨S,k,i,n,w,_⟩:=a;cases S with
  |none=>exact bd (inl:=(fun f=>f==235||f==237)) (ann:=aO) (ab aY (ab fj (ab cF (ab Fx an)))) (N9 k i n w) (by kernel_rfl)
  |some L=>exact bd (inl:=(fun f=>f==235||f==237)) (ann:=aO) (ab aY (ab fj (ab cF (ab Fx an)))) (Sp L k i n w) (by kernel_rfl)
theorem RG (k:Key) (a:Int) (n:Int):
 ((!decide (cD [] k a n=0)|| !decide (cx [] k a n false=0))=true->ByteArray.mk (Array.mk [])=mH [] k a n/\cx [] k a n false=cx [] k a n false/\gB [] k a n false=gB [] k a
   n false/\gC [] k a n false=gC [] k a n false/\cD [] k a n=cD [] k a n)/\((!decide (cD [] k a n=0)|| !decide (cx [] k a n false=0))=false->dW [] (dc (bW [] k a n
   false)) (cS (bW [] k a n false)) n=mH [] k a n/\0=cx [] k a n false/\void=gB [] k a n false/\0=gC [] k a n false/\0=cD [] k a n):=by
 rw[xC];refine⟨fun h=>⟨?_,rfl,rfl,rfl,rfl⟩,fun h=>?_⟩
 ·rw[Bool.not_eq_true']at h;unfold mH;rw[Xu (by rw[h];simp)]
 ·rw[Bool.not_eq_false']at h;have h0:=v7 h;unfold mH gB gC;rw[Xv h,h0.1,h0.2];exact⟨rfl,rfl,rfl,rfl,rfl⟩
theorem UW (L:List Sx.Obj) (k:Key) (a:Int) (n:Int):
 ((!decide (cD L k a n=0)|| !decide (cx L k a n false=0))=true->ByteArray.mk (Array.mk [])=mH L k a n/\cx L k a n false=cx L k a n false/\gB L k a n false=gB L k a n false
   /\gC L k a n false=gC L k a n false/\cD L k a n=cD L k a n)/\((!decide (cD L k a n=0)|| !decide (cx L k a n false=0))=false->dW L (dc (bW L k a n false)) (cS (bW
   L k a n false)) n=mH L k a n/\0=cx L k a n false/\void=gB L k a n false/\0=gC L k a n false/\0=cD L k a n):=by
 rw[xC];refine⟨fun h=>⟨?_,rfl,rfl,rfl,rfl⟩,fun h=>?_⟩
 ·rw[Bool.not_eq_true']at h;unfold mH;rw[Xu (by rw[h];simp)]
 ·rw[Bool.not_eq_false']at h;have h0:=v7 h;unfold mH gB gC;rw[Xv h,h0.1,h0.2];exact⟨rfl,rfl,rfl,rfl,rfl⟩
theorem T0:cV Tryz.prog 226 VT:=
 jT (aM qQ (aM mL (aM fP (aM fP dM)))) (fun _=>rfl) fun a hq hok=>by
  obtain⟨S,k,i,n,_⟩:=a;cases S with
  |none=>exact bd (inl:=bS) (ann:=aO) (ab xA (ab nE (ab aY an))) (RG k i n) (by kernel_rfl)
  |some L=>exact bd (inl:=bS) (ann:=aO) (ab xA (ab nE (ab aY an))) (UW L k i n) (by kernel_rfl)
theorem O0 (k:Key) (a:Int) (s:ByteArray) (hs:aw s):
 aL IntKind.i64 (cE s)/\((!decide (cD [] k a (cE s)=0)|| !decide (cx [] k a (cE s) true=0))=true->cx [] k a (cE s) true=cx [] k a (cE s) true/\gB [] k a (cE s) true=gB
  [] k a (cE s) true/\gC [] k a (cE s) true=gC [] k a (cE s) true/\cD [] k a (cE s)=cD [] k a (cE s))/\((!decide (cD [] k a (cE s)=0)|| !decide (cx [] k a (cE s) true=0))=
  false->true=true/\0=cx [] k a (cE s) true/\void=gB [] k a (cE s) true/\0=gC [] k a (cE s) true/\0=cD [] k a (cE s)):=by
 have hsz:aL IntKind.i64 (cE s):=by unfold aw at hs;simp only[aL,cg,cE];omega
 rw[xC];refine⟨hsz,fun h=>⟨rfl,rfl,rfl,rfl⟩,fun h=>?_⟩
 rw[Bool.not_eq_false']at h;have:=(CT (v7 h).1).1;have h1:eh [] k a=1:=rfl;omega
theorem MX (k:Key) (a:Int) (s:ByteArray) (hs:aw s):
 aL IntKind.i64 (cE s)/\((!decide (cD [] k a (cE s)=0)|| !decide (cx [] k a (cE s) true=0))=true->cx [] k a (cE s) true=cx [] k a (cE s) true/\gB [] k a (cE s) true=gB
  [] k a (cE s) true/\gC [] k a (cE s) true=gC [] k a (cE s) true/\cD [] k a (cE s)=cD [] k a (cE s))/\((!decide (cD [] k a (cE s)=0)|| !decide (cx [] k a (cE s) true=0))=
  false->true=true/\False):=by
 have hsz:aL IntKind.i64 (cE s):=by unfold aw at hs;simp only[aL,cg,cE];omega
 rw[xC];refine⟨hsz,fun h=>⟨rfl,rfl,rfl,rfl⟩,fun h=>?_⟩
 rw[Bool.not_eq_false']at h;have:=(CT (v7 h).1).1;have h1:eh [] k a=1:=rfl;omega
theorem QM (L:List Sx.Obj) (k:Key) (a:Int) (s:ByteArray) (hL:aq L) (hs:aw s):
 aL IntKind.i64 (cE s)/\((!decide (cD L k a (cE s)=0)|| !decide (cx L k a (cE s) true=0))=true->(cx L k a (cE s) true=cx L k a (cE s) true/\gB L k a (cE s) true=gB L k
  a (cE s) true/\gC L k a (cE s) true=gC L k a (cE s) true/\cD L k a (cE s)=cD L k a (cE s))/\L=mi L k a s)/\((!decide (cD L k a (cE s)=0)|| !decide (cx L k a (cE s)
  true=0))=false->true=true/\(aq L/\aw s)/\(0=cx L k a (cE s) true/\void=gB L k a (cE s) true/\0=gC L k a (cE s) true/\0=cD L k a (cE s))/\eR L (dc (bW L
  k a (cE s) true)) (cS (bW L k a (cE s) true)) s=mi L k a s):=by
 have hsz:aL IntKind.i64 (cE s):=by unfold aw at hs;simp only[aL,cg,cE];omega
 rw[xC];refine⟨hsz,fun h=>⟨⟨rfl,rfl,rfl,rfl⟩,?_⟩,fun h=>?_⟩
 ·rw[Bool.not_eq_true']at h;unfold mi;rw[Xu (by rw[h];simp)]
 ·rw[Bool.not_eq_false']at h;have h0:=v7 h;refine⟨rfl,⟨hL,hs⟩,?_,?_⟩
  ·unfold gB gC;rw[h0.1,h0.2];exact⟨rfl,rfl,rfl,rfl⟩
  ·unfold mi;rw[Xv h]
theorem SF (L:List Sx.Obj) (k:Key) (a:Int) (s:ByteArray) (hL:aq L) (hs:aw s):aj Tryz.prog 228 [.lp 0 0,.key k,.it .i64 a,.st s] [.store tS eS L] (AA (.tp [Vj L k a (cE s) true,.it .i64 (cD L k a (cE s))]) (mi L k a s)) (fun _ _=>False):=
 bK (inl:=bS) (ann:=aO) (ab xA (ab nE (ab aY an))) (aC zF az) (QM L k a s hL hs) (by kernel_rfl)
theorem SY:oU Tryz.prog 228 T8:=
 zO (m:=fun x=> [.key x.1,.it .i64 x.2.1,.st x.2.2]) Bm (fun _=>rfl) (fun _ _=>rfl) (fun x hs=>bK (inl:=bS) (ann:=aO) (ab xA (ab nE (ab aY an))) (aC zF az) (O0 x.1 x.2.1 x.2.2 hs) (by kernel_rfl)) (fun x hs=>bK (inl:=bS) (ann:=aO) (ab xA (ab nE (ab aY an))) (aC zF az) (MX x.1 x.2.1 x.2.2 hs) (by kernel_rfl)) fun L x hL=>SF L x.1 x.2.1 x.2.2 hL.1 hL.2
end Go.Proofs.YtlblcfaclmpekaaGreat
