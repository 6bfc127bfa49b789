import Derived.Test.YtlblcfaclmpekaaGreatCtWb
import Derived.Test.YtlblcfaclmpekaaGreatSW
set_option linter.unusedSimpArgs false
set_option linter.unusedVariables false
namespace Go.Proofs.YtlblcfaclmpekaaGreat
open Go.Sx
set_option maxRecDepth 100000
theorem LO (k:Key) (a:Int) (n:Int) (w:Bool):
 true=true/\(decide (ah []=0)=true->void=cQ (bQ [] k a n w)/\0=cK (bQ [] k a n w)/\void=dh (bQ [] k a n w)/\0=dS (bQ [] k a n w)/\0=b8 [] k a n w/\void=
  gi [] k a n w/\0=gk [] k a n w/\1=ck [] k a n)/\(decide (ah []=0)=false->((!decide (bM k=0)||aN k&&decide (ah []<=bE k))=true->void=cQ (bQ [] k a n
  w)/\0=cK (bQ [] k a n w)/\void=dh (bQ [] k a n w)/\0=dS (bQ [] k a n w)/\0=b8 [] k a n w/\void=gi [] k a n w/\0=gk [] k a n w/\2=ck [] k a n)/\((!decide (bM
  k=0)||aN k&&decide (ah []<=bE k))=false->(decide (a<0)=true->void=cQ (bQ [] k a n w)/\0=cK (bQ [] k a n w)/\void=dh (bQ [] k a n w)/\0=dS (bQ [] k
  a n w)/\0=b8 [] k a n w/\void=gi [] k a n w/\0=gk [] k a n w/\4=ck [] k a n)/\(decide (a<0)=false->((decide (n<0)||decide (64<n))=true->void=cQ (bQ [] k a n w)
  /\0=cK (bQ [] k a n w)/\void=dh (bQ [] k a n w)/\0=dS (bQ [] k a n w)/\0=b8 [] k a n w/\void=gi [] k a n w/\0=gk [] k a n w/\4=ck [] k a n)/\((decide (n<0)||
  decide (64<n))=false->((!decide (fc (aw [] k a)=0))=true->void=cQ (bQ [] k a n w)/\0=cK (bQ [] k a n w)/\void=dh (bQ [] k a n w)/\0=dS (bQ [] k a n w)/\fc
  (aw [] k a)=b8 [] k a n w/\fP (aw [] k a)=gi [] k a n w/\fM (aw [] k a) a=gk [] k a n w/\0=ck [] k a n)/\((!decide (fc (aw [] k a)=0))=false->aL IntKind.i64
  (cK (aw [] k a)+n)/\(decide (64<cK (aw [] k a)+n)=true->true=true/\void=cQ (bQ [] k a n w)/\0=cK (bQ [] k a n w)/\void=dh (bQ [] k a n w)/\0=dS (bQ [] k
  a n w)/\5=b8 [] k a n w/\dh (aw [] k a)=gi [] k a n w/\a=gk [] k a n w/\0=ck [] k a n)/\(decide (64<cK (aw [] k a)+n)=false->((w&& !decide (aS BinOp.and
  IntKind.i64 (cQ (aw [] k a)).rights 1=0))=true->true=true/\void=cQ (bQ [] k a n w)/\0=cK (bQ [] k a n w)/\void=dh (bQ [] k a n w)/\0=dS (bQ [] k a n w)/\6=b8
  [] k a n w/\dh (aw [] k a)=gi [] k a n w/\a=gk [] k a n w/\0=ck [] k a n)/\((w&& !decide (aS BinOp.and IntKind.i64 (cQ (aw [] k a)).rights 1=0))=false->cQ (aw [] k
  a)=cQ (bQ [] k a n w)/\cK (aw [] k a)=cK (bQ [] k a n w)/\dh (aw [] k a)=dh (bQ [] k a n w)/\dS (aw [] k a)=dS (bQ [] k a n w)/\0=b8 [] k a n w/\void=gi
  [] k a n w/\0=gk [] k a n w/\0=ck [] k a n))))))):=by
 exact⟨rfl,fun h=>rY (NC (Th h) (by omega)) (by omega),fun h=>absurd h (by decide)⟩
theorem PC (L:List Sx.Obj) (k:Key) (a:Int) (n:Int) (w:Bool):
 true=true/\(decide (ah L=0)=true->void=cQ (bQ L k a n w)/\0=cK (bQ L k a n w)/\void=dh (bQ L k a n w)/\0=dS (bQ L k a n w)/\0=b8 L k a n w/\void=gi L k
  a n w/\0=gk L k a n w/\1=ck L k a n)/\(decide (ah L=0)=false->((!decide (bM k=0)||aN k&&decide (ah L<=bE k))=true->void=cQ (bQ L k a n w)/\0=cK
  (bQ L k a n w)/\void=dh (bQ L k a n w)/\0=dS (bQ L k a n w)/\0=b8 L k a n w/\void=gi L k a n w/\0=gk L k a n w/\2=ck L k a n)/\((!decide (bM k=0)||aN k
  &&decide (ah L<=bE k))=false->(decide (a<0)=true->void=cQ (bQ L k a n w)/\0=cK (bQ L k a n w)/\void=dh (bQ L k a n w)/\0=dS (bQ L k a n w)/\0=b8 L k a n
  w/\void=gi L k a n w/\0=gk L k a n w/\4=ck L k a n)/\(decide (a<0)=false->((decide (n<0)||decide (64<n))=true->void=cQ (bQ L k a n w)/\0=cK (bQ L k a n w)/\
  void=dh (bQ L k a n w)/\0=dS (bQ L k a n w)/\0=b8 L k a n w/\void=gi L k a n w/\0=gk L k a n w/\4=ck L k a n)/\((decide (n<0)||decide (64<n))=false->((!decide
  (fc (aw L k a)=0))=true->void=cQ (bQ L k a n w)/\0=cK (bQ L k a n w)/\void=dh (bQ L k a n w)/\0=dS (bQ L k a n w)/\fc (aw L k a)=b8 L k a n w/\fP (aw L
  k a)=gi L k a n w/\fM (aw L k a) a=gk L k a n w/\0=ck L k a n)/\((!decide (fc (aw L k a)=0))=false->aL IntKind.i64 (cK (aw L k a)+n)/\(decide (64<cK (aw L k
  a)+n)=true->true=true/\void=cQ (bQ L k a n w)/\0=cK (bQ L k a n w)/\void=dh (bQ L k a n w)/\0=dS (bQ L k a n w)/\5=b8 L k a n w/\dh (aw L k a)=gi L k a
  n w/\a=gk L k a n w/\0=ck L k a n)/\(decide (64<cK (aw L k a)+n)=false->((w&& !decide (aS BinOp.and IntKind.i64 (cQ (aw L k a)).rights 1=0))=true->true=true/\void
  =cQ (bQ L k a n w)/\0=cK (bQ L k a n w)/\void=dh (bQ L k a n w)/\0=dS (bQ L k a n w)/\6=b8 L k a n w/\dh (aw L k a)=gi L k a n w/\a=gk L k a n w/\0=ck
  L k a n)/\((w&& !decide (aS BinOp.and IntKind.i64 (cQ (aw L k a)).rights 1=0))=false->cQ (aw L k a)=cQ (bQ L k a n w)/\cK (aw L k a)=cK (bQ L k a n w)/\dh (aw L
  k a)=dh (bQ L k a n w)/\dS (aw L k a)=dS (bQ L k a n w)/\0=b8 L k a n w/\void=gi L k a n w/\0=gk L k a n w/\0=ck L k a n))))))):=by
 refine⟨rfl,fun h=>rY (NC (Th h) (by omega)) (by omega),fun h=>⟨fun h2=>?_,fun h2=>⟨fun h3=>?_,fun h3=>?_⟩⟩⟩
 ·rw[xi,Bool.not_eq_true']at h2;exact rY (NC (by rw[Q9 h,h2];rfl) (by omega)) (by omega)
 ·rw[xi,Bool.not_eq_false']at h2;exact rY (NC (by rw[Q9 h,h2,U0 rfl,U0 (UX h3)]) (by omega)) (by omega)
 rw[xi,Bool.not_eq_false']at h2;have hW:dX L k a=0:=by rw[Q9 h,h2,U0 rfl,UZ (UW h3)]
 clear h h2 h3;refine⟨fun h=>rY (Tw hW h) (by omega),fun h=>?_⟩
 have hE:=TC hW h;refine⟨fun hk=>?_,fun hk=>?_⟩
 ·have hk:fc (aw L k a)≠0:=by simpa using hk
  have hk:(aw L k a).kd≠0:=hk;obtain⟨u1,u2,u3⟩:=TA (a:=a) hk;rw[u1,u2,u3];exact yX hE (Uf hE hk) hk
 have hk:fc (aw L k a)=0:=by simpa using hk
 have hk:(aw L k a).kd=0:=hk;obtain⟨⟨e1,e2⟩,e3,e4⟩:=Pq hW hk;obtain⟨f1,f2,f3⟩:=Sj hk;have hr:=yL e1 e2;obtain⟨_,n0,n1⟩:=CL hE;rw[f1,f2,f3];rw[Qs hr.1 hr.2];refine⟨by simp only[aL,b7];omega,fun h5=>?_,fun h5=>⟨fun h6=>?_,fun h6=>?_⟩⟩
 ·exact⟨rfl,yX hE (Ua hE hk (UX h5)) (by omega)⟩
 ·exact⟨rfl,yX hE (TV hE hk (UW h5) h6) (by omega)⟩
 ·have:=NX hE (T4 hE hk (UW h5) h6);rw[f1,f2,f3]at this;exact this
theorem vI:dA Tryz.prog 233 RA:=
 jB (aK qs (aK lZ (aK fE (aK fE (aK Oi dP))))) (fun _=>rfl) fun a hq hok=>by
  obtain⟨S,k,i,n,w,_⟩:=a;cases S with
  |none=>exact bx (inl:=(fun f=>f==235||f==237)) (ann:=aQ) (ab aW (ab eV (ab cy (ab Dk aq)))) (LO k i n w) (by kernel_rfl)
  |some L=>exact bx (inl:=(fun f=>f==235||f==237)) (ann:=aQ) (ab aW (ab eV (ab cy (ab Dk aq)))) (PC L k i n w) (by kernel_rfl)
theorem P6 (k:Key) (a:Int) (n:Int):
 ((!decide (ck [] k a n=0)|| !decide (b8 [] k a n false=0))=true->ByteArray.mk (Array.mk [])=me [] k a n/\b8 [] k a n false=b8 [] k a n false/\gi [] k a n false=gi [] k a
   n false/\gk [] k a n false=gk [] k a n false/\ck [] k a n=ck [] k a n)/\((!decide (ck [] k a n=0)|| !decide (b8 [] k a n false=0))=false->dN [] (cQ (bQ [] k a n
   false)) (cK (bQ [] k a n false)) n=me [] k a n/\0=b8 [] k a n false/\void=gi [] k a n false/\0=gk [] k a n false/\0=ck [] k a n):=by
 rw[vL];refine⟨fun h=>⟨?_,rfl,rfl,rfl,rfl⟩,fun h=>?_⟩
 ·rw[Bool.not_eq_true']at h;unfold me;rw[UZ (by rw[h];simp)]
 ·rw[Bool.not_eq_false']at h;have h0:=wa h;unfold me gi gk;rw[U0 h,h0.1,h0.2];exact⟨rfl,rfl,rfl,rfl,rfl⟩
theorem RP (L:List Sx.Obj) (k:Key) (a:Int) (n:Int):
 ((!decide (ck L k a n=0)|| !decide (b8 L k a n false=0))=true->ByteArray.mk (Array.mk [])=me L k a n/\b8 L k a n false=b8 L k a n false/\gi L k a n false=gi L k a n false
   /\gk L k a n false=gk L k a n false/\ck L k a n=ck L k a n)/\((!decide (ck L k a n=0)|| !decide (b8 L k a n false=0))=false->dN L (cQ (bQ L k a n false)) (cK (bQ
   L k a n false)) n=me L k a n/\0=b8 L k a n false/\void=gi L k a n false/\0=gk L k a n false/\0=ck L k a n):=by
 rw[vL];refine⟨fun h=>⟨?_,rfl,rfl,rfl,rfl⟩,fun h=>?_⟩
 ·rw[Bool.not_eq_true']at h;unfold me;rw[UZ (by rw[h];simp)]
 ·rw[Bool.not_eq_false']at h;have h0:=wa h;unfold me gi gk;rw[U0 h,h0.1,h0.2];exact⟨rfl,rfl,rfl,rfl,rfl⟩
theorem Se:dA Tryz.prog 226 Tx:=
 jB (aK qs (aK lZ (aK fE (aK fE dP)))) (fun _=>rfl) fun a hq hok=>by
  obtain⟨S,k,i,n,_⟩:=a;cases S with
  |none=>exact bx (inl:=cw) (ann:=aQ) (ab vI (ab m7 (ab aW aq))) (P6 k i n) (by kernel_rfl)
  |some L=>exact bx (inl:=cw) (ann:=aQ) (ab vI (ab m7 (ab aW aq))) (RP L k i n) (by kernel_rfl)
theorem L5 (k:Key) (a:Int) (s:ByteArray) (hs:au s):
 aL IntKind.i64 (ca s)/\((!decide (ck [] k a (ca s)=0)|| !decide (b8 [] k a (ca s) true=0))=true->b8 [] k a (ca s) true=b8 [] k a (ca s) true/\gi [] k a (ca s) true=gi
  [] k a (ca s) true/\gk [] k a (ca s) true=gk [] k a (ca s) true/\ck [] k a (ca s)=ck [] k a (ca s))/\((!decide (ck [] k a (ca s)=0)|| !decide (b8 [] k a (ca s) true=0))=
  false->true=true/\0=b8 [] k a (ca s) true/\void=gi [] k a (ca s) true/\0=gk [] k a (ca s) true/\0=ck [] k a (ca s)):=by
 have hsz:aL IntKind.i64 (ca s):=by unfold au at hs;simp only[aL,b7,ca];omega
 rw[vL];refine⟨hsz,fun h=>⟨rfl,rfl,rfl,rfl⟩,fun h=>?_⟩
 rw[Bool.not_eq_false']at h;have:=(CL (wa h).1).1;have h1:dX [] k a=1:=rfl;omega
theorem Lz (k:Key) (a:Int) (s:ByteArray) (hs:au s):
 aL IntKind.i64 (ca s)/\((!decide (ck [] k a (ca s)=0)|| !decide (b8 [] k a (ca s) true=0))=true->b8 [] k a (ca s) true=b8 [] k a (ca s) true/\gi [] k a (ca s) true=gi
  [] k a (ca s) true/\gk [] k a (ca s) true=gk [] k a (ca s) true/\ck [] k a (ca s)=ck [] k a (ca s))/\((!decide (ck [] k a (ca s)=0)|| !decide (b8 [] k a (ca s) true=0))=
  false->true=true/\False):=by
 have hsz:aL IntKind.i64 (ca s):=by unfold au at hs;simp only[aL,b7,ca];omega
 rw[vL];refine⟨hsz,fun h=>⟨rfl,rfl,rfl,rfl⟩,fun h=>?_⟩
 rw[Bool.not_eq_false']at h;have:=(CL (wa h).1).1;have h1:dX [] k a=1:=rfl;omega
theorem Qc (L:List Sx.Obj) (k:Key) (a:Int) (s:ByteArray) (hL:an L) (hs:au s):
 aL IntKind.i64 (ca s)/\((!decide (ck L k a (ca s)=0)|| !decide (b8 L k a (ca s) true=0))=true->(b8 L k a (ca s) true=b8 L k a (ca s) true/\gi L k a (ca s) true=gi L k
  a (ca s) true/\gk L k a (ca s) true=gk L k a (ca s) true/\ck L k a (ca s)=ck L k a (ca s))/\L=mS L k a s)/\((!decide (ck L k a (ca s)=0)|| !decide (b8 L k a (ca s)
  true=0))=false->true=true/\(an L/\au s)/\(0=b8 L k a (ca s) true/\void=gi L k a (ca s) true/\0=gk L k a (ca s) true/\0=ck L k a (ca s))/\eW L (cQ (bQ L
  k a (ca s) true)) (cK (bQ L k a (ca s) true)) s=mS L k a s):=by
 have hsz:aL IntKind.i64 (ca s):=by unfold au at hs;simp only[aL,b7,ca];omega
 rw[vL];refine⟨hsz,fun h=>⟨⟨rfl,rfl,rfl,rfl⟩,?_⟩,fun h=>?_⟩
 ·rw[Bool.not_eq_true']at h;unfold mS;rw[UZ (by rw[h];simp)]
 ·rw[Bool.not_eq_false']at h;have h0:=wa h;refine⟨rfl,⟨hL,hs⟩,?_,?_⟩
  ·unfold gi gk;rw[h0.1,h0.2];exact⟨rfl,rfl,rfl,rfl⟩
  ·unfold mS;rw[U0 h]
theorem Qp (L:List Sx.Obj) (k:Key) (a:Int) (s:ByteArray) (hL:an L) (hs:au s):aj Tryz.prog 228 [.lp 0 0,.key k,.it .i64 a,.st s] [.store tS eS L] (yZ (.tp [Tg L k a (ca s) true,.it .i64 (ck L k a (ca s))]) (mS L k a s)) (fun _ _=>False):=
 bL (inl:=cw) (ann:=aQ) (ab vI (ab m7 (ab aW aq))) (aB zk ay) (Qc L k a s hL hs) (by kernel_rfl)
theorem OJ:p5 Tryz.prog 228 RC:=
 yG (m:=fun x=> [.key x.1,.it .i64 x.2.1,.st x.2.2]) An (fun _=>rfl) (fun _ _=>rfl) (fun x hs=>bL (inl:=cw) (ann:=aQ) (ab vI (ab m7 (ab aW aq))) (aB zk ay) (L5 x.1 x.2.1 x.2.2 hs) (by kernel_rfl)) (fun x hs=>bL (inl:=cw) (ann:=aQ) (ab vI (ab m7 (ab aW aq))) (aB zk ay) (Lz x.1 x.2.1 x.2.2 hs) (by kernel_rfl)) fun L x hL=>Qp L x.1 x.2.1 x.2.2 hL.1 hL.2
end Go.Proofs.YtlblcfaclmpekaaGreat
