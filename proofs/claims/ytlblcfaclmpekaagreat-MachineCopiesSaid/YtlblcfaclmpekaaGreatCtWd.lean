import Derived.Test.YtlblcfaclmpekaaGreatCtWb
import Derived.Test.YtlblcfaclmpekaaGreatSW
set_option linter.unusedSimpArgs false
set_option linter.unusedVariables false
namespace Go.Proofs.YtlblcfaclmpekaaGreat
open Go.Sx
set_option maxRecDepth 100000
theorem Mz (k:Key) (a:Int) (n:Int) (w:Bool):
 true=true/\(decide (aj []=0)=true->void=c9 (bX [] k a n w)/\0=cR (bX [] k a n w)/\void=dC (bX [] k a n w)/\0=dX (bX [] k a n w)/\0=cq [] k a n w/\void=
  gr [] k a n w/\0=gq [] k a n w/\1=cB [] k a n)/\(decide (aj []=0)=false->((!decide (bT k=0)||aU k&&decide (aj []<=bJ k))=true->void=c9 (bX [] k a n
  w)/\0=cR (bX [] k a n w)/\void=dC (bX [] k a n w)/\0=dX (bX [] k a n w)/\0=cq [] k a n w/\void=gr [] k a n w/\0=gq [] k a n w/\2=cB [] k a n)/\((!decide (bT
  k=0)||aU k&&decide (aj []<=bJ k))=false->(decide (a<0)=true->void=c9 (bX [] k a n w)/\0=cR (bX [] k a n w)/\void=dC (bX [] k a n w)/\0=dX (bX [] k
  a n w)/\0=cq [] k a n w/\void=gr [] k a n w/\0=gq [] k a n w/\4=cB [] k a n)/\(decide (a<0)=false->((decide (n<0)||decide (64<n))=true->void=c9 (bX [] k a n w)
  /\0=cR (bX [] k a n w)/\void=dC (bX [] k a n w)/\0=dX (bX [] k a n w)/\0=cq [] k a n w/\void=gr [] k a n w/\0=gq [] k a n w/\4=cB [] k a n)/\((decide (n<0)||
  decide (64<n))=false->((!decide (fm (aA [] k a)=0))=true->void=c9 (bX [] k a n w)/\0=cR (bX [] k a n w)/\void=dC (bX [] k a n w)/\0=dX (bX [] k a n w)/\fm
  (aA [] k a)=cq [] k a n w/\fU (aA [] k a)=gr [] k a n w/\fV (aA [] k a) a=gq [] k a n w/\0=cB [] k a n)/\((!decide (fm (aA [] k a)=0))=false->aP IntKind.i64
  (cR (aA [] k a)+n)/\(decide (64<cR (aA [] k a)+n)=true->true=true/\void=c9 (bX [] k a n w)/\0=cR (bX [] k a n w)/\void=dC (bX [] k a n w)/\0=dX (bX [] k
  a n w)/\5=cq [] k a n w/\dC (aA [] k a)=gr [] k a n w/\a=gq [] k a n w/\0=cB [] k a n)/\(decide (64<cR (aA [] k a)+n)=false->((w&& !decide (aY BinOp.and
  IntKind.i64 (c9 (aA [] k a)).rights 1=0))=true->true=true/\void=c9 (bX [] k a n w)/\0=cR (bX [] k a n w)/\void=dC (bX [] k a n w)/\0=dX (bX [] k a n w)/\6=cq
  [] k a n w/\dC (aA [] k a)=gr [] k a n w/\a=gq [] k a n w/\0=cB [] k a n)/\((w&& !decide (aY BinOp.and IntKind.i64 (c9 (aA [] k a)).rights 1=0))=false->c9 (aA [] k
  a)=c9 (bX [] k a n w)/\cR (aA [] k a)=cR (bX [] k a n w)/\dC (aA [] k a)=dC (bX [] k a n w)/\dX (aA [] k a)=dX (bX [] k a n w)/\0=cq [] k a n w/\void=gr
  [] k a n w/\0=gq [] k a n w/\0=cB [] k a n))))))):=by
 exact⟨rfl,fun h=>sT (Nm (TX h) (by omega)) (by omega),fun h=>absurd h (by decide)⟩
theorem Pv (L:List Sx.Obj) (k:Key) (a:Int) (n:Int) (w:Bool):
 true=true/\(decide (aj L=0)=true->void=c9 (bX L k a n w)/\0=cR (bX L k a n w)/\void=dC (bX L k a n w)/\0=dX (bX L k a n w)/\0=cq L k a n w/\void=gr L k
  a n w/\0=gq L k a n w/\1=cB L k a n)/\(decide (aj L=0)=false->((!decide (bT k=0)||aU k&&decide (aj L<=bJ k))=true->void=c9 (bX L k a n w)/\0=cR
  (bX L k a n w)/\void=dC (bX L k a n w)/\0=dX (bX L k a n w)/\0=cq L k a n w/\void=gr L k a n w/\0=gq L k a n w/\2=cB L k a n)/\((!decide (bT k=0)||aU k
  &&decide (aj L<=bJ k))=false->(decide (a<0)=true->void=c9 (bX L k a n w)/\0=cR (bX L k a n w)/\void=dC (bX L k a n w)/\0=dX (bX L k a n w)/\0=cq L k a n
  w/\void=gr L k a n w/\0=gq L k a n w/\4=cB L k a n)/\(decide (a<0)=false->((decide (n<0)||decide (64<n))=true->void=c9 (bX L k a n w)/\0=cR (bX L k a n w)/\
  void=dC (bX L k a n w)/\0=dX (bX L k a n w)/\0=cq L k a n w/\void=gr L k a n w/\0=gq L k a n w/\4=cB L k a n)/\((decide (n<0)||decide (64<n))=false->((!decide
  (fm (aA L k a)=0))=true->void=c9 (bX L k a n w)/\0=cR (bX L k a n w)/\void=dC (bX L k a n w)/\0=dX (bX L k a n w)/\fm (aA L k a)=cq L k a n w/\fU (aA L
  k a)=gr L k a n w/\fV (aA L k a) a=gq L k a n w/\0=cB L k a n)/\((!decide (fm (aA L k a)=0))=false->aP IntKind.i64 (cR (aA L k a)+n)/\(decide (64<cR (aA L k
  a)+n)=true->true=true/\void=c9 (bX L k a n w)/\0=cR (bX L k a n w)/\void=dC (bX L k a n w)/\0=dX (bX L k a n w)/\5=cq L k a n w/\dC (aA L k a)=gr L k a
  n w/\a=gq L k a n w/\0=cB L k a n)/\(decide (64<cR (aA L k a)+n)=false->((w&& !decide (aY BinOp.and IntKind.i64 (c9 (aA L k a)).rights 1=0))=true->true=true/\void
  =c9 (bX L k a n w)/\0=cR (bX L k a n w)/\void=dC (bX L k a n w)/\0=dX (bX L k a n w)/\6=cq L k a n w/\dC (aA L k a)=gr L k a n w/\a=gq L k a n w/\0=cB
  L k a n)/\((w&& !decide (aY BinOp.and IntKind.i64 (c9 (aA L k a)).rights 1=0))=false->c9 (aA L k a)=c9 (bX L k a n w)/\cR (aA L k a)=cR (bX L k a n w)/\dC (aA L
  k a)=dC (bX L k a n w)/\dX (aA L k a)=dX (bX L k a n w)/\0=cq L k a n w/\void=gr L k a n w/\0=gq L k a n w/\0=cB L k a n))))))):=by
 refine⟨rfl,fun h=>sT (Nm (TX h) (by omega)) (by omega),fun h=>⟨fun h2=>?_,fun h2=>⟨fun h3=>?_,fun h3=>?_⟩⟩⟩
 ·rw[yx,Bool.not_eq_true']at h2;exact sT (Nm (by rw[RZ h,h2];rfl) (by omega)) (by omega)
 ·rw[yx,Bool.not_eq_false']at h2;exact sT (Nm (by rw[RZ h,h2,VR rfl,VR (VO h3)]) (by omega)) (by omega)
 rw[yx,Bool.not_eq_false']at h2;have hW:eh L k a=0:=by rw[RZ h,h2,VR rfl,VQ (VN h3)]
 clear h h2 h3;refine⟨fun h=>sT (Uz hW h) (by omega),fun h=>?_⟩
 have hE:=UY hW h;refine⟨fun hk=>?_,fun hk=>?_⟩
 ·have hk:fm (aA L k a)≠0:=by simpa using hk
  have hk:(aA L k a).kd≠0:=hk;obtain⟨u1,u2,u3⟩:=Ul (a:=a) hk;rw[u1,u2,u3];exact ze hE (Um hE hk) hk
 have hk:fm (aA L k a)=0:=by simpa using hk
 have hk:(aA L k a).kd=0:=hk;obtain⟨⟨e1,e2⟩,e3,e4⟩:=RF hW hk;obtain⟨f1,f2,f3⟩:=TA hk;have hr:=Af e1 e2;obtain⟨_,n0,n1⟩:=CQ hE;rw[f1,f2,f3];rw[Px hr.1 hr.2];refine⟨by simp only[aP,cj];omega,fun h5=>?_,fun h5=>⟨fun h6=>?_,fun h6=>?_⟩⟩
 ·exact⟨rfl,ze hE (UM hE hk (VO h5)) (by omega)⟩
 ·exact⟨rfl,ze hE (Uv hE hk (VN h5) h6) (by omega)⟩
 ·have:=Mm hE (U2 hE hk (VN h5) h6);rw[f1,f2,f3]at this;exact this
theorem xd:dD Tryz.prog 233 S0:=
 jH (aQ qL (aQ mC (aQ fP (aQ fP (aQ Pm dU))))) (fun _=>rfl) fun a hq hok=>by
  obtain⟨S,k,i,n,w,_⟩:=a;cases S with
  |none=>exact bx (inl:=(fun f=>f==235||f==237)) (ann:=aV) (ae bd (ae fc (ae cF (ae Et ay)))) (Mz k i n w) (by kernel_rfl)
  |some L=>exact bx (inl:=(fun f=>f==235||f==237)) (ann:=aV) (ae bd (ae fc (ae cF (ae Et ay)))) (Pv L k i n w) (by kernel_rfl)
theorem PE (k:Key) (a:Int) (n:Int):
 ((!decide (cB [] k a n=0)|| !decide (cq [] k a n false=0))=true->ByteArray.mk (Array.mk [])=mH [] k a n/\cq [] k a n false=cq [] k a n false/\gr [] k a n false=gr [] k a
   n false/\gq [] k a n false=gq [] k a n false/\cB [] k a n=cB [] k a n)/\((!decide (cB [] k a n=0)|| !decide (cq [] k a n false=0))=false->dV [] (c9 (bX [] k a n
   false)) (cR (bX [] k a n false)) n=mH [] k a n/\0=cq [] k a n false/\void=gr [] k a n false/\0=gq [] k a n false/\0=cB [] k a n):=by
 rw[wX];refine⟨fun h=>⟨?_,rfl,rfl,rfl,rfl⟩,fun h=>?_⟩
 ·rw[Bool.not_eq_true']at h;unfold mH;rw[VQ (by rw[h];simp)]
 ·rw[Bool.not_eq_false']at h;have h0:=v9 h;unfold mH gr gq;rw[VR h,h0.1,h0.2];exact⟨rfl,rfl,rfl,rfl,rfl⟩
theorem Sf (L:List Sx.Obj) (k:Key) (a:Int) (n:Int):
 ((!decide (cB L k a n=0)|| !decide (cq L k a n false=0))=true->ByteArray.mk (Array.mk [])=mH L k a n/\cq L k a n false=cq L k a n false/\gr L k a n false=gr L k a n false
   /\gq L k a n false=gq L k a n false/\cB L k a n=cB L k a n)/\((!decide (cB L k a n=0)|| !decide (cq L k a n false=0))=false->dV L (c9 (bX L k a n false)) (cR (bX
   L k a n false)) n=mH L k a n/\0=cq L k a n false/\void=gr L k a n false/\0=gq L k a n false/\0=cB L k a n):=by
 rw[wX];refine⟨fun h=>⟨?_,rfl,rfl,rfl,rfl⟩,fun h=>?_⟩
 ·rw[Bool.not_eq_true']at h;unfold mH;rw[VQ (by rw[h];simp)]
 ·rw[Bool.not_eq_false']at h;have h0:=v9 h;unfold mH gr gq;rw[VR h,h0.1,h0.2];exact⟨rfl,rfl,rfl,rfl,rfl⟩
theorem Tt:dD Tryz.prog 226 UE:=
 jH (aQ qL (aQ mC (aQ fP (aQ fP dU)))) (fun _=>rfl) fun a hq hok=>by
  obtain⟨S,k,i,n,_⟩:=a;cases S with
  |none=>exact bx (inl:=ca) (ann:=aV) (ae xd (ae nC (ae bd ay))) (PE k i n) (by kernel_rfl)
  |some L=>exact bx (inl:=ca) (ann:=aV) (ae xd (ae nC (ae bd ay))) (Sf L k i n) (by kernel_rfl)
theorem Mh (k:Key) (a:Int) (s:ByteArray) (hs:az s):
 aP IntKind.i64 (cC s)/\((!decide (cB [] k a (cC s)=0)|| !decide (cq [] k a (cC s) true=0))=true->cq [] k a (cC s) true=cq [] k a (cC s) true/\gr [] k a (cC s) true=gr
  [] k a (cC s) true/\gq [] k a (cC s) true=gq [] k a (cC s) true/\cB [] k a (cC s)=cB [] k a (cC s))/\((!decide (cB [] k a (cC s)=0)|| !decide (cq [] k a (cC s) true=0))=
  false->true=true/\0=cq [] k a (cC s) true/\void=gr [] k a (cC s) true/\0=gq [] k a (cC s) true/\0=cB [] k a (cC s)):=by
 have hsz:aP IntKind.i64 (cC s):=by unfold az at hs;simp only[aP,cj,cC];omega
 rw[wX];refine⟨hsz,fun h=>⟨rfl,rfl,rfl,rfl⟩,fun h=>?_⟩
 rw[Bool.not_eq_false']at h;have:=(CQ (v9 h).1).1;have h1:eh [] k a=1:=rfl;omega
theorem Oj (k:Key) (a:Int) (s:ByteArray) (hs:az s):
 aP IntKind.i64 (cC s)/\((!decide (cB [] k a (cC s)=0)|| !decide (cq [] k a (cC s) true=0))=true->cq [] k a (cC s) true=cq [] k a (cC s) true/\gr [] k a (cC s) true=gr
  [] k a (cC s) true/\gq [] k a (cC s) true=gq [] k a (cC s) true/\cB [] k a (cC s)=cB [] k a (cC s))/\((!decide (cB [] k a (cC s)=0)|| !decide (cq [] k a (cC s) true=0))=
  false->true=true/\False):=by
 have hsz:aP IntKind.i64 (cC s):=by unfold az at hs;simp only[aP,cj,cC];omega
 rw[wX];refine⟨hsz,fun h=>⟨rfl,rfl,rfl,rfl⟩,fun h=>?_⟩
 rw[Bool.not_eq_false']at h;have:=(CQ (v9 h).1).1;have h1:eh [] k a=1:=rfl;omega
theorem QT (L:List Sx.Obj) (k:Key) (a:Int) (s:ByteArray) (hL:aw L) (hs:az s):
 aP IntKind.i64 (cC s)/\((!decide (cB L k a (cC s)=0)|| !decide (cq L k a (cC s) true=0))=true->(cq L k a (cC s) true=cq L k a (cC s) true/\gr L k a (cC s) true=gr L k
  a (cC s) true/\gq L k a (cC s) true=gq L k a (cC s) true/\cB L k a (cC s)=cB L k a (cC s))/\L=np L k a s)/\((!decide (cB L k a (cC s)=0)|| !decide (cq L k a (cC s)
  true=0))=false->true=true/\(aw L/\az s)/\(0=cq L k a (cC s) true/\void=gr L k a (cC s) true/\0=gq L k a (cC s) true/\0=cB L k a (cC s))/\fb L (c9 (bX L
  k a (cC s) true)) (cR (bX L k a (cC s) true)) s=np L k a s):=by
 have hsz:aP IntKind.i64 (cC s):=by unfold az at hs;simp only[aP,cj,cC];omega
 rw[wX];refine⟨hsz,fun h=>⟨⟨rfl,rfl,rfl,rfl⟩,?_⟩,fun h=>?_⟩
 ·rw[Bool.not_eq_true']at h;unfold np;rw[VQ (by rw[h];simp)]
 ·rw[Bool.not_eq_false']at h;have h0:=v9 h;refine⟨rfl,⟨hL,hs⟩,?_,?_⟩
  ·unfold gr gq;rw[h0.1,h0.2];exact⟨rfl,rfl,rfl,rfl⟩
  ·unfold np;rw[VR h]
theorem QY (L:List Sx.Obj) (k:Key) (a:Int) (s:ByteArray) (hL:aw L) (hs:az s):ak Tryz.prog 228 [.lp 0 0,.key k,.it .i64 a,.st s] [.store tS eS L] (Ae (.tp [T7 L k a (cC s) true,.it .i64 (cB L k a (cC s))]) (np L k a s)) (fun _ _=>False):=
 bR (inl:=ca) (ann:=aV) (ae xd (ae nC (ae bd ay))) (aF zM aB) (QT L k a s hL hs) (by kernel_rfl)
theorem Qn:oM Tryz.prog 228 Ta:=
 zF (m:=fun x=> [.key x.1,.it .i64 x.2.1,.st x.2.2]) BU (fun _=>rfl) (fun _ _=>rfl) (fun x hs=>bR (inl:=ca) (ann:=aV) (ae xd (ae nC (ae bd ay))) (aF zM aB) (Mh x.1 x.2.1 x.2.2 hs) (by kernel_rfl)) (fun x hs=>bR (inl:=ca) (ann:=aV) (ae xd (ae nC (ae bd ay))) (aF zM aB) (Oj x.1 x.2.1 x.2.2 hs) (by kernel_rfl)) fun L x hL=>QY L x.1 x.2.1 x.2.2 hL.1 hL.2
end Go.Proofs.YtlblcfaclmpekaaGreat
