import Derived.Test.YtlblcfaclmpekaaGreatMa15
set_option linter.unusedSimpArgs false
set_option linter.unusedVariables false
set_option maxRecDepth 100000
namespace Go.Proofs.YtlblcfaclmpekaaGreat
open Go.Sx
theorem XD (L:List Sx.Obj) (n:Int) (k:Key) (m:bp) (hL:aq L) (hs:aw m.data):
 true=true/\(bp.mk 190 eB void void void,L)=aP L n (kk 0 k) m:=by
 simp+decide [aP,en,eF,dI,eJ,ey,eo,dC,dv,cX,de,eY,fu,gg,gm,bL,void,cY,eB,aS,dZ,fO,fl,kk,mm,hL,hs];try grind
theorem W4 (L:List Sx.Obj) (n:Int) (k:Key) (m:bp) (hL:aq L) (hs:aw m.data):an Tryz.prog 102 [.lp 0 0] [.ro (.blk oP (iU (.it .i64 m.code) m n (.ci .i64 0) k)),.store tS eS L] (kO (aP L n ((kk 0 k)) (m))) (fun _ _=>False):=
 aY (inl:=(fun f=>f==131||f==142||f==152||f==146||f==202||f==185||f==227||f==177||f==148||f==174||f==173||f==132||f==144||f==184||f==188)) (ann:=aQ) (ae dz ar) aE (eP bZ) (XD L n k m hL hs) (by kernel_rfl)
theorem V0 (L:List Sx.Obj) (n:Int) (k:Key) (m:bp) (hL:aq L) (hs:aw m.data) (hz:¬k.kind=0):
 abb (aba (!!decide (k.kind=0)) ((bp.mk 190 eB void void void,L)=aP L n k (mm 0 m)) (abb (abb ((bp.mk 0 eB void void (abg k.kind),L)=aP L n k (mm 0 m))))):=by
 delta aba abg abb
 have hX:aP L n k (mm 0 m)=(fu k.kind,L):=by
  have hr:dI L n k (mm 0 m)=(0,fu k.kind,L):=by
   unfold dI;rw[aa1 hz,aa2 (show(mm 0 m).code=0 from rfl)]
  simp[aP,en,eF,hr]
 rw[hX];simp[hz];rfl
theorem Wa (L:List Sx.Obj) (n:Int) (k:Key) (m:bp) (hL:aq L) (hs:aw m.data) (hz:¬k.kind=0):an Tryz.prog 102 [.lp 0 0] [.ro (.blk oP (iU (.ci .i64 0) m n (.it .i64 k.kind) k)),.store tS eS L] (kO (aP L n (k) ((mm 0 m)))) (fun _ _=>False):=
 aY (inl:=(fun f=>f==131||f==142||f==152||f==146||f==202||f==185||f==227||f==177||f==148||f==174||f==173||f==132||f==144||f==184||f==188)) (ann:=aQ) (ae dz ar) aE (eP bZ) (V0 L n k m hL hs hz) (by kernel_rfl)
abbrev abF:=true=true/\False
theorem Wm (L:List Sx.Obj) (n:Int) (k:Key) (m:bp) (hL:aq L) (hs:aw m.data) (hz:¬k.kind=0) (hc:¬m.code=0) (hn:m.code<1\/de k.kind<m.code):
 abb (aba (!!decide (k.kind=0)) ((bp.mk 190 eB void void void,L)=aP L n k m) (aba (decide (m.code=0)) (abb (abb ((bp.mk 0 eB void void (abg k.kind),L)=aP L n k m))) (abb (aba (!(oc 1 1 k m||(oc 2 1 k m||(oc 2 2 k m||(oc 2 3 k m||(oc 2 4 k m||(oc 2 5 k m||(oc 2 6 k m||(oc 3 1 k m||(oc 3 2 k m||(oc 3 3 k m||(oc 3 4 k m||(oc 3 5 k m||(oc 4 1 k m||(oc 4 2 k m||(oc 4 3 k m||(oc 4 4 k m||(oc 4 5 k m||(oc 4 6 k m||(oc 5 1 k m||(oc 5 2 k m||(oc 5 3 k m||(oc 5 4 k m||(oc 5 5 k m||(oc 5 6 k m||(oc 5 7 k m||(oc 8 1 k m||(oc 8 2 k m||(oc 8 3 k m||(oc 9 1 k m||oc 10 1 k m)))))))))))))))))))))))))))))) ((bp.mk 240 eB void void void,L)=aP L n k m) (aba (oc 1 1 k m) abF (aba (oc 2 1 k m) abF (aba (oc 2 2 k m) abF (aba (oc 2 3 k m) abF (aba (oc 2 4 k m) abF (aba (oc 2 5 k m) abF (aba (oc 2 6 k m) abF (aba (oc 3 1 k m) abF (aba (oc 3 2 k m) abF (aba (oc 3 3 k m) abF (aba (oc 3 4 k m) abF (aba (oc 3 5 k m) abF (aba (oc 4 1 k m) abF (aba (oc 4 2 k m) abF (aba (oc 4 3 k m) abF (aba (oc 4 4 k m) abF (aba (oc 4 5 k m) abF (aba (oc 4 6 k m) abF (aba (oc 5 1 k m) abF (aba (oc 5 2 k m) abF (aba (oc 5 3 k m) abF (aba (oc 5 4 k m) abF (aba (oc 5 5 k m) abF (aba (oc 5 6 k m) abF (aba (oc 5 7 k m) abF (aba (oc 8 1 k m) abF (aba (oc 8 2 k m) abF (aba (oc 8 3 k m) abF (aba (oc 9 1 k m) abF (aba (oc 10 1 k m) abF False)))))))))))))))))))))))))))))))))):=by
 delta aba abg abF abb
 have hX:aP L n k m=(gg 240,L):=by
  have hr:dI L n k m=(240,cY,L):=by
   unfold dI;rw[aa1 hz,aa1 hc,aa2 (by rcases hn with h|h;exact .inl h;exact .inr (.inl h))]
  simp[aP,en,eF,hr]
 rw[hX]
 have hq:∀a b:Int,1<=b->b<=de a->oc a b k m=false:=fun a b h1 h2=>by
  cases h:oc a b k m with
  |false=>rfl
  |true=>
   unfold oc at h;simp only[aaV,aaW]at h;obtain⟨rfl,rfl⟩:=h;omega
 have f1_1:oc 1 1 k m=false:=hq 1 1 (by omega) (by decide)
 have f2_1:oc 2 1 k m=false:=hq 2 1 (by omega) (by decide)
 have f2_2:oc 2 2 k m=false:=hq 2 2 (by omega) (by decide)
 have f2_3:oc 2 3 k m=false:=hq 2 3 (by omega) (by decide)
 have f2_4:oc 2 4 k m=false:=hq 2 4 (by omega) (by decide)
 have f2_5:oc 2 5 k m=false:=hq 2 5 (by omega) (by decide)
 have f2_6:oc 2 6 k m=false:=hq 2 6 (by omega) (by decide)
 have f3_1:oc 3 1 k m=false:=hq 3 1 (by omega) (by decide)
 have f3_2:oc 3 2 k m=false:=hq 3 2 (by omega) (by decide)
 have f3_3:oc 3 3 k m=false:=hq 3 3 (by omega) (by decide)
 have f3_4:oc 3 4 k m=false:=hq 3 4 (by omega) (by decide)
 have f3_5:oc 3 5 k m=false:=hq 3 5 (by omega) (by decide)
 have f4_1:oc 4 1 k m=false:=hq 4 1 (by omega) (by decide)
 have f4_2:oc 4 2 k m=false:=hq 4 2 (by omega) (by decide)
 have f4_3:oc 4 3 k m=false:=hq 4 3 (by omega) (by decide)
 have f4_4:oc 4 4 k m=false:=hq 4 4 (by omega) (by decide)
 have f4_5:oc 4 5 k m=false:=hq 4 5 (by omega) (by decide)
 have f4_6:oc 4 6 k m=false:=hq 4 6 (by omega) (by decide)
 have f5_1:oc 5 1 k m=false:=hq 5 1 (by omega) (by decide)
 have f5_2:oc 5 2 k m=false:=hq 5 2 (by omega) (by decide)
 have f5_3:oc 5 3 k m=false:=hq 5 3 (by omega) (by decide)
 have f5_4:oc 5 4 k m=false:=hq 5 4 (by omega) (by decide)
 have f5_5:oc 5 5 k m=false:=hq 5 5 (by omega) (by decide)
 have f5_6:oc 5 6 k m=false:=hq 5 6 (by omega) (by decide)
 have f5_7:oc 5 7 k m=false:=hq 5 7 (by omega) (by decide)
 have f8_1:oc 8 1 k m=false:=hq 8 1 (by omega) (by decide)
 have f8_2:oc 8 2 k m=false:=hq 8 2 (by omega) (by decide)
 have f8_3:oc 8 3 k m=false:=hq 8 3 (by omega) (by decide)
 have f9_1:oc 9 1 k m=false:=hq 9 1 (by omega) (by decide)
 have f10_1:oc 10 1 k m=false:=hq 10 1 (by omega) (by decide)
 simp only[f1_1,f2_1,f2_2,f2_3,f2_4,f2_5,f2_6,f3_1,f3_2,f3_3,f3_4,f3_5,f4_1,f4_2,f4_3,f4_4,f4_5,f4_6,f5_1,f5_2,f5_3,f5_4,f5_5,f5_6,f5_7,f8_1,f8_2,f8_3,f9_1,f10_1];simp[hz,hc];rfl
theorem X3 (L:List Sx.Obj) (n:Int) (k:Key) (m:bp) (hL:aq L) (hs:aw m.data) (hz:¬k.kind=0) (hc:¬m.code=0) (hn:m.code<1\/de k.kind<m.code):an Tryz.prog 102 [.lp 0 0] [.ro (.blk oP (iU (.it .i64 m.code) m n (.it .i64 k.kind) k)),.store tS eS L] (kO (aP L n (k) (m))) (fun _ _=>False):=
 aY (inl:=(fun f=>f==131||f==142||f==152||f==146||f==202||f==185||f==227||f==177||f==148||f==174||f==173||f==132||f==144||f==184||f==188)) (ann:=aQ) (ae dz ar) aE (eP bZ) (Wm L n k m hL hs hz hc hn) (by kernel_rfl)
theorem uv {L:List Sx.Obj} {n:Int} {k:Key} {m:bp} {kd cd:Int} (hk:k.kind=kd) (hc:m.code=cd) (h:an Tryz.prog 102 [.lp 0 0] [.ro (.blk oP (iU (.ci .i64 cd) m n (.ci .i64 kd) k)),.store tS eS L] (kO (aP L n (kk kd k) (mm cd m))) (fun _ _=>False)):
  an Tryz.prog 102 [.lp 0 0] [.ro (.blk oP (iU (.it .i64 m.code) m n (.it .i64 k.kind) k)),.store tS eS L] (kO (aP L n k m)) (fun _ _=>False):=by
 rw[yv hk,It hc]at h;subst hk;subst hc;exact zd (c':= .ci .i64 m.code) (d':= .ci .i64 k.kind) (by simp) (fun _=>rfl) (fun _ h=>h) rfl (fun _=>rfl) (fun _ h=>h) rfl h
theorem Un (L:List Sx.Obj) (n:Int) (k:Key) (m:bp) (hL:aq L) (hs:aw m.data) (hk:aV k=true):an Tryz.prog 102 [.lp 0 0] [.ro (.blk oP (iU (.it .i64 m.code) m n (.it .i64 k.kind) k)),.store tS eS L] (kO (aP L n k m)) (fun _ _=>False):=by
 by_cases h0:k.kind=0
 ·have:=W4 L n k m hL hs;rw[yv h0]at this;exact zd (by simp) (fun _=>rfl) (fun _ h=>h) rfl (fun _=>by rw[h0];rfl) (fun _ h=>by rw[h0]at h;exact h) rfl this
 by_cases hc:m.code=0
 ·have:=Wa L n k m hL hs h0;rw[It hc]at this;exact zd (by simp) (fun _=>by rw[hc];rfl) (fun _ h=>by rw[hc]at h;exact h) rfl (fun _=>rfl) (fun _ h=>h) rfl this
 by_cases hn:m.code<1\/de k.kind<m.code
 ·exact X3 L n k m hL hs h0 hc hn
 have hkd:k.kind=1\/k.kind=2\/k.kind=3\/k.kind=4\/k.kind=5\/k.kind=8\/k.kind=9\/k.kind=10:=by
  unfold de at hn;grind
 rcases hkd with e|e|e|e|e|e|e|e
 ·have hq:de k.kind=1:=by rw[e];decide
  have hcd:m.code=1:=by omega
  have f:=hcd
  ·exact uv e f (MS L n k m hL hs)
 ·have hq:de k.kind=6:=by rw[e];decide
  have hcd:m.code=1\/m.code=2\/m.code=3\/m.code=4\/m.code=5\/m.code=6:=by omega
  rcases hcd with f|f|f|f|f|f
  ·exact uv e f (Pu L n k m hL hs)
  ·exact uv e f (Mi L n k m hL hs)
  ·exact uv e f (KX L n k m hL hs)
  ·exact uv e f (PZ L n k m hL hs)
  ·exact uv e f (QH L n k m hL hs (by rw[yv e];exact hk))
  ·exact uv e f (Ql L n k m hL hs)
 ·have hq:de k.kind=5:=by rw[e];decide
  have hcd:m.code=1\/m.code=2\/m.code=3\/m.code=4\/m.code=5:=by omega
  rcases hcd with f|f|f|f|f
  ·exact uv e f (Nl L n k m hL hs)
  ·exact uv e f (QA L n k m hL hs)
  ·exact uv e f (KQ L n k m hL hs)
  ·exact uv e f (QJ L n k m hL hs)
  ·exact uv e f (NV L n k m hL hs (by rw[yv e];exact hk))
 ·have hq:de k.kind=6:=by rw[e];decide
  have hcd:m.code=1\/m.code=2\/m.code=3\/m.code=4\/m.code=5\/m.code=6:=by omega
  rcases hcd with f|f|f|f|f|f
  ·exact uv e f (NT L n k m hL hs)
  ·exact uv e f (QF L n k m hL hs)
  ·exact uv e f (Oj L n k m hL hs)
  ·exact uv e f (P3 L n k m hL hs)
  ·exact uv e f (K5 L n k m hL hs)
  ·exact uv e f (Nt L n k m hL hs)
 ·have hq:de k.kind=7:=by rw[e];decide
  have hcd:m.code=1\/m.code=2\/m.code=3\/m.code=4\/m.code=5\/m.code=6\/m.code=7:=by omega
  rcases hcd with f|f|f|f|f|f|f
  ·exact uv e f (PS L n k m hL hs)
  ·exact uv e f (OL L n k m hL hs)
  ·exact uv e f (Lw L n k m hL hs)
  ·exact uv e f (LG L n k m hL hs)
  ·exact uv e f (Qk L n k m hL hs)
  ·exact uv e f (LC L n k m hL hs)
  ·exact uv e f (MA L n k m hL hs)
 ·have hq:de k.kind=3:=by rw[e];decide
  have hcd:m.code=1\/m.code=2\/m.code=3:=by omega
  rcases hcd with f|f|f
  ·exact uv e f (MQ L n k m hL hs)
  ·exact uv e f (KI L n k m hL hs)
  ·exact uv e f (Om L n k m hL hs)
 ·have hq:de k.kind=1:=by rw[e];decide
  have hcd:m.code=1:=by omega
  have f:=hcd
  ·exact uv e f (M4 L n k m hL hs)
 ·have hq:de k.kind=1:=by rw[e];decide
  have hcd:m.code=1:=by omega
  have f:=hcd
  ·exact uv e f (Kk L n k m hL hs)
theorem GO:lh Tryz.prog 102 Vc:=by
 intro args res K KP h;unfold Vc at h;split at h
 case h_2=>exact h.elim
 split at h
 case h_2=>exact h.elim
 rename_i j off;split at h
 case isFalse=>exact h.elim
 rename_i hoff;have hoff:=aaX.1 hoff;subst hoff;split at h
 case h_2=>exact h.elim
 rename_i t c hj;split at h
 case isFalse=>exact h.elim
 rename_i ht;have ht:=aaX.1 ht;subst ht;split at h
 case h_2=>exact h.elim
 split at h
 case h_2=>exact h.elim
 rename_i mv sv nv kv;split at h
 case h_2=>exact h.elim
 rename_i m hm;split at h
 case h_2=>exact h.elim
 rename_i i o2;split at h
 case isFalse=>exact h.elim
 rename_i hij;simp only[aaV,aaX,Bool.not_eq_true',beq_eq_false_iff_ne,ne_eq]at hij;obtain⟨rfl,hij⟩:=hij;split at h
 case h_2=>exact h.elim
 rename_i n hn;split at h
 case h_2=>exact h.elim
 rename_i k hk;split at h
 case h_2=>exact h.elim
 rename_i t2 e L hi;split at h
 case isFalse=>exact h.elim
 rename_i hc;simp only[aaV,aaX]at hc;obtain⟨rfl,rfl⟩:=hc;obtain⟨⟨hL,hs,hok⟩,h⟩:=h;have hkj:known res j:=by unfold known;rw[hj];simp
 have hki:known res i:=by unfold known;rw[hi];simp
 have hlj:=aO hkj;have hli:=aO hki;have hlj':cP res j= .blk oP (.ag [mv,.lp i 0,nv,kv]):=by unfold cP;rw[hj]
 have im:=vz (κ:=lS 0 (dV [(j,false),(i,true)])) mv (P7 hm);have inn:=vz (κ:=lS 0 (dV [(j,false),(i,true)])) nv (qV hn);have ik:=vz (κ:=lS 0 (dV [(j,false),(i,true)])) kv (C9 hk);have il:ga (lS 0 (dV [(j,false),(i,true)])) (.lp i 0)=some (.lp 1 0):=by simp[ga,lS,idxOf,dV,Ne.symm hij]
 have hb:ga (lS 0 (dV [(j,false),(i,true)])) (.ag [mv,.lp i 0,nv,kv])=some (.ag [mv,.lp 1 0,nv,kv]):=by unfold ga;rw[mg im (mg il (mg inn (mg ik rfl)))]
 have hres:fD (lS 0 (dV [(j,false),(i,true)])) res [(j,false),(i,true)]= [.ro (.blk oP (.ag [mv,.lp 1 0,nv,kv])),.store tS eS L]:=by simp only[fD,hlj',hi,gL,hb];rfl
 refine an.frame (pl:= [(j,false),(i,true)]) (args0:= [.lp 0 0]) (K0:=kO (aP L n k m)) (KP0:=fun _ _=>False) (by simp[fm,cQ.2 hkj,cQ.2 hki]) (by simpa[ju,dV,pF]using⟨⟨hlj,hij⟩,hli⟩) (by simp[eX,ga,lS,idxOf,dV]) ?_ (fun v r hv=>?_) (fun _ _ h=>h.elim)
 ·rw[hres];exact Nk (by simp) hm hn hk (Un L n k m hL hs hok)
 ·obtain⟨h1,h2⟩:=VQ hv;have hm':merge [(j,false),(i,true)] [] r res=bP res i (.store tS eS (eF L n k m)):=by simp[merge,fC,h2,gL,gG,aP]
  exact⟨[],jJ (en L n k m),rfl,by simp[kV,h2,jT],rfl,lu.kE h1 rfl,by rw[hm'];exact h⟩
theorem FR (k:Key):
 (decide (bB k=0)&&(!aZ k||decide (cy k<0)))=bJ [] k:=by
 unfold bJ bB cy aZ bf;simp only[ai,List.length_nil];grind
theorem J8 (L:List Sx.Obj) (k:Key):
 (decide (bB k=0)&&(!aZ k||decide (cy k<ak L)))=bJ L k:=by
 unfold bJ bB cy aZ bf ak;grind
theorem wQ:cz Tryz.prog 101 PG:=
 eQ (aA tk (aA iI bV)) (fun _=>rfl) fun a hq hok=>by
  obtain⟨S,k,_⟩:=a;cases S with
  |none=>exact bm (inl:=bx) (ann:=aQ) (ae bC (ae gy (ae dJ ar))) aE (FR k) (by kernel_rfl)
  |some L=>exact bm (inl:=bx) (ann:=aQ) (ae bC (ae gy (ae dJ ar))) aE (J8 L k) (by kernel_rfl)
theorem VU (n:Int) (k:Key) (m:bp) (hs:aw m.data):
 (decide (0<=n)=true->aF IntKind.i64 (bO m.data))/\0=(aG [] n k m).code/\ByteArray.mk (Array.mk [])=(aG [] n k m).data/\void=(aG [] n k m).k0/\void=(aG [] n k m).k1/\void
  =(aG [] n k m).k2/\false=cW [] n k m/\1=cJ [] n k m:=by
 have hin:aF .i64 (bO m.data):=by have:=hs;unfold aw at this;unfold aF cc bO;omega
 have e:cJ [] n k m=1:=by unfold cJ;rw[aa2 (show ai ([]:List Sx.Obj)=0 from rfl)]
 have e1:aG [] n k m=cY:=by unfold aG;rw[e];rfl
 have e2:cW [] n k m=false:=by unfold cW;rw[e];rfl
 rw[e1,e2,e];exact⟨fun _=>hin,rfl,rfl,rfl,rfl,rfl,rfl,rfl⟩
theorem Wg (n:Int) (k:Key) (m:bp) (hs:aw m.data):
 (decide (0<=n)=true->aF IntKind.i64 (bO m.data))/\0=(aG [] n k m).code/\ByteArray.mk (Array.mk [])=(aG [] n k m).data/\void=(aG [] n k m).k0/\void=(aG [] n k m).k1/\void
  =(aG [] n k m).k2/\false=cW [] n k m/\1=cJ [] n k m:=by
 have hin:aF .i64 (bO m.data):=by have:=hs;unfold aw at this;unfold aF cc bO;omega
 have e:cJ [] n k m=1:=by unfold cJ;rw[aa2 (show ai ([]:List Sx.Obj)=0 from rfl)]
 have e1:aG [] n k m=cY:=by unfold aG;rw[e];rfl
 have e2:cW [] n k m=false:=by unfold cW;rw[e];rfl
 rw[e1,e2,e];exact⟨fun _=>hin,rfl,rfl,rfl,rfl,rfl,rfl,rfl⟩
abbrev abH(m:bp)(L:List Sx.Obj):=bp.mk m.code m.data (ah L m.k0) (ah L m.k1) (ah L m.k2)
theorem aal (L:List Sx.Obj) (n:Int) (k:Key) (m:bp) (hL:aq L) (hs:aw m.data):
 (decide (0<=n)=true->aF IntKind.i64 (bO m.data))/\aba (decide (ak L=0)) ((0=(aG L n k m).code/\abG=(aG L n k m).data/\void=(aG L n k m).k0/\void=(aG L n k m).k1/\void=(aG L n k m).k2/\false=cW L n k m/\1=cJ L n k m)/\L=ia L n k m) (aba (!(decide (0<=n)&&decide (bO m.data<=32)&&bJ L k&&bJ L m.k0&&bJ L m.k1&&bJ L m.k2)) ((0=(aG L n k m).code/\abG=(aG L n k m).data/\void=(aG L n k m).k0/\void=(aG L n k m).k1/\void=(aG L n k m).k2/\false=cW L n k m/\2=cJ L n k m)/\L=ia L n k m) (aba (decide ((ah L k).kind=6)||decide ((ah L k).kind=7)) ((0=(aG L n k m).code/\abG=(aG L n k m).data/\void=(aG L n k m).k0/\void=(aG L n k m).k1/\void=(aG L n k m).k2/\false=cW L n k m/\241=cJ L n k m)/\L=ia L n k m) (true=true/\Vn L (ah L k) (abH m L)/\((en L n (ah L k) (abH m L)).code=(aG L n k m).code/\(en L n (ah L k) (abH m L)).data=(aG L n k m).data/\(en L n (ah L k) (abH m L)).k0=(aG L n k m).k0/\(en L n (ah L k) (abH m L)).k1=(aG L n k m).k1/\(en L n (ah L k) (abH m L)).k2=(aG L n k m).k2/\(decide ((ah L k).kind=10)&&decide (m.code=1))=cW L n k m/\0=cJ L n k m)/\eF L n (ah L k) (abH m L)=ia L n k m))):=by
 delta aba abG abH
 have hcn:bp.mk m.code m.data (ah L m.k0) (ah L m.k1) (ah L m.k2)=aH L m:=rfl;simp only[hcn];have hin:aF .i64 (bO m.data):=by have:=hs;unfold aw at this;unfold aF cc bO;omega
 have hf:(decide (0<=n)&&decide (bO m.data<=32)&&bJ L k&&bJ L m.k0&&bJ L m.k1&&bJ L m.k2)=qL L n k m:=by
  unfold qL fk;cases decide (0<=n)<;>cases decide (bO m.data<=32)<;>cases bJ L k<;>cases bJ L m.k0<;>cases bJ L m.k1<;>cases bJ L m.k2<;>rfl
 rw[hf];have hsz:ak L=0↔ai L=0:=by unfold ak;simp[bQ]
 have no:∀e:Int,cJ L n k m=e->e≠0->(0=(aG L n k m).code/\ByteArray.mk (Array.mk [])=(aG L n k m).data/\void=(aG L n k m).k0/\void=(aG L n k m).k1/\void=(aG L n k m).k2/\false=cW L n k m/\e=cJ L n k m)/\L=ia L n k m:=fun e he h0=>by
  have e1:aG L n k m=cY:=by unfold aG;rw[he,aa1 h0]
  have e2:cW L n k m=false:=by unfold cW;rw[he];simp[h0]
  have e3:ia L n k m=L:=by unfold ia;rw[he,aa1 h0]
  rw[e1,e2,e3,he];exact⟨⟨rfl,rfl,rfl,rfl,rfl,rfl,rfl⟩,rfl⟩
 refine⟨fun _=>hin,fun h=>?_,fun h=>⟨fun h2=>?_,fun h2=>⟨fun h3=>?_,fun h3=>?_⟩⟩⟩
 ·have h:=hsz.1 (by simpa using h)
  exact no 1 (by unfold cJ;rw[aa2 h]) (by omega)
 ·have h:¬ai L=0:=fun e=>by simp[hsz.2 e]at h
  have h2:qL L n k m=false:=by simpa using h2
  exact no 2 (by unfold cJ;rw[aa1 h,aa2 h2]) (by omega)
 ·have h:¬ai L=0:=fun e=>by simp[hsz.2 e]at h
  have h2:qL L n k m=true:=by simpa using h2
  have h3:(ah L k).kind=6\/(ah L k).kind=7:=by simpa using h3
  exact no 241 (by unfold cJ;rw[aa1 h,aa1 (by simp[h2]),aa2 h3]) (by omega)
 ·have h:¬ai L=0:=fun e=>by simp[hsz.2 e]at h
  have h2:qL L n k m=true:=by simpa using h2
  have h3:¬((ah L k).kind=6\/(ah L k).kind=7):=by simpa using h3
  have he:cJ L n k m=0:=by unfold cJ;rw[aa1 h,aa1 (by simp[h2]),aa1 h3]
  have e1:aG L n k m=en L n (ah L k) (aH L m):=by unfold aG;rw[aa2 he]
  have e2:cW L n k m=(decide ((ah L k).kind=10)&&decide (m.code=1)):=by unfold cW;rw[he];rfl
  have e3:ia L n k m=eF L n (ah L k) (aH L m):=by unfold ia;rw[aa2 he]
  rw[e1,e2,e3,he];exact⟨trivial,⟨hL,hs,tH⟩,⟨rfl,rfl,rfl,rfl,rfl,rfl,rfl⟩,rfl⟩
theorem YX (L:List Sx.Obj) (n:Int) (k:Key) (m:bp) (hL:aq L) (hs:aw m.data):an Tryz.prog 61 [.lp 0 0,.it .i64 n,.key k,jJ m] [.store tS eS L] (CA (.tp [jJ (aG L n k m),.bo (cW L n k m),.it .i64 (cJ L n k m)]) (ia L n k m)) (fun _ _=>False):=
 bm (inl:=bx) (ann:=(iJ [(61,3,Ml 4)])) (ae bC (ae iv (ae wQ ar))) (aC GO aE) (aal L n k m hL hs) (by kernel_rfl)
theorem YV:lh Tryz.prog 61 aaR:=
 C6 (m:=fun x=>MG.cn x 0) (fP IP (fun _=>rfl)) (fun _=>rfl) (fun _ _=>rfl) (fun x hs=>bm (inl:=bx) (ann:=(iJ [(61,3,Ml 4)])) (ae sE (ae iv (ae wQ ar))) (aC GO aE) (VU x.1 x.2.1 x.2.2.1 hs) (by kernel_rfl)) (fun x hs=>bm (inl:=bx) (ann:=(iJ [(61,3,Ml 4)])) (ae sE (ae iv (ae wQ ar))) (aC GO aE) (Wg x.1 x.2.1 x.2.2.1 hs) (by kernel_rfl)) fun L x hq=>YX L x.1 x.2.1 x.2.2.1 hq.1 hq.2
end Go.Proofs.YtlblcfaclmpekaaGreat
namespace Go.Sx
structure jb where
 kind:Int
 proc:Int
 reg:Int
 mode:Int
 code:Int
 data:ByteArray
 s0:Int
 s1:Int
 s2:Int
 num:Bool
 val:Int
def Ky (o:jb):V:= .ag [.it .i64 o.kind,.it .i64 o.proc,.it .i64 o.reg,.it .i64 o.mode,.it .i64 o.code,.st o.data,.ag [.it .i64 o.s0,.it .i64 o.s1,.it .i64 o.s2],.bo o.num,.it .i64 o.val]
structure Dn where
 out:Int
 proc:Int
 err:Int
 ans:bp
 wants:Bool
def YQ (d:Dn):V:= .ag [.it .i64 d.out,.it .i64 d.proc,.it .i64 d.err,jJ d.ans,.bo d.wants]
def dn0:Dn:=⟨0,0,0,cY,false⟩
def tL (n:Int):Bool:=decide (0<=n)&&decide (n<12)
def gU (n:Int):Bool:=decide (n= -1)||tL n
def eu (o:jb) (now:Int):Bool:=
 if o.kind=2 then decide (0<=o.val)&&decide (o.val<=1099511627776)&&decide (now<=4611686018427387904-o.val)
 else decide (o.kind=1)&&decide (1<=o.mode)&&decide (o.mode<=3)&&decide (bO o.data<=32)&&tL o.reg&&gU o.s0&&gU o.s1&&gU o.s2
def oD (o:Obj) (n:Int):Key:=if n<0 then void else o.slots.at (4+n).toNat
def bS (o:Obj) (p:jb):bp:=⟨p.code,p.data,oD o p.s0,oD o p.s1,if p.num=true then bL p.val else oD o p.s2⟩
def b7 (L:List Obj):List Int:=dL L (bQ (ai L))
def aX (L:List Obj) (p:jb):Int:=aj (b7 L) ((p.proc.tmod (ai (b7 L):Int)+(ai (b7 L):Int)).tmod (ai (b7 L):Int)).toNat 0
def cR (L:List Obj) (p:jb):Key:=ah L ((aL L (aX L p)).slots.at (4+p.reg).toNat)
def bK (L:List Obj) (p:jb):bp:=bS (aL L (aX L p)) p
def rr (L:List Obj) (p:jb):Bool:=decide ((cR L p).kind=6)||decide ((cR L p).kind=7)
def iH (L:List Obj) (n:Int) (p:jb):List Obj:=ia L n (cR L p) (bK L p)
def w8 (L:List Obj) (n:Int) (p:jb):List Obj:=
 if dS (iH L n p) (aX L p)=true/\iG (iH L n p) (aX L p)=1 then
  if p.mode=1 then gx (iH L n p) (aX L p) (aG L n (cR L p) (bK L p))else if p.mode=3 then dg (iH L n p) (aX L p) 0 else iH L n p
 else iH L n p
def dP (L:List Obj) (n:Int) (p:jb):List Obj:=
 if eu p n=true/\¬p.kind=2/\¬ai (b7 L)=0 then
  if rr L p=true then fe L (aX L p) (cR L p) p.mode (bK L p)else w8 L n p
 else L
def jn (n:Int) (p:jb):Int:=if eu p n=true/\p.kind=2 then n+p.val else n
def oJ (n:Int) (p:jb):Int:=if eu p n=true then 0 else 2
def aT (L:List Obj) (n:Int) (p:jb):Dn:=
 if eu p n=true then
  if p.kind=2 then⟨5,0,0,cY,false⟩
  else if ai (b7 L)=0 then⟨1,0,0,cY,false⟩
  else if rr L p=true then
   if b9 L (aX L p) (cR L p) p.mode (bK L p)=0 then⟨2,aX L p,0,cY,false⟩else⟨3,aX L p,b9 L (aX L p) (cR L p) p.mode (bK L p),cY,false⟩
  else⟨4,aX L p,0,aG L n (cR L p) (bK L p),cW L n (cR L p) (bK L p)⟩
 else dn0
def gN (n:Int):Prop:=0<=n/\n<=4611686018427387904
abbrev sR:Nat:=85
def om (s:Nat) (n:Int):V:= .ag [.lp s 0,.it .i64 n]
def M6 (c:V):Option (Nat×Int):=
 match c with
 | .ag m=>match m with
   | [p,y]=>match p with
     | .lp s off=>match rI .i64 y with
       |some n=>if off==0 then some (s,n)else none
       |none=>none
     |_=>none
   |_=>none
 |_=>none
def sdA:Arg (Int×Int×Int×Unit):=YF (ba iA (ba iA (ba iA gJ)))
theorem XL:m8 sdA:=Gf (aA dE (aA dE (aA dE bV)))
abbrev OpT:Type:=Int×Int×Int×Int×Int×ByteArray×(Int×Int×Int×Unit)×Bool×Int×Unit
def opA:Arg OpT:=YF (ba iA (ba iA (ba iA (ba iA (ba iA (ba zA (ba sdA (ba bA (ba iA gJ)))))))))
theorem Ga:m8 opA:=Gf (aA dE (aA dE (aA dE (aA dE (aA dE (aA Z6 (aA XL (aA Fa (aA dE bV)))))))))
def wy (x:OpT):jb:=⟨x.1,x.2.1,x.2.2.1,x.2.2.2.1,x.2.2.2.2.1,x.2.2.2.2.2.1,x.2.2.2.2.2.2.1.1,x.2.2.2.2.2.2.1.2.1,x.2.2.2.2.2.2.1.2.2.1,x.2.2.2.2.2.2.2.1,x.2.2.2.2.2.2.2.2.1⟩
def JM:ly (OpT×Unit):=ba opA gJ
theorem F5:gR JM:=aA Ga bV
theorem wo {c:V} {s:Nat} {n:Int} (h:M6 c=some (s,n)):∃y,c= .ag [.lp s 0,y]/\rI .i64 y=some n:=by
 unfold M6 at h;repeat' (first| (split at h<;>try(simp at h;done))|skip)
 rename_i y n' hn ho;simp only[aaT,aaU]at h;obtain⟨rfl,rfl⟩:=h;have:=aaX.1 ho;subst this;exact⟨_,rfl,hn⟩
theorem an.WU {P:Program} {f:Nat} {rest:List V} {res:List aK} {K KP:V->List aK->Prop} {b s tm t e:Nat} {L M:List Obj} {n n':Int} {x:V}
  (hb:az res b= .blk tm (om s n)) (hs:az res s= .store t e L) (hid:lW rest=true) (hx:kE x=true)
  (h:an P f (.lp 0 0::rest) [.blk tm (om 1 n),.store t e L] (fun v r=>ya x v r/\az r 0= .blk tm (om 1 n')/\az r 1= .store t e M) (fun _ _=>False))
  (hK:K x (bP (bP res b (.blk tm (om s n'))) s (.store t e M))):an P f (.lp b 0::rest) res K KP:=by
 have hkb:known res b:=by unfold known;rw[hb];simp
 have hks:known res s:=by unfold known;rw[hs];simp
 have hlb:=aO hkb;have hls:=aO hks;have hne:b≠s:=fun e=>by rw[e,hs]at hb;simp at hb
 refine an.frame (pl:= [(b,true),(s,true)]) (args0:= .lp 0 0::rest) (K0:=fun v r=>ya x v r/\az r 0= .blk tm (om 1 n')/\az r 1= .store t e M) (KP0:=fun _ _=>False)
  (by simp[fm,cQ.2 hkb,cQ.2 hks]) (by simp[ju,dV,pF,hlb,hls,hne,Ne.symm hne]) ?_ ?_ (fun v r hv=>?_) (fun _ _ h=>h.elim)
 ·simp only[eX,ga,lS,idxOf,dV];rw[lf rest hid];simp
 ·have:fD (lS 0 (dV [(b,true),(s,true)])) res [(b,true),(s,true)]= [.blk tm (om 1 n),.store t e L]:=by simp[fD,hb,hs,gL,om,ga,eX,lS,idxOf,dV,hne,Ne.symm hne]
  rw[this];exact h
 ·obtain⟨h1,h2,h3⟩:=hv;have hm:merge [(b,true),(s,true)] [] r res=bP (bP res b (.blk tm (om s n'))) s (.store t e M):=by simp[merge,fC,h2,h3,gL,gG,om,ga,eX,back,v7]
  exact⟨[],x,rfl,by simp[kV,h2,h3,jT],rfl,lu.kE h1 hx,by rw[hm];exact hK⟩
theorem an.mcN {P:Program} {f:Nat} {args:List V} {res:List aK} {K KP:V->List aK->Prop} {b s tm:Nat} {y:V} {n:Int} (hb:az res b= .blk tm (.ag [.lp s 0,y])) (hy:rI .i64 y=some n)
  (h:an P f args (bP res b (.blk tm (om s n))) K KP):an P f args res K KP:=by
 have hkb:known res b:=by unfold known;rw[hb];simp
 have hlb:=aO hkb
 have hkn:∀i,known (bP res b (.blk tm (om s n))) i↔known res i:=fun i=>by
  unfold known;rw[bI _ _ _ _ hlb];by_cases e:i=b
  ·subst e;rw[aa2 rfl,hb];simp
  ·rw[aa1 e]
 have hK:known (bP res b (.blk tm (om s n)))=known res:=by funext i;exact propext (hkn i)
 obtain⟨r1,r2⟩:=gq .i64 y n hy;refine h.uU fun J fps w0 F0 w hH=>⟨J,fps,hH.weaken (fun i hi=>⟨(hkn i).1 hi,fun fp hh=>?_⟩),Env.bD.refl _ _,fun i hi=>(hkn i).2 hi⟩
 rw[hK,bI _ _ _ _ hlb];by_cases e:i=b
 ·subst e;rw[aa2 rfl];rw[hb]at hh;obtain⟨h1,h2,h3,h4⟩:=hh;have hd:=r1 J;refine⟨?_,rfl,h3,?_⟩
  ·exact⟨⟨h1.1.1,fT (r2 _ h1.1.2.1),trivial⟩,trivial,trivial,trivial⟩
  ·rw[h4];simp only[cells,om,den,bn,Value.cells,hd]
 ·rw[aa1 e];exact hh
def Fj:Ct:=s7 (ba opA (ba iA gJ)) (fun x=>some (aw x.1.2.2.2.2.2.1/\gN x.2.1)) fun x=> .bo (eu (wy x.1) x.2.1)
def Xk:Ct:=s7 (ba oA JM) (fun x=>some (gU (wy x.2.1).s0=true/\gU (wy x.2.1).s1=true/\gU (wy x.2.1).s2=true)) fun x=>jJ (bS x.1 (wy x.2.1))
def hMc (Q:List Obj->Int->jb->Prop) (F:List Obj->Int->jb->V) (N:Int->jb->Int) (M:List Obj->Int->jb->List Obj):kq:=fun args res K=>
 match args with
 |a::l=>match uw JM l with
  |some x=>match a with
   | .lp b off=>if off==0 then match az res b with
     | .blk t c=>match M6 c with
       |some (s,n)=>match az res s with
        | .store ts e L=>if t==sR&&ts==tS&&e==eS then Q L n (wy x.1)/\K (F L n (wy x.1)) (bP (bP res b (.blk sR (om s (N n (wy x.1))))) s (.store tS eS (M L n (wy x.1))))else False
        |_=>False
       |none=>False
     |_=>False
     else False
   |_=>False
  |none=>False
 |_=>False
def Xy (L:List Obj) (n:Int) (p:jb):Prop:=aq L/\aw p.data/\gN n
def VX:kq:=hMc Xy (fun L n p=> .tp [YQ (aT L n p),.it .i64 (oJ n p)]) jn dP
def Wy:kq:=hMc (fun L n p=>Xy L n p/\eu p n=true/\p.kind=1) (fun L n p=>YQ (aT L n p)) (fun n _=>n) dP
def mcX (c:V):Option Int:=
 match c with
 | .ag q=>match q with
   | [p,y]=>match p with
     | .lp s off=>match y with
       | .it k n=>match k with
         | .i64=>if s==1&&off==0 then some n else none
         |_=>none
       |_=>none
     |_=>none
   |_=>none
 |_=>none
theorem EO {c:V} {n:Int} (h:mcX c=some n):c=om 1 n:=by
 unfold mcX at h;split at h
 case h_2=>simp at h
 split at h
 case h_2=>simp at h
 split at h
 case h_2=>simp at h
 split at h
 case h_2=>simp at h
 split at h
 case h_2=>simp at h
 split at h
 case isFalse=>simp at h
 rename_i hc;simp only[aaV,aaX]at hc;obtain⟨rfl,rfl⟩:=hc;simp only[aaT]at h;subst h;rfl
def mcS (r:aK) (m:Int):Prop:=
 match r with
 | .blk t c=>match mcX c with
   |some n=>if t==sR then n=m else False
   |none=>False
 |_=>False
theorem UC {r:aK} {m:Int} (h:mcS r m):r= .blk sR (om 1 m):=by
 unfold mcS at h;split at h
 case h_2=>exact h.elim
 split at h
 case h_2=>exact h.elim
 rename_i n hn;split at h
 case isFalse=>exact h.elim
 rename_i ht;have ht:=aaX.1 ht;subst ht;subst h;rw[EO hn]
def kMc (x:V) (n:Int) (M:List Obj) (v:V) (r:List aK):Prop:=
 match az r 1 with
 | .store t e L=>if t==tS&&e==eS then mcS (az r 0) n/\oW x v r/\L=M else False
 |_=>False
theorem RH {x:V} {n:Int} {M:List Obj} {v:V} {r:List aK} (h:kMc x n M v r):ya x v r/\az r 0= .blk sR (om 1 n)/\az r 1= .store tS eS M:=by
 unfold kMc at h;split at h
 ·rename_i hr;split at h
  ·rename_i hc;simp only[aaV,aaX]at hc;obtain⟨rfl,rfl⟩:=hc;obtain⟨h1,h2,rfl⟩:=h;exact⟨dK h2,UC h1,hr⟩
  ·exact h.elim
 ·exact h.elim
theorem Qt {P:Program} {f:Nat} {Q:List Obj->Int->jb->Prop} {F:List Obj->Int->jb->V} {N:Int->jb->Int} {M:List Obj->Int->jb->List Obj} (hF:∀L n p,kE (F L n p)=true)
  (h:∀L n p,Q L n p->an P f [.lp 0 0,Ky p] [.blk sR (om 1 n),.store tS eS L] (kMc (F L n p) (N n p) (M L n p)) (fun _ _=>False)):lh P f (hMc Q F N M):=by
 intro args res K KP hh;unfold hMc at hh;split at hh
 case h_2=>exact hh.elim
 split at hh
 case h_2=>exact hh.elim
 rename_i x hx;split at hh
 case h_2=>exact hh.elim
 rename_i b off;split at hh
 case isFalse=>exact hh.elim
 rename_i ho;have ho:=aaX.1 ho;subst ho;split at hh
 case h_2=>exact hh.elim
 rename_i t c hb;split at hh
 case h_2=>exact hh.elim
 rename_i s n hc;split at hh
 case h_2=>exact hh.elim
 rename_i ts e L hs;split at hh
 case isFalse=>exact hh.elim
 rename_i ht;simp only[aaV,aaX]at ht;obtain⟨⟨rfl,rfl⟩,rfl⟩:=ht;obtain⟨hq,hK⟩:=hh;obtain⟨y,rfl,hy⟩:=wo hc;have hkb:known res b:=by unfold known;rw[hb];simp
 have hlb:=aO hkb;refine an.args (ff.j4 (fP F5 (fun _=>rfl) _ _ hx)) ?_
 refine an.mcN hb hy ?_;have hne:b≠s:=fun e=>by rw[e,hs]at hb;simp at hb
 refine an.WU (rest:=JM.cn x 0) (by rw[bI _ _ _ _ hlb,aa2 rfl]) (by rw[bI _ _ _ _ hlb,aa1 (Ne.symm hne)];exact hs) rfl (hF _ _ _) ((h L n (wy x.1) hq).mono (fun _ _ hv=>RH hv) fun _ _ h=>h) ?_
 have:∀(l:List aK) (i:Nat) (a b:aK),bP (bP l i a) i b=bP l i b:=fun l i a b=>by rw[kP,kP,kP,List.set_set]
 rw[this];exact hK
structure Pac where
 kind:Int
 oid:Int
 key:Key
 mode:Int
 state:Int
 msg:bp
theorem MY {L:List Obj} {i:Int} {k:Key} {md:Int} {m:bp} (h:lR L i k md m=false):fe L i k md m=L:=by
 unfold lR at h;unfold fe;rw[aa1 (aaY h)]
theorem Ya {L:List Obj} {i:Int} {m:bp} (h:pM L i m=false):gx L i m=L:=by
 unfold pM at h;unfold gx;rw[aa1 (aaY h)]
theorem Bc {L:List Obj} (h:aq L):iu L:=by have:=gY h;unfold iu;omega
def VV:ly (Key×Int×Key×Unit):=ba kA (ba iA (ba kA gJ))
theorem Ti:gR VV:=aA iI (aA dE (aA iI bV))
def C3:ly (Key×bp×Int×Unit):=ba kA (ba mA (ba iA gJ))
theorem yB:gR C3:=aA iI (aA zY (aA dE bV))
def iL (L:List Obj) (k:Key) (i:Int) (v:Key):Bool:=decide (bj L k i v=0)
def mH (L:List Obj) (k:Key):Bool:=decide (aB L k 2 true=0)
def kN (L:List Obj) (t f:Key):Bool:=decide (bT L t f=0)
def mD (L:List Obj) (k:Key):Bool:=decide (aW L k true=0)
def mU (L:List Obj) (t f:Key):Bool:=decide (cU L t f=0)
def Us:Ct:=s7 (ba AE (ba kA (ba iA gJ))) (fun _=>none) fun x=> .tp [.key (aJ x.1 x.2.1 x.2.2.1),.it .i64 (bY x.1 x.2.1 x.2.2.1)]
def UJ:kq:=Az (uw VV) (fun L _=>aq L) (fun L x=>iL L x.1 x.2.1 x.2.2.1) (fun L x=>cC L x.1 x.2.1 x.2.2.1) fun L x=> [.key (cT L x.1 x.2.1 x.2.2.1),.it .i64 (bj L x.1 x.2.1 x.2.2.1)]
def RX:kq:=Az (uw kB) (fun L _=>aq L) (fun L x=>mH L x.1) (fun L x=>fA L x.1) fun L x=> [.it .i64 (aB L x.1 2 true)]
def UP:kq:=Az (uw NY) (fun L _=>aq L) (fun L x=>kN L x.1 x.2.1) (fun L x=>eT L x.1 x.2.1) fun L x=> [.it .i64 (bT L x.1 x.2.1)]
def Qe:Ct:=s7 (ba AE (ba kA (ba iA (ba iA gJ)))) (fun x=>some (aq x.1)) fun x=> .tp [.st (ec x.1 x.2.1 x.2.2.1 x.2.2.2.1),.it .i64 (cD x.1 x.2.1 x.2.2.1 x.2.2.2.1)]
def Rp:kq:=Az (uw kB) (fun L _=>aq L) (fun L x=>mD L x.1) (fun L x=>fq L x.1) fun L x=> [.it .i64 (aW L x.1 true)]
def VB:kq:=Az (uw NY) (fun L _=>aq L) (fun L x=>mU L x.1 x.2.1) (fun L x=>fM L x.1 x.2.1) fun L x=> [.it .i64 (cU L x.1 x.2.1)]
def kg (L:List Obj) (k:Key) (m:bp):Bool:=
 if m.code=1 then false else if m.code=2 then iL L k (aS m) m.k0 else if m.code=3 then mH L k else if m.code=4 then kN L k m.k0 else false
def ld (L:List Obj) (k:Key) (m:bp):Bool:=
 if m.code=1 then false else if m.code=2 then ki L k (aS m) m.data else if m.code=3 then mD L k else if m.code=4 then mU L k m.k0 else false
def gQ (L:List Obj) (k:Key) (m:bp):Bool:=
 if m.code=1 then gE L k 1 else if m.code=2 then gE L k 2 else if m.code=3 then jU L k m.k0 else if m.code=4 then k9 L k (aS m)else if m.code=5 then false else kX L k
def iw (L:List Obj) (k:Key) (m:bp):Bool:=
 if m.code=1 then false else if m.code=2 then(if aS m<0\/11<aS m then false else iL L (fl k) (aS m+4) m.k0)else if m.code=3 then false else if m.code=4 then false
 else if m.code=5 then ku L k.oid (aS m)else if m.code=6 then false else ma L (fO L k) m.k2.value (bO m.data) true
def tP (L:List Obj) (k:Key) (m:bp):Bool:=
 if k.kind=1 then false else if k.kind=2 then kg L k m else if k.kind=3 then ld L k m else if k.kind=4 then gQ L k m else if k.kind=5 then iw L k m else false
def vK (L:List Obj) (k:Key) (m:bp):Bool:=
 if k.kind=0 then false else if m.code=0 then false else if m.code<1\/de k.kind<m.code\/(cX k.kind m.code=true/\m.k2.kind≠1)then false else tP L k m
def fz (L:List Obj) (n:Int) (k:Key) (m:bp):Bool:=decide (cJ L n k m=0)&&vK L (ah L k) (aH L m)
def mI (L:List Obj) (k:Key) (m:bp) (i:Int):Prop:=aq L/\aw m.data/\aV k=true/\i=aS m
def xT (d:Int):Prop:=0<=d/\d<=10
def Tl:Ct:=s7 (ba iA gJ) (fun x=>some (xT x.1)) fun x=> .it .i64 (de x.1)
def TY:Ct:=Se (rI .i64) (rI .i64) fun a b=> .bo (cX a b)
def cq (L:List Obj) (k:Key) (m:bp):bp:=if(m.code=1\/m.code=2\/m.code=3\/m.code=4)\/(ey L k m).1=0 then(ey L k m).2.1 else cY
def cV (L:List Obj) (k:Key) (m:bp):bp:=if(m.code=1\/m.code=2\/m.code=3\/m.code=4)\/(eo L k m).1=0 then(eo L k m).2.1 else cY
def bh (L:List Obj) (k:Key) (m:bp):bp:=(dC L k m).2.1
def bG (L:List Obj) (k:Key) (m:bp):bp:=if(m.code=1\/m.code=2)/\(aS m<0\/11<aS m)then cY else(dv L k m).2.1
theorem Py {L:List Obj} {k:Key} {m:bp} (h:(ey L k m).1=0):cq L k m=(ey L k m).2.1:=by unfold cq;rw[aa2 (.inr h)]
theorem PU {L:List Obj} {k:Key} {m:bp} (h:(eo L k m).1=0):cV L k m=(eo L k m).2.1:=by unfold cV;rw[aa2 (.inr h)]
theorem MK {L:List Obj} {k:Key} {m:bp} (h:(dv L k m).1=0):bG L k m=(dv L k m).2.1:=by
 unfold bG;split
 ·rename_i hh;unfold dv at h;obtain⟨h1|h1,h2⟩:=hh
  ·rw[aa2 h1,aa2 h2]at h;simp at h
  ·rw[aa1 (by omega),aa2 h1,aa2 h2]at h;simp at h
 ·rfl
theorem Dy {m:bp}: -1<=aS m/\aS m<=2147483647:=by unfold aS;split<;>omega
theorem N4 {m:bp}:(0<=aS m/\aS m<=7/\aS m=m.k2.value/\0<=m.k2.value/\m.k2.value<=7)\/((aS m<0\/7<aS m)/\¬(0<=m.k2.value/\m.k2.value<=7)):=by unfold aS;split<;>omega
def SK:kq:=Az (uw C3) (fun L x=>mI L x.1 x.2.1 x.2.2.1) (fun L x=>kg L x.1 x.2.1) (fun L x=>(ey L x.1 x.2.1).2.2) fun L x=> [jJ (cq L x.1 x.2.1),.it .i64 (ey L x.1 x.2.1).1]
def UX:kq:=Az (uw C3) (fun L x=>mI L x.1 x.2.1 x.2.2.1) (fun L x=>ld L x.1 x.2.1) (fun L x=>(eo L x.1 x.2.1).2.2) fun L x=> [jJ (cV L x.1 x.2.1),.it .i64 (eo L x.1 x.2.1).1]
def MC:kq:=Az (uw C3) (fun L x=>mI L x.1 x.2.1 x.2.2.1) (fun L x=>gQ L x.1 x.2.1) (fun L x=>(dC L x.1 x.2.1).2.2) fun L x=> [jJ (bh L x.1 x.2.1),.it .i64 (dC L x.1 x.2.1).1]
def Q4:kq:=Az (uw C3) (fun L x=>mI L x.1 x.2.1 x.2.2.1) (fun L x=>iw L x.1 x.2.1) (fun L x=>(dv L x.1 x.2.1).2.2) fun L x=> [jJ (bG L x.1 x.2.1),.it .i64 (dv L x.1 x.2.1).1]
def Z2:kq:=Az (uw MG) (fun L x=>aq L/\aw x.2.2.1.data) (fun L x=>fz L x.1 x.2.1 x.2.2.1) (fun L x=>ia L x.1 x.2.1 x.2.2.1) fun L x=> [jJ (aG L x.1 x.2.1 x.2.2.1),.bo (cW L x.1 x.2.1 x.2.2.1),.it .i64 (cJ L x.1 x.2.1 x.2.2.1)]
def xu (L:List Obj) (n:Int) (k:Key) (m:bp):Prop:=
 (aq L/\aw m.data)/\cJ L n k m=0/\¬(ah L k).kind=0/\¬m.code=0/\¬(m.code<1\/de (ah L k).kind<m.code\/(cX (ah L k).kind m.code=true/\(aH L m).k2.kind≠1))
theorem Lu {L:List Obj} {n:Int} {k:Key} {m:bp} {e:Int} (h:cJ L n k m=e) (h0:e≠0):fz L n k m=false/\aG L n k m=cY/\cW L n k m=false/\e=cJ L n k m:=by
 refine⟨?_,?_,?_,h.symm⟩
 ·unfold fz;rw[h];simp[h0]
 ·unfold aG;rw[h,aa1 h0]
 ·unfold cW;rw[h];simp[h0]
theorem CV {L:List Obj} {n:Int} {k:Key} {m:bp} {c:Bool} {r:P6} (h:cJ L n k m=0) (hr:dI L n (ah L k) (aH L m)=r) (hc:vK L (ah L k) (aH L m)=c):
  fz L n k m=c/\aG L n k m=(if r.1=0 then r.2.1 else gg r.1)/\ia L n k m=r.2.2/\cW L n k m=(decide ((ah L k).kind=10)&&decide (m.code=1))/\0=cJ L n k m:=by
 refine⟨?_,?_,?_,?_,h.symm⟩
 ·unfold fz;rw[h,hc];rfl
 ·unfold aG en;rw[aa2 h,hr]
 ·unfold ia eF;rw[aa2 h,hr]
 ·unfold cW;rw[h];rfl
theorem RU {L:List Obj} {n:Int} {k:Key} {m:bp} (h:xu L n k m):dI L n (ah L k) (aH L m)=eJ L n (ah L k) (aH L m)/\vK L (ah L k) (aH L m)=tP L (ah L k) (aH L m):=by
 obtain⟨_,h0,h1,h2,h3⟩:=h;have h2':¬(aH L m).code=0:=h2;have h3':¬((aH L m).code<1\/de (ah L k).kind<(aH L m).code\/(cX (ah L k).kind (aH L m).code=true/\(aH L m).k2.kind≠1)):=h3;unfold dI vK;rw[aa1 h1,aa1 h2',aa1 h3',aa1 h1,aa1 h2',aa1 h3'];exact⟨rfl,rfl⟩
theorem Zn {L:List Obj} {n:Int} {k:Key} {m:bp} (h:xu L n k m):(decide ((ah L k).kind=10)&&decide (m.code=1))=decide ((ah L k).kind=10):=by
 obtain⟨_,h0,h1,h2,h3⟩:=h;by_cases hk:(ah L k).kind=10
 ·have:de (ah L k).kind=1:=by rw[hk];rfl
  have:m.code=1:=by omega
  simp[this]
 ·simp[hk]
theorem UH {L:List Obj} {n:Int} {k:Key} {m:bp} {c:Bool} {r:P6} (h:xu L n k m) (hr:eJ L n (ah L k) (aH L m)=r) (hc:tP L (ah L k) (aH L m)=c):
  fz L n k m=c/\aG L n k m=(if r.1=0 then r.2.1 else gg r.1)/\ia L n k m=r.2.2/\cW L n k m=decide ((ah L k).kind=10)/\0=cJ L n k m:=by
 obtain⟨e1,e2⟩:=RU h;obtain⟨a1,a2,a3,a4,a5⟩:=CV h.2.1 (e1.trans hr) (e2.trans hc);exact⟨a1,a2,a3,a4.trans (Zn h),a5⟩
theorem Sk {L:List Obj} {n:Int} {k:Key} {m:bp} (h:(decide (n<0)|| !bJ L k|| !fk L m)=true):qL L n k m=false:=by
 unfold qL;cases hm:bJ L k<;>cases hm2:fk L m<;>simp_all<;>omega
theorem L0 {L:List Obj} {n:Int} {k:Key} {m:bp} (h:(decide (n<0)|| !bJ L k|| !fk L m)=false):¬qL L n k m=false:=by
 unfold qL;cases hm:bJ L k<;>cases hm2:fk L m<;>simp_all<;>omega
theorem HI {L:List Obj} {k:Key} {kind:Int} (h:gE L k kind=false):fx L k kind=L:=by
 unfold gE at h;unfold fx;split
 ·rename_i he;rw[decide_eq_true he,Bool.true_and]at h;unfold lH at h;simp only[Bool.or_eq_false_iff,Bool.not_eq_false',aaW]at h;unfold cH;rw[aa2 h.1,zI h.2]
 ·rfl
theorem RJ {L:List Obj} {k:Key} (h:kX L k=false):ib L k=L:=by
 unfold kX at h;unfold ib;split
 ·rename_i he;rw[decide_eq_true he,Bool.true_and]at h;simp only[Bool.not_eq_false',aaW]at h;exact yH h
 ·rfl
theorem Yb {L:List Obj} {k:Key} {n:Int} (h:k9 L k n=false):bE L k n=L:=by
 unfold k9 at h;unfold bE;rw[aa1 (aaY h)]
theorem TN {L:List Obj} {k v:Key} (h:jU L k v=false):gA L k v=L:=by
 unfold jU at h;unfold gA;rw[aa1 (aaY h)]
theorem XA {L:List Obj} {k:Key} {n:Int} (h:b8 L k n=0):aN L k=0/\0<=gu L k:=by
 have he:aN L k=0:=Decidable.byContradiction fun he=>by
  rw[zb he]at h;exact he h
 refine⟨he,?_⟩;unfold b8 at h;split at h
 ·split at h
  ·omega
  ·rename_i h';omega
 ·rename_i h';exact absurd h h'
theorem L7 {L:List Obj} {k:Key} (hL:aq L):aq (ib L k):=by
 unfold ib;split
 ·exact IE hL fun o ho=>xW ho
 ·exact hL
theorem RN {L:List Obj} {k v:Key} (hL:aq L):aq (gA L k v):=by
 unfold gA;split
 ·by_cases h:v.oid.toNat<L.length
  ·exact kS hL (xW (dt hL _ h))
  ·have:b6 L v.oid.toNat (zq (aj L v.oid.toNat free))=L:=by unfold b6;exact List.set_eq_of_length_le (by omega)
   rw[this];exact hL
 ·exact hL
theorem WM {L:List Obj} {k:Key} {n:Int} (hL:aq L):aq (bE L k n):=by
 by_cases h:b8 L k n=0
 ·exact(QM hL (XA h).1 h).1
 ·unfold bE;rw[aa1 h];exact hL
theorem Dt {L:List Obj} {k:Key} {b:Bytes} (hL:aq L) (h:aU L k=true) (h2:k.kind=3):aq (ue L k b):=(qX hL h h2).2.2
theorem IM {L:List Obj} {a:Acp} (hL:aq L) (h:De L a=true):aq (Ox L a):=by
 unfold De at h;unfold Ox;split at h
 ·simp at h
 ·rename_i h1;rw[aa1 h1];split at h
  ·rename_i h2;rw[aa2 h2];have h:=aaZ h
   have hp:aW L a.key true=0:=by
    unfold cL at h;split at h
    ·assumption
    ·rename_i h3;exact absurd h h3
   obtain⟨a1,a2,_⟩:=nj hp;unfold eZ;rw[aa2 h];exact Dt hL a1 a2
  ·rename_i h2;rw[aa1 h2];split at h
   ·rename_i h3;rw[aa2 h3];have h:=aaZ h;obtain⟨a1,a2,_⟩:=nj h;unfold fq;rw[aa2 h];exact Dt hL a1 a2
   ·rename_i h3;rw[aa1 h3];have h:=aaZ h
    have hp:aW L a.key true=0:=by
     unfold cU at h;split at h
     ·assumption
     ·rename_i h3;exact absurd h h3
    obtain⟨a1,a2,_⟩:=nj hp;unfold fM;rw[aa2 h];exact Dt hL a1 a2
theorem E9 {L:List Obj} {k v:Key} {i:Int} (hL:aq L):aq (cC L k i v):=by
 by_cases h:bj L k i v=0
 ·exact zP (a:=⟨2,i,k,v⟩) hL (by simp[z7,h])
 ·unfold cC;rw[aa1 h];exact hL
theorem Lp {L:List Obj} {k:Key} (hL:aq L):aq (fA L k):=by
 by_cases h:aB L k 2 true=0
 ·exact zP (a:=⟨3,0,k,k⟩) hL (by simp[z7,h])
 ·unfold fA;rw[aa1 h];exact hL
theorem M8 {L:List Obj} {t f:Key} (hL:aq L):aq (eT L t f):=by
 by_cases h:bT L t f=0
 ·exact zP (a:=⟨4,0,t,f⟩) hL (by simp[z7,h])
 ·unfold eT;rw[aa1 h];exact hL
theorem Ot {L:List Obj} {k:Key} (hL:aq L):aq (fq L k):=by
 by_cases h:aW L k true=0
 ·exact IM (a:=⟨3,0,0,k,k,⟨#[]⟩⟩) hL (by simp[De,h])
 ·unfold fq;rw[aa1 h];exact hL
theorem S1 {L:List Obj} {t f:Key} (hL:aq L):aq (fM L t f):=by
 by_cases h:cU L t f=0
 ·exact IM (a:=⟨4,0,0,t,f,⟨#[]⟩⟩) hL (by simp[De,h])
 ·unfold fM;rw[aa1 h];exact hL
theorem fw {c:Prop} [Decidable c] {a b:P6} (ha:aq a.2.2) (hb:aq b.2.2):aq (if c then a else b).2.2:=by split<;>assumption
theorem ZJ {L:List Obj} {k:Key} {m:bp} (hL:aq L):aq (ey L k m).2.2:=by
 unfold ey;exact fw hL (fw (E9 hL) (fw (Lp hL) (fw (M8 hL) (fw hL hL))))
theorem ZF {L:List Obj} {k:Key} {m:bp} (hL:aq L):aq (eo L k m).2.2:=by
 unfold eo;exact fw hL (fw (Ii hL) (fw (Ot hL) (fw (S1 hL) hL)))
theorem ZD {L:List Obj} {k:Key} {m:bp} (hL:aq L):aq (dC L k m).2.2:=by
 unfold dC;exact fw (HS hL) (fw (HS hL) (fw (RN hL) (fw (WM hL) (fw hL (L7 hL)))))
theorem Zx {L:List Obj} {k:Key} {m:bp} (hL:aq L):aq (dv L k m).2.2:=by
 have hC:aq (if aS m<0\/11<aS m then L else cC L (fl k) (aS m+4) m.k0):=by
  split
  ·exact hL
  ·exact E9 hL
 unfold dv;exact fw hL (fw hC (fw hL (fw hL (fw (G6 hL) (fw hL (WD hL))))))
theorem X4 {L:List Obj} {n:Int} {k:Key} {m:bp} (hL:aq L):aq (eJ L n k m).2.2:=by
 unfold eJ;exact fw hL (fw (ZJ hL) (fw (ZF hL) (fw (ZD hL) (fw (Zx hL) (fw hL (fw hL hL))))))
theorem Ed {L:List Obj} {k v:Key} {i:Int} (h:iL L k i v=false):cC L k i v=L:=by unfold iL at h;unfold cC;rw[aa1 (aaY h)]
theorem OO {L:List Obj} {k:Key} (h:mH L k=false):fA L k=L:=by unfold mH at h;unfold fA;rw[aa1 (aaY h)]
theorem N5 {L:List Obj} {t f:Key} (h:kN L t f=false):eT L t f=L:=by unfold kN at h;unfold eT;rw[aa1 (aaY h)]
theorem Ri {L:List Obj} {k:Key} {i:Int} {s:ByteArray} (h:ki L k i s=false):eZ L k i s=L:=by unfold ki at h;unfold eZ;rw[aa1 (aaY h)]
theorem OP {L:List Obj} {k:Key} (h:mD L k=false):fq L k=L:=by unfold mD at h;unfold fq;rw[aa1 (aaY h)]
theorem SC {L:List Obj} {t f:Key} (h:mU L t f=false):fM L t f=L:=by unfold mU at h;unfold fM;rw[aa1 (aaY h)]
theorem H9 {L:List Obj} {i st:Int} (h:ku L i st=false):dg L i st=L:=by unfold ku at h;unfold dg;rw[aa1 (aaY h)]
theorem fU {c:Prop} [Decidable c] {a b:P6} {x y:Bool} {L:List Obj} (ha:x=false->a.2.2=L) (hb:y=false->b.2.2=L) (h:(if c then x else y)=false):(if c then a else b).2.2=L:=by
 by_cases hc:c
 ·rw[aa2 hc]at h⊢;exact ha h
 ·rw[aa1 hc]at h⊢;exact hb h
theorem aai {L:List Obj} {k:Key} {m:bp}:kg L k m=false->(ey L k m).2.2=L:=by
 unfold kg ey;exact fU (fun _=>rfl) (fU Ed (fU OO (fU N5 (fun _=>by split<;>rfl))))
theorem Zp {L:List Obj} {k:Key} {m:bp}:ld L k m=false->(eo L k m).2.2=L:=by
 unfold ld eo;exact fU (fun _=>rfl) (fU Ri (fU OP (fU SC (fun _=>rfl))))
theorem Z4 {L:List Obj} {k:Key} {m:bp}:gQ L k m=false->(dC L k m).2.2=L:=by
 unfold gQ dC;exact fU HI (fU HI (fU TN (fU Yb (fU (fun _=>rfl) RJ))))
theorem aah {L:List Obj} {k:Key} {m:bp}:iw L k m=false->(dv L k m).2.2=L:=by
 unfold iw dv;refine fU (fun _=>rfl) (fU (fun h=>?_) (fU (fun _=>rfl) (fU (fun _=>rfl) (fU H9 (fU (fun _=>rfl) Wo)))))
 show(if aS m<0\/11<aS m then L else cC L (fl k) (aS m+4) m.k0)=L
 by_cases hc:aS m<0\/11<aS m
 ·rw[aa2 hc]
 ·rw[aa1 hc]at h⊢;exact Ed h
theorem Yl {L:List Obj} {n:Int} {k:Key} {m:bp}:tP L k m=false->(eJ L n k m).2.2=L:=by
 unfold tP eJ
 exact fU (fun _=>rfl) (fU aai (fU Zp (fU Z4 (fU aah (fun _=>by repeat' split
                                                                all_goals rfl)))))
theorem Wp {L:List Obj} {n:Int} {k:Key} {m:bp} (hL:aq L):aq (eF L n k m):=by
 unfold eF dI;exact fw hL (fw hL (fw hL (X4 hL)))
theorem Gu {L:List Obj} {n:Int} {k:Key} {m:bp} (hL:aq L):aq (ia L n k m):=by
 unfold ia;split
 ·exact Wp hL
 ·exact hL
theorem WN {L:List Obj} {n:Int} {k:Key} {m:bp} (h:fz L n k m=false):ia L n k m=L:=by
 unfold fz at h;unfold ia;by_cases he:cJ L n k m=0
 ·rw[he]at h;rw[aa2 he];have h:vK L (ah L k) (aH L m)=false:=by simpa using h
  unfold vK at h;unfold eF dI;exact fU (fun _=>rfl) (fU (fun _=>rfl) (fU (fun _=>rfl) Yl)) h
 ·rw[aa1 he]
structure Aok where
 key:Key
 msg:bp
 now:Int
section
variable {L:List Obj} {n:Int} {k:Key} {m:bp} {p:jb}
theorem SE (b:Bytes) (lo hi:Nat):(xN b lo hi).size<=64:=by rw[JQ];omega
theorem Fb {i x:Int}:(ec L k i x).size<=64:=by
 unfold ec;split
 ·exact SE _ _ _
 ·exact Nat.zero_le _
theorem WW {i x:Int}:(jW L k i x).size<=64:=by
 unfold jW;split
 ·exact Fb
 ·exact Nat.zero_le _
theorem RP:(ey L k m).2.1.data.size<=64:=by unfold ey;(repeat' split)<;>exact Nat.zero_le _
theorem Tx:(eo L k m).2.1.data.size<=64:=by unfold eo;(repeat' split)<;>first|exact Fb|exact Nat.zero_le _
theorem Ua:(dC L k m).2.1.data.size<=64:=by unfold dC;(repeat' split)<;>exact Nat.zero_le _
theorem Sm:(dv L k m).2.1.data.size<=64:=by
 unfold dv;by_cases h1:m.code=1
 ·rw[aa2 h1];exact Nat.zero_le _
 rw[aa1 h1];by_cases h2:m.code=2
 ·rw[aa2 h2];exact Nat.zero_le _
 rw[aa1 h2];by_cases h3:m.code=3
 ·rw[aa2 h3];exact Nat.zero_le _
 rw[aa1 h3];by_cases h4:m.code=4
 ·rw[aa2 h4];exact Nat.zero_le _
 rw[aa1 h4];by_cases h5:m.code=5
 ·rw[aa2 h5];exact Nat.zero_le _
 rw[aa1 h5];by_cases h6:m.code=6
 ·rw[aa2 h6];exact WW
 rw[aa1 h6];exact Nat.zero_le _
theorem V3:(aG L n k m).data.size<=64:=by
 have hB:∀k m,(eJ L n k m).2.1.data.size<=64:=fun k m=>by
  unfold eJ;split
  ·exact Nat.zero_le _
  split
  ·exact RP
  split
  ·exact Tx
  split
  ·exact Ua
  split
  ·exact Sm
  split
  ·show(if m.code=1 then fu m.k0.kind else if m.code=2 then fu (dZ (k7 m.k0 m.k1))else fu m.k0.rights).data.size<=64
   split
   ·exact Nat.zero_le _
   ·split<;>exact Nat.zero_le _
  ·split<;>exact Nat.zero_le _
 have hR:∀k m,(dI L n k m).2.1.data.size<=64:=fun k m=>by
  unfold dI;split
  ·exact Nat.zero_le _
  split
  ·exact Nat.zero_le _
  split
  ·exact Nat.zero_le _
  ·exact hB k m
 unfold aG;split
 ·unfold en;split
  ·exact hR _ _
  ·exact Nat.zero_le _
 ·exact Nat.zero_le _
theorem CZ:aw (aG L n k m).data:=by have:=V3 (L:=L) (n:=n) (k:=k) (m:=m);unfold aw;omega
theorem we (hL:aq L) (h0:¬ai (b7 L)=0):let N:Int:=(ai (b7 L):Int);N<=64/\N≠0/\(-64<=p.proc.tmod N/\p.proc.tmod N<=64)/\(0<=(p.proc.tmod N+N).tmod N/\(p.proc.tmod N+N).tmod N<N):=by
 intro N
 have h1:ai (b7 L)<=L.length:=by
  have:=EB L (bQ (ai L));have e:(bQ (ai L)).toNat=L.length:=by unfold bQ ai;omega
  rw[e]at this;exact this
 have h2:=gY hL;have hN:0<N:=by show(0:Int)<(ai (b7 L):Int);omega
 have hN2:N<=64:=by show(ai (b7 L):Int)<=64;omega
 have a1:=Int.tmod_lt_of_pos p.proc hN;have a2:=Int.lt_tmod_of_pos p.proc hN;refine⟨hN2,by omega,⟨by omega,by omega⟩,Int.tmod_nonneg _ (by omega),Int.tmod_lt_of_pos _ hN⟩
theorem Bd (h:eu p n=true) (hk:p.kind=1):(1<=p.mode/\p.mode<=3)/\(0<=p.reg/\p.reg<12)/\(gU p.s0=true/\gU p.s1=true/\gU p.s2=true):=by
 unfold eu at h;rw[aa1 (by omega)]at h
 simp only[aaV,aaW]at h;obtain⟨⟨⟨⟨⟨⟨⟨a,b⟩,c⟩,d⟩,e⟩,f⟩,g⟩,h⟩:=h;unfold tL at e;simp only[aaV,aaW]at e;exact⟨⟨b,c⟩,e,f,g,h⟩
end
def jk:jb:=⟨0,0,0,0,0,⟨#[]⟩,0,0,0,false,0⟩
def lX (x:List jb):TL:= .fn (ai x) fun i=>Ky (aj x i jk)
def xF (x:List jb):Nat->V:=fun i=>Ky (aj x i jk)
def opD (v:V):Int:=match v with
 | .ag l=>match l with
   | [_,_,_,_,_,s,_,_,_]=>match s with
     | .st b=>bO b
     |_=>0
   |_=>0
 |_=>0
def opL:Arg TL:=laA 11 some id
theorem Wn:m8 opL:=Wl fun l x h=>by simpa using h
def Er (n:Nat) (F:Nat->V):Nat->Bool
 |0=>false
 |j+1=>Er n F j||(decide (j<n)&&decide (100<opD (F j)))
def sd (l:TL):Bool:=match l with
 | .fn n F=>decide (40<bQ n)||Er n F n
 |_=>false
def wE (x:List jb):Prop:=∀i,i<ai x->aw (aj x i jk).data
def Ll (l:TL):Prop:=∃x:List jb,l=lX x/\wE x
def Zm:Ct:=s7 (ba opL gJ) (fun x=>some (Ll x.1)) fun x=> .bo (sd x.1)
def xP (x:List jb) (g:Int):Prop:=0<=g/\g<=(ai x:Int)/\Er (ai x) (fun i=>Ky (aj x i jk)) g.toNat=false
theorem X5 {x:List jb} (h:sd (lX x)=false):¬40<bQ (ai x):=by
 unfold sd lX at h;simp only[Bool.or_eq_false_iff,decide_eq_false_iff_not]at h;exact h.1
theorem Ec {n:Nat} {F:Nat->V} {j:Nat} (hj:j<n) (h:100<opD (F j)):∀k,j<k->Er n F k=true
 |0,hk=>by omega
 |k+1,hk=>by
  unfold Er;by_cases e:j=k
  ·subst e;simp[hj,h]
  ·rw[Ec hj h k (by omega)];rfl
theorem JF {n:Nat} {F:Nat->V} {j:Nat} (h0:Er n F j=false) (h:¬100<opD (F j)):Er n F (j+1)=false:=by
 unfold Er;simp[h0,h]
def xj:Obj:=Obj.mk 1 1 free.calls ((((((free.slots.put 2 (Key.mk 1 void.oid void.count void.call void.rights 1)).put 4 (Key.mk 4 1 1 void.call void.rights void.value)).put 5 (Key.mk 8 void.oid void.count void.call void.rights void.value)).put 6 (Key.mk 9 void.oid void.count void.call void.rights void.value)).put 7 (Key.mk 10 void.oid void.count void.call void.rights void.value)).put 8 (Key.mk 5 0 1 void.call void.rights void.value)) free.bytes
def Lb (x:Int):Obj:=Obj.mk 1 1 free.calls ((free.slots.put 0 (Key.mk 1 void.oid void.count void.call void.rights 2)).put 1 (Key.mk 1 void.oid void.count void.call void.rights x)) free.bytes
def dc (n:Int):List Obj:=cK (cK (kh n) 0 xj) 1 (Lb (n-1))
end Go.Sx
namespace Go.Proofs.YtlblcfaclmpekaaGreat
open Go.Sx
abbrev abW(p:jb)(n:Int):=aba (!decide (p.s2= -1)) (true=true/\aba (!(decide (0<=p.s2)&&decide (p.s2<12))) (false=eu p n) (true=eu p n)) (true=eu p n)
abbrev abX(p:jb)(n:Int):=aba (!decide (p.s1= -1)) (true=true/\aba (!(decide (0<=p.s1)&&decide (p.s1<12))) (false=eu p n) (abW p n)) (abW p n)
theorem Kh (p:jb) (n:Int) (hs:aw p.data) (hn:gN n):
 aba (decide (p.kind=2)) (((decide (0<=p.val)&&decide (p.val<=1099511627776))=true->abd (4611686018427387904-p.val))/\(decide (0<=p.val)&&decide (p.val<=1099511627776)&&decide (n<=4611686018427387904-p.val))=eu p n) (((!(!decide (p.kind=1)||decide (p.mode<1)||decide (3<p.mode)))=true->abd (bO p.data))/\aba (!decide (p.kind=1)||decide (p.mode<1)||decide (3<p.mode)||decide (32<bO p.data)) (false=eu p n) (true=true/\aba (!(decide (0<=p.reg)&&decide (p.reg<12))) (false=eu p n) (aba (!decide (p.s0= -1)) (true=true/\aba (!(decide (0<=p.s0)&&decide (p.s0<12))) (false=eu p n) (abX p n)) (abX p n)))):=by
 delta aba abX abW abd
 have hz:(bQ (ai ([]:List Int)))=0:=rfl;have h1:aF IntKind.i64 (bO p.data):=by unfold aw at hs;simp only[aF,cc,bO];omega
 have c0:gU p.s0=(decide (p.s0= -1)||(decide (0<=p.s0)&&decide (p.s0<12))):=rfl
 have c1:gU p.s1=(decide (p.s1= -1)||(decide (0<=p.s1)&&decide (p.s1<12))):=rfl
 have c2:gU p.s2=(decide (p.s2= -1)||(decide (0<=p.s2)&&decide (p.s2<12))):=rfl
 unfold eu;refine⟨fun hk=>⟨fun hv=>?_,?_⟩,fun hk=>⟨fun _=>h1,fun hb=>?_,fun hb=>⟨rfl,fun hr=>?_,fun hr=>?_⟩⟩⟩
 ·simp only[aaV,aaW]at hv;simp only[aF,cc];omega
 ·rw[aa2 (aaZ hk)]
 all_goals rw[aa1 (aaY hk),c0,c1,c2]
 ·simp only[Bool.or_eq_true,Bool.not_eq_true',aaW,decide_eq_false_iff_not]at hb;symm
  simp only[Bool.and_eq_false_iff,decide_eq_false_iff_not];omega
 all_goals
  simp only[Bool.or_eq_false_iff,Bool.not_eq_false',aaW,decide_eq_false_iff_not]at hb;obtain⟨⟨⟨b1,b2⟩,b3⟩,b4⟩:=hb;have e1:decide (p.kind=1)=true:=decide_eq_true b1;have e2:decide (1<=p.mode)=true:=decide_eq_true (by omega)
  have e3:decide (p.mode<=3)=true:=decide_eq_true (by omega)
  have e4:decide (bO p.data<=32)=true:=decide_eq_true (by omega)
  have cr:tL p.reg=(decide (0<=p.reg)&&decide (p.reg<12)):=rfl;rw[e1,e2,e3,e4,cr];generalize (decide (0<=p.reg)&&decide (p.reg<12))=r at *
  generalize (decide (0<=p.s0)&&decide (p.s0<12))=a0 at *
  generalize (decide (0<=p.s1)&&decide (p.s1<12))=a1 at *
  generalize (decide (0<=p.s2)&&decide (p.s2<12))=a2 at *
  generalize decide (p.s0= -1)=d0 at *
  generalize decide (p.s1= -1)=d1 at *
  generalize decide (p.s2= -1)=d2 at *
  clear c0 c1 c2 cr;revert hr
  cases r<;>cases a0<;>cases a1<;>cases a2<;>cases d0<;>cases d1<;>cases d2<;>simp
theorem IY:cz Tryz.prog 37 Fj:=
 eQ (aA Ga (aA dE bV)) (fun _=>rfl) fun a hq hok=>by
  obtain⟨x,n,_⟩:=a;exact bc (inl:=(fun f=>f==56)) (ann:=(iJ [(37,6,Ml 4)])) ar (Kh (wy x) n hq.1 hq.2) (by kernel_rfl)
abbrev abY(p:jb)(o:Sx.Obj):=p.code=(bS o p).code/\p.data=(bS o p).data/\o.slots.at (4+p.s0).toNat=(bS o p).k0/\o.slots.at (4+p.s1).toNat=(bS o p).k1/\abg p.val=(bS o p).k2
abbrev abZ(p:jb)(o:Sx.Obj):=p.code=(bS o p).code/\p.data=(bS o p).data/\void=(bS o p).k0/\o.slots.at (4+p.s1).toNat=(bS o p).k1/\abg p.val=(bS o p).k2
abbrev aca(p:jb)(o:Sx.Obj):=p.code=(bS o p).code/\p.data=(bS o p).data/\o.slots.at (4+p.s0).toNat=(bS o p).k0/\void=(bS o p).k1/\abg p.val=(bS o p).k2
abbrev acb(p:jb)(o:Sx.Obj):=p.code=(bS o p).code/\p.data=(bS o p).data/\void=(bS o p).k0/\void=(bS o p).k1/\abg p.val=(bS o p).k2
theorem TR (o:Sx.Obj) (p:jb) (h0:gU p.s0=true) (h1:gU p.s1=true) (h2:gU p.s2=true):
 abb (aba (decide (p.s0<0)) (abb (aba (decide (p.s1<0)) (abb (aba (decide (p.s2<0)) (aba p.num (acb p o) (p.code=(bS o p).code/\p.data=(bS o p).data/\void=(bS o p).k0/\void=(bS o p).k1/\void=(bS o p).k2)) (abd (4+p.s2)/\(0<=4+p.s2/\4+p.s2< ↑16)/\aba p.num (acb p o) (p.code=(bS o p).code/\p.data=(bS o p).data/\void=(bS o p).k0/\void=(bS o p).k1/\o.slots.at (4+p.s2).toNat=(bS o p).k2)))) (abd (4+p.s1)/\(0<=4+p.s1/\4+p.s1< ↑16)/\abb (aba (decide (p.s2<0)) (aba p.num (abZ p o) (p.code=(bS o p).code/\p.data=(bS o p).data/\void=(bS o p).k0/\o.slots.at (4+p.s1).toNat=(bS o p).k1/\void=(bS o p).k2)) (abd (4+p.s2)/\(0<=4+p.s2/\4+p.s2< ↑16)/\aba p.num (abZ p o) (p.code=(bS o p).code/\p.data=(bS o p).data/\void=(bS o p).k0/\o.slots.at (4+p.s1).toNat=(bS o p).k1/\o.slots.at (4+p.s2).toNat=(bS o p).k2)))))) (abd (4+p.s0)/\(0<=4+p.s0/\4+p.s0< ↑16)/\abb (aba (decide (p.s1<0)) (abb (aba (decide (p.s2<0)) (aba p.num (aca p o) (p.code=(bS o p).code/\p.data=(bS o p).data/\o.slots.at (4+p.s0).toNat=(bS o p).k0/\void=(bS o p).k1/\void=(bS o p).k2)) (abd (4+p.s2)/\(0<=4+p.s2/\4+p.s2< ↑16)/\aba p.num (aca p o) (p.code=(bS o p).code/\p.data=(bS o p).data/\o.slots.at (4+p.s0).toNat=(bS o p).k0/\void=(bS o p).k1/\o.slots.at (4+p.s2).toNat=(bS o p).k2)))) (abd (4+p.s1)/\(0<=4+p.s1/\4+p.s1< ↑16)/\abb (aba (decide (p.s2<0)) (aba p.num (abY p o) (p.code=(bS o p).code/\p.data=(bS o p).data/\o.slots.at (4+p.s0).toNat=(bS o p).k0/\o.slots.at (4+p.s1).toNat=(bS o p).k1/\void=(bS o p).k2)) (abd (4+p.s2)/\(0<=4+p.s2/\4+p.s2< ↑16)/\aba p.num (abY p o) (p.code=(bS o p).code/\p.data=(bS o p).data/\o.slots.at (4+p.s0).toNat=(bS o p).k0/\o.slots.at (4+p.s1).toNat=(bS o p).k1/\o.slots.at (4+p.s2).toNat=(bS o p).k2))))))):=by
 delta aba abg acb aca abZ abY abd abb
 have key:∀s,gU s=true->s<0\/(¬s<0/\aF IntKind.i64 (4+s)/\(0<=4+s/\4+s<16)):=fun s hs=>by
  unfold gU tL at hs;simp only[Bool.or_eq_true,aaV,aaW]at hs;simp only[aF,cc];omega
 have hq:bL p.val=Key.mk 1 void.oid void.count void.call void.rights p.val:=rfl;unfold bS oD;rw[hq]
 rcases key p.s0 h0 with a0|⟨a0,f0,g0,i0⟩<;>rcases key p.s1 h1 with a1|⟨a1,f1,g1,i1⟩<;>rcases key p.s2 h2 with a2|⟨a2,f2,g2,i2⟩<;>cases hn:p.num<;>simp only[*,decide_true,decide_false,if_true,if_false,true_and,and_true,and_self,Bool.false_eq_true,Bool.true_eq_false,false_implies,true_implies,implies_true,reduceCtorEq]<;>(repeat' apply And.intro)<;>omega
theorem Sd:cz Tryz.prog 59 Xk:=
 eQ (aA NG F5) (fun _=>rfl) fun a hq hok=>by
  obtain⟨o,x,_⟩:=a;exact bc (inl:=(fun f=>f==89)) (ann:=(iJ [(59,4,Ml 4)])) ar (TR o (wy x) hq.1 hq.2.1 hq.2.2) (by kernel_rfl)
abbrev acd(L:List Sx.Obj)(n:Int)(p:jb):=4=(aT L n p).out/\aX L p=(aT L n p).proc/\0=(aT L n p).err/\(aG L n (cR L p) (bK L p)).code=(aT L n p).ans.code/\(aG L n (cR L p) (bK L p)).data=(aT L n p).ans.data/\(aG L n (cR L p) (bK L p)).k0=(aT L n p).ans.k0/\(aG L n (cR L p) (bK L p)).k1=(aT L n p).ans.k1/\(aG L n (cR L p) (bK L p)).k2=(aT L n p).ans.k2/\cW L n (cR L p) (bK L p)=(aT L n p).wants
abbrev ace(p:jb)(L:List Sx.Obj):=p.proc.tmod (bQ (ai (b7 L)))+bQ (ai (b7 L))
theorem R1 (L:List Sx.Obj) (n:Int) (p:jb) (hq:Xy L n p/\eu p n=true/\p.kind=1):
 abb (iu L/\(true=false->False)/\(true=true->aba (decide (bQ (ai (b7 L))=0)) (n=n/\(1=(aT L n p).out/\0=(aT L n p).proc/\0=(aT L n p).err/\0=(aT L n p).ans.code/\abG=(aT L n p).ans.data/\void=(aT L n p).ans.k0/\void=(aT L n p).ans.k1/\void=(aT L n p).ans.k2/\false=(aT L n p).wants)/\L=dP L n p) ((nX (bQ (ai (b7 L)))/\abd (p.proc.tmod (bQ (ai (b7 L)))))/\abd (ace p L)/\(nX (bQ (ai (b7 L)))/\abd ((ace p L).tmod (bQ (ai (b7 L)))))/\(0<=(ace p L).tmod (bQ (ai (b7 L)))/\(ace p L).tmod (bQ (ai (b7 L)))< ↑(ai (b7 L)))/\((ace p L).tmod (bQ (ai (b7 L)))).toNat<ai (b7 L)/\abd (4+p.reg)/\(0<=4+p.reg/\4+p.reg< ↑16)/\(gU p.s0=true/\gU p.s1=true/\gU p.s2=true)/\aba (decide ((cR L p).kind=6)||decide ((cR L p).kind=7)) (abb (aw (bK L p).data/\(aq L/\aw (bK L p).data)/\aba (!decide (b9 L (aX L p) (cR L p) p.mode (bK L p)=0)) (n=n/\(3=(aT L n p).out/\aX L p=(aT L n p).proc/\b9 L (aX L p) (cR L p) p.mode (bK L p)=(aT L n p).err/\0=(aT L n p).ans.code/\abG=(aT L n p).ans.data/\void=(aT L n p).ans.k0/\void=(aT L n p).ans.k1/\void=(aT L n p).ans.k2/\false=(aT L n p).wants)/\fe L (aX L p) (cR L p) p.mode (bK L p)=dP L n p) (n=n/\(2=(aT L n p).out/\aX L p=(aT L n p).proc/\0=(aT L n p).err/\0=(aT L n p).ans.code/\abG=(aT L n p).ans.data/\void=(aT L n p).ans.k0/\void=(aT L n p).ans.k1/\void=(aT L n p).ans.k2/\false=(aT L n p).wants)/\fe L (aX L p) (cR L p) p.mode (bK L p)=dP L n p))) (abb (aw (bK L p).data/\(aq L/\aw (bK L p).data)/\aba (dS (iH L n p) (aX L p)&&decide (iG (iH L n p) (aX L p)=1)) (aba (decide (p.mode=1)) (abb (aw (aG L n (cR L p) (bK L p)).data/\(aq (iH L n p)/\aw (aG L n (cR L p) (bK L p)).data)/\n=n/\(acd L n p)/\gx (iH L n p) (aX L p) (aG L n (cR L p) (bK L p))=dP L n p)) (aba (decide (p.mode=3)) (abb (aq (iH L n p)/\n=n/\(acd L n p)/\dg (iH L n p) (aX L p) 0=dP L n p)) (n=n/\(acd L n p)/\iH L n p=dP L n p))) (n=n/\(acd L n p)/\iH L n p=dP L n p)))))):=by
 delta aba abG ace acd abd abb
 obtain⟨⟨hL,hs,hn⟩,hr,hk⟩:=hq;obtain⟨hm,⟨r0,r1⟩,hsd⟩:=Bd hr hk;have nk2:¬p.kind=2:=by omega
 have hnn:bQ (ai (b7 L))=(ai (b7 L):Int):=rfl;refine⟨rfl,Bc hL,fun h=>by simp at h,fun _=>⟨fun h=>?_,fun h=>?_⟩⟩
 ·have h0:ai (b7 L)=0:=by have:=aaZ h;rw[hnn]at this;omega
  have e1:aT L n p=⟨1,0,0,cY,false⟩:=by unfold aT;rw[aa2 hr,aa1 nk2,aa2 h0]
  have e2:dP L n p=L:=by unfold dP;rw[aa1 (fun h=>h.2.2 h0)]
  rw[e1,e2];exact⟨rfl,(by(repeat' apply And.intro)<;>rfl),rfl⟩
 have h0:¬ai (b7 L)=0:=by have:=aaY h;rw[hnn]at this;omega
 obtain⟨f1,f2,f3,f4⟩:=we (p:=p) hL h0
 have eD:aT L n p=if rr L p=true then(if b9 L (aX L p) (cR L p) p.mode (bK L p)=0 then⟨2,aX L p,0,cY,false⟩else⟨3,aX L p,b9 L (aX L p) (cR L p) p.mode (bK L p),cY,false⟩)
   else⟨4,aX L p,0,aG L n (cR L p) (bK L p),cW L n (cR L p) (bK L p)⟩:=by unfold aT;rw[aa2 hr,aa1 nk2,aa1 h0]
 have eL:dP L n p=if rr L p=true then fe L (aX L p) (cR L p) p.mode (bK L p)else w8 L n p:=by unfold dP;rw[aa2 ⟨hr,nk2,h0⟩]
 have h1:aq (iH L n p):=Gu hL;rw[hnn];refine⟨⟨f2,by simp only[aF,cc];omega⟩,by simp only[aF,cc];omega,⟨f2,by simp only[aF,cc];omega⟩,f4,by omega,by simp only[aF,cc];omega,⟨by omega,by omega⟩,hsd,fun hc=>?_,fun hc=>?_⟩
 ·have hC:rr L p=true:=hc;rw[eD,eL,aa2 hC,aa2 hC];refine⟨rfl,hs,⟨hL,hs⟩,fun he=>?_,fun he=>?_⟩
  ·have he:¬b9 L (aX L p) (cR L p) p.mode (bK L p)=0:=by simpa using he
   rw[aa1 he];exact⟨rfl,(by(repeat' apply And.intro)<;>rfl),rfl⟩
  ·have he:b9 L (aX L p) (cR L p) p.mode (bK L p)=0:=by simpa using he
   rw[aa2 he];exact⟨rfl,(by(repeat' apply And.intro)<;>rfl),rfl⟩
 ·have hC:¬rr L p=true:=by
   have:rr L p=false:=hc;rw[this];simp
  rw[eD,eL,aa1 hC,aa1 hC]
  have e2:w8 L n p=if dS (iH L n p) (aX L p)=true/\iG (iH L n p) (aX L p)=1 then
    if p.mode=1 then gx (iH L n p) (aX L p) (aG L n (cR L p) (bK L p))else if p.mode=3 then dg (iH L n p) (aX L p) 0 else iH L n p
   else iH L n p:=rfl
  refine⟨rfl,hs,⟨hL,hs⟩,fun hb=>⟨fun h1'=>?_,fun h1'=>⟨fun h3=>?_,fun h3=>?_⟩⟩,fun hb=>?_⟩
  all_goals simp only[aaV,Bool.and_eq_false_iff,aaW,decide_eq_false_iff_not]at hb
  ·rw[e2,aa2 hb,aa2 (aaZ h1')];exact⟨rfl,CZ,⟨h1,CZ⟩,rfl,(by(repeat' apply And.intro)<;>rfl),rfl⟩
  ·rw[e2,aa2 hb,aa1 (aaY h1'),aa2 (aaZ h3)];exact⟨rfl,h1,rfl,(by(repeat' apply And.intro)<;>rfl),rfl⟩
  ·rw[e2,aa2 hb,aa1 (aaY h1'),aa1 (aaY h3)];exact⟨rfl,(by(repeat' apply And.intro)<;>rfl),rfl⟩
  ·rw[e2,aa1 (fun h=>by rcases hb with hb|hb;rw[h.1]at hb;simp at hb;exact hb h.2)]
   exact⟨rfl,(by(repeat' apply And.intro)<;>rfl),rfl⟩
theorem UO:lh Tryz.prog 38 Wy:=Qt (fun _ _ _=>rfl) fun L n p hq=>bm (inl:=bx) (ann:=aQ) (ae Sd (ae fY (ae iv (ae rR ar)))) (aC VP (aC Xx (aC YV (aC WR (aC MO aE))))) (R1 L n p hq) (by kernel_rfl)
abbrev acf(L:List Sx.Obj)(p:jb)(n:Int):=true=true/\((aq L/\aw p.data/\gN n)/\eu p n=true/\p.kind=1)/\n=jn n p/\((aT L n p).out=(aT L n p).out/\(aT L n p).proc=(aT L n p).proc/\(aT L n p).err=(aT L n p).err/\(aT L n p).ans.code=(aT L n p).ans.code/\(aT L n p).ans.data=(aT L n p).ans.data/\(aT L n p).ans.k0=(aT L n p).ans.k0/\(aT L n p).ans.k1=(aT L n p).ans.k1/\(aT L n p).ans.k2=(aT L n p).ans.k2/\(aT L n p).wants=(aT L n p).wants/\0=oJ n p)/\dP L n p=dP L n p
abbrev acg(n:Int)(p:jb)(L:List Sx.Obj):=true=true/\aF IntKind.i64 (n+p.val)/\n+p.val=jn n p/\(5=(aT L n p).out/\0=(aT L n p).proc/\0=(aT L n p).err/\0=(aT L n p).ans.code/\abG=(aT L n p).ans.data/\void=(aT L n p).ans.k0/\void=(aT L n p).ans.k1/\void=(aT L n p).ans.k2/\false=(aT L n p).wants/\0=oJ n p)/\L=dP L n p
theorem Ro (L:List Sx.Obj) (n:Int) (p:jb) (hq:Xy L n p):
 true=true/\(aw p.data/\gN n)/\aba (!eu p n) (n=jn n p/\(0=(aT L n p).out/\0=(aT L n p).proc/\0=(aT L n p).err/\0=(aT L n p).ans.code/\abG=(aT L n p).ans.data/\void=(aT L n p).ans.k0/\void=(aT L n p).ans.k1/\void=(aT L n p).ans.k2/\false=(aT L n p).wants/\2=oJ n p)/\L=dP L n p) ((aba (decide (p.kind=1)) (acf L p n) (aba (decide (p.kind=2)) (acg n p L) False))/\aba (decide (p.kind=2)) (acg n p L) (aba (decide (p.kind=1)) (acf L p n) False)):=by
 delta aba abG acg acf
 obtain⟨hL,hs,hn⟩:=hq
 have ht:eu p n=true->p.kind=2->aF IntKind.i64 (n+p.val):=fun hr hk=>by
  unfold eu at hr;rw[aa2 hk]at hr;simp only[aaV,aaW]at hr;unfold gN at hn;simp only[aF,cc];omega
 refine⟨rfl,⟨hs,hn⟩,fun hr=>?_,fun hr=>?_⟩
 ·have hr:eu p n=false:=by simpa using hr
  have e1:jn n p=n:=by unfold jn;rw[aa1 (by simp[hr])]
  have e2:aT L n p=dn0:=by unfold aT;rw[aa1 (by simp[hr])]
  have e3:oJ n p=2:=by unfold oJ;rw[aa1 (by simp[hr])]
  have e4:dP L n p=L:=by unfold dP;rw[aa1 (by simp[hr])]
  rw[e1,e2,e3,e4];(repeat' apply And.intro)<;>rfl
 have hr:eu p n=true:=by simpa using hr
 have e3:oJ n p=0:=by unfold oJ;rw[aa2 hr]
 have one:∀h1:p.kind=1,jn n p=n:=fun h1=>by unfold jn;rw[aa1 (by omega)]
 have two:∀h2:p.kind=2,jn n p=n+p.val/\aT L n p=⟨5,0,0,cY,false⟩/\dP L n p=L:=fun h2=>by
  refine⟨?_,?_,?_⟩
  ·unfold jn;rw[aa2 ⟨hr,h2⟩]
  ·unfold aT;rw[aa2 hr,aa2 h2]
  ·unfold dP;rw[aa1 (fun h=>h.2.1 h2)]
 have bad:¬p.kind=1->¬p.kind=2->False:=fun h1 h2=>by
  unfold eu at hr;rw[aa1 h2]at hr;simp[h1]at hr
 refine⟨⟨fun h1=>?_,fun h1=>⟨fun h2=>?_,fun h2=>?_⟩⟩,⟨fun h2=>?_,fun h2=>⟨fun h1=>?_,fun h1=>?_⟩⟩⟩
 ·have h1:=aaZ h1;refine⟨rfl,⟨⟨hL,hs,hn⟩,hr,h1⟩,(one h1).symm,?_,rfl⟩;(repeat' apply And.intro)<;>first|rfl|exact e3.symm
 ·have h2:=aaZ h2;obtain⟨a,b,c⟩:=two h2;rw[a,b,c,e3];exact⟨rfl,ht hr h2,rfl,(by(repeat' apply And.intro)<;>rfl),rfl⟩
 ·exact(bad (aaY h1) (aaY h2)).elim
 ·have h2:=aaZ h2;obtain⟨a,b,c⟩:=two h2;rw[a,b,c,e3];exact⟨rfl,ht hr h2,rfl,(by(repeat' apply And.intro)<;>rfl),rfl⟩
 ·have h1:=aaZ h1;refine⟨rfl,⟨⟨hL,hs,hn⟩,hr,h1⟩,(one h1).symm,?_,rfl⟩;(repeat' apply And.intro)<;>first|rfl|exact e3.symm
 ·exact(bad (aaY h1) (aaY h2)).elim
theorem IV:lh Tryz.prog 19 VX:=Qt (fun _ _ _=>rfl) fun L n p hq=>bm (inl:=(fun f=>f==32||f==39)) (ann:=aQ) (ae IY ar) (aC UO aE) (Ro L n p hq) (by kernel_rfl)
abbrev ach:=jb.mk 1 0 0 1 1 abG (-1) (-1) (-1) false 0
theorem K4:
 abb (abb ((gZ 6=false->abb False)/\(gZ 6=true->abb (abb (abb (abb (abb (abb ((aq (dc 6)/\aw abG/\gN 0)/\(decide (oJ 0 ach=0)&&decide ((aT (dc 6) 0 ach).out=4)&&Bw (aT (dc 6) 0 ach).ans.k0 (Key.mk 2 2 1 void.call void.rights void.value))=true))))))))):=by
 delta abG ach abb
 have st:aw (ByteArray.mk (Array.mk [])):=by unfold aw;decide
 have h1:aq (dc 6):=by unfold aq;kernel_rfl
 refine⟨rfl,rfl,fun h=>absurd h (by decide),fun _=>⟨rfl,rfl,rfl,rfl,rfl,rfl,⟨h1,st,by unfold gN;omega⟩,?_⟩⟩
 kernel_rfl
theorem KS:cz Tryz.prog 11 Uh:=VJ rfl (bm (inl:=(fun f=>f==12||f==29)) (ann:=aQ) ar (aC Mh (aC dB (aC IV aE))) K4 (by kernel_rfl))
theorem Wj (x:List jb) (hx:wE x):
 aba (decide (40<bQ (ai x))) (true=sd (lX x)) ((∃g,xP x g/\0=g/\ai x=ai x/\xF x=xF x)/\∀(g:Int),xP x g->aba (decide (g<bQ (ai x))) ((0<=g/\g< ↑(ai x))/\g.toNat<ai x/\abd (bO (aj x g.toNat jk).data)/\aba (decide (100<bO (aj x g.toNat jk).data)) (true=sd (lX x)) (abd (g+1)/\∃g',xP x g'/\(bQ (ai x)-g').toNat<(bQ (ai x)-g).toNat/\g+1=g'/\ai x=ai x/\xF x=xF x)) (false=sd (lX x))):=by
 delta aba abd
 refine⟨fun h=>?_,fun h=>⟨⟨0,⟨by omega,by omega,rfl⟩,rfl,rfl,rfl⟩,fun g hg=>⟨fun hlt=>?_,fun hge=>?_⟩⟩⟩
 ·unfold sd lX;simp only;rw[h];rfl
 ·obtain⟨g0,g1,g2⟩:=hg;have hlt:g<(ai x:Int):=aaZ hlt;have hs:=hx g.toNat (by omega)
  have h40:¬40<(ai x:Int):=aaY h;have e:opD (Ky (aj x g.toNat jk))=bO (aj x g.toNat jk).data:=rfl;refine⟨⟨g0,hlt⟩,by omega,by unfold aw at hs;simp only[aF,cc,bO];omega,fun h1=>?_,fun h1=>⟨by simp only[aF,cc];omega,g+1,⟨by omega,by omega,?_⟩,by unfold bQ;omega,rfl,rfl,rfl⟩⟩
  ·have h1:=aaZ h1;unfold sd lX;simp only;rw[Ec (F:=fun i=>Ky (aj x i jk)) (j:=g.toNat) (by omega) (by rw[e];exact h1) (ai x) (by omega),Bool.or_true]
  ·have h1:=aaY h1;rw[show(g+1).toNat=g.toNat+1 by omega]
   exact JF g2 (by rw[e];exact h1)
 ·obtain⟨g0,g1,g2⟩:=hg;have hge:¬g<(ai x:Int):=aaY hge;rw[show g.toNat=ai x by omega]at g2
  unfold sd lX;simp only;rw[h,g2];rfl
theorem Yc:cz Tryz.prog 10 Zm:=
 eQ (aA Wn bV) (fun _=>rfl) fun a hq hok=>by
  obtain⟨_,_⟩:=a;obtain⟨x,rfl,hx⟩:=hq;exact bc (inl:=bx) (ann:=(iJ [(10,4,Ws [0] (fun g=> [(3,.it .i64 g)]) (xP x) (bQ (ai x)))])) ar (Wj x hx) (by kernel_rfl)
end Go.Proofs.YtlblcfaclmpekaaGreat
