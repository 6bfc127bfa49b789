import Derived.Test.YtmfbohanboiklaaGreatMb14
set_option linter.unusedSimpArgs false
set_option linter.unusedVariables false
set_option maxRecDepth 100000
namespace Go.Proofs.YtmfbohanboiklaaGreat
open Go.Sx
theorem W4(L:List Sx.Obj)(n:Int)(k:Key)(m:bP)(hL:aP L)(hs:aR m.data):
 true=true/\(bP.mk 190 eB void void void,L)=aY L n (kk 0 k) m:=by
 simp+decide [aY,dZ,ey,ee,fh,jv,iY,jt,gU,er,dP,gk,gJ,gf,iX,dV,void,eV,eB,bH,fS,fJ,fR,kk,mm,hL,hs];try grind
theorem Wf[Fen](L:List Sx.Obj)(n:Int)(k:Key)(m:bP)(hL:aP L)(hs:aR m.data):aL Tryz.prog 94 [.lp 0 0] [.ro (.blk oa (hU (.it .i64 m.code) m n (.ci .i64 0) k)),.store tS eS L] (kO (aY L n ((kk 0 k)) (m))) (fun _ _=>False):=
 bk (inl:=(abE abF)) (ann:=bj) (aH de aO) aU (ep bY) (W4 L n k m hL hs) (by kernel_rfl)
theorem Wa(L:List Sx.Obj)(n:Int)(k:Key)(m:bP)(hL:aP L)(hs:aR m.data)(hz:¬k.kind=0):
 aw (au (!!decide (k.kind=0)) ((bP.mk 190 eB void void void,L)=aY L n k (mm 0 m)) (aw (aw ((bP.mk 0 eB void void (aA k.kind),L)=aY L n k (mm 0 m))))):=by
 delta au aA aw
 have hX:aY L n k (mm 0 m)=(gJ k.kind,L):=by
  have hr:ee L n k (mm 0 m)=(0,gJ k.kind,L):=by
   unfold ee;rw[aq hz,ar (show(mm 0 m).code=0 from rfl)]
  simp[aY,dZ,ey,hr]
 rw[hX];simp[hz];rfl
theorem XU[Fen](L:List Sx.Obj)(n:Int)(k:Key)(m:bP)(hL:aP L)(hs:aR m.data)(hz:¬k.kind=0):aL Tryz.prog 94 [.lp 0 0] [.ro (.blk oa (hU (.ci .i64 0) m n (.it .i64 k.kind) k)),.store tS eS L] (kO (aY L n (k) ((mm 0 m)))) (fun _ _=>False):=
 bk (inl:=(abE abF)) (ann:=bj) (aH de aO) aU (ep bY) (Wa L n k m hL hs hz) (by kernel_rfl)
abbrev aaR:=true=true/\False
theorem Vw(L:List Sx.Obj)(n:Int)(k:Key)(m:bP)(hL:aP L)(hs:aR m.data)(hz:¬k.kind=0)(hc:¬m.code=0)(hn:m.code<1\/dP k.kind<m.code):
 aw (au (!!decide (k.kind=0)) ((bP.mk 190 eB void void void,L)=aY L n k m) (au (decide (m.code=0)) (aw (aw ((bP.mk 0 eB void void (aA k.kind),L)=aY L n k m))) (aw (au (!(oc 1 1 k m||(oc 2 1 k m||(oc 2 2 k m||(oc 2 3 k m||(oc 2 4 k m||(oc 2 5 k m||(oc 2 6 k m||(oc 3 1 k m||(oc 3 2 k m||(oc 3 3 k m||(oc 3 4 k m||(oc 3 5 k m||(oc 4 1 k m||(oc 4 2 k m||(oc 4 3 k m||(oc 4 4 k m||(oc 4 5 k m||(oc 4 6 k m||(oc 5 1 k m||(oc 5 2 k m||(oc 5 3 k m||(oc 5 4 k m||(oc 5 5 k m||(oc 5 6 k m||(oc 5 7 k m||(oc 8 1 k m||(oc 8 2 k m||(oc 8 3 k m||(oc 9 1 k m||oc 10 1 k m)))))))))))))))))))))))))))))) ((bP.mk 240 eB void void void,L)=aY L n k m) (au (oc 1 1 k m) aaR (au (oc 2 1 k m) aaR (au (oc 2 2 k m) aaR (au (oc 2 3 k m) aaR (au (oc 2 4 k m) aaR (au (oc 2 5 k m) aaR (au (oc 2 6 k m) aaR (au (oc 3 1 k m) aaR (au (oc 3 2 k m) aaR (au (oc 3 3 k m) aaR (au (oc 3 4 k m) aaR (au (oc 3 5 k m) aaR (au (oc 4 1 k m) aaR (au (oc 4 2 k m) aaR (au (oc 4 3 k m) aaR (au (oc 4 4 k m) aaR (au (oc 4 5 k m) aaR (au (oc 4 6 k m) aaR (au (oc 5 1 k m) aaR (au (oc 5 2 k m) aaR (au (oc 5 3 k m) aaR (au (oc 5 4 k m) aaR (au (oc 5 5 k m) aaR (au (oc 5 6 k m) aaR (au (oc 5 7 k m) aaR (au (oc 8 1 k m) aaR (au (oc 8 2 k m) aaR (au (oc 8 3 k m) aaR (au (oc 9 1 k m) aaR (au (oc 10 1 k m) aaR False)))))))))))))))))))))))))))))))))):=by
 delta au aA aaR aw
 have hX:aY L n k m=(gf 240,L):=by
  have hr:ee L n k m=(240,eV,L):=by
   unfold ee;rw[aq hz,aq hc,ar (by rcases hn with h|h;exact .inl h;exact .inr (.inl h))]
  simp[aY,dZ,ey,hr]
 rw[hX]
 have hq:∀a b:Int,1<=b->b<=dP a->oc a b k m=false:=fun a b h1 h2=>by
  cases h:oc a b k m with
  |false=>rfl
  |true=>
   unfold oc at h;simp only[af,ah]at h;obtain⟨rfl,rfl⟩:=h;omega
 have f1_1:oc 1 1 k m=false:=hq 1 1 (by omega) (by decide)
 have f2_1:oc 2 1 k m=false:=hq 2 1 (by omega) (by decide)
 have f2_2:oc 2 2 k m=false:=hq 2 2 (by omega) (by decide)
 have f2_3:oc 2 3 k m=false:=hq 2 3 (by omega) (by decide)
 have f2_4:oc 2 4 k m=false:=hq 2 4 (by omega) (by decide)
 have f2_5:oc 2 5 k m=false:=hq 2 5 (by omega) (by decide)
 have f2_6:oc 2 6 k m=false:=hq 2 6 (by omega) (by decide)
 have f3_1:oc 3 1 k m=false:=hq 3 1 (by omega) (by decide)
 have f3_2:oc 3 2 k m=false:=hq 3 2 (by omega) (by decide)
 have f3_3:oc 3 3 k m=false:=hq 3 3 (by omega) (by decide)
 have f3_4:oc 3 4 k m=false:=hq 3 4 (by omega) (by decide)
 have f3_5:oc 3 5 k m=false:=hq 3 5 (by omega) (by decide)
 have f4_1:oc 4 1 k m=false:=hq 4 1 (by omega) (by decide)
 have f4_2:oc 4 2 k m=false:=hq 4 2 (by omega) (by decide)
 have f4_3:oc 4 3 k m=false:=hq 4 3 (by omega) (by decide)
 have f4_4:oc 4 4 k m=false:=hq 4 4 (by omega) (by decide)
 have f4_5:oc 4 5 k m=false:=hq 4 5 (by omega) (by decide)
 have f4_6:oc 4 6 k m=false:=hq 4 6 (by omega) (by decide)
 have f5_1:oc 5 1 k m=false:=hq 5 1 (by omega) (by decide)
 have f5_2:oc 5 2 k m=false:=hq 5 2 (by omega) (by decide)
 have f5_3:oc 5 3 k m=false:=hq 5 3 (by omega) (by decide)
 have f5_4:oc 5 4 k m=false:=hq 5 4 (by omega) (by decide)
 have f5_5:oc 5 5 k m=false:=hq 5 5 (by omega) (by decide)
 have f5_6:oc 5 6 k m=false:=hq 5 6 (by omega) (by decide)
 have f5_7:oc 5 7 k m=false:=hq 5 7 (by omega) (by decide)
 have f8_1:oc 8 1 k m=false:=hq 8 1 (by omega) (by decide)
 have f8_2:oc 8 2 k m=false:=hq 8 2 (by omega) (by decide)
 have f8_3:oc 8 3 k m=false:=hq 8 3 (by omega) (by decide)
 have f9_1:oc 9 1 k m=false:=hq 9 1 (by omega) (by decide)
 have f10_1:oc 10 1 k m=false:=hq 10 1 (by omega) (by decide)
 simp only[f1_1,f2_1,f2_2,f2_3,f2_4,f2_5,f2_6,f3_1,f3_2,f3_3,f3_4,f3_5,f4_1,f4_2,f4_3,f4_4,f4_5,f4_6,f5_1,f5_2,f5_3,f5_4,f5_5,f5_6,f5_7,f8_1,f8_2,f8_3,f9_1,f10_1];simp[hz,hc];rfl
theorem Wv[Fen](L:List Sx.Obj)(n:Int)(k:Key)(m:bP)(hL:aP L)(hs:aR m.data)(hz:¬k.kind=0)(hc:¬m.code=0)(hn:m.code<1\/dP k.kind<m.code):aL Tryz.prog 94 [.lp 0 0] [.ro (.blk oa (hU (.it .i64 m.code) m n (.it .i64 k.kind) k)),.store tS eS L] (kO (aY L n (k) (m))) (fun _ _=>False):=
 bk (inl:=(abE abF)) (ann:=bj) (aH de aO) aU (ep bY) (Vw L n k m hL hs hz hc hn) (by kernel_rfl)
theorem tk[Fen]{L:List Sx.Obj}{n:Int}{k:Key}{m:bP}{kd cd:Int}(hk:k.kind=kd)(hc:m.code=cd)(h:aL Tryz.prog 94 [.lp 0 0] [.ro (.blk oa (hU (.ci .i64 cd) m n (.ci .i64 kd) k)),.store tS eS L] (kO (aY L n (kk kd k) (mm cd m))) (fun _ _=>False)):
  aL Tryz.prog 94 [.lp 0 0] [.ro (.blk oa (hU (.it .i64 m.code) m n (.it .i64 k.kind) k)),.store tS eS L] (kO (aY L n k m)) (fun _ _=>False):=by
 rw[xw hk,GI hc]at h;subst hk;subst hc;exact xF (c':= .ci .i64 m.code) (d':= .ci .i64 k.kind) (by simp) (fun _=>rfl) (fun _ h=>h) rfl (fun _=>rfl) (fun _ h=>h) rfl h
theorem TC[Fen](L:List Sx.Obj)(n:Int)(k:Key)(m:bP)(hL:aP L)(hs:aR m.data)(hk:bc k=true):aL Tryz.prog 94 [.lp 0 0] [.ro (.blk oa (hU (.it .i64 m.code) m n (.it .i64 k.kind) k)),.store tS eS L] (kO (aY L n k m)) (fun _ _=>False):=by
 by_cases h0:k.kind=0
 ·have:=Wf L n k m hL hs;rw[xw h0]at this;exact xF (by simp) (fun _=>rfl) (fun _ h=>h) rfl (fun _=>by rw[h0];rfl) (fun _ h=>by rw[h0]at h;exact h) rfl this
 by_cases hc:m.code=0
 ·have:=XU L n k m hL hs h0;rw[GI hc]at this;exact xF (by simp) (fun _=>by rw[hc];rfl) (fun _ h=>by rw[hc]at h;exact h) rfl (fun _=>rfl) (fun _ h=>h) rfl this
 by_cases hn:m.code<1\/dP k.kind<m.code
 ·exact Wv L n k m hL hs h0 hc hn
 have hkd:k.kind=1\/k.kind=2\/k.kind=3\/k.kind=4\/k.kind=5\/k.kind=8\/k.kind=9\/k.kind=10:=by
  unfold dP at hn;grind
 rcases hkd with e|e|e|e|e|e|e|e
 ·have hq:dP k.kind=1:=by rw[e];decide
  have hcd:m.code=1:=by omega
  have f:=hcd
  ·exact tk e f (MP L n k m hL hs)
 ·have hq:dP k.kind=6:=by rw[e];decide
  have hcd:m.code=1\/m.code=2\/m.code=3\/m.code=4\/m.code=5\/m.code=6:=by omega
  rcases hcd with f|f|f|f|f|f
  ·exact tk e f (NY L n k m hL hs)
  ·exact tk e f (PA L n k m hL hs)
  ·exact tk e f (L2 L n k m hL hs)
  ·exact tk e f (LO L n k m hL hs)
  ·exact tk e f (Ks L n k m hL hs (by rw[xw e];exact hk))
  ·exact tk e f (LK L n k m hL hs)
 ·have hq:dP k.kind=5:=by rw[e];decide
  have hcd:m.code=1\/m.code=2\/m.code=3\/m.code=4\/m.code=5:=by omega
  rcases hcd with f|f|f|f|f
  ·exact tk e f (LC L n k m hL hs)
  ·exact tk e f (OH L n k m hL hs)
  ·exact tk e f (OV L n k m hL hs)
  ·exact tk e f (OQ L n k m hL hs)
  ·exact tk e f (LM L n k m hL hs (by rw[xw e];exact hk))
 ·have hq:dP k.kind=6:=by rw[e];decide
  have hcd:m.code=1\/m.code=2\/m.code=3\/m.code=4\/m.code=5\/m.code=6:=by omega
  rcases hcd with f|f|f|f|f|f
  ·exact tk e f (Pp L n k m hL hs)
  ·exact tk e f (MU L n k m hL hs)
  ·exact tk e f (PX L n k m hL hs)
  ·exact tk e f (KQ L n k m hL hs)
  ·exact tk e f (KV L n k m hL hs)
  ·exact tk e f (P7 L n k m hL hs)
 ·have hq:dP k.kind=7:=by rw[e];decide
  have hcd:m.code=1\/m.code=2\/m.code=3\/m.code=4\/m.code=5\/m.code=6\/m.code=7:=by omega
  rcases hcd with f|f|f|f|f|f|f
  ·exact tk e f (Oj L n k m hL hs)
  ·exact tk e f (OD L n k m hL hs)
  ·exact tk e f (KZ L n k m hL hs)
  ·exact tk e f (O6 L n k m hL hs)
  ·exact tk e f (KB L n k m hL hs)
  ·exact tk e f (KD L n k m hL hs)
  ·exact tk e f (K6 L n k m hL hs)
 ·have hq:dP k.kind=3:=by rw[e];decide
  have hcd:m.code=1\/m.code=2\/m.code=3:=by omega
  rcases hcd with f|f|f
  ·exact tk e f (M6 L n k m hL hs)
  ·exact tk e f (KX L n k m hL hs)
  ·exact tk e f (Lv L n k m hL hs)
 ·have hq:dP k.kind=1:=by rw[e];decide
  have hcd:m.code=1:=by omega
  have f:=hcd
  ·exact tk e f (Nh L n k m hL hs)
 ·have hq:dP k.kind=1:=by rw[e];decide
  have hcd:m.code=1:=by omega
  have f:=hcd
  ·exact tk e f (It L n k m hL hs)
theorem E8[Fen]:k7 Tryz.prog 94 Um:=by
 intro args res K KP h;unfold Um at h;split at h
 case h_2=>exact h.elim
 split at h
 case h_2=>exact h.elim
 rename_i j off;split at h
 case isFalse=>exact h.elim
 rename_i hoff;have hoff:=ai.1 hoff;subst hoff;split at h
 case h_2=>exact h.elim
 rename_i t c hj;split at h
 case isFalse=>exact h.elim
 rename_i ht;have ht:=ai.1 ht;subst ht;split at h
 case h_2=>exact h.elim
 split at h
 case h_2=>exact h.elim
 rename_i mv sv nv kv;split at h
 case h_2=>exact h.elim
 rename_i m hm;split at h
 case h_2=>exact h.elim
 rename_i i o2;split at h
 case isFalse=>exact h.elim
 rename_i hij;simp only[af,ai,Bool.not_eq_true',beq_eq_false_iff_ne,ne_eq]at hij;obtain⟨rfl,hij⟩:=hij;split at h
 case h_2=>exact h.elim
 rename_i n hn;split at h
 case h_2=>exact h.elim
 rename_i k hk;split at h
 case h_2=>exact h.elim
 rename_i t2 e L hi;split at h
 case isFalse=>exact h.elim
 rename_i hc;simp only[af,ai]at hc;obtain⟨rfl,rfl⟩:=hc;obtain⟨⟨hL,hs,hok⟩,h⟩:=h;have hkj:known res j:=by unfold known;rw[hj];simp
 have hki:known res i:=by unfold known;rw[hi];simp
 have hlj:=aW hkj;have hli:=aW hki;have hlj':cP res j= .blk oa (.ag [mv,.lp i 0,nv,kv]):=by unfold cP;rw[hj]
 have im:=tG (κ:=kT 0 (dJ [(j,false),(i,true)])) mv (KS hm);have inn:=tG (κ:=kT 0 (dJ [(j,false),(i,true)])) nv (qQ hn);have ik:=tG (κ:=kT 0 (dJ [(j,false),(i,true)])) kv (BP hk);have il:fy (kT 0 (dJ [(j,false),(i,true)])) (.lp i 0)=some (.lp 1 0):=by simp[fy,kT,idxOf,dJ,Ne.symm hij]
 have hb:fy (kT 0 (dJ [(j,false),(i,true)])) (.ag [mv,.lp i 0,nv,kv])=some (.ag [mv,.lp 1 0,nv,kv]):=by unfold fy;rw[o0 im (o0 il (o0 inn (o0 ik rfl)))]
 have hres:fg (kT 0 (dJ [(j,false),(i,true)])) res [(j,false),(i,true)]= [.ro (.blk oa (.ag [mv,.lp 1 0,nv,kv])),.store tS eS L]:=by simp only[fg,hlj',hi,gd,hb];rfl
 refine aL.frame (pl:= [(j,false),(i,true)]) (args0:= [.lp 0 0]) (K0:=kO (aY L n k m)) (KP0:=fun _ _=>False) (by simp[eO,cB.2 hkj,cB.2 hki]) (by simpa[jc,dJ,pb]using⟨⟨hlj,hij⟩,hli⟩) (by simp[eF,fy,kT,idxOf,dJ]) ?_ (fun v r hv=>?_) (fun _ _ h=>h.elim)
 ·rw[hres];exact MN (by simp) hm hn hk (TC L n k m hL hs hok)
 ·obtain⟨h1,h2⟩:=Vh hv;have hm':merge [(j,false),(i,true)] [] r res=bQ res i (.store tS eS (ey L n k m)):=by simp[merge,fF,h2,gd,gz,aY]
  exact⟨[],sS (dZ L n k m),rfl,by simp[lf,h2,jo],rfl,jS.jN h1 rfl,by rw[hm'];exact h⟩
theorem FN(k:Key):
 (decide (bF k=0)&&(!bq k||decide (cw k<0)))=cJ [] k:=by
 unfold cJ bF cw bq bu;simp only[aJ,List.length_nil];grind
theorem Jv(L:List Sx.Obj)(k:Key):
 (decide (bF k=0)&&(!bq k||decide (cw k<aK L)))=cJ L k:=by
 unfold cJ bF cw bq bu aK;grind
theorem vQ[Fen]:dq Tryz.prog 93 LI:=
 kf (aZ sH (aZ mT dg)) (fun _=>rfl) fun a hq hok=>by
  obtain⟨S,k,_⟩:=a;cases S with
  |none=>exact bV (inl:=cg) (ann:=bj) (aH bE (aH fW (aH dB aO))) aU (FN k) (by kernel_rfl)
  |some L=>exact bV (inl:=cg) (ann:=bj) (aH bE (aH fW (aH dB aO))) aU (Jv L k) (by kernel_rfl)
theorem WS(n:Int)(k:Key)(m:bP)(hs:aR m.data):
 (decide (0<=n)=true->bg IntKind.i64 (du m.data))/\0=(ca [] n k m).code/\ByteArray.mk (Array.mk [])=(ca [] n k m).data/\void=(ca [] n k m).k0/\void=(ca [] n k m).k1/\void
  =(ca [] n k m).k2/\false=jz [] n k m/\1=jL [] n k m:=by
 have hin:bg .i64 (du m.data):=by have:=hs;unfold aR at this;unfold bg ck du;omega
 have e:jL [] n k m=1:=by unfold jL;rw[ar (show aJ ([]:List Sx.Obj)=0 from rfl)]
 have e1:ca [] n k m=eV:=by unfold ca;rw[e];rfl
 have e2:jz [] n k m=false:=by unfold jz;rw[e];rfl
 rw[e1,e2,e];exact⟨fun _=>hin,rfl,rfl,rfl,rfl,rfl,rfl,rfl⟩
theorem XE(n:Int)(k:Key)(m:bP)(hs:aR m.data):
 (decide (0<=n)=true->bg IntKind.i64 (du m.data))/\0=(ca [] n k m).code/\ByteArray.mk (Array.mk [])=(ca [] n k m).data/\void=(ca [] n k m).k0/\void=(ca [] n k m).k1/\void
  =(ca [] n k m).k2/\false=jz [] n k m/\1=jL [] n k m:=by
 have hin:bg .i64 (du m.data):=by have:=hs;unfold aR at this;unfold bg ck du;omega
 have e:jL [] n k m=1:=by unfold jL;rw[ar (show aJ ([]:List Sx.Obj)=0 from rfl)]
 have e1:ca [] n k m=eV:=by unfold ca;rw[e];rfl
 have e2:jz [] n k m=false:=by unfold jz;rw[e];rfl
 rw[e1,e2,e];exact⟨fun _=>hin,rfl,rfl,rfl,rfl,rfl,rfl,rfl⟩
abbrev aaS(m:bP)(L:List Sx.Obj):=bP.mk m.code m.data (aI L m.k0) (aI L m.k1) (aI L m.k2)
theorem Z2(L:List Sx.Obj)(n:Int)(k:Key)(m:bP)(hL:aP L)(hs:aR m.data):
 (decide (0<=n)=true->bg IntKind.i64 (du m.data))/\au (decide (aK L=0)) ((0=(ca L n k m).code/\aC=(ca L n k m).data/\void=(ca L n k m).k0/\void=(ca L n k m).k1/\void=(ca L n k m).k2/\false=jz L n k m/\1=jL L n k m)/\L=nM L n k m) (au (!(decide (0<=n)&&decide (du m.data<=32)&&cJ L k&&cJ L m.k0&&cJ L m.k1&&cJ L m.k2)) ((0=(ca L n k m).code/\aC=(ca L n k m).data/\void=(ca L n k m).k0/\void=(ca L n k m).k1/\void=(ca L n k m).k2/\false=jz L n k m/\2=jL L n k m)/\L=nM L n k m) (au (decide ((aI L k).kind=6)||decide ((aI L k).kind=7)) ((0=(ca L n k m).code/\aC=(ca L n k m).data/\void=(ca L n k m).k0/\void=(ca L n k m).k1/\void=(ca L n k m).k2/\false=jz L n k m/\241=jL L n k m)/\L=nM L n k m) (true=true/\UI L (aI L k) (aaS m L)/\((dZ L n (aI L k) (aaS m L)).code=(ca L n k m).code/\(dZ L n (aI L k) (aaS m L)).data=(ca L n k m).data/\(dZ L n (aI L k) (aaS m L)).k0=(ca L n k m).k0/\(dZ L n (aI L k) (aaS m L)).k1=(ca L n k m).k1/\(dZ L n (aI L k) (aaS m L)).k2=(ca L n k m).k2/\(decide ((aI L k).kind=10)&&decide (m.code=1))=jz L n k m/\0=jL L n k m)/\ey L n (aI L k) (aaS m L)=nM L n k m))):=by
 delta au aC aaS
 have hcn:bP.mk m.code m.data (aI L m.k0) (aI L m.k1) (aI L m.k2)=nu L m:=rfl;simp only[hcn];have hin:bg .i64 (du m.data):=by have:=hs;unfold aR at this;unfold bg ck du;omega
 have hf:(decide (0<=n)&&decide (du m.data<=32)&&cJ L k&&cJ L m.k0&&cJ L m.k1&&cJ L m.k2)=Ba L n k m:=by
  unfold Ba jj;cases decide (0<=n)<;>cases decide (du m.data<=32)<;>cases cJ L k<;>cases cJ L m.k0<;>cases cJ L m.k1<;>cases cJ L m.k2<;>rfl
 rw[hf];have hsz:aK L=0↔aJ L=0:=by unfold aK;simp[bK]
 have no:∀e:Int,jL L n k m=e->e≠0->(0=(ca L n k m).code/\ByteArray.mk (Array.mk [])=(ca L n k m).data/\void=(ca L n k m).k0/\void=(ca L n k m).k1/\void=(ca L n k m).k2/\false=jz L n k m/\e=jL L n k m)/\L=nM L n k m:=fun e he h0=>by
  have e1:ca L n k m=eV:=by unfold ca;rw[he,aq h0]
  have e2:jz L n k m=false:=by unfold jz;rw[he];simp[h0]
  have e3:nM L n k m=L:=by unfold nM;rw[he,aq h0]
  rw[e1,e2,e3,he];exact⟨⟨rfl,rfl,rfl,rfl,rfl,rfl,rfl⟩,rfl⟩
 refine⟨fun _=>hin,fun h=>?_,fun h=>⟨fun h2=>?_,fun h2=>⟨fun h3=>?_,fun h3=>?_⟩⟩⟩
 ·have h:=hsz.1 (by simpa using h)
  exact no 1 (by unfold jL;rw[ar h]) (by omega)
 ·have h:¬aJ L=0:=fun e=>by simp[hsz.2 e]at h
  have h2:Ba L n k m=false:=by simpa using h2
  exact no 2 (by unfold jL;rw[aq h,ar h2]) (by omega)
 ·have h:¬aJ L=0:=fun e=>by simp[hsz.2 e]at h
  have h2:Ba L n k m=true:=by simpa using h2
  have h3:(aI L k).kind=6\/(aI L k).kind=7:=by simpa using h3
  exact no 241 (by unfold jL;rw[aq h,aq (by simp[h2]),ar h3]) (by omega)
 ·have h:¬aJ L=0:=fun e=>by simp[hsz.2 e]at h
  have h2:Ba L n k m=true:=by simpa using h2
  have h3:¬((aI L k).kind=6\/(aI L k).kind=7):=by simpa using h3
  have he:jL L n k m=0:=by unfold jL;rw[aq h,aq (by simp[h2]),aq h3]
  have e1:ca L n k m=dZ L n (aI L k) (nu L m):=by unfold ca;rw[ar he]
  have e2:jz L n k m=(decide ((aI L k).kind=10)&&decide (m.code=1)):=by unfold jz;rw[he];rfl
  have e3:nM L n k m=ey L n (aI L k) (nu L m):=by unfold nM;rw[ar he]
  rw[e1,e2,e3,he];exact⟨trivial,⟨hL,hs,Gs⟩,⟨rfl,rfl,rfl,rfl,rfl,rfl,rfl⟩,rfl⟩
theorem Zh[Fen](L:List Sx.Obj)(n:Int)(k:Key)(m:bP)(hL:aP L)(hs:aR m.data):aL Tryz.prog 64 [.lp 0 0,.it .i64 n,.key k,sS m] [.store tS eS L] (z6 (.tp [sS (ca L n k m),.bo (jz L n k m),.it .i64 (jL L n k m)]) (nM L n k m)) (fun _ _=>False):=
 bV (inl:=cg) (ann:=(kb [(64,3,UM 4)])) (aH bE (aH fV (aH vQ aO))) (aV E8 aU) (Z2 L n k m hL hs) (by kernel_rfl)
theorem Y8[Fen]:k7 Tryz.prog 64 aaE:=
 BB (m:=fun x=>Vy.cn x 0) (ow RB (fun _=>rfl)) (fun _=>rfl) (fun _ _=>rfl) (fun x hs=>bV (inl:=cg) (ann:=(kb [(64,3,UM 4)])) (aH rX (aH fV (aH vQ aO))) (aV E8 aU) (WS x.1 x.2.1 x.2.2.1 hs) (by kernel_rfl)) (fun x hs=>bV (inl:=cg) (ann:=(kb [(64,3,UM 4)])) (aH rX (aH fV (aH vQ aO))) (aV E8 aU) (XE x.1 x.2.1 x.2.2.1 hs) (by kernel_rfl)) fun L x hq=>Zh L x.1 x.2.1 x.2.2.1 hq.1 hq.2
end Go.Proofs.YtmfbohanboiklaaGreat
namespace Go.Sx
structure kY where
 kind:Int
 proc:Int
 reg:Int
 mode:Int
 code:Int
 data:ByteArray
 s0:Int
 s1:Int
 s2:Int
 num:Bool
 val:Int
def opV(o:kY):V:= .ag [.it .i64 o.kind,.it .i64 o.proc,.it .i64 o.reg,.it .i64 o.mode,.it .i64 o.code,.st o.data,.ag [.it .i64 o.s0,.it .i64 o.s1,.it .i64 o.s2],.bo o.num,.it .i64 o.val]
structure Dn where
 out:Int
 proc:Int
 err:Int
 ans:bP
 wants:Bool
def dnV(d:Dn):V:= .ag [.it .i64 d.out,.it .i64 d.proc,.it .i64 d.err,sS d.ans,.bo d.wants]
def dn0:Dn:=⟨0,0,0,eV,false⟩
def sT(n:Int):Bool:=decide (0<=n)&&decide (n<12)
def gP(n:Int):Bool:=decide (n= -1)||sT n
def dF(o:kY)(now:Int):Bool:=
 if o.kind=2 then decide (0<=o.val)&&decide (o.val<=1099511627776)&&decide (now<=4611686018427387904-o.val)
 else decide (o.kind=1)&&decide (1<=o.mode)&&decide (o.mode<=3)&&decide (du o.data<=32)&&sT o.reg&&gP o.s0&&gP o.s1&&gP o.s2
def H3(o:Obj)(n:Int):Key:=if n<0 then void else o.slots.at (4+n).toNat
def bU(o:Obj)(p:kY):bP:=⟨p.code,p.data,H3 o p.s0,H3 o p.s1,if p.num=true then dV p.val else H3 o p.s2⟩
def bz(L:List Obj):List Int:=dw L (bK (aJ L))
def cN(L:List Obj)(p:kY):Int:=aM (bz L) ((p.proc.tmod (aJ (bz L):Int)+(aJ (bz L):Int)).tmod (aJ (bz L):Int)).toNat 0
def c9(L:List Obj)(p:kY):Key:=aI L ((aS L (cN L p)).slots.at (4+p.reg).toNat)
def dG(L:List Obj)(p:kY):bP:=bU (aS L (cN L p)) p
def oR(L:List Obj)(p:kY):Bool:=decide ((c9 L p).kind=6)||decide ((c9 L p).kind=7)
def jn(L:List Obj)(n:Int)(p:kY):List Obj:=nM L n (c9 L p) (dG L p)
def MM(L:List Obj)(n:Int)(p:kY):List Obj:=
 if dM (jn L n p) (cN L p)=true/\iv (jn L n p) (cN L p)=1 then
  if p.mode=1 then ma (jn L n p) (cN L p) (ca L n (c9 L p) (dG L p))else if p.mode=3 then jq (jn L n p) (cN L p) 0 else jn L n p
 else jn L n p
def ja(L:List Obj)(n:Int)(p:kY):List Obj:=
 if dF p n=true/\¬p.kind=2/\¬aJ (bz L)=0 then
  if oR L p=true then gx L (cN L p) (c9 L p) p.mode (dG L p)else MM L n p
 else L
def pV(n:Int)(p:kY):Int:=if dF p n=true/\p.kind=2 then n+p.val else n
def me(n:Int)(p:kY):Int:=if dF p n=true then 0 else 2
def bf(L:List Obj)(n:Int)(p:kY):Dn:=
 if dF p n=true then
  if p.kind=2 then⟨5,0,0,eV,false⟩
  else if aJ (bz L)=0 then⟨1,0,0,eV,false⟩
  else if oR L p=true then
   if dD L (cN L p) (c9 L p) p.mode (dG L p)=0 then⟨2,cN L p,0,eV,false⟩else⟨3,cN L p,dD L (cN L p) (c9 L p) p.mode (dG L p),eV,false⟩
  else⟨4,cN L p,0,ca L n (c9 L p) (dG L p),jz L n (c9 L p) (dG L p)⟩
 else dn0
def ly(n:Int):Prop:=0<=n/\n<=4611686018427387904
abbrev Yf:Nat:=96
def CF(s:Nat)(n:Int):V:= .ag [.lp s 0,.it .i64 n]
def XO(c:V):Option (Nat×Int):=
 match c with
 | .ag m=>match m with
   | [p,y]=>match p with
     | .lp s off=>match rI .i64 y with
       |some n=>if off==0 then some (s,n)else none
       |none=>none
     |_=>none
   |_=>none
 |_=>none
def sdA:Arg (Int×Int×Int×Unit):=XX (bM iA (bM iA (bM iA jx)))
theorem Vk:mZ sdA:=Cl (aZ fk (aZ fk (aZ fk dg)))
abbrev OpT:Type:=Int×Int×Int×Int×Int×ByteArray×(Int×Int×Int×Unit)×Bool×Int×Unit
def opA:Arg OpT:=XX (bM iA (bM iA (bM iA (bM iA (bM iA (bM zA (bM sdA (bM bA (bM iA jx)))))))))
theorem FE:mZ opA:=Cl (aZ fk (aZ fk (aZ fk (aZ fk (aZ fk (aZ Yz (aZ Vk (aZ PF (aZ fk dg)))))))))
def Dm(x:OpT):kY:=⟨x.1,x.2.1,x.2.2.1,x.2.2.2.1,x.2.2.2.2.1,x.2.2.2.2.2.1,x.2.2.2.2.2.2.1.1,x.2.2.2.2.2.2.1.2.1,x.2.2.2.2.2.2.1.2.2.1,x.2.2.2.2.2.2.2.1,x.2.2.2.2.2.2.2.2.1⟩
def GN:ky (OpT×Unit):=bM opA jx
theorem FH:iF GN:=aZ FE dg
theorem JV{c:V}{s:Nat}{n:Int}(h:XO c=some (s,n)):∃y,c= .ag [.lp s 0,y]/\rI .i64 y=some n:=by
 unfold XO at h;repeat' (first| (split at h<;>try(simp at h;done))|skip)
 rename_i y n' hn ho;simp only[aa,ae]at h;obtain⟨rfl,rfl⟩:=h;have:=ai.1 ho;subst this;exact⟨_,rfl,hn⟩
theorem aL.WU[Fen]{P:Program}{f:Nat}{rest:List V}{res:List aQ}{K KP:V->List aQ->Prop}{b s tm t e:Nat}{L M:List Obj}{n n':Int}{x:V}
  (hb:aN res b= .blk tm (CF s n)) (hs:aN res s= .store t e L) (hid:lr rest=true) (hx:jN x=true)
  (h:aL P f (.lp 0 0::rest) [.blk tm (CF 1 n),.store t e L] (fun v r=>uZ x v r/\aN r 0= .blk tm (CF 1 n')/\aN r 1= .store t e M) (fun _ _=>False))
  (hK:K x (bQ (bQ res b (.blk tm (CF s n'))) s (.store t e M))):aL P f (.lp b 0::rest) res K KP:=by
 have hkb:known res b:=by unfold known;rw[hb];simp
 have hks:known res s:=by unfold known;rw[hs];simp
 have hlb:=aW hkb;have hls:=aW hks;have hne:b≠s:=fun e=>by rw[e,hs]at hb;simp at hb
 refine aL.frame (pl:= [(b,true),(s,true)]) (args0:= .lp 0 0::rest) (K0:=fun v r=>uZ x v r/\aN r 0= .blk tm (CF 1 n')/\aN r 1= .store t e M) (KP0:=fun _ _=>False)
  (by simp[eO,cB.2 hkb,cB.2 hks]) (by simp[jc,dJ,pb,hlb,hls,hne,Ne.symm hne]) ?_ ?_ (fun v r hv=>?_) (fun _ _ h=>h.elim)
 ·simp only[eF,fy,kT,idxOf,dJ];rw[jJ rest hid];simp
 ·have:fg (kT 0 (dJ [(b,true),(s,true)])) res [(b,true),(s,true)]= [.blk tm (CF 1 n),.store t e L]:=by simp[fg,hb,hs,gd,CF,fy,eF,kT,idxOf,dJ,hne,Ne.symm hne]
  rw[this];exact h
 ·obtain⟨h1,h2,h3⟩:=hv;have hm:merge [(b,true),(s,true)] [] r res=bQ (bQ res b (.blk tm (CF s n'))) s (.store t e M):=by simp[merge,fF,h2,h3,gd,gz,CF,fy,eF,back,wI]
  exact⟨[],x,rfl,by simp[lf,h2,h3,jo],rfl,jS.jN h1 hx,by rw[hm];exact hK⟩
theorem aL.mcN[Fen]{P:Program}{f:Nat}{args:List V}{res:List aQ}{K KP:V->List aQ->Prop}{b s tm:Nat}{y:V}{n:Int}(hb:aN res b= .blk tm (.ag [.lp s 0,y]))(hy:rI .i64 y=some n)
  (h:aL P f args (bQ res b (.blk tm (CF s n))) K KP):aL P f args res K KP:=by
 have hkb:known res b:=by unfold known;rw[hb];simp
 have hlb:=aW hkb
 have hkn:∀i,known (bQ res b (.blk tm (CF s n))) i↔known res i:=fun i=>by
  unfold known;rw[bJ _ _ _ _ hlb];by_cases e:i=b
  ·subst e;rw[ar rfl,hb];simp
  ·rw[aq e]
 have hK:known (bQ res b (.blk tm (CF s n)))=known res:=by funext i;exact propext (hkn i)
 obtain⟨r1,r2⟩:=gX .i64 y n hy;refine h.tE fun J fps w0 F0 w hH=>⟨J,fps,hH.weaken (fun i hi=>⟨(hkn i).1 hi,fun fp hh=>?_⟩),Env.agree.refl _ _,fun i hi=>(hkn i).2 hi⟩
 rw[hK,bJ _ _ _ _ hlb];by_cases e:i=b
 ·subst e;rw[ar rfl];rw[hb]at hh;obtain⟨h1,h2,h3,h4⟩:=hh;have hd:=r1 J;refine⟨?_,rfl,h3,?_⟩
  ·exact⟨⟨h1.1.1,fu (r2 _ h1.1.2.1),trivial⟩,trivial,trivial,trivial⟩
  ·rw[h4];simp only[cells,CF,den,bp,Value.cells,hd]
 ·rw[aq e];exact hh
def Eh:Ct:=EU (bM opA (bM iA jx)) (fun x=>some (aR x.1.2.2.2.2.2.1/\ly x.2.1)) fun x=> .bo (dF (Dm x.1) x.2.1)
def VT:Ct:=EU (bM oA GN) (fun x=>some (gP (Dm x.2.1).s0=true/\gP (Dm x.2.1).s1=true/\gP (Dm x.2.1).s2=true)) fun x=>sS (bU x.1 (Dm x.2.1))
def hMc(Q:List Obj->Int->kY->Prop)(F:List Obj->Int->kY->V)(N:Int->kY->Int)(M:List Obj->Int->kY->List Obj):kr:=fun args res K=>
 match args with
 |a::l=>match IP GN l with
  |some x=>match a with
   | .lp b off=>if off==0 then match aN res b with
     | .blk t c=>match XO c with
       |some (s,n)=>match aN res s with
        | .store ts e L=>if t==Yf&&ts==tS&&e==eS then Q L n (Dm x.1)/\K (F L n (Dm x.1)) (bQ (bQ res b (.blk Yf (CF s (N n (Dm x.1))))) s (.store tS eS (M L n (Dm x.1))))else False
        |_=>False
       |none=>False
     |_=>False
     else False
   |_=>False
  |none=>False
 |_=>False
def qSp(L:List Obj)(n:Int)(p:kY):Prop:=aP L/\aR p.data/\ly n
def U1:kr:=hMc qSp (fun L n p=> .tp [dnV (bf L n p),.it .i64 (me n p)]) pV ja
def Xn:kr:=hMc (fun L n p=>qSp L n p/\dF p n=true/\p.kind=1) (fun L n p=>dnV (bf L n p)) (fun n _=>n) ja
def mcX(c:V):Option Int:=
 match c with
 | .ag q=>match q with
   | [p,y]=>match p with
     | .lp s off=>match y with
       | .it k n=>match k with
         | .i64=>if s==1&&off==0 then some n else none
         |_=>none
       |_=>none
     |_=>none
   |_=>none
 |_=>none
theorem L1{c:V}{n:Int}(h:mcX c=some n):c=CF 1 n:=by
 unfold mcX at h;split at h
 case h_2=>simp at h
 split at h
 case h_2=>simp at h
 split at h
 case h_2=>simp at h
 split at h
 case h_2=>simp at h
 split at h
 case h_2=>simp at h
 split at h
 case isFalse=>simp at h
 rename_i hc;simp only[af,ai]at hc;obtain⟨rfl,rfl⟩:=hc;simp only[aa]at h;subst h;rfl
def mcS(r:aQ)(m:Int):Prop:=
 match r with
 | .blk t c=>match mcX c with
   |some n=>if t==Yf then n=m else False
   |none=>False
 |_=>False
theorem TT{r:aQ}{m:Int}(h:mcS r m):r= .blk Yf (CF 1 m):=by
 unfold mcS at h;split at h
 case h_2=>exact h.elim
 split at h
 case h_2=>exact h.elim
 rename_i n hn;split at h
 case isFalse=>exact h.elim
 rename_i ht;have ht:=ai.1 ht;subst ht;subst h;rw[L1 hn]
def kMc(x:V)(n:Int)(M:List Obj)(v:V)(r:List aQ):Prop:=
 match aN r 1 with
 | .store t e L=>if t==tS&&e==eS then mcS (aN r 0) n/\qh x v r/\L=M else False
 |_=>False
theorem SK{x:V}{n:Int}{M:List Obj}{v:V}{r:List aQ}(h:kMc x n M v r):uZ x v r/\aN r 0= .blk Yf (CF 1 n)/\aN r 1= .store tS eS M:=by
 unfold kMc at h;split at h
 ·rename_i hr;split at h
  ·rename_i hc;simp only[af,ai]at hc;obtain⟨rfl,rfl⟩:=hc;obtain⟨h1,h2,rfl⟩:=h;exact⟨dI h2,TT h1,hr⟩
  ·exact h.elim
 ·exact h.elim
theorem M8[Fen]{P:Program}{f:Nat}{Q:List Obj->Int->kY->Prop}{F:List Obj->Int->kY->V}{N:Int->kY->Int}{M:List Obj->Int->kY->List Obj}(hF:∀L n p,jN (F L n p)=true)
  (h:∀L n p,Q L n p->aL P f [.lp 0 0,opV p] [.blk Yf (CF 1 n),.store tS eS L] (kMc (F L n p) (N n p) (M L n p)) (fun _ _=>False)):k7 P f (hMc Q F N M):=by
 intro args res K KP hh;unfold hMc at hh;split at hh
 case h_2=>exact hh.elim
 split at hh
 case h_2=>exact hh.elim
 rename_i x hx;split at hh
 case h_2=>exact hh.elim
 rename_i b off;split at hh
 case isFalse=>exact hh.elim
 rename_i ho;have ho:=ai.1 ho;subst ho;split at hh
 case h_2=>exact hh.elim
 rename_i t c hb;split at hh
 case h_2=>exact hh.elim
 rename_i s n hc;split at hh
 case h_2=>exact hh.elim
 rename_i ts e L hs;split at hh
 case isFalse=>exact hh.elim
 rename_i ht;simp only[af,ai]at ht;obtain⟨⟨rfl,rfl⟩,rfl⟩:=ht;obtain⟨hq,hK⟩:=hh;obtain⟨y,rfl,hy⟩:=JV hc;have hkb:known res b:=by unfold known;rw[hb];simp
 have hlb:=aW hkb;refine aL.args (ff.ka (ow FH (fun _=>rfl) _ _ hx)) ?_
 refine aL.mcN hb hy ?_;have hne:b≠s:=fun e=>by rw[e,hs]at hb;simp at hb
 refine aL.WU (rest:=GN.cn x 0) (by rw[bJ _ _ _ _ hlb,ar rfl]) (by rw[bJ _ _ _ _ hlb,aq (Ne.symm hne)];exact hs) rfl (hF _ _ _) ((h L n (Dm x.1) hq).mono (fun _ _ hv=>SK hv) fun _ _ h=>h) ?_
 have:∀(l:List aQ) (i:Nat) (a b:aQ),bQ (bQ l i a) i b=bQ l i b:=fun l i a b=>by rw[mo,mo,mo,List.set_set]
 rw[this];exact hK
structure Pac where
 kind:Int
 oid:Int
 key:Key
 mode:Int
 state:Int
 msg:bP
theorem Ka{L:List Obj}(h:aP L):gr L:=by have:=jC h;unfold gr;omega
theorem U3{L:List Obj}{k:Key}{n:Int}(h:cU L k n=0):bB L k=0/\0<=fZ L k:=by
 have he:bB L k=0:=Decidable.byContradiction fun he=>by
  rw[C3 he]at h;exact he h
 refine⟨he,?_⟩;unfold cU at h;split at h
 ·split at h
  ·omega
  ·rename_i h';omega
 ·rename_i h';exact absurd h h'
theorem NF{L:List Obj}{k:Key}(hL:aP L):aP (kD L k):=by
 unfold kD;split
 ·exact Hl hL fun o ho=>xc ho
 ·exact hL
theorem T1{L:List Obj}{k v:Key}(hL:aP L):aP (jO L k v):=by
 unfold jO;split
 ·by_cases h:v.oid.toNat<L.length
  ·exact lK hL (xc (dH hL _ h))
  ·have:eW L v.oid.toNat (yI (aM L v.oid.toNat free))=L:=by unfold eW;exact List.set_eq_of_length_le (by omega)
   rw[this];exact hL
 ·exact hL
theorem VH{L:List Obj}{k:Key}{n:Int}(hL:aP L):aP (bR L k n):=by
 by_cases h:cU L k n=0
 ·exact(LL hL (U3 h).1 h).1
 ·unfold bR;rw[aq h];exact hL
theorem Bn{L:List Obj}{k:Key}{b:Bytes}(hL:aP L)(h:bm L k=true)(h2:k.kind=3):aP (tj L k b):=(qk hL h h2).2.2
theorem HX{L:List Obj}{a:Zo}(hL:aP L)(h:Cz L a=true):aP (PR L a):=by
 unfold Cz at h;unfold PR;split at h
 ·simp at h
 ·rename_i h1;rw[aq h1];split at h
  ·rename_i h2;rw[ar h2];have h:=ak h
   have hp:b6 L a.key true=0:=by
    unfold dS at h;split at h
    ·assumption
    ·rename_i h3;exact absurd h h3
   obtain⟨a1,a2,_⟩:=xu hp;unfold fY;rw[ar h];exact Bn hL a1 a2
  ·rename_i h2;rw[aq h2];split at h
   ·rename_i h3;rw[ar h3];have h:=ak h;obtain⟨a1,a2,_⟩:=xu h;unfold gF;rw[ar h];exact Bn hL a1 a2
   ·rename_i h3;rw[aq h3];have h:=ak h
    have hp:b6 L a.key true=0:=by
     unfold dR at h;split at h
     ·assumption
     ·rename_i h3;exact absurd h h3
    obtain⟨a1,a2,_⟩:=xu hp;unfold gO;rw[ar h];exact Bn hL a1 a2
theorem D5{L:List Obj}{k v:Key}{i:Int}(hL:aP L):aP (eJ L k i v):=by
 by_cases h:b8 L k i v=0
 ·exact zp (a:=⟨2,i,k,v⟩) hL (by simp[zc,h])
 ·unfold eJ;rw[aq h];exact hL
theorem LF{L:List Obj}{k:Key}(hL:aP L):aP (gV L k):=by
 by_cases h:br L k 2 true=0
 ·exact zp (a:=⟨3,0,k,k⟩) hL (by simp[zc,h])
 ·unfold gV;rw[aq h];exact hL
theorem LX{L:List Obj}{t f:Key}(hL:aP L):aP (gu L t f):=by
 by_cases h:dh L t f=0
 ·exact zp (a:=⟨4,0,t,f⟩) hL (by simp[zc,h])
 ·unfold gu;rw[aq h];exact hL
theorem P9{L:List Obj}{k:Key}(hL:aP L):aP (gF L k):=by
 by_cases h:b6 L k true=0
 ·exact HX (a:=⟨3,0,0,k,k,⟨#[]⟩⟩) hL (by simp[Cz,h])
 ·unfold gF;rw[aq h];exact hL
theorem Tu{L:List Obj}{t f:Key}(hL:aP L):aP (gO L t f):=by
 by_cases h:dR L t f=0
 ·exact HX (a:=⟨4,0,0,t,f,⟨#[]⟩⟩) hL (by simp[Cz,h])
 ·unfold gO;rw[aq h];exact hL
theorem eQ{c:Prop}[Decidable c]{a b:UL}(ha:aP a.2.2)(hb:aP b.2.2):aP (if c then a else b).2.2:=by split<;>assumption
theorem YW{L:List Obj}{k:Key}{m:bP}(hL:aP L):aP (jv L k m).2.2:=by
 unfold jv;exact eQ hL (eQ (D5 hL) (eQ (LF hL) (eQ (LX hL) (eQ hL hL))))
theorem ZZ{L:List Obj}{k:Key}{m:bP}(hL:aP L):aP (iY L k m).2.2:=by
 unfold iY;exact eQ hL (eQ (GF hL) (eQ (P9 hL) (eQ (Tu hL) hL)))
theorem YR{L:List Obj}{k:Key}{m:bP}(hL:aP L):aP (jt L k m).2.2:=by
 unfold jt;exact eQ (Hb hL) (eQ (Hb hL) (eQ (T1 hL) (eQ (VH hL) (eQ hL (NF hL)))))
theorem Zw{L:List Obj}{k:Key}{m:bP}(hL:aP L):aP (gU L k m).2.2:=by
 have hC:aP (if bH m<0\/11<bH m then L else eJ L (fR k) (bH m+4) m.k0):=by
  split
  ·exact hL
  ·exact D5 hL
 unfold gU;exact eQ hL (eQ hC (eQ hL (eQ hL (eQ (Od hL) (eQ hL (Vt hL))))))
theorem W3{L:List Obj}{n:Int}{k:Key}{m:bP}(hL:aP L):aP (fh L n k m).2.2:=by
 unfold fh;exact eQ hL (eQ (YW hL) (eQ (ZZ hL) (eQ (YR hL) (eQ (Zw hL) (eQ hL (eQ hL hL))))))
theorem Wu{L:List Obj}{n:Int}{k:Key}{m:bP}(hL:aP L):aP (ey L n k m):=by
 unfold ey ee;exact eQ hL (eQ hL (eQ hL (W3 hL)))
theorem WI{L:List Obj}{n:Int}{k:Key}{m:bP}(hL:aP L):aP (nM L n k m):=by
 unfold nM;split
 ·exact Wu hL
 ·exact hL
structure Aok where
 key:Key
 msg:bP
 now:Int
section
variable {L:List Obj} {n:Int} {k:Key} {m:bP} {p:kY}
theorem Tm(b:Bytes)(lo hi:Nat):(zE b lo hi).size<=64:=by rw[ID];omega
theorem DS{i x:Int}:(eP L k i x).size<=64:=by
 unfold eP;split
 ·exact Tm _ _ _
 ·exact Nat.zero_le _
theorem XS{i x:Int}:(nE L k i x).size<=64:=by
 unfold nE;split
 ·exact DS
 ·exact Nat.zero_le _
theorem Rt:(jv L k m).2.1.data.size<=64:=by unfold jv;(repeat' split)<;>exact Nat.zero_le _
theorem Sm:(iY L k m).2.1.data.size<=64:=by unfold iY;(repeat' split)<;>first|exact DS|exact Nat.zero_le _
theorem Rx:(jt L k m).2.1.data.size<=64:=by unfold jt;(repeat' split)<;>exact Nat.zero_le _
theorem T9:(gU L k m).2.1.data.size<=64:=by
 unfold gU;by_cases h1:m.code=1
 ·rw[ar h1];exact Nat.zero_le _
 rw[aq h1];by_cases h2:m.code=2
 ·rw[ar h2];exact Nat.zero_le _
 rw[aq h2];by_cases h3:m.code=3
 ·rw[ar h3];exact Nat.zero_le _
 rw[aq h3];by_cases h4:m.code=4
 ·rw[ar h4];exact Nat.zero_le _
 rw[aq h4];by_cases h5:m.code=5
 ·rw[ar h5];exact Nat.zero_le _
 rw[aq h5];by_cases h6:m.code=6
 ·rw[ar h6];exact XS
 rw[aq h6];exact Nat.zero_le _
theorem XZ:(ca L n k m).data.size<=64:=by
 have hB:∀k m,(fh L n k m).2.1.data.size<=64:=fun k m=>by
  unfold fh;split
  ·exact Nat.zero_le _
  split
  ·exact Rt
  split
  ·exact Sm
  split
  ·exact Rx
  split
  ·exact T9
  split
  ·show(if m.code=1 then gJ m.k0.kind else if m.code=2 then gJ (fS (pF m.k0 m.k1))else gJ m.k0.rights).data.size<=64
   split
   ·exact Nat.zero_le _
   ·split<;>exact Nat.zero_le _
  ·split<;>exact Nat.zero_le _
 have hR:∀k m,(ee L n k m).2.1.data.size<=64:=fun k m=>by
  unfold ee;split
  ·exact Nat.zero_le _
  split
  ·exact Nat.zero_le _
  split
  ·exact Nat.zero_le _
  ·exact hB k m
 unfold ca;split
 ·unfold dZ;split
  ·exact hR _ _
  ·exact Nat.zero_le _
 ·exact Nat.zero_le _
theorem Ip:aR (ca L n k m).data:=by have:=XZ (L:=L) (n:=n) (k:=k) (m:=m);unfold aR;omega
theorem vJ(hL:aP L)(h0:¬aJ (bz L)=0):let N:Int:=(aJ (bz L):Int);N<=64/\N≠0/\(-64<=p.proc.tmod N/\p.proc.tmod N<=64)/\(0<=(p.proc.tmod N+N).tmod N/\(p.proc.tmod N+N).tmod N<N):=by
 intro N
 have h1:aJ (bz L)<=L.length:=by
  have:=DP L (bK (aJ L));have e:(bK (aJ L)).toNat=L.length:=by unfold bK aJ;omega
  rw[e]at this;exact this
 have h2:=jC hL;have hN:0<N:=by show(0:Int)<(aJ (bz L):Int);omega
 have hN2:N<=64:=by show(aJ (bz L):Int)<=64;omega
 have a1:=Int.tmod_lt_of_pos p.proc hN;have a2:=Int.lt_tmod_of_pos p.proc hN;refine⟨hN2,by omega,⟨by omega,by omega⟩,Int.tmod_nonneg _ (by omega),Int.tmod_lt_of_pos _ hN⟩
theorem AF(h:dF p n=true)(hk:p.kind=1):(1<=p.mode/\p.mode<=3)/\(0<=p.reg/\p.reg<12)/\(gP p.s0=true/\gP p.s1=true/\gP p.s2=true):=by
 unfold dF at h;rw[aq (by omega)]at h
 simp only[af,ah]at h;obtain⟨⟨⟨⟨⟨⟨⟨a,b⟩,c⟩,d⟩,e⟩,f⟩,g⟩,h⟩:=h;unfold sT at e;simp only[af,ah]at e;exact⟨⟨b,c⟩,e,f,g,h⟩
end
def zC:kY:=⟨0,0,0,0,0,⟨#[]⟩,0,0,0,false,0⟩
def Jq(x:List kY):TL:= .fn (aJ x) fun i=>opV (aM x i zC)
def p9(x:List kY):Nat->V:=fun i=>opV (aM x i zC)
def Oa(x:List kY):Prop:=∀i,i<aJ x->aR (aM x i zC).data
end Go.Sx
namespace Go.Proofs.YtmfbohanboiklaaGreat
open Go.Sx
abbrev aaT(p:kY)(n:Int):=au (!decide (p.s2= -1)) (true=true/\au (!(decide (0<=p.s2)&&decide (p.s2<12))) (false=dF p n) (true=dF p n)) (true=dF p n)
abbrev aaU(p:kY)(n:Int):=au (!decide (p.s1= -1)) (true=true/\au (!(decide (0<=p.s1)&&decide (p.s1<12))) (false=dF p n) (aaT p n)) (aaT p n)
theorem IV(p:kY)(n:Int)(hs:aR p.data)(hn:ly n):
 au (decide (p.kind=2)) (((decide (0<=p.val)&&decide (p.val<=1099511627776))=true->az (4611686018427387904-p.val))/\(decide (0<=p.val)&&decide (p.val<=1099511627776)&&decide (n<=4611686018427387904-p.val))=dF p n) (((!(!decide (p.kind=1)||decide (p.mode<1)||decide (3<p.mode)))=true->az (du p.data))/\au (!decide (p.kind=1)||decide (p.mode<1)||decide (3<p.mode)||decide (32<du p.data)) (false=dF p n) (true=true/\au (!(decide (0<=p.reg)&&decide (p.reg<12))) (false=dF p n) (au (!decide (p.s0= -1)) (true=true/\au (!(decide (0<=p.s0)&&decide (p.s0<12))) (false=dF p n) (aaU p n)) (aaU p n)))):=by
 delta au aaU aaT az
 have hz:(bK (aJ ([]:List Int)))=0:=rfl;have h1:bg IntKind.i64 (du p.data):=by unfold aR at hs;simp only[bg,ck,du];omega
 have c0:gP p.s0=(decide (p.s0= -1)||(decide (0<=p.s0)&&decide (p.s0<12))):=rfl
 have c1:gP p.s1=(decide (p.s1= -1)||(decide (0<=p.s1)&&decide (p.s1<12))):=rfl
 have c2:gP p.s2=(decide (p.s2= -1)||(decide (0<=p.s2)&&decide (p.s2<12))):=rfl
 unfold dF;refine⟨fun hk=>⟨fun hv=>?_,?_⟩,fun hk=>⟨fun _=>h1,fun hb=>?_,fun hb=>⟨rfl,fun hr=>?_,fun hr=>?_⟩⟩⟩
 ·simp only[af,ah]at hv;simp only[bg,ck];omega
 ·rw[ar (ak hk)]
 all_goals rw[aq (aj hk),c0,c1,c2]
 ·simp only[Bool.or_eq_true,Bool.not_eq_true',ah,decide_eq_false_iff_not]at hb;symm
  simp only[Bool.and_eq_false_iff,decide_eq_false_iff_not];omega
 all_goals
  simp only[Bool.or_eq_false_iff,Bool.not_eq_false',ah,decide_eq_false_iff_not]at hb;obtain⟨⟨⟨b1,b2⟩,b3⟩,b4⟩:=hb;have e1:decide (p.kind=1)=true:=decide_eq_true b1;have e2:decide (1<=p.mode)=true:=decide_eq_true (by omega)
  have e3:decide (p.mode<=3)=true:=decide_eq_true (by omega)
  have e4:decide (du p.data<=32)=true:=decide_eq_true (by omega)
  have cr:sT p.reg=(decide (0<=p.reg)&&decide (p.reg<12)):=rfl;rw[e1,e2,e3,e4,cr];generalize (decide (0<=p.reg)&&decide (p.reg<12))=r at *
  generalize (decide (0<=p.s0)&&decide (p.s0<12))=a0 at *
  generalize (decide (0<=p.s1)&&decide (p.s1<12))=a1 at *
  generalize (decide (0<=p.s2)&&decide (p.s2<12))=a2 at *
  generalize decide (p.s0= -1)=d0 at *
  generalize decide (p.s1= -1)=d1 at *
  generalize decide (p.s2= -1)=d2 at *
  clear c0 c1 c2 cr;revert hr
  cases r<;>cases a0<;>cases a1<;>cases a2<;>cases d0<;>cases d1<;>cases d2<;>simp
theorem Jo[Fen]:dq Tryz.prog 37 Eh:=
 kf (aZ FE (aZ fk dg)) (fun _=>rfl) fun a hq hok=>by
  obtain⟨x,n,_⟩:=a;exact bG (inl:=(abE [60])) (ann:=(kb [(37,6,UM 4)])) aO (IV (Dm x) n hq.1 hq.2) (by kernel_rfl)
abbrev aaV(p:kY)(o:Sx.Obj):=p.code=(bU o p).code/\p.data=(bU o p).data/\o.slots.at (4+p.s0).toNat=(bU o p).k0/\o.slots.at (4+p.s1).toNat=(bU o p).k1/\aA p.val=(bU o p).k2
abbrev aaW(p:kY)(o:Sx.Obj):=p.code=(bU o p).code/\p.data=(bU o p).data/\void=(bU o p).k0/\o.slots.at (4+p.s1).toNat=(bU o p).k1/\aA p.val=(bU o p).k2
abbrev aaX(p:kY)(o:Sx.Obj):=p.code=(bU o p).code/\p.data=(bU o p).data/\o.slots.at (4+p.s0).toNat=(bU o p).k0/\void=(bU o p).k1/\aA p.val=(bU o p).k2
abbrev aaY(p:kY)(o:Sx.Obj):=p.code=(bU o p).code/\p.data=(bU o p).data/\void=(bU o p).k0/\void=(bU o p).k1/\aA p.val=(bU o p).k2
theorem TY(o:Sx.Obj)(p:kY)(h0:gP p.s0=true)(h1:gP p.s1=true)(h2:gP p.s2=true):
 aw (au (decide (p.s0<0)) (aw (au (decide (p.s1<0)) (aw (au (decide (p.s2<0)) (au p.num (aaY p o) (p.code=(bU o p).code/\p.data=(bU o p).data/\void=(bU o p).k0/\void=(bU o p).k1/\void=(bU o p).k2)) (az (4+p.s2)/\(0<=4+p.s2/\4+p.s2< ↑16)/\au p.num (aaY p o) (p.code=(bU o p).code/\p.data=(bU o p).data/\void=(bU o p).k0/\void=(bU o p).k1/\o.slots.at (4+p.s2).toNat=(bU o p).k2)))) (az (4+p.s1)/\(0<=4+p.s1/\4+p.s1< ↑16)/\aw (au (decide (p.s2<0)) (au p.num (aaW p o) (p.code=(bU o p).code/\p.data=(bU o p).data/\void=(bU o p).k0/\o.slots.at (4+p.s1).toNat=(bU o p).k1/\void=(bU o p).k2)) (az (4+p.s2)/\(0<=4+p.s2/\4+p.s2< ↑16)/\au p.num (aaW p o) (p.code=(bU o p).code/\p.data=(bU o p).data/\void=(bU o p).k0/\o.slots.at (4+p.s1).toNat=(bU o p).k1/\o.slots.at (4+p.s2).toNat=(bU o p).k2)))))) (az (4+p.s0)/\(0<=4+p.s0/\4+p.s0< ↑16)/\aw (au (decide (p.s1<0)) (aw (au (decide (p.s2<0)) (au p.num (aaX p o) (p.code=(bU o p).code/\p.data=(bU o p).data/\o.slots.at (4+p.s0).toNat=(bU o p).k0/\void=(bU o p).k1/\void=(bU o p).k2)) (az (4+p.s2)/\(0<=4+p.s2/\4+p.s2< ↑16)/\au p.num (aaX p o) (p.code=(bU o p).code/\p.data=(bU o p).data/\o.slots.at (4+p.s0).toNat=(bU o p).k0/\void=(bU o p).k1/\o.slots.at (4+p.s2).toNat=(bU o p).k2)))) (az (4+p.s1)/\(0<=4+p.s1/\4+p.s1< ↑16)/\aw (au (decide (p.s2<0)) (au p.num (aaV p o) (p.code=(bU o p).code/\p.data=(bU o p).data/\o.slots.at (4+p.s0).toNat=(bU o p).k0/\o.slots.at (4+p.s1).toNat=(bU o p).k1/\void=(bU o p).k2)) (az (4+p.s2)/\(0<=4+p.s2/\4+p.s2< ↑16)/\au p.num (aaV p o) (p.code=(bU o p).code/\p.data=(bU o p).data/\o.slots.at (4+p.s0).toNat=(bU o p).k0/\o.slots.at (4+p.s1).toNat=(bU o p).k1/\o.slots.at (4+p.s2).toNat=(bU o p).k2))))))):=by
 delta au aA aaY aaX aaW aaV az aw
 have key:∀s,gP s=true->s<0\/(¬s<0/\bg IntKind.i64 (4+s)/\(0<=4+s/\4+s<16)):=fun s hs=>by
  unfold gP sT at hs;simp only[Bool.or_eq_true,af,ah]at hs;simp only[bg,ck];omega
 have hq:dV p.val=Key.mk 1 void.oid void.count void.call void.rights p.val:=rfl;unfold bU H3;rw[hq]
 rcases key p.s0 h0 with a0|⟨a0,f0,g0,i0⟩<;>rcases key p.s1 h1 with a1|⟨a1,f1,g1,i1⟩<;>rcases key p.s2 h2 with a2|⟨a2,f2,g2,i2⟩<;>cases hn:p.num<;>simp only[*,decide_true,decide_false,if_true,if_false,true_and,and_true,and_self,Bool.false_eq_true,Bool.true_eq_false,false_implies,true_implies,implies_true,reduceCtorEq]<;>(repeat' apply And.intro)<;>omega
theorem QY[Fen]:dq Tryz.prog 62 VT:=
 kf (aZ Ud FH) (fun _=>rfl) fun a hq hok=>by
  obtain⟨o,x,_⟩:=a;exact bG (inl:=(abE [81])) (ann:=(kb [(62,4,UM 4)])) aO (TY o (Dm x) hq.1 hq.2.1 hq.2.2) (by kernel_rfl)
abbrev aaZ(L:List Sx.Obj)(n:Int)(p:kY):=4=(bf L n p).out/\cN L p=(bf L n p).proc/\0=(bf L n p).err/\(ca L n (c9 L p) (dG L p)).code=(bf L n p).ans.code/\(ca L n (c9 L p) (dG L p)).data=(bf L n p).ans.data/\(ca L n (c9 L p) (dG L p)).k0=(bf L n p).ans.k0/\(ca L n (c9 L p) (dG L p)).k1=(bf L n p).ans.k1/\(ca L n (c9 L p) (dG L p)).k2=(bf L n p).ans.k2/\jz L n (c9 L p) (dG L p)=(bf L n p).wants
abbrev aba(p:kY)(L:List Sx.Obj):=p.proc.tmod (bK (aJ (bz L)))+bK (aJ (bz L))
theorem Qx(L:List Sx.Obj)(n:Int)(p:kY)(hq:qSp L n p/\dF p n=true/\p.kind=1):
 aw (gr L/\(true=false->False)/\(true=true->au (decide (bK (aJ (bz L))=0)) (n=n/\(1=(bf L n p).out/\0=(bf L n p).proc/\0=(bf L n p).err/\0=(bf L n p).ans.code/\aC=(bf L n p).ans.data/\void=(bf L n p).ans.k0/\void=(bf L n p).ans.k1/\void=(bf L n p).ans.k2/\false=(bf L n p).wants)/\L=ja L n p) ((Gg (bK (aJ (bz L)))/\az (p.proc.tmod (bK (aJ (bz L)))))/\az (aba p L)/\(Gg (bK (aJ (bz L)))/\az ((aba p L).tmod (bK (aJ (bz L)))))/\(0<=(aba p L).tmod (bK (aJ (bz L)))/\(aba p L).tmod (bK (aJ (bz L)))< ↑(aJ (bz L)))/\((aba p L).tmod (bK (aJ (bz L)))).toNat<aJ (bz L)/\az (4+p.reg)/\(0<=4+p.reg/\4+p.reg< ↑16)/\(gP p.s0=true/\gP p.s1=true/\gP p.s2=true)/\au (decide ((c9 L p).kind=6)||decide ((c9 L p).kind=7)) (aw (aR (dG L p).data/\(aP L/\aR (dG L p).data)/\au (!decide (dD L (cN L p) (c9 L p) p.mode (dG L p)=0)) (n=n/\(3=(bf L n p).out/\cN L p=(bf L n p).proc/\dD L (cN L p) (c9 L p) p.mode (dG L p)=(bf L n p).err/\0=(bf L n p).ans.code/\aC=(bf L n p).ans.data/\void=(bf L n p).ans.k0/\void=(bf L n p).ans.k1/\void=(bf L n p).ans.k2/\false=(bf L n p).wants)/\gx L (cN L p) (c9 L p) p.mode (dG L p)=ja L n p) (n=n/\(2=(bf L n p).out/\cN L p=(bf L n p).proc/\0=(bf L n p).err/\0=(bf L n p).ans.code/\aC=(bf L n p).ans.data/\void=(bf L n p).ans.k0/\void=(bf L n p).ans.k1/\void=(bf L n p).ans.k2/\false=(bf L n p).wants)/\gx L (cN L p) (c9 L p) p.mode (dG L p)=ja L n p))) (aw (aR (dG L p).data/\(aP L/\aR (dG L p).data)/\au (dM (jn L n p) (cN L p)&&decide (iv (jn L n p) (cN L p)=1)) (au (decide (p.mode=1)) (aw (aR (ca L n (c9 L p) (dG L p)).data/\(aP (jn L n p)/\aR (ca L n (c9 L p) (dG L p)).data)/\n=n/\(aaZ L n p)/\ma (jn L n p) (cN L p) (ca L n (c9 L p) (dG L p))=ja L n p)) (au (decide (p.mode=3)) (aw (aP (jn L n p)/\n=n/\(aaZ L n p)/\jq (jn L n p) (cN L p) 0=ja L n p)) (n=n/\(aaZ L n p)/\jn L n p=ja L n p))) (n=n/\(aaZ L n p)/\jn L n p=ja L n p)))))):=by
 delta au aC aba aaZ az aw
 obtain⟨⟨hL,hs,hn⟩,hr,hk⟩:=hq;obtain⟨hm,⟨r0,r1⟩,hsd⟩:=AF hr hk;have nk2:¬p.kind=2:=by omega
 have hnn:bK (aJ (bz L))=(aJ (bz L):Int):=rfl;refine⟨rfl,Ka hL,fun h=>by simp at h,fun _=>⟨fun h=>?_,fun h=>?_⟩⟩
 ·have h0:aJ (bz L)=0:=by have:=ak h;rw[hnn]at this;omega
  have e1:bf L n p=⟨1,0,0,eV,false⟩:=by unfold bf;rw[ar hr,aq nk2,ar h0]
  have e2:ja L n p=L:=by unfold ja;rw[aq (fun h=>h.2.2 h0)]
  rw[e1,e2];exact⟨rfl,(by(repeat' apply And.intro)<;>rfl),rfl⟩
 have h0:¬aJ (bz L)=0:=by have:=aj h;rw[hnn]at this;omega
 obtain⟨f1,f2,f3,f4⟩:=vJ (p:=p) hL h0
 have eD:bf L n p=if oR L p=true then(if dD L (cN L p) (c9 L p) p.mode (dG L p)=0 then⟨2,cN L p,0,eV,false⟩else⟨3,cN L p,dD L (cN L p) (c9 L p) p.mode (dG L p),eV,false⟩)
   else⟨4,cN L p,0,ca L n (c9 L p) (dG L p),jz L n (c9 L p) (dG L p)⟩:=by unfold bf;rw[ar hr,aq nk2,aq h0]
 have eL:ja L n p=if oR L p=true then gx L (cN L p) (c9 L p) p.mode (dG L p)else MM L n p:=by unfold ja;rw[ar ⟨hr,nk2,h0⟩]
 have h1:aP (jn L n p):=WI hL;rw[hnn];refine⟨⟨f2,by simp only[bg,ck];omega⟩,by simp only[bg,ck];omega,⟨f2,by simp only[bg,ck];omega⟩,f4,by omega,by simp only[bg,ck];omega,⟨by omega,by omega⟩,hsd,fun hc=>?_,fun hc=>?_⟩
 ·have hC:oR L p=true:=hc;rw[eD,eL,ar hC,ar hC];refine⟨rfl,hs,⟨hL,hs⟩,fun he=>?_,fun he=>?_⟩
  ·have he:¬dD L (cN L p) (c9 L p) p.mode (dG L p)=0:=by simpa using he
   rw[aq he];exact⟨rfl,(by(repeat' apply And.intro)<;>rfl),rfl⟩
  ·have he:dD L (cN L p) (c9 L p) p.mode (dG L p)=0:=by simpa using he
   rw[ar he];exact⟨rfl,(by(repeat' apply And.intro)<;>rfl),rfl⟩
 ·have hC:¬oR L p=true:=by
   have:oR L p=false:=hc;rw[this];simp
  rw[eD,eL,aq hC,aq hC]
  have e2:MM L n p=if dM (jn L n p) (cN L p)=true/\iv (jn L n p) (cN L p)=1 then
    if p.mode=1 then ma (jn L n p) (cN L p) (ca L n (c9 L p) (dG L p))else if p.mode=3 then jq (jn L n p) (cN L p) 0 else jn L n p
   else jn L n p:=rfl
  refine⟨rfl,hs,⟨hL,hs⟩,fun hb=>⟨fun h1'=>?_,fun h1'=>⟨fun h3=>?_,fun h3=>?_⟩⟩,fun hb=>?_⟩
  all_goals simp only[af,Bool.and_eq_false_iff,ah,decide_eq_false_iff_not]at hb
  ·rw[e2,ar hb,ar (ak h1')];exact⟨rfl,Ip,⟨h1,Ip⟩,rfl,(by(repeat' apply And.intro)<;>rfl),rfl⟩
  ·rw[e2,ar hb,aq (aj h1'),ar (ak h3)];exact⟨rfl,h1,rfl,(by(repeat' apply And.intro)<;>rfl),rfl⟩
  ·rw[e2,ar hb,aq (aj h1'),aq (aj h3)];exact⟨rfl,(by(repeat' apply And.intro)<;>rfl),rfl⟩
  ·rw[e2,aq (fun h=>by rcases hb with hb|hb;rw[h.1]at hb;simp at hb;exact hb h.2)]
   exact⟨rfl,(by(repeat' apply And.intro)<;>rfl),rfl⟩
theorem Tf[Fen]:k7 Tryz.prog 38 Xn:=M8 (fun _ _ _=>rfl) fun L n p hq=>bV (inl:=cg) (ann:=bj) (aH QY (aH eT (aH fV (aH qm aO)))) (aV WN (aV V3 (aV Y8 (aV UZ (aV NB aU))))) (Qx L n p hq) (by kernel_rfl)
abbrev abb(L:List Sx.Obj)(p:kY)(n:Int):=true=true/\((aP L/\aR p.data/\ly n)/\dF p n=true/\p.kind=1)/\n=pV n p/\((bf L n p).out=(bf L n p).out/\(bf L n p).proc=(bf L n p).proc/\(bf L n p).err=(bf L n p).err/\(bf L n p).ans.code=(bf L n p).ans.code/\(bf L n p).ans.data=(bf L n p).ans.data/\(bf L n p).ans.k0=(bf L n p).ans.k0/\(bf L n p).ans.k1=(bf L n p).ans.k1/\(bf L n p).ans.k2=(bf L n p).ans.k2/\(bf L n p).wants=(bf L n p).wants/\0=me n p)/\ja L n p=ja L n p
abbrev abc(n:Int)(p:kY)(L:List Sx.Obj):=true=true/\bg IntKind.i64 (n+p.val)/\n+p.val=pV n p/\(5=(bf L n p).out/\0=(bf L n p).proc/\0=(bf L n p).err/\0=(bf L n p).ans.code/\aC=(bf L n p).ans.data/\void=(bf L n p).ans.k0/\void=(bf L n p).ans.k1/\void=(bf L n p).ans.k2/\false=(bf L n p).wants/\0=me n p)/\L=ja L n p
theorem TR(L:List Sx.Obj)(n:Int)(p:kY)(hq:qSp L n p):
 true=true/\(aR p.data/\ly n)/\au (!dF p n) (n=pV n p/\(0=(bf L n p).out/\0=(bf L n p).proc/\0=(bf L n p).err/\0=(bf L n p).ans.code/\aC=(bf L n p).ans.data/\void=(bf L n p).ans.k0/\void=(bf L n p).ans.k1/\void=(bf L n p).ans.k2/\false=(bf L n p).wants/\2=me n p)/\L=ja L n p) ((au (decide (p.kind=1)) (abb L p n) (au (decide (p.kind=2)) (abc n p L) False))/\au (decide (p.kind=2)) (abc n p L) (au (decide (p.kind=1)) (abb L p n) False)):=by
 delta au aC abc abb
 obtain⟨hL,hs,hn⟩:=hq
 have ht:dF p n=true->p.kind=2->bg IntKind.i64 (n+p.val):=fun hr hk=>by
  unfold dF at hr;rw[ar hk]at hr;simp only[af,ah]at hr;unfold ly at hn;simp only[bg,ck];omega
 refine⟨rfl,⟨hs,hn⟩,fun hr=>?_,fun hr=>?_⟩
 ·have hr:dF p n=false:=by simpa using hr
  have e1:pV n p=n:=by unfold pV;rw[aq (by simp[hr])]
  have e2:bf L n p=dn0:=by unfold bf;rw[aq (by simp[hr])]
  have e3:me n p=2:=by unfold me;rw[aq (by simp[hr])]
  have e4:ja L n p=L:=by unfold ja;rw[aq (by simp[hr])]
  rw[e1,e2,e3,e4];(repeat' apply And.intro)<;>rfl
 have hr:dF p n=true:=by simpa using hr
 have e3:me n p=0:=by unfold me;rw[ar hr]
 have one:∀h1:p.kind=1,pV n p=n:=fun h1=>by unfold pV;rw[aq (by omega)]
 have two:∀h2:p.kind=2,pV n p=n+p.val/\bf L n p=⟨5,0,0,eV,false⟩/\ja L n p=L:=fun h2=>by
  refine⟨?_,?_,?_⟩
  ·unfold pV;rw[ar ⟨hr,h2⟩]
  ·unfold bf;rw[ar hr,ar h2]
  ·unfold ja;rw[aq (fun h=>h.2.1 h2)]
 have bad:¬p.kind=1->¬p.kind=2->False:=fun h1 h2=>by
  unfold dF at hr;rw[aq h2]at hr;simp[h1]at hr
 refine⟨⟨fun h1=>?_,fun h1=>⟨fun h2=>?_,fun h2=>?_⟩⟩,⟨fun h2=>?_,fun h2=>⟨fun h1=>?_,fun h1=>?_⟩⟩⟩
 ·have h1:=ak h1;refine⟨rfl,⟨⟨hL,hs,hn⟩,hr,h1⟩,(one h1).symm,?_,rfl⟩;(repeat' apply And.intro)<;>first|rfl|exact e3.symm
 ·have h2:=ak h2;obtain⟨a,b,c⟩:=two h2;rw[a,b,c,e3];exact⟨rfl,ht hr h2,rfl,(by(repeat' apply And.intro)<;>rfl),rfl⟩
 ·exact(bad (aj h1) (aj h2)).elim
 ·have h2:=ak h2;obtain⟨a,b,c⟩:=two h2;rw[a,b,c,e3];exact⟨rfl,ht hr h2,rfl,(by(repeat' apply And.intro)<;>rfl),rfl⟩
 ·have h1:=ak h1;refine⟨rfl,⟨⟨hL,hs,hn⟩,hr,h1⟩,(one h1).symm,?_,rfl⟩;(repeat' apply And.intro)<;>first|rfl|exact e3.symm
 ·exact(bad (aj h1) (aj h2)).elim
theorem TS[Fen]:k7 Tryz.prog 18 U1:=M8 (fun _ _ _=>rfl) fun L n p hq=>bV (inl:=(abE [36,39])) (ann:=bj) (aH Jo aO) (aV Tf aU) (TR L n p hq) (by kernel_rfl)
end Go.Proofs.YtmfbohanboiklaaGreat
namespace Go.Sx
abbrev Cp:=List Int
abbrev CS:=List (Cp×Int)×List Cp
def ez(k:Key):Cp:= [k.kind,k.oid,k.count,k.call,k.rights]
def fK(c:Cp):Key:=⟨aM c 0 0,aM c 1 0,aM c 2 0,aM c 3 0,aM c 4 0,0⟩
def qe(k:Key):Bool:=decide (2<=k.kind)&&decide (k.kind<=10)
def Il(F:List Cp)(c:Cp):Bool:=decide (c∈F)
def Ye(S:CS)(c:Cp):CS:=(fD (cx S.1 c) (cG S.1 c) (cL S.1 c+1),if fU S.1 c=true then S.2 else cE S.2 c)
def qf(S:CS)(k:Key):CS:=if qe k=true then Ye S (ez k)else S
def pS(S:CS)(n:Int):Prop:=(S.1.length:Int)<=n/\(S.2.length:Int)<=n/\∀p∈S.1,1<=p.2/\p.2<=n
def wN(L:List Obj)(oid:Int)(w:Bool)(i:Nat):Key:=if w=true then fi (aI L ((aS L oid).slots.at i))else aI L ((aS L oid).slots.at i)
def TZ(S:CS)(f:Nat->Key):Nat->CS
 |0=>S
 |n+1=>qf (TZ S f n) (f n)
def kq(L:List Obj)(S:CS)(oid:Int)(w:Bool)(g:Int):CS:=TZ S (wN L oid w) g.toNat
def Vb(k:Key):Key:=⟨5,k.oid,k.count,0,0,0⟩
def Uv(k:Key):Key:=⟨6,k.oid,k.count,0,0,0⟩
def ET(L:List Obj)(S:CS)(k:Key):CS:=if k.rights=0 then qf (kq L S k.oid (gg k) 16) (Vb k)else kq L S k.oid (gg k) 16
def Qo(L:List Obj)(S:CS)(k:Key):CS:=qf (kq L S k.oid false 16) (Uv k)
def La(L:List Obj)(S:CS)(k:Key):CS:=if k.kind=2 then ET L S k else if k.kind=5 then Qo L S k else S
def Oi(F:List Cp)(k:Key):List Cp:=if qe k=true/\Il F (ez k)=false then F++ [ez k]else F
def QK(F:List Cp)(f:Nat->Key):Nat->List Cp
 |0=>F
 |n+1=>Oi (QK F f n) (f n)
def BO(L:List Obj)(F:List Cp)(oid:Int)(w:Bool)(g:Int):List Cp:=QK F (wN L oid w) g.toNat
def Yv(L:List Obj)(F:List Cp)(k:Key):List Cp:=if k.rights=0 then Oi (BO L F k.oid (gg k) 16) (Vb k)else BO L F k.oid (gg k) 16
def YS(L:List Obj)(F:List Cp)(k:Key):List Cp:=Oi (BO L F k.oid false 16) (Uv k)
def Qp(L:List Obj)(F:List Cp)(k:Key):List Cp:=if k.kind=2 then Yv L F k else if k.kind=5 then YS L F k else F
def qc(F:List Cp)(n:Nat):Cp:=aM F n []
def oy(L:List Obj)(oid:Int):Nat->List Cp
 |0=>BO L [] oid false 16
 |n+1=>if n<(oy L oid n).length then Qp L (oy L oid n) (fK (qc (oy L oid n) n))else oy L oid n
def QJ(L:List Obj)(oid:Int):List Cp:=oy L oid 10000
def k8(a b:Int):Int:=if a<b then -1 else if b<a then 1 else 0
def DW(a b:Key):Int:=if k8 a.kind b.kind≠0 then k8 a.kind b.kind else if k8 a.oid b.oid≠0 then k8 a.oid b.oid else if k8 a.count b.count≠0 then k8 a.count b.count else
 if k8 a.call b.call≠0 then k8 a.call b.call else if k8 a.rights b.rights≠0 then k8 a.rights b.rights else k8 a.value b.value
def kU(a b:Cp):Bool:=decide (DW (fK a) (fK b)<0)
def CU(l:List Cp)(c:Cp):List Cp:=l.takeWhile (fun x=>kU x c)++c::l.dropWhile (fun x=>kU x c)
def ra(l:List Cp):List Cp:=l.foldl CU []
def pZ(L:List Obj)(oid:Int):List Cp:=ra (QJ L oid)
theorem zk{D:List (Cp×Int)}{c:Cp}:fU D c=true↔c∈D.map (·.1):=by
 unfold fU;simp[List.any_eq_true]
theorem Qd{D:List (Cp×Int)}{c:Cp}:(cx D c).map (·.1)=if fU D c=true then D.map (·.1)else D.map (·.1)++ [c]:=by
 unfold cx;split<;>simp
theorem Eb{D:List (Cp×Int)}{j:Nat}{v:Int}:(fD D j v).map (·.1)=D.map (·.1):=by
 unfold fD;rw[List.map_set];simp only;by_cases h:j<D.length
 ·have:(aM D j ([],0)).1=(D.map (·.1))[j]'(by simpa using h):=by simp[aM,an,h]
  rw[this,List.set_getElem_self]
 ·rw[List.set_eq_of_length_le (by simpa using Nat.le_of_not_lt h)]
theorem CP(S:CS)(c:Cp):(Ye S c).1.map (·.1)=if c∈S.1.map (·.1)then S.1.map (·.1)else S.1.map (·.1)++ [c]:=by
 unfold Ye;simp only[Eb,Qd,zk]
theorem tu(S:CS)(k:Key):(qf S k).1.map (·.1)=Oi (S.1.map (·.1)) k:=by
 unfold qf Oi Il;by_cases h:qe k=true
 ·simp only[h,if_true,CP,true_and,decide_eq_false_iff_not];by_cases hm:ez k∈S.1.map (·.1)
  ·simp[hm]
  ·simp[hm]
 ·simp[h]
theorem N9{D:List (Cp×Int)}{c:Cp}(h:fU D c=true):cG D c<D.length:=by
 unfold cG;rw[List.findIdx_lt_length];unfold fU at h;simpa[List.any_eq_true]using h
theorem yh{D:List (Cp×Int)}{c:Cp}(h:¬fU D c=true):cG D c=D.length:=by
 unfold cG;rw[List.findIdx_eq_length];unfold fU at h;simp only[List.any_eq_true,ah,not_exists,not_and]at h;intro x hx;simpa using h x hx
theorem Cc{D:List (Cp×Int)}{c:Cp}(h:¬fU D c=true):cL D c=0:=by
 unfold cL;rw[yh h];simp[aM,an]
theorem get_mem{D:List (Cp×Int)}{c:Cp}(h:fU D c=true):(aM D (cG D c) ([],0))∈D:=by
 have:=N9 h;simp[aM,an,this]
theorem Cw{D:List (Cp×Int)}{c:Cp}:(cx D c).length=if fU D c=true then D.length else D.length+1:=by
 unfold cx;split<;>simp
theorem MI{D:List (Cp×Int)}{c:Cp}:cG D c<(cx D c).length:=by
 rw[Cw];split
 ·exact N9 ‹_›
 ·rw[yh ‹_›];omega
theorem TQ{S:CS}{c:Cp}{n:Int}(h:pS S n):pS (Ye S c) (n+1):=by
 obtain⟨h1,h2,h3⟩:=h;refine⟨?_,?_,fun p hp=>?_⟩
 ·show(((fD (cx S.1 c) (cG S.1 c) (cL S.1 c+1)).length:Nat):Int)<=n+1
  unfold fD;rw[List.length_set,Cw];split<;>omega
 ·show(((if fU S.1 c=true then S.2 else cE S.2 c).length:Nat):Int)<=n+1
  split
  ·omega
  ·simp[cE];omega
 ·have hn:0<=n:=by omega
  have hg:0<=cL S.1 c/\cL S.1 c<=n:=by
   by_cases hh:fU S.1 c=true
   ·have:=h3 _ (get_mem hh);unfold cL;omega
   ·rw[Cc hh];omega
  have hp:p∈(cx S.1 c).set (cG S.1 c) ((aM (cx S.1 c) (cG S.1 c) ([],0)).1,cL S.1 c+1):=hp;have hp0:=hp;rcases List.mem_or_eq_of_mem_set hp with hp|rfl
  ·unfold cx at hp;split at hp
   ·have:=h3 p hp;omega
   ·rename_i hno;rcases List.mem_append.1 hp with hp|hp
    ·have:=h3 p hp;omega
    ·exfalso
     obtain⟨j,hj,rfl⟩:=List.getElem_of_mem (l:=(cx S.1 c).set (cG S.1 c) ((aM (cx S.1 c) (cG S.1 c) ([],0)).1,cL S.1 c+1)) hp0;simp only[List.mem_singleton]at hp;rw[List.getElem_set]at hp;split at hp
     ·have:=congrArg Prod.snd hp;simp only at this;omega
     ·rename_i hne;rw[yh hno]at hne;have hlen:j<(cx S.1 c).length:=by simpa using hj
      rw[Cw,aq hno]at hlen
      have:(cx S.1 c)[j]'(by simpa using hj)=S.1[j]'(by omega):=by
       have e:cx S.1 c=S.1++ [(c,0)]:=by unfold cx;rw[aq hno]
       simp only[e];rw[List.getElem_append_left]
      rw[this]at hp;have:=h3 _ (List.getElem_mem (by omega:j<S.1.length))
      rw[hp]at this;simp only at this;omega
  ·simp only;omega
theorem gq{S:CS}{n m:Int}(h:pS S n)(hm:n<=m):pS S m:=⟨by have:=h.1;omega,by have:=h.2.1;omega,fun p hp=>by have:=h.2.2 p hp;omega⟩
theorem B8{S:CS}{k:Key}{n:Int}(h:pS S n):pS (qf S k) (n+1):=by
 unfold qf;split
 ·exact TQ h
 ·exact gq h (by omega)
theorem pE{S:CS}{f:Nat->Key}{n:Int}(h:pS S n):∀g:Nat,pS (TZ S f g) (n+g)
 |0=>by simpa[TZ]using h
 |g+1=>by
  have:=B8 (k:=f g) (pE (f:=f) h g);exact gq this (by omega)
theorem G4:pS ([],[]) 0:=⟨by simp,by simp,by simp⟩
theorem yd{α:Type}[DecidableEq α]:∀(l m:List α),l.Nodup->(∀x∈l,x∈m)->l.length<=m.length
 | [],m,_,_=>by simp
 |x::l,m,hn,hs=>by
  rw[List.nodup_cons]at hn;have h1:x∈m:=hs x (by simp)
  have h2:=yd l (m.erase x) hn.2 fun y hy=>(List.mem_erase_of_ne (fun e:y=x=>hn.1 (by rw[<-e];exact hy))).2 (hs y (by simp[hy]))
  rw[List.length_erase_of_mem h1]at h2;have:=List.length_pos_of_mem h1;simp only[List.length_cons];omega
theorem B9{F:List Cp}{k:Key}{c:Cp}:c∈Oi F k↔c∈F\/(qe k=true/\c=ez k):=by
 unfold Oi Il;by_cases h:qe k=true<;>by_cases hm:ez k∈F<;>simp[h,hm]
 rintro rfl;exact hm
theorem um{F:List Cp}{f:Nat->Key}{c:Cp}:∀n:Nat,c∈QK F f n↔c∈F\/∃i,i<n/\qe (f i)=true/\c=ez (f i)
 |0=>by simp[QK]
 |n+1=>by
  simp only[QK,B9,um n];constructor
  ·rintro((h|⟨i,hi,h⟩)|h)
   ·exact .inl h
   ·exact .inr ⟨i,by omega,h⟩
   ·exact .inr ⟨n,by omega,h⟩
  ·rintro(h|⟨i,hi,h⟩)
   ·exact .inl (.inl h)
   ·rcases Nat.lt_or_ge i n with h1|h1
    ·exact .inl (.inr ⟨i,h1,h⟩)
    ·have:i=n:=by omega
     exact .inr (this▸h)
theorem vk{F:List Cp}{k:Key}(h:F.Nodup):(Oi F k).Nodup:=by
 unfold Oi Il;split
 ·rename_i hh;have hm:ez k∉F:=aj hh.2;rw[List.nodup_append];exact⟨h,by simp,fun a ha b hb=>by simp at hb;subst hb;exact fun e=>hm (e▸ha)⟩
 ·exact h
theorem oD{F:List Cp}{f:Nat->Key}(h:F.Nodup):∀n:Nat,(QK F f n).Nodup
 |0=>h
 |n+1=>vk (oD h n)
theorem xh(F:List Cp)(k:Key):F<+:Oi F k:=by
 unfold Oi;split
 ·exact List.prefix_append _ _
 ·exact List.prefix_refl _
theorem xf(F:List Cp)(f:Nat->Key):∀n:Nat,F<+:QK F f n
 |0=>List.prefix_refl _
 |n+1=>(xf F f n).trans (xh _ _)
theorem qE(S:CS)(f:Nat->Key):∀n:Nat,(TZ S f n).1.map (·.1)=QK (S.1.map (·.1)) f n
 |0=>rfl
 |n+1=>by simp only[TZ,QK,tu,qE S f n]
theorem DQ(L:List Obj)(S:CS)(k:Key):(La L S k).1.map (·.1)=Qp L (S.1.map (·.1)) k:=by
 unfold La Qp ET Yv Qo YS kq BO;split
 ·split
  ·rw[tu,qE]
  ·rw[qE]
 ·split
  ·rw[tu,qE]
  ·rfl
theorem Mu{S:CS}{c:Cp}{n:Nat}(h:S.2=(S.1.map (·.1)).drop n)(hn:n<=S.1.length):(Ye S c).2=((Ye S c).1.map (·.1)).drop n:=by
 rw[CP];show(if fU S.1 c=true then S.2 else cE S.2 c)=_
 unfold cE;simp only[zk];split
 ·exact h
 ·rw[h,List.drop_append_of_le_length (by simpa using hn)]
theorem zo{S:CS}{k:Key}{n:Nat}(h:S.2=(S.1.map (·.1)).drop n)(hn:n<=S.1.length):(qf S k).2=((qf S k).1.map (·.1)).drop n:=by
 unfold qf;split
 ·exact Mu h hn
 ·exact h
theorem QQ{S:CS}{k:Key}:S.1.length<=(qf S k).1.length:=by
 have:=(xh (S.1.map (·.1)) k).length_le;rw[<-tu]at this;simpa using this
theorem uv{S:CS}{f:Nat->Key}{n:Nat}(h:S.2=(S.1.map (·.1)).drop n)(hn:n<=S.1.length):∀m:Nat,(TZ S f m).2=((TZ S f m).1.map (·.1)).drop n/\n<=(TZ S f m).1.length
 |0=>⟨h,hn⟩
 |m+1=>by
  obtain⟨h1,h2⟩:=uv h hn m;exact⟨zo h1 h2,Nat.le_trans h2 QQ⟩
theorem Mb{L:List Obj}{S:CS}{k:Key}{n:Nat}(h:S.2=(S.1.map (·.1)).drop n)(hn:n<=S.1.length):(La L S k).2=((La L S k).1.map (·.1)).drop n:=by
 unfold La ET Qo kq;split
 ·obtain⟨h1,h2⟩:=uv (f:=wN L k.oid (gg k)) h hn (16:Int).toNat;split
  ·exact zo h1 h2
  ·exact h1
 ·split
  ·obtain⟨h1,h2⟩:=uv (f:=wN L k.oid false) h hn (16:Int).toNat;exact zo h1 h2
  ·exact h
theorem RW{L:List Obj}{S:CS}{k:Key}{n:Int}(h:pS S n):pS (La L S k) (n+17):=by
 unfold La ET Qo kq;split
 ·have h1:=pE (f:=wN L k.oid (gg k)) h (16:Int).toNat;split
  ·exact gq (B8 h1) (by omega)
  ·exact gq h1 (by omega)
 ·split
  ·have h1:=pE (f:=wN L k.oid false) h (16:Int).toNat;exact gq (B8 h1) (by omega)
  ·exact gq h (by omega)
theorem CJ(D:List (Cp×Int))(c:Cp):cG D c=(D.map (·.1)).findIdx fun x=>decide (x=c):=by
 unfold cG;rw[List.findIdx_map];rfl
theorem GM{D:List (Cp×Int)}{c:Cp}:cG (cx D c) c=cG D c:=by
 by_cases h:fU D c=true
 ·unfold cx;rw[ar h]
 ·have hn:=yh h;rw[hn];unfold cx;rw[aq h];unfold cG at hn⊢;rw[List.findIdx_append,aq (by omega)]
  simp
theorem TF{D:List (Cp×Int)}{c:Cp}:cL (cx D c) c=cL D c:=by
 by_cases h:fU D c=true
 ·unfold cx;rw[ar h]
 ·rw[Cc h];unfold cL;rw[GM,yh h];unfold cx;rw[aq h];simp[aM,an]
theorem SD{D:List (Cp×Int)}{c:Cp}{v:Int}:cL (fD (cx D c) (cG D c) v) c=v:=by
 have hi:cG (fD (cx D c) (cG D c) v) c=cG D c:=by rw[CJ (fD _ _ _),Eb,<-CJ,GM]
 unfold cL;rw[hi];unfold fD aM;have:=MI (D:=D) (c:=c);rw[an,List.getElem?_set_self this];rfl
theorem J7{S:CS}{c:Cp}(hS:pS S 1000000):bg .i64 (cL S.1 c+1)/\Aw S.1/\(0<=bK (cG S.1 c)/\bK (cG S.1 c)<((aJ (cx S.1 c):Nat):Int))/\jU (aJ S.2) 40/\(cL S.1 c+1=1↔ ¬fU S.1 c=true):=by
 obtain⟨h1,h2,h3⟩:=hS
 have hg:0<=cL S.1 c/\cL S.1 c<=1000000/\(fU S.1 c=true->1<=cL S.1 c):=by
  by_cases hh:fU S.1 c=true
  ·have:=h3 _ (get_mem hh);have e:cL S.1 c=(aM S.1 (cG S.1 c) ([],0)).2:=rfl;exact⟨by omega,by omega,fun _=>by omega⟩
  ·rw[Cc hh];exact⟨by omega,by omega,fun h=>absurd h hh⟩
 refine⟨?_,?_,⟨Int.natCast_nonneg _,?_⟩,?_,fun h h'=>?_,fun h=>?_⟩
 ·simp only[bg,ck];omega
 ·unfold Aw;omega
 ·exact Int.ofNat_lt.2 MI
 ·unfold jU;simp only[maxLen,aJ];omega
 ·have:=hg.2.2 h';omega
 ·rw[Cc h];rfl
def Ld(L:List Obj)(c d:Cp):Prop:=∃k,qe k=true/\d=ez k/\
 (((fK c).kind=2/\((∃i,i<16/\k=wN L (fK c).oid (gg (fK c)) i)\/((fK c).rights=0/\k=Vb (fK c))))\/((fK c).kind=5/\((∃i,i<16/\k=wN L (fK c).oid false i)\/k=Uv (fK c))))
inductive UB (L:List Obj) (oid:Int):Cp->Prop where
 |base (i:Nat):i<16->qe (wN L oid false i)=true->UB L oid (ez (wN L oid false i))
 |step (c d:Cp):UB L oid c->Ld L c d->UB L oid d
theorem To{L:List Obj}{F:List Cp}{c d:Cp}:d∈Qp L F (fK c)↔d∈F\/Ld L c d:=by
 unfold Qp Yv YS BO Ld;have h16:(16:Int).toNat=16:=rfl;by_cases h2:(fK c).kind=2
 ·simp only[h2,if_true,true_and,h16];by_cases hr:(fK c).rights=0
  ·simp only[hr,if_true,B9,um,true_and];constructor
   ·rintro((h|⟨i,hi,h1,h2⟩)|⟨h1,h2⟩)
    ·exact .inl h
    ·exact .inr ⟨_,h1,h2,.inl (.inl ⟨i,hi,rfl⟩)⟩
    ·exact .inr ⟨_,h1,h2,.inl (.inr rfl)⟩
   ·rintro(h|⟨k,h1,h2,(⟨i,hi,rfl⟩|rfl)|⟨h3,_⟩⟩)
    ·exact .inl (.inl h)
    ·exact .inl (.inr ⟨i,hi,h1,h2⟩)
    ·exact .inr ⟨h1,h2⟩
    ·omega
  ·simp only[hr,if_false,um,false_and,or_false];constructor
   ·rintro(h|⟨i,hi,h1,h2⟩)
    ·exact .inl h
    ·exact .inr ⟨_,h1,h2,.inl ⟨i,hi,rfl⟩⟩
   ·rintro(h|⟨k,h1,h2,⟨i,hi,rfl⟩|⟨h3,_⟩⟩)
    ·exact .inl h
    ·exact .inr ⟨i,hi,h1,h2⟩
    ·omega
 ·by_cases h5:(fK c).kind=5
  ·have h52:¬(5:Int)=2:=by omega
   simp only[h5,h52,if_true,if_false,false_and,true_and,false_or,h16,B9,um];constructor
   ·rintro((h|⟨i,hi,h1,h2⟩)|⟨h1,h2⟩)
    ·exact .inl h
    ·exact .inr ⟨_,h1,h2,.inl ⟨i,hi,rfl⟩⟩
    ·exact .inr ⟨_,h1,h2,.inr rfl⟩
   ·rintro(h|⟨k,h1,h2,⟨i,hi,rfl⟩|rfl⟩)
    ·exact .inl (.inl h)
    ·exact .inl (.inr ⟨i,hi,h1,h2⟩)
    ·exact .inr ⟨h1,h2⟩
  ·simp[h2,h5]
theorem JY{L:List Obj}{F:List Cp}{k:Key}(h:F.Nodup):(Qp L F k).Nodup:=by
 unfold Qp Yv YS BO;split
 ·split
  ·exact vk (oD h _)
  ·exact oD h _
 ·split
  ·exact vk (oD h _)
  ·exact h
theorem RM(L:List Obj)(F:List Cp)(k:Key):F<+:Qp L F k:=by
 unfold Qp Yv YS BO;split
 ·split
  ·exact(xf _ _ _).trans (xh _ _)
  ·exact xf _ _ _
 ·split
  ·exact(xf _ _ _).trans (xh _ _)
  ·exact List.prefix_refl _
theorem rV(L:List Obj)(oid:Int):∀n,(oy L oid n).Nodup
 |0=>oD (by simp) _
 |n+1=>by
  simp only[oy];split
  ·exact JY (rV L oid n)
  ·exact rV L oid n
theorem xV{L:List Obj}{oid:Int}{n:Nat}(h:(oy L oid n).length<=n):∀m,oy L oid (n+m)=oy L oid n
 |0=>rfl
 |m+1=>by
  show oy L oid (n+m+1)=_
  rw[oy,aq (by rw[xV h m];omega),xV h m]
theorem ui{L:List Obj}{oid:Int}:∀n c,c∈oy L oid n->UB L oid c
 |0,c,h=>by
  unfold oy BO at h;rw[um]at h;rcases h with h|⟨i,hi,h1,rfl⟩
  ·simp at h
  ·exact .base i hi h1
 |n+1,c,h=>by
  rw[oy]at h;split at h
  ·rename_i hlt;rcases To.1 h with h|h
   ·exact ui n c h
   ·refine .step _ _ (ui n _ ?_) h;unfold qc aM;rw[an,List.getElem?_eq_getElem hlt];exact List.getElem_mem hlt
  ·exact ui n c h
def Bz(L:List Obj):List Cp:=(List.range 64).flatMap fun(o:Nat)=>(List.range 16).flatMap fun(i:Nat)=> [ez (wN L (o:Int) false i),ez (wN L (o:Int) true i)]
def NX(L:List Obj):List Cp:=(Bz L).map fun c=>ez (Vb (fK c))
def WE(L:List Obj):List Cp:=(Bz L++NX L).map fun c=>ez (Uv (fK c))
def D9(L:List Obj):List Cp:=Bz L++NX L++WE L
theorem Ck{α β:Type}{f:α->List β}{m:Nat}(h:∀x,(f x).length=m):∀l:List α,(l.flatMap f).length=l.length*m
 | []=>by simp
 |x::l=>by simp[Ck h l,h,Nat.add_mul];omega
theorem SB(L:List Obj):(D9 L).length=8192:=by
 have h:(Bz L).length=2048:=by
  unfold Bz;rw[Ck (m:=32) (fun o=>by rw[Ck (m:=2) (fun i=>rfl)];simp)]
  simp
 unfold D9 WE NX;simp[h]
theorem Je(L:List Obj):aI L void=void:=by unfold aI;split<;>rfl
theorem Ew:fi void=void:=by decide
theorem RX{L:List Obj}{oid:Int}{w:Bool}{i:Nat}(h:cj L oid≠0):wN L oid w i=void:=by
 unfold wN aS;rw[aq h];have:free.slots.at i=void:=sX i;rw[this,Je,Ew];simp
theorem Ty:qe void=false:=rfl
theorem BN{L:List Obj}{oid:Int}{w:Bool}{i:Nat}(hL:L.length<=64)(hi:i<16)(h:qe (wN L oid w i)=true):ez (wN L oid w i)∈Bz L:=by
 have hr:cj L oid=0:=by
  refine Decidable.byContradiction fun hn=>?_
  rw[RX hn,Ty]at h;simp at h
 obtain⟨h0,h1⟩:=kc.1 hr;unfold Bz;rw[List.mem_flatMap];refine⟨oid.toNat,by simp;omega,?_⟩
 rw[List.mem_flatMap];refine⟨i,by simpa using hi,?_⟩
 rw[show((oid.toNat:Nat):Int)=oid by omega]
 cases w<;>simp
theorem Oh{L:List Obj}{oid:Int}(hL:L.length<=64):∀c,UB L oid c->c∈D9 L/\((fK c).kind=2->c∈Bz L)/\((fK c).kind=5->c∈Bz L++NX L):=by
 intro c h;induction h with
 |base i hi h1=>
  have:=BN hL hi h1;exact⟨by unfold D9;simp[this],fun _=>this,fun _=>by simp[this]⟩
 |step c d hc hd ih=>
  obtain⟨i1,i2,i3⟩:=ih;obtain⟨k,h1,rfl,⟨h2,⟨i,hi,rfl⟩|⟨hr,rfl⟩⟩|⟨h2,⟨i,hi,rfl⟩|rfl⟩⟩:=hd
  ·have:=BN hL hi h1;exact⟨by unfold D9;simp[this],fun _=>this,fun _=>by simp[this]⟩
  ·have:ez (Vb (fK c))∈NX L:=List.mem_map.2 ⟨c,i2 h2,rfl⟩;exact⟨by unfold D9;simp[this],fun h=>by simp[ez,fK,aM,Vb]at h,fun _=>by simp[this]⟩
  ·have:=BN hL hi h1;exact⟨by unfold D9;simp[this],fun _=>this,fun _=>by simp[this]⟩
  ·have:ez (Uv (fK c))∈WE L:=List.mem_map.2 ⟨c,i3 h2,rfl⟩;exact⟨by unfold D9;simp[this],fun h=>by simp[ez,fK,aM,Uv]at h,fun h=>by simp[ez,fK,aM,Uv]at h⟩
theorem RS{L:List Obj}{oid:Int}(hL:L.length<=64)(n:Nat):(oy L oid n).length<=8192:=by
 rw[<-SB L];exact yd _ _ (rV L oid n) fun c hc=>(Oh hL c (ui n c hc)).1
theorem Ht{L:List Obj}{oid:Int}{n:Nat}(hn:n<=10000)(h:(oy L oid n).length<=n):QJ L oid=oy L oid n:=by
 unfold QJ;obtain⟨m,hm⟩:∃m,10000=n+m:=⟨10000-n,by omega⟩
 rw[hm];exact xV h m
theorem Gx{k:Key}(h:bc k=true):bc (fi k)=true:=by
 unfold fi;rw[ar h];unfold ti;simp only[bc,af,ah,Bool.or_eq_true]at h;split
 ·rename_i hk;simp only[bc,dc,af,ah,Bool.or_eq_true,hk,ea,iU,dt,ft]at h⊢
  have hw:0<=iZ k.rights 3/\iZ k.rights 3<=7:=by
   unfold iZ tr;repeat' split
   all_goals omega
  simp_all
 ·split
  ·rename_i hk;simp only[bc,dc,af,ah,Bool.or_eq_true,hk,ea,iU,dt,ft]at h⊢;simp_all
  ·split
   ·simpa only[bc,af,ah,Bool.or_eq_true]using h
   ·decide
theorem EY(L:List Obj)(oid:Int)(w:Bool)(i:Nat):bc (wN L oid w i)=true:=by
 unfold wN;split
 ·exact Gx (lk _ _)
 ·exact lk _ _
theorem qJ{k:Key}(h:bc k=true):bc (fK (ez k))=true:=by
 simp only[bc,af,ah,Bool.or_eq_true]at h⊢;exact⟨⟨⟨⟨h.1.1.1.1,.inr rfl⟩,h.1.1.2⟩,h.1.2⟩,h.2⟩
theorem XW{L:List Obj}{oid:Int}:∀c,UB L oid c->bc (fK c)=true/\c.length=5/\ez (fK c)=c/\qe (fK c)=true:=by
 intro c h;induction h with
 |base i hi h1=>exact⟨qJ (EY _ _ _ _),rfl,rfl,h1⟩
 |step c d hc hd ih=>
  obtain⟨k,h1,rfl,⟨h2,⟨i,hi,rfl⟩|⟨hr,rfl⟩⟩|⟨h2,⟨i,hi,rfl⟩|rfl⟩⟩:=hd
  ·exact⟨qJ (EY _ _ _ _),rfl,rfl,h1⟩
  ·refine⟨qJ ?_,rfl,rfl,h1⟩;have:=ih.1;simp only[bc,af,ah,Bool.or_eq_true,h2,dt,ft,eE]at this;simp only[bc,Vb,af,ah,Bool.or_eq_true,dt,ft,eE,ea,iU];simp_all
  ·exact⟨qJ (EY _ _ _ _),rfl,rfl,h1⟩
  ·refine⟨qJ ?_,rfl,rfl,h1⟩;have:=ih.1;simp only[bc,af,ah,Bool.or_eq_true,h2,dt,ft,eE]at this;simp only[bc,Uv,af,ah,Bool.or_eq_true,dt,ft,eE,ea,iU];simp_all
theorem Qa{L:List Obj}{oid:Int}{n:Nat}{c:Cp}(h:c∈oy L oid n):bc (fK c)=true/\c.length=5/\ez (fK c)=c/\qe (fK c)=true:=XW c (ui n c h)
abbrev Zb:Nat:=112
abbrev zG:Nat:=74
abbrev tCl:Nat:=48
abbrev wL(s:Nat)(S:CS):aQ:= .cset Zb zG 5 (.lp s 0) S.1 S.2
def ON(v:V):Option Nat:=
 match v with
 | .lp s o=>if o==0 then some s else none
 |_=>none
theorem vF{v:V}{s:Nat}(h:ON v=some s):v= .lp s 0:=by
 unfold ON at h;split at h
 ·split at h
  ·rename_i ho;have ho:=ai.1 ho;subst ho;simp only[aa]at h;subst h;rfl
  ·simp at h
 ·simp at h
theorem aL.onSet[Fen]{P:Program}{f:Nat}{rest:List V}{res:List aQ}{K KP:V->List aQ->Prop}{b s t e:Nat}{L:List Obj}{S T:CS}{x:V}
  (hb:aN res b=wL s S) (hs:cP res s= .store t e L) (hid:lr rest=true) (hx:jN x=true)
  (h:aL P f (.lp 0 0::rest) [wL 1 S,.ro (.store t e L)] (fun v r=>uZ x v r/\aN r 0=wL 1 T) (fun _ _=>False))
  (hK:K x (bQ res b (wL s T))):aL P f (.lp b 0::rest) res K KP:=by
 have hkb:known res b:=by unfold known;rw[hb];simp
 have hks:known res s:=ew hs (by simp)
 have hlb:=aW hkb;have hls:=aW hks;have hne:b≠s:=fun e=>by subst e;unfold cP at hs;rw[hb]at hs;simp at hs
 have hlk:cP res b=wL s S:=by unfold cP;rw[hb]
 refine aL.frame (pl:= [(b,true),(s,false)]) (args0:= .lp 0 0::rest) (K0:=fun v r=>uZ x v r/\aN r 0=wL 1 T) (KP0:=fun _ _=>False)
  (by simp[eO,cB.2 hkb,cB.2 hks]) (by simp[jc,dJ,pb,hlb,hls,hne,Ne.symm hne]) ?_ ?_ (fun v r hv=>?_) (fun _ _ h=>h.elim)
 ·simp only[eF,fy,kT,idxOf,dJ];rw[jJ rest hid];simp
 ·have:fg (kT 0 (dJ [(b,true),(s,false)])) res [(b,true),(s,false)]= [wL 1 S,.ro (.store t e L)]:=by simp[fg,hb,hs,gd,fy,eF,kT,idxOf,dJ,hne,Ne.symm hne]
  rw[this];exact h
 ·obtain⟨h1,h2⟩:=hv;have hm:merge [(b,true),(s,false)] [] r res=bQ res b (wL s T):=by simp[merge,fF,h2,gd,gz,fy,eF,back,wI]
  exact⟨[],x,rfl,by simp[lf,h2,jo],rfl,jS.jN h1 hx,by rw[hm];exact hK⟩
def X6{α:Type}(B:ky α)(Q:List Obj->CS->α->Prop)(N:List Obj->CS->α->CS):kr:=fun args res K=>
 match args with
 |a::l=>match IP B l with
  |some x=>match ON a with
   |some b=>match aN res b with
    | .cset t et n sv D F=>match ON sv with
      |some s=>match cP res s with
       | .store ts e L=>if t==Zb&&et==zG&&n==5&&ts==tS&&e==eS then Q L (D,F) x/\K (.tp []) (bQ res b (wL s (N L (D,F) x)))else False
       |_=>False
      |none=>False
    |_=>False
   |none=>False
  |none=>False
 | []=>False
def ZY(S:CS)(v:V)(r:List aQ):Prop:=
 match aN r 0 with
 | .cset t et n sv D F=>match ON sv with
   |some s=>if t==Zb&&et==zG&&n==5&&s==1 then qh (.tp []) v r/\D=S.1/\F=S.2 else False
   |none=>False
 |_=>False
def ZO(S:CS)(v:V)(r:List aQ):Prop:=
 match Sx.wb r 0 zG with
 |some r'=>ZY S v r'
 |none=>False
theorem Tb{S:CS}{v:V}{r:List aQ}(h:ZY S v r):uZ (.tp []) v r/\aN r 0=wL 1 S:=by
 unfold ZY at h;split at h
 case h_2=>exact h.elim
 rename_i t et n sv D F hr;split at h
 case h_2=>exact h.elim
 rename_i s hs;split at h
 case isFalse=>exact h.elim
 rename_i hc;simp only[af,ai]at hc;obtain⟨⟨⟨rfl,rfl⟩,rfl⟩,rfl⟩:=hc;obtain⟨h1,rfl,rfl⟩:=h;rw[vF hs]at hr;exact⟨dI h1,hr⟩
theorem Cr[Fen]{P:Program}{f:Nat}{α:Type}{B:ky α}{Q:List Obj->CS->α->Prop}{N:List Obj->CS->α->CS}(hB:iF B)(hid:∀a,lr (B.cn a 0)=true)
  (h:∀L S x,Q L S x->fc (fun _=>False) (B.cn x 0)->aL P f (.lp 0 0::B.cn x 0) [wL 1 S,.ro (.store tS eS L)] (ZY (N L S x)) (fun _ _=>False)):k7 P f (X6 B Q N):=by
 intro args res K KP hh;unfold X6 at hh;split at hh
 case h_2=>exact hh.elim
 split at hh
 case h_2=>exact hh.elim
 rename_i x hx;split at hh
 case h_2=>exact hh.elim
 rename_i b hb;have hb:=vF hb;subst hb;split at hh
 case h_2=>exact hh.elim
 rename_i t et n sv D F hr;split at hh
 case h_2=>exact hh.elim
 rename_i s hs;have hs:=vF hs;subst hs;split at hh
 case h_2=>exact hh.elim
 rename_i ts e L hl;split at hh
 case isFalse=>exact hh.elim
 rename_i ht;simp only[af,ai]at ht;obtain⟨⟨⟨⟨rfl,rfl⟩,rfl⟩,rfl⟩,rfl⟩:=ht;obtain⟨hQ,hK⟩:=hh;refine aL.args (ff.ka (ow hB hid _ x hx)) ?_;refine aL.XQ fun hok=>?_
 refine aL.onSet (S:=(D,F)) (T:=N L (D,F) x) (x:= .tp []) hr hl (hid x) rfl ?_ hK;refine(h L (D,F) x hQ (oX _ (hid x) hok.2)).mono (fun _ _ h=>Tb h) fun _ _ h=>h
theorem K9{S:CS}{v:V}{r:List aQ}(h:ZO S v r):∃r',Sx.wb r 0 zG=some r'/\ZY S v r':=by
 unfold ZO at h;split at h
 ·exact⟨_,by assumption,h⟩
 ·exact h.elim
abbrev CpT:Type:=Int×Int×Int×Int×Int×Unit
def Vo:Arg CpT:=XX (bM iA (bM iA (bM iA (bM iA (bM iA jx)))))
theorem GR:mZ Vo:=Cl (aZ fk (aZ fk (aZ fk (aZ fk (aZ fk dg)))))
def Nw(x:CpT):Key:=⟨x.1,x.2.1,x.2.2.1,x.2.2.2.1,x.2.2.2.2.1,0⟩
abbrev aaz(S:CS)(L:List Obj):List aQ:= [.blk Zb (.ag [.lp 1 0,.mp 2,.sa 3]),.ro (.store tS eS L),.ms 5 S.1,.que zG 5 S.2]
def Vn:kr:=X6 (bM kA jx) (fun _ S _=>pS S 1000000) fun _ S x=>qf S x.1
def LV:kr:=X6 (bM iA (bM bA jx)) (fun _ S _=>pS S 900000) fun L S x=>kq L S x.1 x.2.1 16
def Ww(r:Int):Prop:=0<=r/\r<=7
def Te:kr:=X6 (bM Vo jx) (fun _ S x=>pS S 800000/\Ww (Nw x.1).rights) fun L S x=>ET L S (Nw x.1)
def Tw:kr:=X6 (bM Vo jx) (fun _ S _=>pS S 800000) fun L S x=>Qo L S (Nw x.1)
end Go.Sx
namespace Go.Proofs.YtmfbohanboiklaaGreat
open Go.Sx
abbrev abd(S:CS)(k:Sx.Key):=cx S.fst [k.kind,k.oid,k.count,k.call,k.rights]
abbrev abe(S:CS)(k:Sx.Key):=cG S.fst [k.kind,k.oid,k.count,k.call,k.rights]
abbrev abf(S:CS)(k:Sx.Key):=cL (abd S k) [k.kind,k.oid,k.count,k.call,k.rights]+1
abbrev abg(S:CS)(k:Sx.Key):=cL S.fst [k.kind,k.oid,k.count,k.call,k.rights]+1
theorem Q4(L:List Sx.Obj)(S:CS)(k:Sx.Key)(hS:pS S 1000000):
 true=true/\au (!(decide (2<=k.kind)&&decide (k.kind<=10))) (True/\S.fst=(qf S k).fst/\S.snd=(qf S k).snd) ((az (abg S k)/\Aw S.fst/\(0<=bK (abe S k)/\bK (abe S k)< ↑(aJ (abd S k)))/\au (decide (cL (fD (abd S k) (bK (abe S k)).toNat (abg S k)) [k.kind,k.oid,k.count,k.call,k.rights]=1)) (jU (aJ S.snd) 40/\True/\fD (abd S k) (bK (abe S k)).toNat (abg S k)=(qf S k).fst/\cE S.snd [k.kind,k.oid,k.count,k.call,k.rights]=(qf S k).snd) (True/\fD (abd S k) (bK (abe S k)).toNat (abg S k)=(qf S k).fst/\S.snd=(qf S k).snd))/\Aw S.fst/\az (abf S k)/\(0<=bK (abe S k)/\bK (abe S k)< ↑(aJ (abd S k)))/\au (decide (cL (fD (abd S k) (bK (abe S k)).toNat (abf S k)) [k.kind,k.oid,k.count,k.call,k.rights]=1)) (jU (aJ S.snd) 40/\True/\fD (abd S k) (bK (abe S k)).toNat (abf S k)=(qf S k).fst/\cE S.snd [k.kind,k.oid,k.count,k.call,k.rights]=(qf S k).snd) (True/\fD (abd S k) (bK (abe S k)).toNat (abf S k)=(qf S k).fst/\S.snd=(qf S k).snd)):=by
 delta au abg abf abe abd az
 change true=true/\((!qe k)=true->True/\S.1=(qf S k).1/\S.2=(qf S k).2)/\((!qe k)=false->_)
 refine⟨rfl,fun h=>?_,fun h=>?_⟩
 ·have h:qe k=false:=by simpa using h
  unfold qf;rw[h];exact⟨trivial,rfl,rfl⟩
 have h:qe k=true:=by simpa using h
 have e:qf S k=(fD (cx S.1 (ez k)) (cG S.1 (ez k)) (cL S.1 (ez k)+1),if fU S.1 (ez k)=true then S.2 else cE S.2 (ez k)):=by unfold qf;rw[ar h];rfl
 rw[e];obtain⟨h1,h2,h3,h4,h5⟩:=J7 (c:=ez k) hS
 change (_/\_/\_/\(decide (cL (fD (cx S.1 (ez k)) (cG S.1 (ez k)) (cL S.1 (ez k)+1)) (ez k)=1)=true->_)/\(decide (cL (fD (cx S.1 (ez k)) (cG S.1 (ez k)) (cL S.1 (ez k)+1)) (ez k)=1)=false->_))/\
  Aw _/\bg _ (cL (cx S.1 (ez k)) (ez k)+1)/\_/\(decide (cL (fD (cx S.1 (ez k)) (cG S.1 (ez k)) (cL (cx S.1 (ez k)) (ez k)+1)) (ez k)=1)=true->jU _ 40/\True/\fD (cx S.1 (ez k)) (cG S.1 (ez k)) (cL (cx S.1 (ez k)) (ez k)+1)=_/\_=_)/\
  (decide (cL (fD (cx S.1 (ez k)) (cG S.1 (ez k)) (cL (cx S.1 (ez k)) (ez k)+1)) (ez k)=1)=false->True/\fD (cx S.1 (ez k)) (cG S.1 (ez k)) (cL (cx S.1 (ez k)) (ez k)+1)=_/\_=_)
 rw[TF,SD]
 have hy:decide (cL S.1 (ez k)+1=1)=true->S.2++ [ez k]=if fU S.1 (ez k)=true then S.2 else cE S.2 (ez k):=fun hd=>by
  rw[aq (h5.1 (ak hd))];rfl
 have hn:decide (cL S.1 (ez k)+1=1)=false->S.2=if fU S.1 (ez k)=true then S.2 else cE S.2 (ez k):=fun hd=>by
  rw[ar (Decidable.byContradiction fun hc=>aj hd (h5.2 hc))]
 exact⟨⟨h1,h2,h3,fun hd=>⟨h4,trivial,rfl,hy hd⟩,fun hd=>⟨trivial,rfl,hn hd⟩⟩,h2,h1,h3,fun hd=>⟨h4,trivial,rfl,hy hd⟩,fun hd=>⟨trivial,rfl,hn hd⟩⟩
theorem Cq[Fen]:k7 Tryz.prog 71 Vn:=Cr (aZ mT dg) (fun _=>rfl) fun L S x hQ hok=>(aL.An (k:=0) (res':=aaz S L) rfl (aL.wb (e:=zG) (bG (inl:=(abE [96])) (ann:=bj) aO (Q4 L S x.1 hQ) (by kernel_rfl)) fun _ _ h=>K9 h))
abbrev abh(L:List Sx.Obj)(S:CS)(oid:Int)(w:Bool)(g:Int):=((kq L S oid w g).fst,(kq L S oid w g).snd)
theorem IQ(L:List Sx.Obj)(S:CS)(oid:Int)(w:Bool)(hS:pS S 900000):
 (∃g,lE g/\w=w/\(aS L oid).slots=(aS L oid).slots/\0=g/\S.fst=(kq L S oid w g).fst/\S.snd=(kq L S oid w g).snd/\L=L/\aS L oid=aS L oid)/\∀(g:Int),lE g->au (decide (g<16)) ((0<=g/\g< ↑16)/\au w (true=true/\pS (abh L S oid w g) 1000000/\az (g+1)/\∃g',lE g'/\(16-g').toNat<(16-g).toNat/\w=w/\(aS L oid).slots=(aS L oid).slots/\g+1=g'/\(qf (abh L S oid w g) (fi (aI L ((aS L oid).slots.at g.toNat)))).fst=(kq L S oid w g').fst/\(qf (abh L S oid w g) (fi (aI L ((aS L oid).slots.at g.toNat)))).snd=(kq L S oid w g').snd/\L=L/\aS L oid=aS L oid) (true=true/\pS (abh L S oid w g) 1000000/\az (g+1)/\∃g',lE g'/\(16-g').toNat<(16-g).toNat/\w=w/\(aS L oid).slots=(aS L oid).slots/\g+1=g'/\(qf (abh L S oid w g) (aI L ((aS L oid).slots.at g.toNat))).fst=(kq L S oid w g').fst/\(qf (abh L S oid w g) (aI L ((aS L oid).slots.at g.toNat))).snd=(kq L S oid w g').snd/\L=L/\aS L oid=aS L oid)) (True/\(kq L S oid w g).fst=(kq L S oid w 16).fst/\(kq L S oid w g).snd=(kq L S oid w 16).snd):=by
 delta au abh az
 refine⟨⟨0,⟨by omega,by omega⟩,rfl,rfl,rfl,rfl,rfl,rfl,rfl⟩,fun g hg=>⟨fun hlt=>?_,fun hge=>?_⟩⟩
 ·have hlt:=ak hlt;obtain⟨h0,h1⟩:=hg;have hb:pS (kq L S oid w g) 1000000:=gq (pE (f:=wN L oid w) hS g.toNat) (by omega)
  have hs:kq L S oid w (g+1)=qf (kq L S oid w g) (wN L oid w g.toNat):=by
   unfold kq;rw[show(g+1).toNat=g.toNat+1 by omega];rfl
  have hm:bg IntKind.i64 (g+1):=by simp only[bg,ck];omega
  have hi:lE (g+1):=⟨by omega,by omega⟩
  refine⟨⟨h0,hlt⟩,fun hw=>⟨rfl,hb,hm,g+1,hi,by omega,rfl,rfl,rfl,?_,?_,rfl,rfl⟩,fun hw=>⟨rfl,hb,hm,g+1,hi,by omega,rfl,rfl,rfl,?_,?_,rfl,rfl⟩⟩<;>(rw[hs];unfold wN;subst hw;rfl)
 ·have hge:=aj hge;have:g=16:=by have:=hg.2;omega
  subst this;exact⟨trivial,rfl,rfl⟩
theorem vM[Fen]:k7 Tryz.prog 51 LV:=Cr (aZ fk (aZ PF dg)) (fun _=>rfl) fun L S x hQ hok=>by
 obtain⟨oid,w,_⟩:=x;exact bV (inl:=cg) (ann:=(kb [(51,2,Vm [0,2,20] (fun g=> [(21,.it .i64 g)]) 0 (fun g=>wL 1 (kq L S oid w g)) lE 16)])) (aH eT (aH fV (aH vU aO))) (aV Cq aU) (IQ L S oid w hQ) (by kernel_rfl)
abbrev abi(L:List Sx.Obj)(S:CS)(k:Sx.Key):=kq L (S.fst,S.snd) k.oid (!decide (bw BinOp.and IntKind.i64 k.rights 2=0)) 16
theorem NQ(L:List Sx.Obj)(S:CS)(k:Sx.Key)(hS:pS S 800000)(h0:0<=k.rights)(h7:k.rights<=7):
 true=true/\pS (S.fst,S.snd) 900000/\au (decide (k.rights=0)) (true=true/\pS ((abi L S k).fst,(abi L S k).snd) 1000000/\True/\(qf ((abi L S k).fst,(abi L S k).snd) (aB 5 k void.value)).fst=(ET L S k).fst/\(qf ((abi L S k).fst,(abi L S k).snd) (aB 5 k void.value)).snd=(ET L S k).snd) (True/\(abi L S k).fst=(ET L S k).fst/\(abi L S k).snd=(ET L S k).snd):=by
 delta au aB abi
 have hb:(!decide (bw BinOp.and IntKind.i64 k.rights 2=0))=gg k:=by rw[YD h0 h7];unfold gg;simp
 rw[hb];have h16:pS (kq L S k.oid (gg k) 16) 1000000:=gq (pE (f:=wN L k.oid (gg k)) hS (16:Int).toNat) (by omega)
 refine⟨rfl,gq hS (by omega),fun h=>⟨rfl,h16,trivial,?_,?_⟩,fun h=>⟨trivial,?_,?_⟩⟩
 ·unfold ET;rw[ar (ak h)];rfl
 ·unfold ET;rw[ar (ak h)];rfl
 ·unfold ET;rw[aq (aj h)]
 ·unfold ET;rw[aq (aj h)]
theorem Pe[Fen]:k7 Tryz.prog 49 Te:=Cr (aZ GR dg) (fun _=>rfl) fun L S x hQ hok=>bV (inl:=cg) (ann:=bj) aO (aV vM (aV Cq aU)) (NQ L S (Nw x.1) hQ.1 hQ.2.1 hQ.2.2) (by kernel_rfl)
abbrev abj(L:List Sx.Obj)(S:CS)(k:Sx.Key):=((kq L (S.fst,S.snd) k.oid false 16).fst,(kq L (S.fst,S.snd) k.oid false 16).snd)
theorem Pg(L:List Sx.Obj)(S:CS)(k:Sx.Key)(hS:pS S 800000):
 true=true/\pS (S.fst,S.snd) 900000/\true=true/\pS (abj L S k) 1000000/\True/\(qf (abj L S k) (aB 6 k void.value)).fst=(Qo L S k).fst/\(qf (abj L S k) (aB 6 k void.value)).snd=(Qo L S k).snd:=by
 delta aB abj
 have h16:pS (kq L S k.oid false 16) 1000000:=gq (pE (f:=wN L k.oid false) hS (16:Int).toNat) (by omega)
 exact⟨rfl,gq hS (by omega),rfl,h16,trivial,rfl,rfl⟩
theorem Pr[Fen]:k7 Tryz.prog 50 Tw:=Cr (aZ GR dg) (fun _=>rfl) fun L S x hQ hok=>bV (inl:=cg) (ann:=bj) aO (aV vM (aV Cq aU)) (Pg L S (Nw x.1) hQ) (by kernel_rfl)
end Go.Proofs.YtmfbohanboiklaaGreat
