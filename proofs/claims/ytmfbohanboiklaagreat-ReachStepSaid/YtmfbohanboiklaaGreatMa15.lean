import Derived.Test.YtmfbohanboiklaaGreatMa14
set_option linter.unusedSimpArgs false
set_option linter.unusedVariables false
set_option maxRecDepth 100000
namespace Go.Proofs.YtmfbohanboiklaaGreat
open Go.Sx
theorem Yq(L:List Sx.Obj)(n:Int)(k:Key)(m:bK)(hL:aO L)(hs:aU m.data):
 true=true/\(bK.mk 190 eB void void void,L)=bd L n (kk 0 k) m:=by
 simp+decide [bd,eg,eV,dQ,ew,iC,ir,iR,gQ,eI,dX,gz,gO,gJ,jB,dR,void,fm,eB,bE,gm,gk,fF,kk,mm,hL,hs];try grind
theorem Z4[Fen](L:List Sx.Obj)(n:Int)(k:Key)(m:bK)(hL:aO L)(hs:aU m.data):aM Tryz.prog 94 [.lp 0 0] [.ro (.blk o6 (iP (.it .i64 m.code) m n (.ci .i64 0) k)),.store tS eS L] (kO (bd L n ((kk 0 k)) (m))) (fun _ _=>False):=
 bm (inl:=(aeq aer)) (ann:=bn) (aH dz aP) aT (eO bZ) (Yq L n k m hL hs) (by kernel_rfl)
theorem ZH(L:List Sx.Obj)(n:Int)(k:Key)(m:bK)(hL:aO L)(hs:aU m.data)(hz:¬k.kind=0):
 aw (au (!!decide (k.kind=0)) ((bK.mk 190 eB void void void,L)=bd L n k (mm 0 m)) (aw (aw ((bK.mk 0 eB void void (aA k.kind),L)=bd L n k (mm 0 m))))):=by
 delta au aA aw
 have hX:bd L n k (mm 0 m)=(gO k.kind,L):=by
  have hr:dQ L n k (mm 0 m)=(0,gO k.kind,L):=by
   unfold dQ;rw[aq hz,ar (show(mm 0 m).code=0 from rfl)]
  simp[bd,eg,eV,hr]
 rw[hX];simp[hz];rfl
theorem Yt[Fen](L:List Sx.Obj)(n:Int)(k:Key)(m:bK)(hL:aO L)(hs:aU m.data)(hz:¬k.kind=0):aM Tryz.prog 94 [.lp 0 0] [.ro (.blk o6 (iP (.ci .i64 0) m n (.it .i64 k.kind) k)),.store tS eS L] (kO (bd L n (k) ((mm 0 m)))) (fun _ _=>False):=
 bm (inl:=(aeq aer)) (ann:=bn) (aH dz aP) aT (eO bZ) (ZH L n k m hL hs hz) (by kernel_rfl)
abbrev adE:=true=true/\False
theorem ZG(L:List Sx.Obj)(n:Int)(k:Key)(m:bK)(hL:aO L)(hs:aU m.data)(hz:¬k.kind=0)(hc:¬m.code=0)(hn:m.code<1\/dX k.kind<m.code):
 aw (au (!!decide (k.kind=0)) ((bK.mk 190 eB void void void,L)=bd L n k m) (au (decide (m.code=0)) (aw (aw ((bK.mk 0 eB void void (aA k.kind),L)=bd L n k m))) (aw (au (!(oc 1 1 k m||(oc 2 1 k m||(oc 2 2 k m||(oc 2 3 k m||(oc 2 4 k m||(oc 2 5 k m||(oc 2 6 k m||(oc 3 1 k m||(oc 3 2 k m||(oc 3 3 k m||(oc 3 4 k m||(oc 3 5 k m||(oc 4 1 k m||(oc 4 2 k m||(oc 4 3 k m||(oc 4 4 k m||(oc 4 5 k m||(oc 4 6 k m||(oc 5 1 k m||(oc 5 2 k m||(oc 5 3 k m||(oc 5 4 k m||(oc 5 5 k m||(oc 5 6 k m||(oc 5 7 k m||(oc 8 1 k m||(oc 8 2 k m||(oc 8 3 k m||(oc 9 1 k m||oc 10 1 k m)))))))))))))))))))))))))))))) ((bK.mk 240 eB void void void,L)=bd L n k m) (au (oc 1 1 k m) adE (au (oc 2 1 k m) adE (au (oc 2 2 k m) adE (au (oc 2 3 k m) adE (au (oc 2 4 k m) adE (au (oc 2 5 k m) adE (au (oc 2 6 k m) adE (au (oc 3 1 k m) adE (au (oc 3 2 k m) adE (au (oc 3 3 k m) adE (au (oc 3 4 k m) adE (au (oc 3 5 k m) adE (au (oc 4 1 k m) adE (au (oc 4 2 k m) adE (au (oc 4 3 k m) adE (au (oc 4 4 k m) adE (au (oc 4 5 k m) adE (au (oc 4 6 k m) adE (au (oc 5 1 k m) adE (au (oc 5 2 k m) adE (au (oc 5 3 k m) adE (au (oc 5 4 k m) adE (au (oc 5 5 k m) adE (au (oc 5 6 k m) adE (au (oc 5 7 k m) adE (au (oc 8 1 k m) adE (au (oc 8 2 k m) adE (au (oc 8 3 k m) adE (au (oc 9 1 k m) adE (au (oc 10 1 k m) adE False)))))))))))))))))))))))))))))))))):=by
 delta au aA adE aw
 have hX:bd L n k m=(gJ 240,L):=by
  have hr:dQ L n k m=(240,fm,L):=by
   unfold dQ;rw[aq hz,aq hc,ar (by rcases hn with h|h;exact .inl h;exact .inr (.inl h))]
  simp[bd,eg,eV,hr]
 rw[hX]
 have hq:∀a b:Int,1<=b->b<=dX a->oc a b k m=false:=fun a b h1 h2=>by
  cases h:oc a b k m with
  |false=>rfl
  |true=>
   unfold oc at h;simp only[af,ah]at h;obtain⟨rfl,rfl⟩:=h;omega
 have f1_1:oc 1 1 k m=false:=hq 1 1 (by omega) (by decide)
 have f2_1:oc 2 1 k m=false:=hq 2 1 (by omega) (by decide)
 have f2_2:oc 2 2 k m=false:=hq 2 2 (by omega) (by decide)
 have f2_3:oc 2 3 k m=false:=hq 2 3 (by omega) (by decide)
 have f2_4:oc 2 4 k m=false:=hq 2 4 (by omega) (by decide)
 have f2_5:oc 2 5 k m=false:=hq 2 5 (by omega) (by decide)
 have f2_6:oc 2 6 k m=false:=hq 2 6 (by omega) (by decide)
 have f3_1:oc 3 1 k m=false:=hq 3 1 (by omega) (by decide)
 have f3_2:oc 3 2 k m=false:=hq 3 2 (by omega) (by decide)
 have f3_3:oc 3 3 k m=false:=hq 3 3 (by omega) (by decide)
 have f3_4:oc 3 4 k m=false:=hq 3 4 (by omega) (by decide)
 have f3_5:oc 3 5 k m=false:=hq 3 5 (by omega) (by decide)
 have f4_1:oc 4 1 k m=false:=hq 4 1 (by omega) (by decide)
 have f4_2:oc 4 2 k m=false:=hq 4 2 (by omega) (by decide)
 have f4_3:oc 4 3 k m=false:=hq 4 3 (by omega) (by decide)
 have f4_4:oc 4 4 k m=false:=hq 4 4 (by omega) (by decide)
 have f4_5:oc 4 5 k m=false:=hq 4 5 (by omega) (by decide)
 have f4_6:oc 4 6 k m=false:=hq 4 6 (by omega) (by decide)
 have f5_1:oc 5 1 k m=false:=hq 5 1 (by omega) (by decide)
 have f5_2:oc 5 2 k m=false:=hq 5 2 (by omega) (by decide)
 have f5_3:oc 5 3 k m=false:=hq 5 3 (by omega) (by decide)
 have f5_4:oc 5 4 k m=false:=hq 5 4 (by omega) (by decide)
 have f5_5:oc 5 5 k m=false:=hq 5 5 (by omega) (by decide)
 have f5_6:oc 5 6 k m=false:=hq 5 6 (by omega) (by decide)
 have f5_7:oc 5 7 k m=false:=hq 5 7 (by omega) (by decide)
 have f8_1:oc 8 1 k m=false:=hq 8 1 (by omega) (by decide)
 have f8_2:oc 8 2 k m=false:=hq 8 2 (by omega) (by decide)
 have f8_3:oc 8 3 k m=false:=hq 8 3 (by omega) (by decide)
 have f9_1:oc 9 1 k m=false:=hq 9 1 (by omega) (by decide)
 have f10_1:oc 10 1 k m=false:=hq 10 1 (by omega) (by decide)
 simp only[f1_1,f2_1,f2_2,f2_3,f2_4,f2_5,f2_6,f3_1,f3_2,f3_3,f3_4,f3_5,f4_1,f4_2,f4_3,f4_4,f4_5,f4_6,f5_1,f5_2,f5_3,f5_4,f5_5,f5_6,f5_7,f8_1,f8_2,f8_3,f9_1,f10_1];simp[hz,hc];rfl
theorem Y7[Fen](L:List Sx.Obj)(n:Int)(k:Key)(m:bK)(hL:aO L)(hs:aU m.data)(hz:¬k.kind=0)(hc:¬m.code=0)(hn:m.code<1\/dX k.kind<m.code):aM Tryz.prog 94 [.lp 0 0] [.ro (.blk o6 (iP (.it .i64 m.code) m n (.it .i64 k.kind) k)),.store tS eS L] (kO (bd L n (k) (m))) (fun _ _=>False):=
 bm (inl:=(aeq aer)) (ann:=bn) (aH dz aP) aT (eO bZ) (ZG L n k m hL hs hz hc hn) (by kernel_rfl)
theorem ur[Fen]{L:List Sx.Obj}{n:Int}{k:Key}{m:bK}{kd cd:Int}(hk:k.kind=kd)(hc:m.code=cd)(h:aM Tryz.prog 94 [.lp 0 0] [.ro (.blk o6 (iP (.ci .i64 cd) m n (.ci .i64 kd) k)),.store tS eS L] (kO (bd L n (kk kd k) (mm cd m))) (fun _ _=>False)):
  aM Tryz.prog 94 [.lp 0 0] [.ro (.blk o6 (iP (.it .i64 m.code) m n (.it .i64 k.kind) k)),.store tS eS L] (kO (bd L n k m)) (fun _ _=>False):=by
 rw[yJ hk,JL hc]at h;subst hk;subst hc;exact AR (c':= .ci .i64 m.code) (d':= .ci .i64 k.kind) (by simp) (fun _=>rfl) (fun _ h=>h) rfl (fun _=>rfl) (fun _ h=>h) rfl h
theorem Wa[Fen](L:List Sx.Obj)(n:Int)(k:Key)(m:bK)(hL:aO L)(hs:aU m.data)(hk:aR k=true):aM Tryz.prog 94 [.lp 0 0] [.ro (.blk o6 (iP (.it .i64 m.code) m n (.it .i64 k.kind) k)),.store tS eS L] (kO (bd L n k m)) (fun _ _=>False):=by
 by_cases h0:k.kind=0
 ·have:=Z4 L n k m hL hs;rw[yJ h0]at this;exact AR (by simp) (fun _=>rfl) (fun _ h=>h) rfl (fun _=>by rw[h0];rfl) (fun _ h=>by rw[h0]at h;exact h) rfl this
 by_cases hc:m.code=0
 ·have:=Yt L n k m hL hs h0;rw[JL hc]at this;exact AR (by simp) (fun _=>by rw[hc];rfl) (fun _ h=>by rw[hc]at h;exact h) rfl (fun _=>rfl) (fun _ h=>h) rfl this
 by_cases hn:m.code<1\/dX k.kind<m.code
 ·exact Y7 L n k m hL hs h0 hc hn
 have hkd:k.kind=1\/k.kind=2\/k.kind=3\/k.kind=4\/k.kind=5\/k.kind=8\/k.kind=9\/k.kind=10:=by
  unfold dX at hn;grind
 rcases hkd with e|e|e|e|e|e|e|e
 ·have hq:dX k.kind=1:=by rw[e];decide
  have hcd:m.code=1:=by omega
  have f:=hcd
  ·exact ur e f (QQ L n k m hL hs)
 ·have hq:dX k.kind=6:=by rw[e];decide
  have hcd:m.code=1\/m.code=2\/m.code=3\/m.code=4\/m.code=5\/m.code=6:=by omega
  rcases hcd with f|f|f|f|f|f
  ·exact ur e f (M5 L n k m hL hs)
  ·exact ur e f (SE L n k m hL hs)
  ·exact ur e f (Rz L n k m hL hs)
  ·exact ur e f (Oa L n k m hL hs)
  ·exact ur e f (Q4 L n k m hL hs (by rw[yJ e];exact hk))
  ·exact ur e f (P4 L n k m hL hs)
 ·have hq:dX k.kind=5:=by rw[e];decide
  have hcd:m.code=1\/m.code=2\/m.code=3\/m.code=4\/m.code=5:=by omega
  rcases hcd with f|f|f|f|f
  ·exact ur e f (Q0 L n k m hL hs)
  ·exact ur e f (Qz L n k m hL hs)
  ·exact ur e f (SK L n k m hL hs)
  ·exact ur e f (PC L n k m hL hs)
  ·exact ur e f (Rj L n k m hL hs (by rw[yJ e];exact hk))
 ·have hq:dX k.kind=6:=by rw[e];decide
  have hcd:m.code=1\/m.code=2\/m.code=3\/m.code=4\/m.code=5\/m.code=6:=by omega
  rcases hcd with f|f|f|f|f|f
  ·exact ur e f (Pu L n k m hL hs)
  ·exact ur e f (RE L n k m hL hs)
  ·exact ur e f (NH L n k m hL hs)
  ·exact ur e f (RT L n k m hL hs)
  ·exact ur e f (RS L n k m hL hs)
  ·exact ur e f (MO L n k m hL hs)
 ·have hq:dX k.kind=7:=by rw[e];decide
  have hcd:m.code=1\/m.code=2\/m.code=3\/m.code=4\/m.code=5\/m.code=6\/m.code=7:=by omega
  rcases hcd with f|f|f|f|f|f|f
  ·exact ur e f (P5 L n k m hL hs)
  ·exact ur e f (Si L n k m hL hs)
  ·exact ur e f (RX L n k m hL hs)
  ·exact ur e f (Qs L n k m hL hs)
  ·exact ur e f (O6 L n k m hL hs)
  ·exact ur e f (Sk L n k m hL hs)
  ·exact ur e f (Qa L n k m hL hs)
 ·have hq:dX k.kind=3:=by rw[e];decide
  have hcd:m.code=1\/m.code=2\/m.code=3:=by omega
  rcases hcd with f|f|f
  ·exact ur e f (Qi L n k m hL hs)
  ·exact ur e f (Na L n k m hL hs)
  ·exact ur e f (Rb L n k m hL hs)
 ·have hq:dX k.kind=1:=by rw[e];decide
  have hcd:m.code=1:=by omega
  have f:=hcd
  ·exact ur e f (NQ L n k m hL hs)
 ·have hq:dX k.kind=1:=by rw[e];decide
  have hcd:m.code=1:=by omega
  have f:=hcd
  ·exact ur e f (LF L n k m hL hs)
theorem Iw[Fen]:l5 Tryz.prog 94 XB:=by
 intro args res K KP h;unfold XB at h;split at h
 case h_2=>exact h.elim
 split at h
 case h_2=>exact h.elim
 rename_i j off;split at h
 case isFalse=>exact h.elim
 rename_i hoff;have hoff:=ai.1 hoff;subst hoff;split at h
 case h_2=>exact h.elim
 rename_i t c hj;split at h
 case isFalse=>exact h.elim
 rename_i ht;have ht:=ai.1 ht;subst ht;split at h
 case h_2=>exact h.elim
 split at h
 case h_2=>exact h.elim
 rename_i mv sv nv kv;split at h
 case h_2=>exact h.elim
 rename_i m hm;split at h
 case h_2=>exact h.elim
 rename_i i o2;split at h
 case isFalse=>exact h.elim
 rename_i hij;simp only[af,ai,Bool.not_eq_true',beq_eq_false_iff_ne,ne_eq]at hij;obtain⟨rfl,hij⟩:=hij;split at h
 case h_2=>exact h.elim
 rename_i n hn;split at h
 case h_2=>exact h.elim
 rename_i k hk;split at h
 case h_2=>exact h.elim
 rename_i t2 e L hi;split at h
 case isFalse=>exact h.elim
 rename_i hc;simp only[af,ai]at hc;obtain⟨rfl,rfl⟩:=hc;obtain⟨⟨hL,hs,hok⟩,h⟩:=h;have hkj:known res j:=by unfold known;rw[hj];simp
 have hki:known res i:=by unfold known;rw[hi];simp
 have hlj:=aY hkj;have hli:=aY hki;have hlj':cC res j= .blk o6 (.ag [mv,.lp i 0,nv,kv]):=by unfold cC;rw[hj]
 have im:=uS (κ:=lL 0 (dS [(j,false),(i,true)])) mv (Sa hm);have inn:=uS (κ:=lL 0 (dS [(j,false),(i,true)])) nv (rJ hn);have ik:=uS (κ:=lL 0 (dS [(j,false),(i,true)])) kv (DI hk);have il:fP (lL 0 (dS [(j,false),(i,true)])) (.lp i 0)=some (.lp 1 0):=by simp[fP,lL,idxOf,dS,Ne.symm hij]
 have hb:fP (lL 0 (dS [(j,false),(i,true)])) (.ag [mv,.lp i 0,nv,kv])=some (.ag [mv,.lp 1 0,nv,kv]):=by unfold fP;rw[qm im (qm il (qm inn (qm ik rfl)))]
 have hres:fz (lL 0 (dS [(j,false),(i,true)])) res [(j,false),(i,true)]= [.ro (.blk o6 (.ag [mv,.lp 1 0,nv,kv])),.store tS eS L]:=by simp only[fz,hlj',hi,gB,hb];rfl
 refine aM.frame (pl:= [(j,false),(i,true)]) (args0:= [.lp 0 0]) (K0:=kO (bd L n k m)) (KP0:=fun _ _=>False) (by simp[fj,cI.2 hkj,cI.2 hki]) (by simpa[jH,dS,qB]using⟨⟨hlj,hij⟩,hli⟩) (by simp[eY,fP,lL,idxOf,dS]) ?_ (fun v r hv=>?_) (fun _ _ h=>h.elim)
 ·rw[hres];exact RG (by simp) hm hn hk (Wa L n k m hL hs hok)
 ·obtain⟨h1,h2⟩:=Yr hv;have hm':merge [(j,false),(i,true)] [] r res=bR res i (.store tS eS (eV L n k m)):=by simp[merge,gf,h2,gB,gZ,bd]
  exact⟨[],tU (eg L n k m),rfl,by simp[me,h2,jY],rfl,kJ.kR h1 rfl,by rw[hm'];exact h⟩
theorem Ir(k:Key):
 (decide (bO k=0)&&(!bc k||decide (cz k<0)))=cS [] k:=by
 unfold cS bO cz bc cx;simp only[aK,List.length_nil];grind
theorem KU(L:List Sx.Obj)(k:Key):
 (decide (bO k=0)&&(!bc k||decide (cz k<aJ L)))=cS L k:=by
 unfold cS bO cz bc cx aJ;grind
theorem wB[Fen]:dO Tryz.prog 93 RO:=
 kW (ba tq (ba nX dq)) (fun _=>rfl) fun a hq hok=>by
  obtain⟨S,k,_⟩:=a;cases S with
  |none=>exact bU (inl:=cH) (ann:=bn) (aH bF (aH gK (aH dC aP))) aT (Ir k) (by kernel_rfl)
  |some L=>exact bU (inl:=cH) (ann:=bn) (aH bF (aH gK (aH dC aP))) aT (KU L k) (by kernel_rfl)
theorem Zd(n:Int)(k:Key)(m:bK)(hs:aU m.data):
 (decide (0<=n)=true->bh IntKind.i64 (dJ m.data))/\0=(b9 [] n k m).code/\ByteArray.mk (Array.mk [])=(b9 [] n k m).data/\void=(b9 [] n k m).k0/\void=(b9 [] n k m).k1/\void
  =(b9 [] n k m).k2/\false=jX [] n k m/\1=km [] n k m:=by
 have hin:bh .i64 (dJ m.data):=by have:=hs;unfold aU at this;unfold bh cB dJ;omega
 have e:km [] n k m=1:=by unfold km;rw[ar (show aK ([]:List Sx.Obj)=0 from rfl)]
 have e1:b9 [] n k m=fm:=by unfold b9;rw[e];rfl
 have e2:jX [] n k m=false:=by unfold jX;rw[e];rfl
 rw[e1,e2,e];exact⟨fun _=>hin,rfl,rfl,rfl,rfl,rfl,rfl,rfl⟩
theorem Zv(n:Int)(k:Key)(m:bK)(hs:aU m.data):
 (decide (0<=n)=true->bh IntKind.i64 (dJ m.data))/\0=(b9 [] n k m).code/\ByteArray.mk (Array.mk [])=(b9 [] n k m).data/\void=(b9 [] n k m).k0/\void=(b9 [] n k m).k1/\void
  =(b9 [] n k m).k2/\false=jX [] n k m/\1=km [] n k m:=by
 have hin:bh .i64 (dJ m.data):=by have:=hs;unfold aU at this;unfold bh cB dJ;omega
 have e:km [] n k m=1:=by unfold km;rw[ar (show aK ([]:List Sx.Obj)=0 from rfl)]
 have e1:b9 [] n k m=fm:=by unfold b9;rw[e];rfl
 have e2:jX [] n k m=false:=by unfold jX;rw[e];rfl
 rw[e1,e2,e];exact⟨fun _=>hin,rfl,rfl,rfl,rfl,rfl,rfl,rfl⟩
abbrev adF(m:bK)(L:List Sx.Obj):=bK.mk m.code m.data (aI L m.k0) (aI L m.k1) (aI L m.k2)
theorem acU(L:List Sx.Obj)(n:Int)(k:Key)(m:bK)(hL:aO L)(hs:aU m.data):
 (decide (0<=n)=true->bh IntKind.i64 (dJ m.data))/\au (decide (aJ L=0)) ((0=(b9 L n k m).code/\aC=(b9 L n k m).data/\void=(b9 L n k m).k0/\void=(b9 L n k m).k1/\void=(b9 L n k m).k2/\false=jX L n k m/\1=km L n k m)/\L=mI L n k m) (au (!(decide (0<=n)&&decide (dJ m.data<=32)&&cS L k&&cS L m.k0&&cS L m.k1&&cS L m.k2)) ((0=(b9 L n k m).code/\aC=(b9 L n k m).data/\void=(b9 L n k m).k0/\void=(b9 L n k m).k1/\void=(b9 L n k m).k2/\false=jX L n k m/\2=km L n k m)/\L=mI L n k m) (au (decide ((aI L k).kind=6)||decide ((aI L k).kind=7)) ((0=(b9 L n k m).code/\aC=(b9 L n k m).data/\void=(b9 L n k m).k0/\void=(b9 L n k m).k1/\void=(b9 L n k m).k2/\false=jX L n k m/\241=km L n k m)/\L=mI L n k m) (true=true/\W0 L (aI L k) (adF m L)/\((eg L n (aI L k) (adF m L)).code=(b9 L n k m).code/\(eg L n (aI L k) (adF m L)).data=(b9 L n k m).data/\(eg L n (aI L k) (adF m L)).k0=(b9 L n k m).k0/\(eg L n (aI L k) (adF m L)).k1=(b9 L n k m).k1/\(eg L n (aI L k) (adF m L)).k2=(b9 L n k m).k2/\(decide ((aI L k).kind=10)&&decide (m.code=1))=jX L n k m/\0=km L n k m)/\eV L n (aI L k) (adF m L)=mI L n k m))):=by
 delta au aC adF
 have hcn:bK.mk m.code m.data (aI L m.k0) (aI L m.k1) (aI L m.k2)=jS L m:=rfl;simp only[hcn];have hin:bh .i64 (dJ m.data):=by have:=hs;unfold aU at this;unfold bh cB dJ;omega
 have hf:(decide (0<=n)&&decide (dJ m.data<=32)&&cS L k&&cS L m.k0&&cS L m.k1&&cS L m.k2)=Cw L n k m:=by
  unfold Cw jL;cases decide (0<=n)<;>cases decide (dJ m.data<=32)<;>cases cS L k<;>cases cS L m.k0<;>cases cS L m.k1<;>cases cS L m.k2<;>rfl
 rw[hf];have hsz:aJ L=0↔aK L=0:=by unfold aJ;simp[bV]
 have no:∀e:Int,km L n k m=e->e≠0->(0=(b9 L n k m).code/\ByteArray.mk (Array.mk [])=(b9 L n k m).data/\void=(b9 L n k m).k0/\void=(b9 L n k m).k1/\void=(b9 L n k m).k2/\false=jX L n k m/\e=km L n k m)/\L=mI L n k m:=fun e he h0=>by
  have e1:b9 L n k m=fm:=by unfold b9;rw[he,aq h0]
  have e2:jX L n k m=false:=by unfold jX;rw[he];simp[h0]
  have e3:mI L n k m=L:=by unfold mI;rw[he,aq h0]
  rw[e1,e2,e3,he];exact⟨⟨rfl,rfl,rfl,rfl,rfl,rfl,rfl⟩,rfl⟩
 refine⟨fun _=>hin,fun h=>?_,fun h=>⟨fun h2=>?_,fun h2=>⟨fun h3=>?_,fun h3=>?_⟩⟩⟩
 ·have h:=hsz.1 (by simpa using h)
  exact no 1 (by unfold km;rw[ar h]) (by omega)
 ·have h:¬aK L=0:=fun e=>by simp[hsz.2 e]at h
  have h2:Cw L n k m=false:=by simpa using h2
  exact no 2 (by unfold km;rw[aq h,ar h2]) (by omega)
 ·have h:¬aK L=0:=fun e=>by simp[hsz.2 e]at h
  have h2:Cw L n k m=true:=by simpa using h2
  have h3:(aI L k).kind=6\/(aI L k).kind=7:=by simpa using h3
  exact no 241 (by unfold km;rw[aq h,aq (by simp[h2]),ar h3]) (by omega)
 ·have h:¬aK L=0:=fun e=>by simp[hsz.2 e]at h
  have h2:Cw L n k m=true:=by simpa using h2
  have h3:¬((aI L k).kind=6\/(aI L k).kind=7):=by simpa using h3
  have he:km L n k m=0:=by unfold km;rw[aq h,aq (by simp[h2]),aq h3]
  have e1:b9 L n k m=eg L n (aI L k) (jS L m):=by unfold b9;rw[ar he]
  have e2:jX L n k m=(decide ((aI L k).kind=10)&&decide (m.code=1)):=by unfold jX;rw[he];rfl
  have e3:mI L n k m=eV L n (aI L k) (jS L m):=by unfold mI;rw[ar he]
  rw[e1,e2,e3,he];exact⟨trivial,⟨hL,hs,Hq⟩,⟨rfl,rfl,rfl,rfl,rfl,rfl,rfl⟩,rfl⟩
theorem abK[Fen](L:List Sx.Obj)(n:Int)(k:Key)(m:bK)(hL:aO L)(hs:aU m.data):aM Tryz.prog 64 [.lp 0 0,.it .i64 n,.key k,tU m] [.store tS eS L] (Bb (.tp [tU (b9 L n k m),.bo (jX L n k m),.it .i64 (km L n k m)]) (mI L n k m)) (fun _ _=>False):=
 bU (inl:=cH) (ann:=(lf [(64,3,lpU 4)])) (aH bF (aH gI (aH wB aP))) (aW Iw aT) (acU L n k m hL hs) (by kernel_rfl)
theorem abg[Fen]:l5 Tryz.prog 64 ac1:=
 D7 (m:=fun x=>aaR.cn x 0) (pc VJ (fun _=>rfl)) (fun _=>rfl) (fun _ _=>rfl) (fun x hs=>bU (inl:=cH) (ann:=(lf [(64,3,lpU 4)])) (aH sO (aH gI (aH wB aP))) (aW Iw aT) (Zd x.1 x.2.1 x.2.2.1 hs) (by kernel_rfl)) (fun x hs=>bU (inl:=cH) (ann:=(lf [(64,3,lpU 4)])) (aH sO (aH gI (aH wB aP))) (aW Iw aT) (Zv x.1 x.2.1 x.2.2.1 hs) (by kernel_rfl)) fun L x hq=>abK L x.1 x.2.1 x.2.2.1 hq.1 hq.2
end Go.Proofs.YtmfbohanboiklaaGreat
namespace Go.Sx
structure lz where
 kind:Int
 proc:Int
 reg:Int
 mode:Int
 code:Int
 data:ByteArray
 s0:Int
 s1:Int
 s2:Int
 num:Bool
 val:Int
def opV(o:lz):V:= .ag [.it .i64 o.kind,.it .i64 o.proc,.it .i64 o.reg,.it .i64 o.mode,.it .i64 o.code,.st o.data,.ag [.it .i64 o.s0,.it .i64 o.s1,.it .i64 o.s2],.bo o.num,.it .i64 o.val]
structure Dn where
 out:Int
 proc:Int
 err:Int
 ans:bK
 wants:Bool
def dnV(d:Dn):V:= .ag [.it .i64 d.out,.it .i64 d.proc,.it .i64 d.err,tU d.ans,.bo d.wants]
def dn0:Dn:=⟨0,0,0,fm,false⟩
def rL(n:Int):Bool:=decide (0<=n)&&decide (n<12)
def fI(n:Int):Bool:=decide (n= -1)||rL n
def dW(o:lz)(now:Int):Bool:=
 if o.kind=2 then decide (0<=o.val)&&decide (o.val<=1099511627776)&&decide (now<=4611686018427387904-o.val)
 else decide (o.kind=1)&&decide (1<=o.mode)&&decide (o.mode<=3)&&decide (dJ o.data<=32)&&rL o.reg&&fI o.s0&&fI o.s1&&fI o.s2
def zT(o:Obj)(n:Int):Key:=if n<0 then void else o.slots.at (4+n).toNat
def bQ(o:Obj)(p:lz):bK:=⟨p.code,p.data,zT o p.s0,zT o p.s1,if p.num=true then dR p.val else zT o p.s2⟩
def dV(L:List Obj):List Int:=fH L (bV (aK L))
def cL(L:List Obj)(p:lz):Int:=aL (dV L) ((p.proc.tmod (aK (dV L):Int)+(aK (dV L):Int)).tmod (aK (dV L):Int)).toNat 0
def cF(L:List Obj)(p:lz):Key:=aI L ((aQ L (cL L p)).slots.at (4+p.reg).toNat)
def dN(L:List Obj)(p:lz):bK:=bQ (aQ L (cL L p)) p
def pO(L:List Obj)(p:lz):Bool:=decide ((cF L p).kind=6)||decide ((cF L p).kind=7)
def iK(L:List Obj)(n:Int)(p:lz):List Obj:=mI L n (cF L p) (dN L p)
def BS(L:List Obj)(n:Int)(p:lz):List Obj:=
 if eu (iK L n p) (cL L p)=true/\jb (iK L n p) (cL L p)=1 then
  if p.mode=1 then ko (iK L n p) (cL L p) (b9 L n (cF L p) (dN L p))else if p.mode=3 then iz (iK L n p) (cL L p) 0 else iK L n p
 else iK L n p
def gV(L:List Obj)(n:Int)(p:lz):List Obj:=
 if dW p n=true/\¬p.kind=2/\¬aK (dV L)=0 then
  if pO L p=true then fV L (cL L p) (cF L p) p.mode (dN L p)else BS L n p
 else L
def oq(n:Int)(p:lz):Int:=if dW p n=true/\p.kind=2 then n+p.val else n
def nc(n:Int)(p:lz):Int:=if dW p n=true then 0 else 2
def bg(L:List Obj)(n:Int)(p:lz):Dn:=
 if dW p n=true then
  if p.kind=2 then⟨5,0,0,fm,false⟩
  else if aK (dV L)=0 then⟨1,0,0,fm,false⟩
  else if pO L p=true then
   if dw L (cL L p) (cF L p) p.mode (dN L p)=0 then⟨2,cL L p,0,fm,false⟩else⟨3,cL L p,dw L (cL L p) (cF L p) p.mode (dN L p),fm,false⟩
  else⟨4,cL L p,0,b9 L n (cF L p) (dN L p),jX L n (cF L p) (dN L p)⟩
 else dn0
def ku(n:Int):Prop:=0<=n/\n<=4611686018427387904
abbrev Hh:Nat:=96
def xJ(s:Nat)(n:Int):V:= .ag [.lp s 0,.it .i64 n]
def SZ(c:V):Option (Nat×Int):=
 match c with
 | .ag m=>match m with
   | [p,y]=>match p with
     | .lp s off=>match rI .i64 y with
       |some n=>if off==0 then some (s,n)else none
       |none=>none
     |_=>none
   |_=>none
 |_=>none
def sdA:Arg (Int×Int×Int×Unit):=agA (bJ iA (bJ iA (bJ iA jP)))
theorem ZF:lU sdA:=D3 (ba fx (ba fx (ba fx dq)))
abbrev OpT:Type:=Int×Int×Int×Int×Int×ByteArray×(Int×Int×Int×Unit)×Bool×Int×Unit
def opA:Arg OpT:=agA (bJ iA (bJ iA (bJ iA (bJ iA (bJ iA (bJ zA (bJ sdA (bJ bA (bJ iA jP)))))))))
theorem ME:lU opA:=D3 (ba fx (ba fx (ba fx (ba fx (ba fx (ba ab8 (ba ZF (ba Ql (ba fx dq)))))))))
def Iv(x:OpT):lz:=⟨x.1,x.2.1,x.2.2.1,x.2.2.2.1,x.2.2.2.2.1,x.2.2.2.2.2.1,x.2.2.2.2.2.2.1.1,x.2.2.2.2.2.2.1.2.1,x.2.2.2.2.2.2.1.2.2.1,x.2.2.2.2.2.2.2.1,x.2.2.2.2.2.2.2.2.1⟩
def LW:lb (OpT×Unit):=bJ opA jP
theorem Ie:ji LW:=ba ME dq
theorem CG{c:V}{s:Nat}{n:Int}(h:SZ c=some (s,n)):∃y,c= .ag [.lp s 0,y]/\rI .i64 y=some n:=by
 unfold SZ at h;repeat' (first| (split at h<;>try(simp at h;done))|skip)
 rename_i y n' hn ho;simp only[aa,ae]at h;obtain⟨rfl,rfl⟩:=h;have:=ai.1 ho;subst this;exact⟨_,rfl,hn⟩
theorem aM.aaw[Fen]{P:Program}{f:Nat}{rest:List V}{res:List aS}{K KP:V->List aS->Prop}{b s tm t e:Nat}{L M:List Obj}{n n':Int}{x:V}
  (hb:aN res b= .blk tm (xJ s n)) (hs:aN res s= .store t e L) (hid:mc rest=true) (hx:kR x=true)
  (h:aM P f (.lp 0 0::rest) [.blk tm (xJ 1 n),.store t e L] (fun v r=>vZ x v r/\aN r 0= .blk tm (xJ 1 n')/\aN r 1= .store t e M) (fun _ _=>False))
  (hK:K x (bR (bR res b (.blk tm (xJ s n'))) s (.store t e M))):aM P f (.lp b 0::rest) res K KP:=by
 have hkb:known res b:=by unfold known;rw[hb];simp
 have hks:known res s:=by unfold known;rw[hs];simp
 have hlb:=aY hkb;have hls:=aY hks;have hne:b≠s:=fun e=>by rw[e,hs]at hb;simp at hb
 refine aM.frame (pl:= [(b,true),(s,true)]) (args0:= .lp 0 0::rest) (K0:=fun v r=>vZ x v r/\aN r 0= .blk tm (xJ 1 n')/\aN r 1= .store t e M) (KP0:=fun _ _=>False)
  (by simp[fj,cI.2 hkb,cI.2 hks]) (by simp[jH,dS,qB,hlb,hls,hne,Ne.symm hne]) ?_ ?_ (fun v r hv=>?_) (fun _ _ h=>h.elim)
 ·simp only[eY,fP,lL,idxOf,dS];rw[j9 rest hid];simp
 ·have:fz (lL 0 (dS [(b,true),(s,true)])) res [(b,true),(s,true)]= [.blk tm (xJ 1 n),.store t e L]:=by simp[fz,hb,hs,gB,xJ,fP,eY,lL,idxOf,dS,hne,Ne.symm hne]
  rw[this];exact h
 ·obtain⟨h1,h2,h3⟩:=hv;have hm:merge [(b,true),(s,true)] [] r res=bR (bR res b (.blk tm (xJ s n'))) s (.store t e M):=by simp[merge,gf,h2,h3,gB,gZ,xJ,fP,eY,back,xY]
  exact⟨[],x,rfl,by simp[me,h2,h3,jY],rfl,kJ.kR h1 hx,by rw[hm];exact hK⟩
theorem aM.mcN[Fen]{P:Program}{f:Nat}{args:List V}{res:List aS}{K KP:V->List aS->Prop}{b s tm:Nat}{y:V}{n:Int}(hb:aN res b= .blk tm (.ag [.lp s 0,y]))(hy:rI .i64 y=some n)
  (h:aM P f args (bR res b (.blk tm (xJ s n))) K KP):aM P f args res K KP:=by
 have hkb:known res b:=by unfold known;rw[hb];simp
 have hlb:=aY hkb
 have hkn:∀i,known (bR res b (.blk tm (xJ s n))) i↔known res i:=fun i=>by
  unfold known;rw[bI _ _ _ _ hlb];by_cases e:i=b
  ·subst e;rw[ar rfl,hb];simp
  ·rw[aq e]
 have hK:known (bR res b (.blk tm (xJ s n)))=known res:=by funext i;exact propext (hkn i)
 obtain⟨r1,r2⟩:=iO .i64 y n hy;refine h.vQ fun J fps w0 F0 w hH=>⟨J,fps,hH.weaken (fun i hi=>⟨(hkn i).1 hi,fun fp hh=>?_⟩),Env.agree.refl _ _,fun i hi=>(hkn i).2 hi⟩
 rw[hK,bI _ _ _ _ hlb];by_cases e:i=b
 ·subst e;rw[ar rfl];rw[hb]at hh;obtain⟨h1,h2,h3,h4⟩:=hh;have hd:=r1 J;refine⟨?_,rfl,h3,?_⟩
  ·exact⟨⟨h1.1.1,gi (r2 _ h1.1.2.1),trivial⟩,trivial,trivial,trivial⟩
  ·rw[h4];simp only[cells,xJ,den,br,Value.cells,hd]
 ·rw[aq e];exact hh
def RI:Ct:=FN (bJ opA (bJ iA jP)) (fun x=>some (aU x.1.2.2.2.2.2.1/\ku x.2.1)) fun x=> .bo (dW (Iv x.1) x.2.1)
def aaN:Ct:=FN (bJ oA LW) (fun x=>some (fI (Iv x.2.1).s0=true/\fI (Iv x.2.1).s1=true/\fI (Iv x.2.1).s2=true)) fun x=>tU (bQ x.1 (Iv x.2.1))
def hMc(Q:List Obj->Int->lz->Prop)(F:List Obj->Int->lz->V)(N:Int->lz->Int)(M:List Obj->Int->lz->List Obj):lg:=fun args res K=>
 match args with
 |a::l=>match Mw LW l with
  |some x=>match a with
   | .lp b off=>if off==0 then match aN res b with
     | .blk t c=>match SZ c with
       |some (s,n)=>match aN res s with
        | .store ts e L=>if t==Hh&&ts==tS&&e==eS then Q L n (Iv x.1)/\K (F L n (Iv x.1)) (bR (bR res b (.blk Hh (xJ s (N n (Iv x.1))))) s (.store tS eS (M L n (Iv x.1))))else False
        |_=>False
       |none=>False
     |_=>False
     else False
   |_=>False
  |none=>False
 |_=>False
def qSp(L:List Obj)(n:Int)(p:lz):Prop:=aO L/\aU p.data/\ku n
def aax:lg:=hMc qSp (fun L n p=> .tp [dnV (bg L n p),.it .i64 (nc n p)]) oq gV
def YF:lg:=hMc (fun L n p=>qSp L n p/\dW p n=true/\p.kind=1) (fun L n p=>dnV (bg L n p)) (fun n _=>n) gV
def mcX(c:V):Option Int:=
 match c with
 | .ag q=>match q with
   | [p,y]=>match p with
     | .lp s off=>match y with
       | .it k n=>match k with
         | .i64=>if s==1&&off==0 then some n else none
         |_=>none
       |_=>none
     |_=>none
   |_=>none
 |_=>none
theorem Ni{c:V}{n:Int}(h:mcX c=some n):c=xJ 1 n:=by
 unfold mcX at h;split at h
 case h_2=>simp at h
 split at h
 case h_2=>simp at h
 split at h
 case h_2=>simp at h
 split at h
 case h_2=>simp at h
 split at h
 case h_2=>simp at h
 split at h
 case isFalse=>simp at h
 rename_i hc;simp only[af,ai]at hc;obtain⟨rfl,rfl⟩:=hc;simp only[aa]at h;subst h;rfl
def mcS(r:aS)(m:Int):Prop:=
 match r with
 | .blk t c=>match mcX c with
   |some n=>if t==Hh then n=m else False
   |none=>False
 |_=>False
theorem Th{r:aS}{m:Int}(h:mcS r m):r= .blk Hh (xJ 1 m):=by
 unfold mcS at h;split at h
 case h_2=>exact h.elim
 split at h
 case h_2=>exact h.elim
 rename_i n hn;split at h
 case isFalse=>exact h.elim
 rename_i ht;have ht:=ai.1 ht;subst ht;subst h;rw[Ni hn]
def kMc(x:V)(n:Int)(M:List Obj)(v:V)(r:List aS):Prop:=
 match aN r 1 with
 | .store t e L=>if t==tS&&e==eS then mcS (aN r 0) n/\sX x v r/\L=M else False
 |_=>False
theorem Tt{x:V}{n:Int}{M:List Obj}{v:V}{r:List aS}(h:kMc x n M v r):vZ x v r/\aN r 0= .blk Hh (xJ 1 n)/\aN r 1= .store tS eS M:=by
 unfold kMc at h;split at h
 ·rename_i hr;split at h
  ·rename_i hc;simp only[af,ai]at hc;obtain⟨rfl,rfl⟩:=hc;obtain⟨h1,h2,rfl⟩:=h;exact⟨eC h2,Th h1,hr⟩
  ·exact h.elim
 ·exact h.elim
theorem N0[Fen]{P:Program}{f:Nat}{Q:List Obj->Int->lz->Prop}{F:List Obj->Int->lz->V}{N:Int->lz->Int}{M:List Obj->Int->lz->List Obj}(hF:∀L n p,kR (F L n p)=true)
  (h:∀L n p,Q L n p->aM P f [.lp 0 0,opV p] [.blk Hh (xJ 1 n),.store tS eS L] (kMc (F L n p) (N n p) (M L n p)) (fun _ _=>False)):l5 P f (hMc Q F N M):=by
 intro args res K KP hh;unfold hMc at hh;split at hh
 case h_2=>exact hh.elim
 split at hh
 case h_2=>exact hh.elim
 rename_i x hx;split at hh
 case h_2=>exact hh.elim
 rename_i b off;split at hh
 case isFalse=>exact hh.elim
 rename_i ho;have ho:=ai.1 ho;subst ho;split at hh
 case h_2=>exact hh.elim
 rename_i t c hb;split at hh
 case h_2=>exact hh.elim
 rename_i s n hc;split at hh
 case h_2=>exact hh.elim
 rename_i ts e L hs;split at hh
 case isFalse=>exact hh.elim
 rename_i ht;simp only[af,ai]at ht;obtain⟨⟨rfl,rfl⟩,rfl⟩:=ht;obtain⟨hq,hK⟩:=hh;obtain⟨y,rfl,hy⟩:=CG hc;have hkb:known res b:=by unfold known;rw[hb];simp
 have hlb:=aY hkb;refine aM.args (fw.lq (pc Ie (fun _=>rfl) _ _ hx)) ?_
 refine aM.mcN hb hy ?_;have hne:b≠s:=fun e=>by rw[e,hs]at hb;simp at hb
 refine aM.aaw (rest:=LW.cn x 0) (by rw[bI _ _ _ _ hlb,ar rfl]) (by rw[bI _ _ _ _ hlb,aq (Ne.symm hne)];exact hs) rfl (hF _ _ _) ((h L n (Iv x.1) hq).mono (fun _ _ hv=>Tt hv) fun _ _ h=>h) ?_
 have:∀(l:List aS) (i:Nat) (a b:aS),bR (bR l i a) i b=bR l i b:=fun l i a b=>by rw[nj,nj,nj,List.set_set]
 rw[this];exact hK
structure Pac where
 kind:Int
 oid:Int
 key:Key
 mode:Int
 state:Int
 msg:bK
theorem Me{L:List Obj}(h:aO L):kF L:=by have:=fJ h;unfold kF;omega
def Gm(o o':Obj):Prop:=(o'.kind=o.kind/\o'.count=o.count/\o'.calls=o.calls)\/(o.kind=0/\o'.kind=3/\o'.count=o.count)\/(o.kind=0/\(o'.kind=1\/o'.kind=2)/\o'.count=o.count+1)\/((o.kind=1\/o.kind=2)/\o'.kind=0/\o'.count=o.count)
def D8(L L':List Obj):Prop:=L'.length=L.length/\∀j,j<L.length->Gm (aL L j free) (aL L' j free)
theorem sS(o:Obj):Gm o o:= .inl ⟨rfl,rfl,rfl⟩
theorem Bh{o o' o'':Obj}(h:Gm o o')(h1:o''.kind=o'.kind)(h2:o''.count=o'.count)(h3:o''.calls=o'.calls):Gm o o'':=by
 unfold Gm at h⊢;rw[h1,h2,h3];exact h
theorem sP(L:List Obj):D8 L L:=⟨rfl,fun j _=>sS _⟩
theorem acL{L:List Obj}{f g:Int}{j:Nat}(hj:j<L.length):Gm (aL L j free) (aL (cw L f g) j free):=by
 unfold cw;rw[ia hj];split
 ·rename_i h;simp only[kc,af,ah]at h;exact .inr (.inl ⟨h.2.1,rfl,rfl⟩)
 ·exact sS _
theorem Dl{L:List Obj}{f l kind:Int}(h0:0<=f)(hk:kind=1\/kind=2):D8 L (kq L f l kind):=by
 refine⟨DJ,fun j hj=>?_⟩
 unfold kq;split
 ·exact acL hj
 ·rename_i hi;rcases qa (L:=L) (l:=l) h0 with e|⟨a,b,c,d⟩
  ·exact absurd e hi
  ·rw[dE (by rw[lA];omega)]
   split
   ·rename_i e;rw[<-e]at d;unfold ey at d;simp only[af,ah]at d;refine .inr (.inr (.inl ⟨d.1,hk,?_⟩));rw[<-e];rfl
   ·exact acL hj
theorem E9{L:List Obj}{k:Key}{kind:Int}(h:gp L k kind=0):bx L k=0/\(kind=1\/kind=2):=by
 have he:bx L k=0:=by
  unfold gp at h;split at h
  ·assumption
  ·rename_i h';exact absurd h h'
 refine⟨he,?_⟩;unfold gp at h;rw[ar he]at h;split at h
 ·assumption
 ·omega
theorem EN{L:List Obj}{k:Key}{kind:Int}:D8 L (gh L k kind):=by
 unfold gh;split
 ·rename_i h;obtain⟨he,hk⟩:=E9 h;exact Dl (kx he).2.1 hk
 ·exact sP _
theorem EM{L:List Obj}{k:Key}:D8 L (jF L k):=by
 unfold jF;split
 ·refine⟨DY,fun j hj=>?_⟩
  unfold gS;rw[ia hj];split
  ·rename_i h;simp only[kZ,mU,af,Bool.or_eq_true,ah]at h;exact .inr (.inr (.inr ⟨h.1.2,rfl,rfl⟩))
  ·exact sS _
 ·exact sP _
theorem H8{L:List Obj}{v:Key}(h:jK L v=true):0<=v.oid/\v.oid<(L.length:Int)/\((aL L v.oid.toNat free).kind=1\/(aL L v.oid.toNat free).kind=2):=by
 have hi:=GB h;obtain⟨_,h0,h1,_,hk⟩:=eT hi;refine⟨h0,h1,?_⟩;rw[hk];unfold jK at h;simp only[af,Bool.or_eq_true,ah]at h;have hnm:bc v=true:=by unfold bk at hi;simp only[af]at hi;exact hi.1.1
 have hn:0<=cx v:=by
  rcases j5 v with⟨_,e,h'⟩|⟨e,_⟩
  ·omega
  ·rw[e]at hnm;simp at hnm
 unfold jo;rw[aq (by omega)]
 split
 ·exact .inr rfl
 ·exact .inl rfl
theorem Fl{L:List Obj}{k v:Key}:D8 L (iU L k v):=by
 unfold iU;split
 ·rename_i h
  have ht:jK L v=true:=by
   unfold eM at h;split at h
   ·split at h
    ·rename_i h';exact h'
    ·omega
   ·rename_i h';exact absurd h h'
  obtain⟨h0,h1,h2⟩:=H8 ht;refine⟨fN,fun j hj=>?_⟩
  rw[dE (by omega)]
  split
  ·rename_i e;rw[e];exact .inr (.inr (.inr ⟨h2,rfl,rfl⟩))
  ·exact sS _
 ·exact sP _
theorem Dg{L:List Obj}{k:Key}{n:Int}(h:cX L k n=0):bx L k=0/\0<=eU L k:=by
 have he:bx L k=0:=Decidable.byContradiction fun he=>by
  rw[FG he]at h;exact he h
 refine⟨he,?_⟩;unfold cX at h;split at h
 ·split at h
  ·omega
  ·rename_i h';omega
 ·rename_i h';exact absurd h h'
theorem Vp{L:List Obj}{k:Key}{n:Int}:D8 L (bN L k n):=by
 unfold bN;split
 ·rename_i h;obtain⟨he,hI⟩:=Dg h;obtain⟨_,a0,a1,a2,a3,a4⟩:=kx he;have hM:D8 L (dP L k):=Dl a0 (.inl rfl);have hl:(dP L k).length=L.length:=hM.1;rcases qa (L:=L) (l:=aZ L k) a0 with e|⟨i1,i2,i3,i4⟩
  ·have:eU L k= -1:=e;omega
  have i3:eU L k<(L.length:Int):=i3;refine⟨by rw[fN,fN];exact hl,fun j hj=>?_⟩
  rw[dE (by rw[fN];omega)]
  split
  ·rename_i e;rw[e];exact Bh (hM.2 k.oid.toNat (by omega)) rfl rfl rfl
  ·rw[dE (by omega)]
   split
   ·rename_i e;rw[e];exact Bh (hM.2 (eU L k).toNat (by omega)) rfl rfl rfl
   ·exact hM.2 j hj
 ·exact sP _
theorem QW{L:List Obj}{k:Key}(h:bk L k=true):k.oid.toNat<L.length/\(aL L k.oid.toNat free).count=k.count/\((aL L k.oid.toNat free).kind=1\/(aL L k.oid.toNat free).kind=2):=by
 obtain⟨_,h0,h1,_,hk⟩:=eT h;have h':=h;unfold bk at h';simp only[af]at h'
 have hn:0<=cx k:=by
  rcases j5 k with⟨_,e,h'⟩|⟨e,_⟩
  ·omega
  ·rw[e]at h';simp at h'
 have hc:=h'.2;unfold cW at hc;simp only[af,Bool.or_eq_true,ah]at hc;refine⟨by omega,?_,?_⟩
 ·rcases hc.2 with h|h
  ·omega
  ·exact h.1.2
 ·rw[hk];unfold jo;rw[aq (by omega)]
  split
  ·exact .inr rfl
  ·exact .inl rfl
theorem RN{L:List Obj}{k:Key}(hL:aO L):aO (jF L k):=by
 unfold jF;split
 ·exact JI hL fun o ho=>ym ho
 ·exact hL
theorem Ux{L:List Obj}{k v:Key}(hL:aO L):aO (iU L k v):=by
 unfold iU;split
 ·by_cases h:v.oid.toNat<L.length
  ·exact lk hL (ym (dA hL _ h))
  ·have:eQ L v.oid.toNat (Ap (aL L v.oid.toNat free))=L:=by unfold eQ;exact List.set_eq_of_length_le (by omega)
   rw[this];exact hL
 ·exact hL
theorem aap{L:List Obj}{k:Key}{n:Int}(hL:aO L):aO (bN L k n):=by
 by_cases h:cX L k n=0
 ·exact(OI hL (Dg h).1 h).1
 ·unfold bN;rw[aq h];exact hL
theorem C4{L:List Obj}{k:Key}{b:Bytes}(hL:aO L)(h:bk L k=true)(h2:k.kind=3):aO (pV L k b):=(si hL h h2).2.2
theorem II{L:List Obj}{a:Acp}(hL:aO L)(h:DP L a=true):aO (Rv L a):=by
 unfold DP at h;unfold Rv;split at h
 ·simp at h
 ·rename_i h1;rw[aq h1];split at h
  ·rename_i h2;rw[ar h2];have h:=ak h
   have hp:cc L a.key true=0:=by
    unfold eh at h;split at h
    ·assumption
    ·rename_i h3;exact absurd h h3
   obtain⟨a1,a2,_⟩:=x9 hp;unfold fE;rw[ar h];exact C4 hL a1 a2
  ·rename_i h2;rw[aq h2];split at h
   ·rename_i h3;rw[ar h3];have h:=ak h;obtain⟨a1,a2,_⟩:=x9 h;unfold fZ;rw[ar h];exact C4 hL a1 a2
   ·rename_i h3;rw[aq h3];have h:=ak h
    have hp:cc L a.key true=0:=by
     unfold ei at h;split at h
     ·assumption
     ·rename_i h3;exact absurd h h3
    obtain⟨a1,a2,_⟩:=x9 hp;unfold gw;rw[ar h];exact C4 hL a1 a2
theorem EI{L:List Obj}{k v:Key}{i:Int}(hL:aO L):aO (dL L k i v):=by
 by_cases h:bY L k i v=0
 ·exact zg (a:=⟨2,i,k,v⟩) hL (by simp[AJ,h])
 ·unfold dL;rw[aq h];exact hL
theorem OE{L:List Obj}{k:Key}(hL:aO L):aO (gu L k):=by
 by_cases h:bq L k 2 true=0
 ·exact zg (a:=⟨3,0,k,k⟩) hL (by simp[AJ,h])
 ·unfold gu;rw[aq h];exact hL
theorem Rw{L:List Obj}{t f:Key}(hL:aO L):aO (fL L t f):=by
 by_cases h:dr L t f=0
 ·exact zg (a:=⟨4,0,t,f⟩) hL (by simp[AJ,h])
 ·unfold fL;rw[aq h];exact hL
theorem N7{L:List Obj}{k:Key}(hL:aO L):aO (fZ L k):=by
 by_cases h:cc L k true=0
 ·exact II (a:=⟨3,0,0,k,k,⟨#[]⟩⟩) hL (by simp[DP,h])
 ·unfold fZ;rw[aq h];exact hL
theorem Vh{L:List Obj}{t f:Key}(hL:aO L):aO (gw L t f):=by
 by_cases h:ei L t f=0
 ·exact II (a:=⟨4,0,0,t,f,⟨#[]⟩⟩) hL (by simp[DP,h])
 ·unfold gw;rw[aq h];exact hL
theorem fl{c:Prop}[Decidable c]{a b:Xv}(ha:aO a.2.2)(hb:aO b.2.2):aO (if c then a else b).2.2:=by split<;>assumption
theorem aa4{L:List Obj}{k:Key}{m:bK}(hL:aO L):aO (iC L k m).2.2:=by
 unfold iC;exact fl hL (fl (EI hL) (fl (OE hL) (fl (Rw hL) (fl hL hL))))
theorem aa3{L:List Obj}{k:Key}{m:bK}(hL:aO L):aO (ir L k m).2.2:=by
 unfold ir;exact fl hL (fl (Jw hL) (fl (N7 hL) (fl (Vh hL) hL)))
theorem acw{L:List Obj}{k:Key}{m:bK}(hL:aO L):aO (iR L k m).2.2:=by
 unfold iR;exact fl (Jm hL) (fl (Jm hL) (fl (Ux hL) (fl (aap hL) (fl hL (RN hL)))))
theorem ab3{L:List Obj}{k:Key}{m:bK}(hL:aO L):aO (gQ L k m).2.2:=by
 have hC:aO (if bE m<0\/11<bE m then L else dL L (fF k) (bE m+4) m.k0):=by
  split
  ·exact hL
  ·exact EI hL
 unfold gQ;exact fl hL (fl hC (fl hL (fl hL (fl (HX hL) (fl hL (Yi hL))))))
theorem Zn{L:List Obj}{n:Int}{k:Key}{m:bK}(hL:aO L):aO (ew L n k m).2.2:=by
 unfold ew;exact fl hL (fl (aa4 hL) (fl (aa3 hL) (fl (acw hL) (fl (ab3 hL) (fl hL (fl hL hL))))))
theorem XY{L:List Obj}{n:Int}{k:Key}{m:bK}(hL:aO L):aO (eV L n k m):=by
 unfold eV dQ;exact fl hL (fl hL (fl hL (Zn hL)))
theorem QY{L:List Obj}{n:Int}{k:Key}{m:bK}(hL:aO L):aO (mI L n k m):=by
 unfold mI;split
 ·exact XY hL
 ·exact hL
structure Aok where
 key:Key
 msg:bK
 now:Int
section
variable {L:List Obj} {n:Int} {k:Key} {m:bK} {p:lz}
theorem WC(b:Bytes)(lo hi:Nat):(A2 b lo hi).size<=64:=by rw[K4];omega
theorem Eu{i x:Int}:(fk L k i x).size<=64:=by
 unfold fk;split
 ·exact WC _ _ _
 ·exact Nat.zero_le _
theorem aaj{i x:Int}:(oD L k i x).size<=64:=by
 unfold oD;split
 ·exact Eu
 ·exact Nat.zero_le _
theorem TZ:(iC L k m).2.1.data.size<=64:=by unfold iC;(repeat' split)<;>exact Nat.zero_le _
theorem TU:(ir L k m).2.1.data.size<=64:=by unfold ir;(repeat' split)<;>first|exact Eu|exact Nat.zero_le _
theorem WH:(iR L k m).2.1.data.size<=64:=by unfold iR;(repeat' split)<;>exact Nat.zero_le _
theorem Tf:(gQ L k m).2.1.data.size<=64:=by
 unfold gQ;by_cases h1:m.code=1
 ·rw[ar h1];exact Nat.zero_le _
 rw[aq h1];by_cases h2:m.code=2
 ·rw[ar h2];exact Nat.zero_le _
 rw[aq h2];by_cases h3:m.code=3
 ·rw[ar h3];exact Nat.zero_le _
 rw[aq h3];by_cases h4:m.code=4
 ·rw[ar h4];exact Nat.zero_le _
 rw[aq h4];by_cases h5:m.code=5
 ·rw[ar h5];exact Nat.zero_le _
 rw[aq h5];by_cases h6:m.code=6
 ·rw[ar h6];exact aaj
 rw[aq h6];exact Nat.zero_le _
theorem ZK:(b9 L n k m).data.size<=64:=by
 have hB:∀k m,(ew L n k m).2.1.data.size<=64:=fun k m=>by
  unfold ew;split
  ·exact Nat.zero_le _
  split
  ·exact TZ
  split
  ·exact TU
  split
  ·exact WH
  split
  ·exact Tf
  split
  ·show(if m.code=1 then gO m.k0.kind else if m.code=2 then gO (gm (je m.k0 m.k1))else gO m.k0.rights).data.size<=64
   split
   ·exact Nat.zero_le _
   ·split<;>exact Nat.zero_le _
  ·split<;>exact Nat.zero_le _
 have hR:∀k m,(dQ L n k m).2.1.data.size<=64:=fun k m=>by
  unfold dQ;split
  ·exact Nat.zero_le _
  split
  ·exact Nat.zero_le _
  split
  ·exact Nat.zero_le _
  ·exact hB k m
 unfold b9;split
 ·unfold eg;split
  ·exact hR _ _
  ·exact Nat.zero_le _
 ·exact Nat.zero_le _
theorem JK:aU (b9 L n k m).data:=by have:=ZK (L:=L) (n:=n) (k:=k) (m:=m);unfold aU;omega
theorem CF(hL:aO L)(h0:¬aK (dV L)=0):let N:Int:=(aK (dV L):Int);N<=64/\N≠0/\(-64<=p.proc.tmod N/\p.proc.tmod N<=64)/\(0<=(p.proc.tmod N+N).tmod N/\(p.proc.tmod N+N).tmod N<N):=by
 intro N
 have h1:aK (dV L)<=L.length:=by
  have:=Et L (bV (aK L));have e:(bV (aK L)).toNat=L.length:=by unfold bV aK;omega
  rw[e]at this;exact this
 have h2:=fJ hL;have hN:0<N:=by show(0:Int)<(aK (dV L):Int);omega
 have hN2:N<=64:=by show(aK (dV L):Int)<=64;omega
 have a1:=Int.tmod_lt_of_pos p.proc hN;have a2:=Int.lt_tmod_of_pos p.proc hN;refine⟨hN2,by omega,⟨by omega,by omega⟩,Int.tmod_nonneg _ (by omega),Int.tmod_lt_of_pos _ hN⟩
theorem LZ(h:dW p n=true)(hk:p.kind=1):(1<=p.mode/\p.mode<=3)/\(0<=p.reg/\p.reg<12)/\(fI p.s0=true/\fI p.s1=true/\fI p.s2=true):=by
 unfold dW at h;rw[aq (by omega)]at h
 simp only[af,ah]at h;obtain⟨⟨⟨⟨⟨⟨⟨a,b⟩,c⟩,d⟩,e⟩,f⟩,g⟩,h⟩:=h;unfold rL at e;simp only[af,ah]at e;exact⟨⟨b,c⟩,e,f,g,h⟩
end
def lP:lz:=⟨0,0,0,0,0,⟨#[]⟩,0,0,0,false,0⟩
def L5(x:List lz):TL:= .fn (aK x) fun i=>opV (aL x i lP)
def vC(x:List lz):Nat->V:=fun i=>opV (aL x i lP)
def RQ(x:List lz):Prop:=∀i,i<aK x->aU (aL x i lP).data
end Go.Sx
namespace Go.Proofs.YtmfbohanboiklaaGreat
open Go.Sx
abbrev adG(p:lz)(n:Int):=au (!decide (p.s2= -1)) (true=true/\au (!(decide (0<=p.s2)&&decide (p.s2<12))) (false=dW p n) (true=dW p n)) (true=dW p n)
abbrev adH(p:lz)(n:Int):=au (!decide (p.s1= -1)) (true=true/\au (!(decide (0<=p.s1)&&decide (p.s1<12))) (false=dW p n) (adG p n)) (adG p n)
theorem KX(p:lz)(n:Int)(hs:aU p.data)(hn:ku n):
 au (decide (p.kind=2)) (((decide (0<=p.val)&&decide (p.val<=1099511627776))=true->az (4611686018427387904-p.val))/\(decide (0<=p.val)&&decide (p.val<=1099511627776)&&decide (n<=4611686018427387904-p.val))=dW p n) (((!(!decide (p.kind=1)||decide (p.mode<1)||decide (3<p.mode)))=true->az (dJ p.data))/\au (!decide (p.kind=1)||decide (p.mode<1)||decide (3<p.mode)||decide (32<dJ p.data)) (false=dW p n) (true=true/\au (!(decide (0<=p.reg)&&decide (p.reg<12))) (false=dW p n) (au (!decide (p.s0= -1)) (true=true/\au (!(decide (0<=p.s0)&&decide (p.s0<12))) (false=dW p n) (adH p n)) (adH p n)))):=by
 delta au adH adG az
 have hz:(bV (aK ([]:List Int)))=0:=rfl;have h1:bh IntKind.i64 (dJ p.data):=by unfold aU at hs;simp only[bh,cB,dJ];omega
 have c0:fI p.s0=(decide (p.s0= -1)||(decide (0<=p.s0)&&decide (p.s0<12))):=rfl
 have c1:fI p.s1=(decide (p.s1= -1)||(decide (0<=p.s1)&&decide (p.s1<12))):=rfl
 have c2:fI p.s2=(decide (p.s2= -1)||(decide (0<=p.s2)&&decide (p.s2<12))):=rfl
 unfold dW;refine⟨fun hk=>⟨fun hv=>?_,?_⟩,fun hk=>⟨fun _=>h1,fun hb=>?_,fun hb=>⟨rfl,fun hr=>?_,fun hr=>?_⟩⟩⟩
 ·simp only[af,ah]at hv;simp only[bh,cB];omega
 ·rw[ar (ak hk)]
 all_goals rw[aq (aj hk),c0,c1,c2]
 ·simp only[Bool.or_eq_true,Bool.not_eq_true',ah,decide_eq_false_iff_not]at hb;symm
  simp only[Bool.and_eq_false_iff,decide_eq_false_iff_not];omega
 all_goals
  simp only[Bool.or_eq_false_iff,Bool.not_eq_false',ah,decide_eq_false_iff_not]at hb;obtain⟨⟨⟨b1,b2⟩,b3⟩,b4⟩:=hb;have e1:decide (p.kind=1)=true:=decide_eq_true b1;have e2:decide (1<=p.mode)=true:=decide_eq_true (by omega)
  have e3:decide (p.mode<=3)=true:=decide_eq_true (by omega)
  have e4:decide (dJ p.data<=32)=true:=decide_eq_true (by omega)
  have cr:rL p.reg=(decide (0<=p.reg)&&decide (p.reg<12)):=rfl;rw[e1,e2,e3,e4,cr];generalize (decide (0<=p.reg)&&decide (p.reg<12))=r at *
  generalize (decide (0<=p.s0)&&decide (p.s0<12))=a0 at *
  generalize (decide (0<=p.s1)&&decide (p.s1<12))=a1 at *
  generalize (decide (0<=p.s2)&&decide (p.s2<12))=a2 at *
  generalize decide (p.s0= -1)=d0 at *
  generalize decide (p.s1= -1)=d1 at *
  generalize decide (p.s2= -1)=d2 at *
  clear c0 c1 c2 cr;revert hr
  cases r<;>cases a0<;>cases a1<;>cases a2<;>cases d0<;>cases d1<;>cases d2<;>simp
theorem Mq[Fen]:dO Tryz.prog 37 RI:=
 kW (ba ME (ba fx dq)) (fun _=>rfl) fun a hq hok=>by
  obtain⟨x,n,_⟩:=a;exact bP (inl:=(aeq [60])) (ann:=(lf [(37,6,lpU 4)])) aP (KX (Iv x) n hq.1 hq.2) (by kernel_rfl)
abbrev adI(p:lz)(o:Sx.Obj):=p.code=(bQ o p).code/\p.data=(bQ o p).data/\o.slots.at (4+p.s0).toNat=(bQ o p).k0/\o.slots.at (4+p.s1).toNat=(bQ o p).k1/\aA p.val=(bQ o p).k2
abbrev adJ(p:lz)(o:Sx.Obj):=p.code=(bQ o p).code/\p.data=(bQ o p).data/\void=(bQ o p).k0/\o.slots.at (4+p.s1).toNat=(bQ o p).k1/\aA p.val=(bQ o p).k2
abbrev adK(p:lz)(o:Sx.Obj):=p.code=(bQ o p).code/\p.data=(bQ o p).data/\o.slots.at (4+p.s0).toNat=(bQ o p).k0/\void=(bQ o p).k1/\aA p.val=(bQ o p).k2
abbrev adL(p:lz)(o:Sx.Obj):=p.code=(bQ o p).code/\p.data=(bQ o p).data/\void=(bQ o p).k0/\void=(bQ o p).k1/\aA p.val=(bQ o p).k2
theorem UE(o:Sx.Obj)(p:lz)(h0:fI p.s0=true)(h1:fI p.s1=true)(h2:fI p.s2=true):
 aw (au (decide (p.s0<0)) (aw (au (decide (p.s1<0)) (aw (au (decide (p.s2<0)) (au p.num (adL p o) (p.code=(bQ o p).code/\p.data=(bQ o p).data/\void=(bQ o p).k0/\void=(bQ o p).k1/\void=(bQ o p).k2)) (az (4+p.s2)/\(0<=4+p.s2/\4+p.s2< ↑16)/\au p.num (adL p o) (p.code=(bQ o p).code/\p.data=(bQ o p).data/\void=(bQ o p).k0/\void=(bQ o p).k1/\o.slots.at (4+p.s2).toNat=(bQ o p).k2)))) (az (4+p.s1)/\(0<=4+p.s1/\4+p.s1< ↑16)/\aw (au (decide (p.s2<0)) (au p.num (adJ p o) (p.code=(bQ o p).code/\p.data=(bQ o p).data/\void=(bQ o p).k0/\o.slots.at (4+p.s1).toNat=(bQ o p).k1/\void=(bQ o p).k2)) (az (4+p.s2)/\(0<=4+p.s2/\4+p.s2< ↑16)/\au p.num (adJ p o) (p.code=(bQ o p).code/\p.data=(bQ o p).data/\void=(bQ o p).k0/\o.slots.at (4+p.s1).toNat=(bQ o p).k1/\o.slots.at (4+p.s2).toNat=(bQ o p).k2)))))) (az (4+p.s0)/\(0<=4+p.s0/\4+p.s0< ↑16)/\aw (au (decide (p.s1<0)) (aw (au (decide (p.s2<0)) (au p.num (adK p o) (p.code=(bQ o p).code/\p.data=(bQ o p).data/\o.slots.at (4+p.s0).toNat=(bQ o p).k0/\void=(bQ o p).k1/\void=(bQ o p).k2)) (az (4+p.s2)/\(0<=4+p.s2/\4+p.s2< ↑16)/\au p.num (adK p o) (p.code=(bQ o p).code/\p.data=(bQ o p).data/\o.slots.at (4+p.s0).toNat=(bQ o p).k0/\void=(bQ o p).k1/\o.slots.at (4+p.s2).toNat=(bQ o p).k2)))) (az (4+p.s1)/\(0<=4+p.s1/\4+p.s1< ↑16)/\aw (au (decide (p.s2<0)) (au p.num (adI p o) (p.code=(bQ o p).code/\p.data=(bQ o p).data/\o.slots.at (4+p.s0).toNat=(bQ o p).k0/\o.slots.at (4+p.s1).toNat=(bQ o p).k1/\void=(bQ o p).k2)) (az (4+p.s2)/\(0<=4+p.s2/\4+p.s2< ↑16)/\au p.num (adI p o) (p.code=(bQ o p).code/\p.data=(bQ o p).data/\o.slots.at (4+p.s0).toNat=(bQ o p).k0/\o.slots.at (4+p.s1).toNat=(bQ o p).k1/\o.slots.at (4+p.s2).toNat=(bQ o p).k2))))))):=by
 delta au aA adL adK adJ adI az aw
 have key:∀s,fI s=true->s<0\/(¬s<0/\bh IntKind.i64 (4+s)/\(0<=4+s/\4+s<16)):=fun s hs=>by
  unfold fI rL at hs;simp only[Bool.or_eq_true,af,ah]at hs;simp only[bh,cB];omega
 have hq:dR p.val=Key.mk 1 void.oid void.count void.call void.rights p.val:=rfl;unfold bQ zT;rw[hq]
 rcases key p.s0 h0 with a0|⟨a0,f0,g0,i0⟩<;>rcases key p.s1 h1 with a1|⟨a1,f1,g1,i1⟩<;>rcases key p.s2 h2 with a2|⟨a2,f2,g2,i2⟩<;>cases hn:p.num<;>simp only[*,decide_true,decide_false,if_true,if_false,true_and,and_true,and_self,Bool.false_eq_true,Bool.true_eq_false,false_implies,true_implies,implies_true,reduceCtorEq]<;>(repeat' apply And.intro)<;>omega
theorem WO[Fen]:dO Tryz.prog 62 aaN:=
 kW (ba XF Ie) (fun _=>rfl) fun a hq hok=>by
  obtain⟨o,x,_⟩:=a;exact bP (inl:=(aeq [81])) (ann:=(lf [(62,4,lpU 4)])) aP (UE o (Iv x) hq.1 hq.2.1 hq.2.2) (by kernel_rfl)
abbrev adM(L:List Sx.Obj)(n:Int)(p:lz):=4=(bg L n p).out/\cL L p=(bg L n p).proc/\0=(bg L n p).err/\(b9 L n (cF L p) (dN L p)).code=(bg L n p).ans.code/\(b9 L n (cF L p) (dN L p)).data=(bg L n p).ans.data/\(b9 L n (cF L p) (dN L p)).k0=(bg L n p).ans.k0/\(b9 L n (cF L p) (dN L p)).k1=(bg L n p).ans.k1/\(b9 L n (cF L p) (dN L p)).k2=(bg L n p).ans.k2/\jX L n (cF L p) (dN L p)=(bg L n p).wants
abbrev adN(p:lz)(L:List Sx.Obj):=p.proc.tmod (bV (aK (dV L)))+bV (aK (dV L))
theorem WJ(L:List Sx.Obj)(n:Int)(p:lz)(hq:qSp L n p/\dW p n=true/\p.kind=1):
 aw (kF L/\(true=false->False)/\(true=true->au (decide (bV (aK (dV L))=0)) (n=n/\(1=(bg L n p).out/\0=(bg L n p).proc/\0=(bg L n p).err/\0=(bg L n p).ans.code/\aC=(bg L n p).ans.data/\void=(bg L n p).ans.k0/\void=(bg L n p).ans.k1/\void=(bg L n p).ans.k2/\false=(bg L n p).wants)/\L=gV L n p) ((Jb (bV (aK (dV L)))/\az (p.proc.tmod (bV (aK (dV L)))))/\az (adN p L)/\(Jb (bV (aK (dV L)))/\az ((adN p L).tmod (bV (aK (dV L)))))/\(0<=(adN p L).tmod (bV (aK (dV L)))/\(adN p L).tmod (bV (aK (dV L)))< ↑(aK (dV L)))/\((adN p L).tmod (bV (aK (dV L)))).toNat<aK (dV L)/\az (4+p.reg)/\(0<=4+p.reg/\4+p.reg< ↑16)/\(fI p.s0=true/\fI p.s1=true/\fI p.s2=true)/\au (decide ((cF L p).kind=6)||decide ((cF L p).kind=7)) (aw (aU (dN L p).data/\(aO L/\aU (dN L p).data)/\au (!decide (dw L (cL L p) (cF L p) p.mode (dN L p)=0)) (n=n/\(3=(bg L n p).out/\cL L p=(bg L n p).proc/\dw L (cL L p) (cF L p) p.mode (dN L p)=(bg L n p).err/\0=(bg L n p).ans.code/\aC=(bg L n p).ans.data/\void=(bg L n p).ans.k0/\void=(bg L n p).ans.k1/\void=(bg L n p).ans.k2/\false=(bg L n p).wants)/\fV L (cL L p) (cF L p) p.mode (dN L p)=gV L n p) (n=n/\(2=(bg L n p).out/\cL L p=(bg L n p).proc/\0=(bg L n p).err/\0=(bg L n p).ans.code/\aC=(bg L n p).ans.data/\void=(bg L n p).ans.k0/\void=(bg L n p).ans.k1/\void=(bg L n p).ans.k2/\false=(bg L n p).wants)/\fV L (cL L p) (cF L p) p.mode (dN L p)=gV L n p))) (aw (aU (dN L p).data/\(aO L/\aU (dN L p).data)/\au (eu (iK L n p) (cL L p)&&decide (jb (iK L n p) (cL L p)=1)) (au (decide (p.mode=1)) (aw (aU (b9 L n (cF L p) (dN L p)).data/\(aO (iK L n p)/\aU (b9 L n (cF L p) (dN L p)).data)/\n=n/\(adM L n p)/\ko (iK L n p) (cL L p) (b9 L n (cF L p) (dN L p))=gV L n p)) (au (decide (p.mode=3)) (aw (aO (iK L n p)/\n=n/\(adM L n p)/\iz (iK L n p) (cL L p) 0=gV L n p)) (n=n/\(adM L n p)/\iK L n p=gV L n p))) (n=n/\(adM L n p)/\iK L n p=gV L n p)))))):=by
 delta au aC adN adM az aw
 obtain⟨⟨hL,hs,hn⟩,hr,hk⟩:=hq;obtain⟨hm,⟨r0,r1⟩,hsd⟩:=LZ hr hk;have nk2:¬p.kind=2:=by omega
 have hnn:bV (aK (dV L))=(aK (dV L):Int):=rfl;refine⟨rfl,Me hL,fun h=>by simp at h,fun _=>⟨fun h=>?_,fun h=>?_⟩⟩
 ·have h0:aK (dV L)=0:=by have:=ak h;rw[hnn]at this;omega
  have e1:bg L n p=⟨1,0,0,fm,false⟩:=by unfold bg;rw[ar hr,aq nk2,ar h0]
  have e2:gV L n p=L:=by unfold gV;rw[aq (fun h=>h.2.2 h0)]
  rw[e1,e2];exact⟨rfl,(by(repeat' apply And.intro)<;>rfl),rfl⟩
 have h0:¬aK (dV L)=0:=by have:=aj h;rw[hnn]at this;omega
 obtain⟨f1,f2,f3,f4⟩:=CF (p:=p) hL h0
 have eD:bg L n p=if pO L p=true then(if dw L (cL L p) (cF L p) p.mode (dN L p)=0 then⟨2,cL L p,0,fm,false⟩else⟨3,cL L p,dw L (cL L p) (cF L p) p.mode (dN L p),fm,false⟩)
   else⟨4,cL L p,0,b9 L n (cF L p) (dN L p),jX L n (cF L p) (dN L p)⟩:=by unfold bg;rw[ar hr,aq nk2,aq h0]
 have eL:gV L n p=if pO L p=true then fV L (cL L p) (cF L p) p.mode (dN L p)else BS L n p:=by unfold gV;rw[ar ⟨hr,nk2,h0⟩]
 have h1:aO (iK L n p):=QY hL;rw[hnn];refine⟨⟨f2,by simp only[bh,cB];omega⟩,by simp only[bh,cB];omega,⟨f2,by simp only[bh,cB];omega⟩,f4,by omega,by simp only[bh,cB];omega,⟨by omega,by omega⟩,hsd,fun hc=>?_,fun hc=>?_⟩
 ·have hC:pO L p=true:=hc;rw[eD,eL,ar hC,ar hC];refine⟨rfl,hs,⟨hL,hs⟩,fun he=>?_,fun he=>?_⟩
  ·have he:¬dw L (cL L p) (cF L p) p.mode (dN L p)=0:=by simpa using he
   rw[aq he];exact⟨rfl,(by(repeat' apply And.intro)<;>rfl),rfl⟩
  ·have he:dw L (cL L p) (cF L p) p.mode (dN L p)=0:=by simpa using he
   rw[ar he];exact⟨rfl,(by(repeat' apply And.intro)<;>rfl),rfl⟩
 ·have hC:¬pO L p=true:=by
   have:pO L p=false:=hc;rw[this];simp
  rw[eD,eL,aq hC,aq hC]
  have e2:BS L n p=if eu (iK L n p) (cL L p)=true/\jb (iK L n p) (cL L p)=1 then
    if p.mode=1 then ko (iK L n p) (cL L p) (b9 L n (cF L p) (dN L p))else if p.mode=3 then iz (iK L n p) (cL L p) 0 else iK L n p
   else iK L n p:=rfl
  refine⟨rfl,hs,⟨hL,hs⟩,fun hb=>⟨fun h1'=>?_,fun h1'=>⟨fun h3=>?_,fun h3=>?_⟩⟩,fun hb=>?_⟩
  all_goals simp only[af,Bool.and_eq_false_iff,ah,decide_eq_false_iff_not]at hb
  ·rw[e2,ar hb,ar (ak h1')];exact⟨rfl,JK,⟨h1,JK⟩,rfl,(by(repeat' apply And.intro)<;>rfl),rfl⟩
  ·rw[e2,ar hb,aq (aj h1'),ar (ak h3)];exact⟨rfl,h1,rfl,(by(repeat' apply And.intro)<;>rfl),rfl⟩
  ·rw[e2,ar hb,aq (aj h1'),aq (aj h3)];exact⟨rfl,(by(repeat' apply And.intro)<;>rfl),rfl⟩
  ·rw[e2,aq (fun h=>by rcases hb with hb|hb;rw[h.1]at hb;simp at hb;exact hb h.2)]
   exact⟨rfl,(by(repeat' apply And.intro)<;>rfl),rfl⟩
theorem Uo[Fen]:l5 Tryz.prog 38 YF:=N0 (fun _ _ _=>rfl) fun L n p hq=>bU (inl:=cH) (ann:=bn) (aH WO (aH fi (aH gI (aH rH aP)))) (aW Z1 (aW aau (aW abg (aW YY (aW PE aT))))) (WJ L n p hq) (by kernel_rfl)
abbrev adO(L:List Sx.Obj)(p:lz)(n:Int):=true=true/\((aO L/\aU p.data/\ku n)/\dW p n=true/\p.kind=1)/\n=oq n p/\((bg L n p).out=(bg L n p).out/\(bg L n p).proc=(bg L n p).proc/\(bg L n p).err=(bg L n p).err/\(bg L n p).ans.code=(bg L n p).ans.code/\(bg L n p).ans.data=(bg L n p).ans.data/\(bg L n p).ans.k0=(bg L n p).ans.k0/\(bg L n p).ans.k1=(bg L n p).ans.k1/\(bg L n p).ans.k2=(bg L n p).ans.k2/\(bg L n p).wants=(bg L n p).wants/\0=nc n p)/\gV L n p=gV L n p
abbrev adP(n:Int)(p:lz)(L:List Sx.Obj):=true=true/\bh IntKind.i64 (n+p.val)/\n+p.val=oq n p/\(5=(bg L n p).out/\0=(bg L n p).proc/\0=(bg L n p).err/\0=(bg L n p).ans.code/\aC=(bg L n p).ans.data/\void=(bg L n p).ans.k0/\void=(bg L n p).ans.k1/\void=(bg L n p).ans.k2/\false=(bg L n p).wants/\0=nc n p)/\L=gV L n p
theorem T8(L:List Sx.Obj)(n:Int)(p:lz)(hq:qSp L n p):
 true=true/\(aU p.data/\ku n)/\au (!dW p n) (n=oq n p/\(0=(bg L n p).out/\0=(bg L n p).proc/\0=(bg L n p).err/\0=(bg L n p).ans.code/\aC=(bg L n p).ans.data/\void=(bg L n p).ans.k0/\void=(bg L n p).ans.k1/\void=(bg L n p).ans.k2/\false=(bg L n p).wants/\2=nc n p)/\L=gV L n p) ((au (decide (p.kind=1)) (adO L p n) (au (decide (p.kind=2)) (adP n p L) False))/\au (decide (p.kind=2)) (adP n p L) (au (decide (p.kind=1)) (adO L p n) False)):=by
 delta au aC adP adO
 obtain⟨hL,hs,hn⟩:=hq
 have ht:dW p n=true->p.kind=2->bh IntKind.i64 (n+p.val):=fun hr hk=>by
  unfold dW at hr;rw[ar hk]at hr;simp only[af,ah]at hr;unfold ku at hn;simp only[bh,cB];omega
 refine⟨rfl,⟨hs,hn⟩,fun hr=>?_,fun hr=>?_⟩
 ·have hr:dW p n=false:=by simpa using hr
  have e1:oq n p=n:=by unfold oq;rw[aq (by simp[hr])]
  have e2:bg L n p=dn0:=by unfold bg;rw[aq (by simp[hr])]
  have e3:nc n p=2:=by unfold nc;rw[aq (by simp[hr])]
  have e4:gV L n p=L:=by unfold gV;rw[aq (by simp[hr])]
  rw[e1,e2,e3,e4];(repeat' apply And.intro)<;>rfl
 have hr:dW p n=true:=by simpa using hr
 have e3:nc n p=0:=by unfold nc;rw[ar hr]
 have one:∀h1:p.kind=1,oq n p=n:=fun h1=>by unfold oq;rw[aq (by omega)]
 have two:∀h2:p.kind=2,oq n p=n+p.val/\bg L n p=⟨5,0,0,fm,false⟩/\gV L n p=L:=fun h2=>by
  refine⟨?_,?_,?_⟩
  ·unfold oq;rw[ar ⟨hr,h2⟩]
  ·unfold bg;rw[ar hr,ar h2]
  ·unfold gV;rw[aq (fun h=>h.2.1 h2)]
 have bad:¬p.kind=1->¬p.kind=2->False:=fun h1 h2=>by
  unfold dW at hr;rw[aq h2]at hr;simp[h1]at hr
 refine⟨⟨fun h1=>?_,fun h1=>⟨fun h2=>?_,fun h2=>?_⟩⟩,⟨fun h2=>?_,fun h2=>⟨fun h1=>?_,fun h1=>?_⟩⟩⟩
 ·have h1:=ak h1;refine⟨rfl,⟨⟨hL,hs,hn⟩,hr,h1⟩,(one h1).symm,?_,rfl⟩;(repeat' apply And.intro)<;>first|rfl|exact e3.symm
 ·have h2:=ak h2;obtain⟨a,b,c⟩:=two h2;rw[a,b,c,e3];exact⟨rfl,ht hr h2,rfl,(by(repeat' apply And.intro)<;>rfl),rfl⟩
 ·exact(bad (aj h1) (aj h2)).elim
 ·have h2:=ak h2;obtain⟨a,b,c⟩:=two h2;rw[a,b,c,e3];exact⟨rfl,ht hr h2,rfl,(by(repeat' apply And.intro)<;>rfl),rfl⟩
 ·have h1:=ak h1;refine⟨rfl,⟨⟨hL,hs,hn⟩,hr,h1⟩,(one h1).symm,?_,rfl⟩;(repeat' apply And.intro)<;>first|rfl|exact e3.symm
 ·exact(bad (aj h1) (aj h2)).elim
theorem Jz[Fen]:l5 Tryz.prog 18 aax:=N0 (fun _ _ _=>rfl) fun L n p hq=>bU (inl:=(aeq [36,39])) (ann:=bn) (aH Mq aP) (aW Uo aT) (T8 L n p hq) (by kernel_rfl)
end Go.Proofs.YtmfbohanboiklaaGreat
namespace Go.Sx
abbrev Cp:=List Int
abbrev CS:=List (Cp×Int)×List Cp
def ef(k:Key):Cp:= [k.kind,k.oid,k.count,k.call,k.rights]
def cq(c:Cp):Key:=⟨aL c 0 0,aL c 1 0,aL c 2 0,aL c 3 0,aL c 4 0,0⟩
def gF(k:Key):Bool:=decide (2<=k.kind)&&decide (k.kind<=10)
def J0(F:List Cp)(c:Cp):Bool:=decide (c∈F)
def adC(S:CS)(c:Cp):CS:=(fX (cD S.1 c) (cP S.1 c) (cT S.1 c+1),if gE S.1 c=true then S.2 else dn S.2 c)
def qR(S:CS)(k:Key):CS:=if gF k=true then adC S (ef k)else S
def qK(S:CS)(n:Int):Prop:=(S.1.length:Int)<=n/\(S.2.length:Int)<=n/\∀p∈S.1,1<=p.2/\p.2<=n
def nz(L:List Obj)(oid:Int)(w:Bool)(i:Nat):Key:=if w=true then ea (aI L ((aQ L oid).slots.at i))else aI L ((aQ L oid).slots.at i)
def Ti(S:CS)(f:Nat->Key):Nat->CS
 |0=>S
 |n+1=>qR (Ti S f n) (f n)
def la(L:List Obj)(S:CS)(oid:Int)(w:Bool)(g:Int):CS:=Ti S (nz L oid w) g.toNat
def SX(k:Key):Key:=⟨5,k.oid,k.count,0,0,0⟩
def UU(k:Key):Key:=⟨6,k.oid,k.count,0,0,0⟩
def GM(L:List Obj)(S:CS)(k:Key):CS:=if k.rights=0 then qR (la L S k.oid (du k) 16) (SX k)else la L S k.oid (du k) 16
def SP(L:List Obj)(S:CS)(k:Key):CS:=qR (la L S k.oid false 16) (UU k)
def QT(L:List Obj)(S:CS)(k:Key):CS:=if k.kind=2 then GM L S k else if k.kind=5 then SP L S k else S
def MF(F:List Cp)(k:Key):List Cp:=if gF k=true/\J0 F (ef k)=false then F++ [ef k]else F
def Tl(F:List Cp)(f:Nat->Key):Nat->List Cp
 |0=>F
 |n+1=>MF (Tl F f n) (f n)
def AX(L:List Obj)(F:List Cp)(oid:Int)(w:Bool)(g:Int):List Cp:=Tl F (nz L oid w) g.toNat
def ndF(L:List Obj)(F:List Cp)(k:Key):List Cp:=if k.rights=0 then MF (AX L F k.oid (du k) 16) (SX k)else AX L F k.oid (du k) 16
def pzF(L:List Obj)(F:List Cp)(k:Key):List Cp:=MF (AX L F k.oid false 16) (UU k)
def SY(L:List Obj)(F:List Cp)(k:Key):List Cp:=if k.kind=2 then ndF L F k else if k.kind=5 then pzF L F k else F
def kM(F:List Cp)(n:Nat):Cp:=aL F n []
def l8(L:List Obj)(oid:Int):Nat->List Cp
 |0=>AX L [] oid false 16
 |n+1=>if n<(l8 L oid n).length then SY L (l8 L oid n) (cq (kM (l8 L oid n) n))else l8 L oid n
def vF(L:List Obj)(oid:Int):List Cp:=l8 L oid 10000
def lS(a b:Int):Int:=if a<b then -1 else if b<a then 1 else 0
def FH(a b:Key):Int:=if lS a.kind b.kind≠0 then lS a.kind b.kind else if lS a.oid b.oid≠0 then lS a.oid b.oid else if lS a.count b.count≠0 then lS a.count b.count else
 if lS a.call b.call≠0 then lS a.call b.call else if lS a.rights b.rights≠0 then lS a.rights b.rights else lS a.value b.value
def lR(a b:Cp):Bool:=decide (FH (cq a) (cq b)<0)
def Es(l:List Cp)(c:Cp):List Cp:=l.takeWhile (fun x=>lR x c)++c::l.dropWhile (fun x=>lR x c)
def qO(l:List Cp):List Cp:=l.foldl Es []
def bz(L:List Obj)(oid:Int):List Cp:=qO (vF L oid)
theorem zo{D:List (Cp×Int)}{c:Cp}:gE D c=true↔c∈D.map (·.1):=by
 unfold gE;simp[List.any_eq_true]
theorem OR{D:List (Cp×Int)}{c:Cp}:(cD D c).map (·.1)=if gE D c=true then D.map (·.1)else D.map (·.1)++ [c]:=by
 unfold cD;split<;>simp
theorem Ex{D:List (Cp×Int)}{j:Nat}{v:Int}:(fX D j v).map (·.1)=D.map (·.1):=by
 unfold fX;rw[List.map_set];simp only;by_cases h:j<D.length
 ·have:(aL D j ([],0)).1=(D.map (·.1))[j]'(by simpa using h):=by simp[aL,an,h]
  rw[this,List.set_getElem_self]
 ·rw[List.set_eq_of_length_le (by simpa using Nat.le_of_not_lt h)]
theorem Er(S:CS)(c:Cp):(adC S c).1.map (·.1)=if c∈S.1.map (·.1)then S.1.map (·.1)else S.1.map (·.1)++ [c]:=by
 unfold adC;simp only[Ex,OR,zo]
theorem vb(S:CS)(k:Key):(qR S k).1.map (·.1)=MF (S.1.map (·.1)) k:=by
 unfold qR MF J0;by_cases h:gF k=true
 ·simp only[h,if_true,Er,true_and,decide_eq_false_iff_not];by_cases hm:ef k∈S.1.map (·.1)
  ·simp[hm]
  ·simp[hm]
 ·simp[h]
theorem Oi{D:List (Cp×Int)}{c:Cp}(h:gE D c=true):cP D c<D.length:=by
 unfold cP;rw[List.findIdx_lt_length];unfold gE at h;simpa[List.any_eq_true]using h
theorem Au{D:List (Cp×Int)}{c:Cp}(h:¬gE D c=true):cP D c=D.length:=by
 unfold cP;rw[List.findIdx_eq_length];unfold gE at h;simp only[List.any_eq_true,ah,not_exists,not_and]at h;intro x hx;simpa using h x hx
theorem CR{D:List (Cp×Int)}{c:Cp}(h:¬gE D c=true):cT D c=0:=by
 unfold cT;rw[Au h];simp[aL,an]
theorem get_mem{D:List (Cp×Int)}{c:Cp}(h:gE D c=true):(aL D (cP D c) ([],0))∈D:=by
 have:=Oi h;simp[aL,an,this]
theorem CQ{D:List (Cp×Int)}{c:Cp}:(cD D c).length=if gE D c=true then D.length else D.length+1:=by
 unfold cD;split<;>simp
theorem SL{D:List (Cp×Int)}{c:Cp}:cP D c<(cD D c).length:=by
 rw[CQ];split
 ·exact Oi ‹_›
 ·rw[Au ‹_›];omega
theorem Vw{S:CS}{c:Cp}{n:Int}(h:qK S n):qK (adC S c) (n+1):=by
 obtain⟨h1,h2,h3⟩:=h;refine⟨?_,?_,fun p hp=>?_⟩
 ·show(((fX (cD S.1 c) (cP S.1 c) (cT S.1 c+1)).length:Nat):Int)<=n+1
  unfold fX;rw[List.length_set,CQ];split<;>omega
 ·show(((if gE S.1 c=true then S.2 else dn S.2 c).length:Nat):Int)<=n+1
  split
  ·omega
  ·simp[dn];omega
 ·have hn:0<=n:=by omega
  have hg:0<=cT S.1 c/\cT S.1 c<=n:=by
   by_cases hh:gE S.1 c=true
   ·have:=h3 _ (get_mem hh);unfold cT;omega
   ·rw[CR hh];omega
  have hp:p∈(cD S.1 c).set (cP S.1 c) ((aL (cD S.1 c) (cP S.1 c) ([],0)).1,cT S.1 c+1):=hp;have hp0:=hp;rcases List.mem_or_eq_of_mem_set hp with hp|rfl
  ·unfold cD at hp;split at hp
   ·have:=h3 p hp;omega
   ·rename_i hno;rcases List.mem_append.1 hp with hp|hp
    ·have:=h3 p hp;omega
    ·exfalso
     obtain⟨j,hj,rfl⟩:=List.getElem_of_mem (l:=(cD S.1 c).set (cP S.1 c) ((aL (cD S.1 c) (cP S.1 c) ([],0)).1,cT S.1 c+1)) hp0;simp only[List.mem_singleton]at hp;rw[List.getElem_set]at hp;split at hp
     ·have:=congrArg Prod.snd hp;simp only at this;omega
     ·rename_i hne;rw[Au hno]at hne;have hlen:j<(cD S.1 c).length:=by simpa using hj
      rw[CQ,aq hno]at hlen
      have:(cD S.1 c)[j]'(by simpa using hj)=S.1[j]'(by omega):=by
       have e:cD S.1 c=S.1++ [(c,0)]:=by unfold cD;rw[aq hno]
       simp only[e];rw[List.getElem_append_left]
      rw[this]at hp;have:=h3 _ (List.getElem_mem (by omega:j<S.1.length))
      rw[hp]at this;simp only at this;omega
  ·simp only;omega
theorem gX{S:CS}{n m:Int}(h:qK S n)(hm:n<=m):qK S m:=⟨by have:=h.1;omega,by have:=h.2.1;omega,fun p hp=>by have:=h.2.2 p hp;omega⟩
theorem DZ{S:CS}{k:Key}{n:Int}(h:qK S n):qK (qR S k) (n+1):=by
 unfold qR;split
 ·exact Vw h
 ·exact gX h (by omega)
theorem p6{S:CS}{f:Nat->Key}{n:Int}(h:qK S n):∀g:Nat,qK (Ti S f g) (n+g)
 |0=>by simpa[Ti]using h
 |g+1=>by
  have:=DZ (k:=f g) (p6 (f:=f) h g);exact gX this (by omega)
theorem J7:qK ([],[]) 0:=⟨by simp,by simp,by simp⟩
theorem An{α:Type}[DecidableEq α]:∀(l m:List α),l.Nodup->(∀x∈l,x∈m)->l.length<=m.length
 | [],m,_,_=>by simp
 |x::l,m,hn,hs=>by
  rw[List.nodup_cons]at hn;have h1:x∈m:=hs x (by simp)
  have h2:=An l (m.erase x) hn.2 fun y hy=>(List.mem_erase_of_ne (fun e:y=x=>hn.1 (by rw[<-e];exact hy))).2 (hs y (by simp[hy]))
  rw[List.length_erase_of_mem h1]at h2;have:=List.length_pos_of_mem h1;simp only[List.length_cons];omega
theorem CV{F:List Cp}{k:Key}{c:Cp}:c∈MF F k↔c∈F\/(gF k=true/\c=ef k):=by
 unfold MF J0;by_cases h:gF k=true<;>by_cases hm:ef k∈F<;>simp[h,hm]
 rintro rfl;exact hm
theorem sB{F:List Cp}{f:Nat->Key}{c:Cp}:∀n:Nat,c∈Tl F f n↔c∈F\/∃i,i<n/\gF (f i)=true/\c=ef (f i)
 |0=>by simp[Tl]
 |n+1=>by
  simp only[Tl,CV,sB n];constructor
  ·rintro((h|⟨i,hi,h⟩)|h)
   ·exact .inl h
   ·exact .inr ⟨i,by omega,h⟩
   ·exact .inr ⟨n,by omega,h⟩
  ·rintro(h|⟨i,hi,h⟩)
   ·exact .inl (.inl h)
   ·rcases Nat.lt_or_ge i n with h1|h1
    ·exact .inl (.inr ⟨i,h1,h⟩)
    ·have:i=n:=by omega
     exact .inr (this▸h)
theorem xb{F:List Cp}{k:Key}(h:F.Nodup):(MF F k).Nodup:=by
 unfold MF J0;split
 ·rename_i hh;have hm:ef k∉F:=aj hh.2;rw[List.nodup_append];exact⟨h,by simp,fun a ha b hb=>by simp at hb;subst hb;exact fun e=>hm (e▸ha)⟩
 ·exact h
theorem pF{F:List Cp}{f:Nat->Key}(h:F.Nodup):∀n:Nat,(Tl F f n).Nodup
 |0=>h
 |n+1=>xb (pF h n)
theorem yI(F:List Cp)(k:Key):F<+:MF F k:=by
 unfold MF;split
 ·exact List.prefix_append _ _
 ·exact List.prefix_refl _
theorem yA(F:List Cp)(f:Nat->Key):∀n:Nat,F<+:Tl F f n
 |0=>List.prefix_refl _
 |n+1=>(yA F f n).trans (yI _ _)
theorem rj(S:CS)(f:Nat->Key):∀n:Nat,(Ti S f n).1.map (·.1)=Tl (S.1.map (·.1)) f n
 |0=>rfl
 |n+1=>by simp only[Ti,Tl,vb,rj S f n]
theorem F7(L:List Obj)(S:CS)(k:Key):(QT L S k).1.map (·.1)=SY L (S.1.map (·.1)) k:=by
 unfold QT SY GM ndF SP pzF la AX;split
 ·split
  ·rw[vb,rj]
  ·rw[rj]
 ·split
  ·rw[vb,rj]
  ·rfl
theorem OQ{S:CS}{c:Cp}{n:Nat}(h:S.2=(S.1.map (·.1)).drop n)(hn:n<=S.1.length):(adC S c).2=((adC S c).1.map (·.1)).drop n:=by
 rw[Er];show(if gE S.1 c=true then S.2 else dn S.2 c)=_
 unfold dn;simp only[zo];split
 ·exact h
 ·rw[h,List.drop_append_of_le_length (by simpa using hn)]
theorem zG{S:CS}{k:Key}{n:Nat}(h:S.2=(S.1.map (·.1)).drop n)(hn:n<=S.1.length):(qR S k).2=((qR S k).1.map (·.1)).drop n:=by
 unfold qR;split
 ·exact OQ h hn
 ·exact h
theorem UH{S:CS}{k:Key}:S.1.length<=(qR S k).1.length:=by
 have:=(yI (S.1.map (·.1)) k).length_le;rw[<-vb]at this;simpa using this
theorem u6{S:CS}{f:Nat->Key}{n:Nat}(h:S.2=(S.1.map (·.1)).drop n)(hn:n<=S.1.length):∀m:Nat,(Ti S f m).2=((Ti S f m).1.map (·.1)).drop n/\n<=(Ti S f m).1.length
 |0=>⟨h,hn⟩
 |m+1=>by
  obtain⟨h1,h2⟩:=u6 h hn m;exact⟨zG h1 h2,Nat.le_trans h2 UH⟩
theorem Qg{L:List Obj}{S:CS}{k:Key}{n:Nat}(h:S.2=(S.1.map (·.1)).drop n)(hn:n<=S.1.length):(QT L S k).2=((QT L S k).1.map (·.1)).drop n:=by
 unfold QT GM SP la;split
 ·obtain⟨h1,h2⟩:=u6 (f:=nz L k.oid (du k)) h hn (16:Int).toNat;split
  ·exact zG h1 h2
  ·exact h1
 ·split
  ·obtain⟨h1,h2⟩:=u6 (f:=nz L k.oid false) h hn (16:Int).toNat;exact zG h1 h2
  ·exact h
theorem TE{L:List Obj}{S:CS}{k:Key}{n:Int}(h:qK S n):qK (QT L S k) (n+17):=by
 unfold QT GM SP la;split
 ·have h1:=p6 (f:=nz L k.oid (du k)) h (16:Int).toNat;split
  ·exact gX (DZ h1) (by omega)
  ·exact gX h1 (by omega)
 ·split
  ·have h1:=p6 (f:=nz L k.oid false) h (16:Int).toNat;exact gX (DZ h1) (by omega)
  ·exact gX h (by omega)
theorem FM(D:List (Cp×Int))(c:Cp):cP D c=(D.map (·.1)).findIdx fun x=>decide (x=c):=by
 unfold cP;rw[List.findIdx_map];rfl
theorem I6{D:List (Cp×Int)}{c:Cp}:cP (cD D c) c=cP D c:=by
 by_cases h:gE D c=true
 ·unfold cD;rw[ar h]
 ·have hn:=Au h;rw[hn];unfold cD;rw[aq h];unfold cP at hn⊢;rw[List.findIdx_append,aq (by omega)]
  simp
theorem UF{D:List (Cp×Int)}{c:Cp}:cT (cD D c) c=cT D c:=by
 by_cases h:gE D c=true
 ·unfold cD;rw[ar h]
 ·rw[CR h];unfold cT;rw[I6,Au h];unfold cD;rw[aq h];simp[aL,an]
theorem T2{D:List (Cp×Int)}{c:Cp}{v:Int}:cT (fX (cD D c) (cP D c) v) c=v:=by
 have hi:cP (fX (cD D c) (cP D c) v) c=cP D c:=by rw[FM (fX _ _ _),Ex,<-FM,I6]
 unfold cT;rw[hi];unfold fX aL;have:=SL (D:=D) (c:=c);rw[an,List.getElem?_set_self this];rfl
theorem KF{S:CS}{c:Cp}(hS:qK S 1000000):bh .i64 (cT S.1 c+1)/\Cs S.1/\(0<=bV (cP S.1 c)/\bV (cP S.1 c)<((aK (cD S.1 c):Nat):Int))/\lr (aK S.2) 40/\(cT S.1 c+1=1↔ ¬gE S.1 c=true):=by
 obtain⟨h1,h2,h3⟩:=hS
 have hg:0<=cT S.1 c/\cT S.1 c<=1000000/\(gE S.1 c=true->1<=cT S.1 c):=by
  by_cases hh:gE S.1 c=true
  ·have:=h3 _ (get_mem hh);have e:cT S.1 c=(aL S.1 (cP S.1 c) ([],0)).2:=rfl;exact⟨by omega,by omega,fun _=>by omega⟩
  ·rw[CR hh];exact⟨by omega,by omega,fun h=>absurd h hh⟩
 refine⟨?_,?_,⟨Int.natCast_nonneg _,?_⟩,?_,fun h h'=>?_,fun h=>?_⟩
 ·simp only[bh,cB];omega
 ·unfold Cs;omega
 ·exact Int.ofNat_lt.2 SL
 ·unfold lr;simp only[maxLen,aK];omega
 ·have:=hg.2.2 h';omega
 ·rw[CR h];rfl
def Ld(L:List Obj)(c d:Cp):Prop:=∃k,gF k=true/\d=ef k/\
 (((cq c).kind=2/\((∃i,i<16/\k=nz L (cq c).oid (du (cq c)) i)\/((cq c).rights=0/\k=SX (cq c))))\/((cq c).kind=5/\((∃i,i<16/\k=nz L (cq c).oid false i)\/k=UU (cq c))))
inductive Gb (L:List Obj) (oid:Int):Cp->Prop where
 |base (i:Nat):i<16->gF (nz L oid false i)=true->Gb L oid (ef (nz L oid false i))
 |step (c d:Cp):Gb L oid c->Ld L c d->Gb L oid d
theorem JE{L:List Obj}{F:List Cp}{c d:Cp}:d∈SY L F (cq c)↔d∈F\/Ld L c d:=by
 unfold SY ndF pzF AX Ld;have h16:(16:Int).toNat=16:=rfl;by_cases h2:(cq c).kind=2
 ·simp only[h2,if_true,true_and,h16];by_cases hr:(cq c).rights=0
  ·simp only[hr,if_true,CV,sB,true_and];constructor
   ·rintro((h|⟨i,hi,h1,h2⟩)|⟨h1,h2⟩)
    ·exact .inl h
    ·exact .inr ⟨_,h1,h2,.inl (.inl ⟨i,hi,rfl⟩)⟩
    ·exact .inr ⟨_,h1,h2,.inl (.inr rfl)⟩
   ·rintro(h|⟨k,h1,h2,(⟨i,hi,rfl⟩|rfl)|⟨h3,_⟩⟩)
    ·exact .inl (.inl h)
    ·exact .inl (.inr ⟨i,hi,h1,h2⟩)
    ·exact .inr ⟨h1,h2⟩
    ·omega
  ·simp only[hr,if_false,sB,false_and,or_false];constructor
   ·rintro(h|⟨i,hi,h1,h2⟩)
    ·exact .inl h
    ·exact .inr ⟨_,h1,h2,.inl ⟨i,hi,rfl⟩⟩
   ·rintro(h|⟨k,h1,h2,⟨i,hi,rfl⟩|⟨h3,_⟩⟩)
    ·exact .inl h
    ·exact .inr ⟨i,hi,h1,h2⟩
    ·omega
 ·by_cases h5:(cq c).kind=5
  ·have h52:¬(5:Int)=2:=by omega
   simp only[h5,h52,if_true,if_false,false_and,true_and,false_or,h16,CV,sB];constructor
   ·rintro((h|⟨i,hi,h1,h2⟩)|⟨h1,h2⟩)
    ·exact .inl h
    ·exact .inr ⟨_,h1,h2,.inl ⟨i,hi,rfl⟩⟩
    ·exact .inr ⟨_,h1,h2,.inr rfl⟩
   ·rintro(h|⟨k,h1,h2,⟨i,hi,rfl⟩|rfl⟩)
    ·exact .inl (.inl h)
    ·exact .inl (.inr ⟨i,hi,h1,h2⟩)
    ·exact .inr ⟨h1,h2⟩
  ·simp[h2,h5]
theorem Mf{L:List Obj}{F:List Cp}{k:Key}(h:F.Nodup):(SY L F k).Nodup:=by
 unfold SY ndF pzF AX;split
 ·split
  ·exact xb (pF h _)
  ·exact pF h _
 ·split
  ·exact xb (pF h _)
  ·exact h
theorem Ko(L:List Obj)(F:List Cp)(k:Key):F<+:SY L F k:=by
 unfold SY ndF pzF AX;split
 ·split
  ·exact(yA _ _ _).trans (yI _ _)
  ·exact yA _ _ _
 ·split
  ·exact(yA _ _ _).trans (yI _ _)
  ·exact List.prefix_refl _
theorem py(L:List Obj)(oid:Int):∀n,(l8 L oid n).Nodup
 |0=>pF (by simp) _
 |n+1=>by
  simp only[l8];split
  ·exact Mf (py L oid n)
  ·exact py L oid n
theorem J5(L:List Obj)(oid:Int)(n:Nat):∀m,l8 L oid n<+:l8 L oid (n+m)
 |0=>List.prefix_refl _
 |m+1=>by
  refine(J5 L oid n m).trans ?_;show _<+:l8 L oid (n+m+1)
  rw[l8];split
  ·exact Ko _ _ _
  ·exact List.prefix_refl _
theorem ve{L:List Obj}{oid:Int}{n:Nat}(h:(l8 L oid n).length<=n):∀m,l8 L oid (n+m)=l8 L oid n
 |0=>rfl
 |m+1=>by
  show l8 L oid (n+m+1)=_
  rw[l8,aq (by rw[ve h m];omega),ve h m]
theorem sQ{L:List Obj}{oid:Int}:∀n c,c∈l8 L oid n->Gb L oid c
 |0,c,h=>by
  unfold l8 AX at h;rw[sB]at h;rcases h with h|⟨i,hi,h1,rfl⟩
  ·simp at h
  ·exact .base i hi h1
 |n+1,c,h=>by
  rw[l8]at h;split at h
  ·rename_i hlt;rcases JE.1 h with h|h
   ·exact sQ n c h
   ·refine .step _ _ (sQ n _ ?_) h;unfold kM aL;rw[an,List.getElem?_eq_getElem hlt];exact List.getElem_mem hlt
  ·exact sQ n c h
def Dx(L:List Obj):List Cp:=(List.range 64).flatMap fun(o:Nat)=>(List.range 16).flatMap fun(i:Nat)=> [ef (nz L (o:Int) false i),ef (nz L (o:Int) true i)]
def PN(L:List Obj):List Cp:=(Dx L).map fun c=>ef (SX (cq c))
def Yw(L:List Obj):List Cp:=(Dx L++PN L).map fun c=>ef (UU (cq c))
def Fz(L:List Obj):List Cp:=Dx L++PN L++Yw L
theorem Eb{α β:Type}{f:α->List β}{m:Nat}(h:∀x,(f x).length=m):∀l:List α,(l.flatMap f).length=l.length*m
 | []=>by simp
 |x::l=>by simp[Eb h l,h,Nat.add_mul];omega
theorem WK(L:List Obj):(Fz L).length=8192:=by
 have h:(Dx L).length=2048:=by
  unfold Dx;rw[Eb (m:=32) (fun o=>by rw[Eb (m:=2) (fun i=>rfl)];simp)]
  simp
 unfold Fz Yw PN;simp[h]
theorem sL(L:List Obj):aI L void=void:=by unfold aI;split<;>rfl
theorem xm:ea void=void:=by decide
theorem IA{L:List Obj}{oid:Int}{w:Bool}{i:Nat}(h:bH L oid≠0):nz L oid w i=void:=by
 unfold nz aQ;rw[aq h];have:free.slots.at i=void:=pY i;rw[this,sL,xm];simp
theorem Vg:gF void=false:=rfl
theorem Ds{L:List Obj}{oid:Int}{w:Bool}{i:Nat}(hL:L.length<=64)(hi:i<16)(h:gF (nz L oid w i)=true):ef (nz L oid w i)∈Dx L:=by
 have hr:bH L oid=0:=by
  refine Decidable.byContradiction fun hn=>?_
  rw[IA hn,Vg]at h;simp at h
 obtain⟨h0,h1⟩:=jr.1 hr;unfold Dx;rw[List.mem_flatMap];refine⟨oid.toNat,by simp;omega,?_⟩
 rw[List.mem_flatMap];refine⟨i,by simpa using hi,?_⟩
 rw[show((oid.toNat:Nat):Int)=oid by omega]
 cases w<;>simp
theorem Ro{L:List Obj}{oid:Int}(hL:L.length<=64):∀c,Gb L oid c->c∈Fz L/\((cq c).kind=2->c∈Dx L)/\((cq c).kind=5->c∈Dx L++PN L):=by
 intro c h;induction h with
 |base i hi h1=>
  have:=Ds hL hi h1;exact⟨by unfold Fz;simp[this],fun _=>this,fun _=>by simp[this]⟩
 |step c d hc hd ih=>
  obtain⟨i1,i2,i3⟩:=ih;obtain⟨k,h1,rfl,⟨h2,⟨i,hi,rfl⟩|⟨hr,rfl⟩⟩|⟨h2,⟨i,hi,rfl⟩|rfl⟩⟩:=hd
  ·have:=Ds hL hi h1;exact⟨by unfold Fz;simp[this],fun _=>this,fun _=>by simp[this]⟩
  ·have:ef (SX (cq c))∈PN L:=List.mem_map.2 ⟨c,i2 h2,rfl⟩;exact⟨by unfold Fz;simp[this],fun h=>by simp[ef,cq,aL,SX]at h,fun _=>by simp[this]⟩
  ·have:=Ds hL hi h1;exact⟨by unfold Fz;simp[this],fun _=>this,fun _=>by simp[this]⟩
  ·have:ef (UU (cq c))∈Yw L:=List.mem_map.2 ⟨c,i3 h2,rfl⟩;exact⟨by unfold Fz;simp[this],fun h=>by simp[ef,cq,aL,UU]at h,fun h=>by simp[ef,cq,aL,UU]at h⟩
theorem uF{L:List Obj}{oid:Int}(hL:L.length<=64)(n:Nat):(l8 L oid n).length<=8192:=by
 rw[<-WK L];exact An _ _ (py L oid n) fun c hc=>(Ro hL c (sQ n c hc)).1
theorem Dc{L:List Obj}{oid:Int}{n:Nat}(hn:n<=10000)(h:(l8 L oid n).length<=n):vF L oid=l8 L oid n:=by
 unfold vF;obtain⟨m,hm⟩:∃m,10000=n+m:=⟨10000-n,by omega⟩
 rw[hm];exact ve h m
theorem C7{L:List Obj}{oid:Int}(hL:L.length<=64):l8 L oid 8192=vF L oid:=(Dc (by omega) (uF hL _)).symm
theorem It(L:List Obj)(oid:Int){n:Nat}(hn:n<=10000):l8 L oid n<+:vF L oid:=by
 unfold vF;obtain⟨m,hm⟩:∃m,10000=n+m:=⟨10000-n,by omega⟩
 rw[hm];exact J5 L oid n m
theorem aaJ{L:List Obj}{oid:Int}(hL:L.length<=64){c:Cp}:c∈vF L oid↔Gb L oid c:=by
 constructor
 ·exact sQ _ c
 ·intro h;induction h with
  |base i hi h1=>
   refine(It L oid (n:=0) (by omega)).subset ?_
   unfold l8 AX;rw[sB];exact .inr ⟨i,hi,h1,rfl⟩
  |step c d hc hd ih=>
   obtain⟨n,hn,rfl⟩:=List.getElem_of_mem ih;rw[<-C7 hL]at hn;have hlt:n<8192:=Nat.lt_of_lt_of_le hn (uF hL _)
   have key:∀m,n<(l8 L oid m).length->n<=m->Ld L ((vF L oid)[n]'(by rw[<-C7 hL];exact hn)) d->d∈l8 L oid (n+1)\/(l8 L oid n).length<=n:=fun m hm hnm hd=>by
    rcases Nat.lt_or_ge n (l8 L oid n).length with hl|hl
    ·refine .inl ?_;rw[l8,ar hl]
     have e:kM (l8 L oid n) n=(vF L oid)[n]'(by rw[<-C7 hL];exact hn):=by
      unfold kM aL;rw[an,List.getElem?_eq_getElem hl];exact(It L oid (n:=n) (by omega)).getElem hl
     rw[JE,e];exact .inr hd
    ·exact .inr hl
   rcases key 8192 hn (by omega) hd with h|h
   ·exact(It L oid (n:=n+1) (by omega)).subset h
   ·exfalso
    have:=ve h (8192-n);rw[show n+(8192-n)=8192 by omega]at this
    rw[this]at hn;omega
theorem zb(L:List Obj)(oid:Int):(vF L oid).Nodup:=py L oid _
theorem tD{k:Key}(h:aR k=true):aR (ea k)=true:=by
 unfold ea;rw[ar h];unfold gH;simp only[aR,af,ah,Bool.or_eq_true]at h;split
 ·rename_i hk;simp only[aR,cU,af,ah,Bool.or_eq_true,hk,dg,jc,cG,fD]at h⊢
  have hw:0<=bM k.rights 3/\bM k.rights 3<=7:=by
   unfold bM uw;repeat' split
   all_goals omega
  simp_all
 ·split
  ·rename_i hk;simp only[aR,cU,af,ah,Bool.or_eq_true,hk,dg,jc,cG,fD]at h⊢;simp_all
  ·split
   ·simpa only[aR,af,ah,Bool.or_eq_true]using h
   ·decide
theorem Dz(L:List Obj)(oid:Int)(w:Bool)(i:Nat):aR (nz L oid w i)=true:=by
 unfold nz;split
 ·exact tD (gx _ _)
 ·exact gx _ _
theorem pK{k:Key}(h:aR k=true):aR (cq (ef k))=true:=by
 simp only[aR,af,ah,Bool.or_eq_true]at h⊢;exact⟨⟨⟨⟨h.1.1.1.1,.inr rfl⟩,h.1.1.2⟩,h.1.2⟩,h.2⟩
theorem pZ{L:List Obj}{oid:Int}:∀c,Gb L oid c->aR (cq c)=true/\c.length=5/\ef (cq c)=c/\gF (cq c)=true:=by
 intro c h;induction h with
 |base i hi h1=>exact⟨pK (Dz _ _ _ _),rfl,rfl,h1⟩
 |step c d hc hd ih=>
  obtain⟨k,h1,rfl,⟨h2,⟨i,hi,rfl⟩|⟨hr,rfl⟩⟩|⟨h2,⟨i,hi,rfl⟩|rfl⟩⟩:=hd
  ·exact⟨pK (Dz _ _ _ _),rfl,rfl,h1⟩
  ·refine⟨pK ?_,rfl,rfl,h1⟩;have:=ih.1;simp only[aR,af,ah,Bool.or_eq_true,h2,cG,fD,eH]at this;simp only[aR,SX,af,ah,Bool.or_eq_true,cG,fD,eH,dg,jc];simp_all
  ·exact⟨pK (Dz _ _ _ _),rfl,rfl,h1⟩
  ·refine⟨pK ?_,rfl,rfl,h1⟩;have:=ih.1;simp only[aR,af,ah,Bool.or_eq_true,h2,cG,fD,eH]at this;simp only[aR,UU,af,ah,Bool.or_eq_true,cG,fD,eH,dg,jc];simp_all
theorem AE{L:List Obj}{oid:Int}{n:Nat}{c:Cp}(h:c∈l8 L oid n):aR (cq c)=true/\c.length=5/\ef (cq c)=c/\gF (cq c)=true:=pZ c (sQ n c h)
abbrev tSt:Nat:=112
abbrev xh:Nat:=74
abbrev tCl:Nat:=48
abbrev xU(s:Nat)(S:CS):aS:= .cset tSt xh 5 (.lp s 0) S.1 S.2
def SI(v:V):Option Nat:=
 match v with
 | .lp s o=>if o==0 then some s else none
 |_=>none
theorem wT{v:V}{s:Nat}(h:SI v=some s):v= .lp s 0:=by
 unfold SI at h;split at h
 ·split at h
  ·rename_i ho;have ho:=ai.1 ho;subst ho;simp only[aa]at h;subst h;rfl
  ·simp at h
 ·simp at h
theorem aM.onSet[Fen]{P:Program}{f:Nat}{rest:List V}{res:List aS}{K KP:V->List aS->Prop}{b s t e:Nat}{L:List Obj}{S T:CS}{x:V}
  (hb:aN res b=xU s S) (hs:cC res s= .store t e L) (hid:mc rest=true) (hx:kR x=true)
  (h:aM P f (.lp 0 0::rest) [xU 1 S,.ro (.store t e L)] (fun v r=>vZ x v r/\aN r 0=xU 1 T) (fun _ _=>False))
  (hK:K x (bR res b (xU s T))):aM P f (.lp b 0::rest) res K KP:=by
 have hkb:known res b:=by unfold known;rw[hb];simp
 have hks:known res s:=eZ hs (by simp)
 have hlb:=aY hkb;have hls:=aY hks;have hne:b≠s:=fun e=>by subst e;unfold cC at hs;rw[hb]at hs;simp at hs
 have hlk:cC res b=xU s S:=by unfold cC;rw[hb]
 refine aM.frame (pl:= [(b,true),(s,false)]) (args0:= .lp 0 0::rest) (K0:=fun v r=>vZ x v r/\aN r 0=xU 1 T) (KP0:=fun _ _=>False)
  (by simp[fj,cI.2 hkb,cI.2 hks]) (by simp[jH,dS,qB,hlb,hls,hne,Ne.symm hne]) ?_ ?_ (fun v r hv=>?_) (fun _ _ h=>h.elim)
 ·simp only[eY,fP,lL,idxOf,dS];rw[j9 rest hid];simp
 ·have:fz (lL 0 (dS [(b,true),(s,false)])) res [(b,true),(s,false)]= [xU 1 S,.ro (.store t e L)]:=by simp[fz,hb,hs,gB,fP,eY,lL,idxOf,dS,hne,Ne.symm hne]
  rw[this];exact h
 ·obtain⟨h1,h2⟩:=hv;have hm:merge [(b,true),(s,false)] [] r res=bR res b (xU s T):=by simp[merge,gf,h2,gB,gZ,fP,eY,back,xY]
  exact⟨[],x,rfl,by simp[me,h2,jY],rfl,kJ.kR h1 hx,by rw[hm];exact hK⟩
def hCs{α:Type}(B:lb α)(Q:List Obj->CS->α->Prop)(N:List Obj->CS->α->CS):lg:=fun args res K=>
 match args with
 |a::l=>match Mw B l with
  |some x=>match SI a with
   |some b=>match aN res b with
    | .cset t et n sv D F=>match SI sv with
      |some s=>match cC res s with
       | .store ts e L=>if t==tSt&&et==xh&&n==5&&ts==tS&&e==eS then Q L (D,F) x/\K (.tp []) (bR res b (xU s (N L (D,F) x)))else False
       |_=>False
      |none=>False
    |_=>False
   |none=>False
  |none=>False
 | []=>False
def kCs(S:CS)(v:V)(r:List aS):Prop:=
 match aN r 0 with
 | .cset t et n sv D F=>match SI sv with
   |some s=>if t==tSt&&et==xh&&n==5&&s==1 then sX (.tp []) v r/\D=S.1/\F=S.2 else False
   |none=>False
 |_=>False
def abe(S:CS)(v:V)(r:List aS):Prop:=
 match Sx.xG r 0 xh with
 |some r'=>kCs S v r'
 |none=>False
theorem Wi{S:CS}{v:V}{r:List aS}(h:kCs S v r):vZ (.tp []) v r/\aN r 0=xU 1 S:=by
 unfold kCs at h;split at h
 case h_2=>exact h.elim
 rename_i t et n sv D F hr;split at h
 case h_2=>exact h.elim
 rename_i s hs;split at h
 case isFalse=>exact h.elim
 rename_i hc;simp only[af,ai]at hc;obtain⟨⟨⟨rfl,rfl⟩,rfl⟩,rfl⟩:=hc;obtain⟨h1,rfl,rfl⟩:=h;rw[wT hs]at hr;exact⟨eC h1,hr⟩
theorem DC[Fen]{P:Program}{f:Nat}{α:Type}{B:lb α}{Q:List Obj->CS->α->Prop}{N:List Obj->CS->α->CS}(hB:ji B)(hid:∀a,mc (B.cn a 0)=true)
  (h:∀L S x,Q L S x->fq (fun _=>False) (B.cn x 0)->aM P f (.lp 0 0::B.cn x 0) [xU 1 S,.ro (.store tS eS L)] (kCs (N L S x)) (fun _ _=>False)):l5 P f (hCs B Q N):=by
 intro args res K KP hh;unfold hCs at hh;split at hh
 case h_2=>exact hh.elim
 split at hh
 case h_2=>exact hh.elim
 rename_i x hx;split at hh
 case h_2=>exact hh.elim
 rename_i b hb;have hb:=wT hb;subst hb;split at hh
 case h_2=>exact hh.elim
 rename_i t et n sv D F hr;split at hh
 case h_2=>exact hh.elim
 rename_i s hs;have hs:=wT hs;subst hs;split at hh
 case h_2=>exact hh.elim
 rename_i ts e L hl;split at hh
 case isFalse=>exact hh.elim
 rename_i ht;simp only[af,ai]at ht;obtain⟨⟨⟨⟨rfl,rfl⟩,rfl⟩,rfl⟩,rfl⟩:=ht;obtain⟨hQ,hK⟩:=hh;refine aM.args (fw.lq (pc hB hid _ x hx)) ?_;refine aM.X3 fun hok=>?_
 refine aM.onSet (S:=(D,F)) (T:=N L (D,F) x) (x:= .tp []) hr hl (hid x) rfl ?_ hK;refine(h L (D,F) x hQ (ql _ (hid x) hok.2)).mono (fun _ _ h=>Wi h) fun _ _ h=>h
theorem PK{S:CS}{v:V}{r:List aS}(h:abe S v r):∃r',Sx.xG r 0 xh=some r'/\kCs S v r':=by
 unfold abe at h;split at h
 ·exact⟨_,by assumption,h⟩
 ·exact h.elim
def ade(k:Key):V:= .ag [.it .i64 k.kind,.it .i64 k.oid,.it .i64 k.count,.it .i64 k.call,.it .i64 k.rights]
abbrev CpT:Type:=Int×Int×Int×Int×Int×Unit
def V0:Arg CpT:=agA (bJ iA (bJ iA (bJ iA (bJ iA (bJ iA jP)))))
theorem Dq:lU V0:=D3 (ba fx (ba fx (ba fx (ba fx (ba fx dq)))))
def G0(x:CpT):Key:=⟨x.1,x.2.1,x.2.2.1,x.2.2.2.1,x.2.2.2.2.1,0⟩
abbrev adf(S:CS)(L:List Obj):List aS:= [.blk tSt (.ag [.lp 1 0,.mp 2,.sa 3]),.ro (.store tS eS L),.ms 5 S.1,.que xh 5 S.2]
def YD:lg:=hCs (bJ kA jP) (fun _ S _=>qK S 1000000) fun _ S x=>qR S x.1
def M6:lg:=hCs (bJ iA (bJ bA jP)) (fun _ S _=>qK S 900000) fun L S x=>la L S x.1 x.2.1 16
def aaY(r:Int):Prop:=0<=r/\r<=7
def UC:lg:=hCs (bJ V0 jP) (fun _ S x=>qK S 800000/\aaY (G0 x.1).rights) fun L S x=>GM L S (G0 x.1)
def Vu:lg:=hCs (bJ V0 jP) (fun _ S _=>qK S 800000) fun L S x=>SP L S (G0 x.1)
end Go.Sx
namespace Go.Proofs.YtmfbohanboiklaaGreat
open Go.Sx
abbrev adQ(S:CS)(k:Sx.Key):=cD S.fst [k.kind,k.oid,k.count,k.call,k.rights]
abbrev adR(S:CS)(k:Sx.Key):=cP S.fst [k.kind,k.oid,k.count,k.call,k.rights]
abbrev adS(S:CS)(k:Sx.Key):=cT (adQ S k) [k.kind,k.oid,k.count,k.call,k.rights]+1
abbrev adT(S:CS)(k:Sx.Key):=cT S.fst [k.kind,k.oid,k.count,k.call,k.rights]+1
theorem VW(L:List Sx.Obj)(S:CS)(k:Sx.Key)(hS:qK S 1000000):
 true=true/\au (!(decide (2<=k.kind)&&decide (k.kind<=10))) (True/\S.fst=(qR S k).fst/\S.snd=(qR S k).snd) ((az (adT S k)/\Cs S.fst/\(0<=bV (adR S k)/\bV (adR S k)< ↑(aK (adQ S k)))/\au (decide (cT (fX (adQ S k) (bV (adR S k)).toNat (adT S k)) [k.kind,k.oid,k.count,k.call,k.rights]=1)) (lr (aK S.snd) 40/\True/\fX (adQ S k) (bV (adR S k)).toNat (adT S k)=(qR S k).fst/\dn S.snd [k.kind,k.oid,k.count,k.call,k.rights]=(qR S k).snd) (True/\fX (adQ S k) (bV (adR S k)).toNat (adT S k)=(qR S k).fst/\S.snd=(qR S k).snd))/\Cs S.fst/\az (adS S k)/\(0<=bV (adR S k)/\bV (adR S k)< ↑(aK (adQ S k)))/\au (decide (cT (fX (adQ S k) (bV (adR S k)).toNat (adS S k)) [k.kind,k.oid,k.count,k.call,k.rights]=1)) (lr (aK S.snd) 40/\True/\fX (adQ S k) (bV (adR S k)).toNat (adS S k)=(qR S k).fst/\dn S.snd [k.kind,k.oid,k.count,k.call,k.rights]=(qR S k).snd) (True/\fX (adQ S k) (bV (adR S k)).toNat (adS S k)=(qR S k).fst/\S.snd=(qR S k).snd)):=by
 delta au adT adS adR adQ az
 change true=true/\((!gF k)=true->True/\S.1=(qR S k).1/\S.2=(qR S k).2)/\((!gF k)=false->_)
 refine⟨rfl,fun h=>?_,fun h=>?_⟩
 ·have h:gF k=false:=by simpa using h
  unfold qR;rw[h];exact⟨trivial,rfl,rfl⟩
 have h:gF k=true:=by simpa using h
 have e:qR S k=(fX (cD S.1 (ef k)) (cP S.1 (ef k)) (cT S.1 (ef k)+1),if gE S.1 (ef k)=true then S.2 else dn S.2 (ef k)):=by unfold qR;rw[ar h];rfl
 rw[e];obtain⟨h1,h2,h3,h4,h5⟩:=KF (c:=ef k) hS
 change (_/\_/\_/\(decide (cT (fX (cD S.1 (ef k)) (cP S.1 (ef k)) (cT S.1 (ef k)+1)) (ef k)=1)=true->_)/\(decide (cT (fX (cD S.1 (ef k)) (cP S.1 (ef k)) (cT S.1 (ef k)+1)) (ef k)=1)=false->_))/\
  Cs _/\bh _ (cT (cD S.1 (ef k)) (ef k)+1)/\_/\(decide (cT (fX (cD S.1 (ef k)) (cP S.1 (ef k)) (cT (cD S.1 (ef k)) (ef k)+1)) (ef k)=1)=true->lr _ 40/\True/\fX (cD S.1 (ef k)) (cP S.1 (ef k)) (cT (cD S.1 (ef k)) (ef k)+1)=_/\_=_)/\
  (decide (cT (fX (cD S.1 (ef k)) (cP S.1 (ef k)) (cT (cD S.1 (ef k)) (ef k)+1)) (ef k)=1)=false->True/\fX (cD S.1 (ef k)) (cP S.1 (ef k)) (cT (cD S.1 (ef k)) (ef k)+1)=_/\_=_)
 rw[UF,T2]
 have hy:decide (cT S.1 (ef k)+1=1)=true->S.2++ [ef k]=if gE S.1 (ef k)=true then S.2 else dn S.2 (ef k):=fun hd=>by
  rw[aq (h5.1 (ak hd))];rfl
 have hn:decide (cT S.1 (ef k)+1=1)=false->S.2=if gE S.1 (ef k)=true then S.2 else dn S.2 (ef k):=fun hd=>by
  rw[ar (Decidable.byContradiction fun hc=>aj hd (h5.2 hc))]
 exact⟨⟨h1,h2,h3,fun hd=>⟨h4,trivial,rfl,hy hd⟩,fun hd=>⟨trivial,rfl,hn hd⟩⟩,h2,h1,h3,fun hd=>⟨h4,trivial,rfl,hy hd⟩,fun hd=>⟨trivial,rfl,hn hd⟩⟩
theorem Dp[Fen]:l5 Tryz.prog 71 YD:=DC (ba nX dq) (fun _=>rfl) fun L S x hQ hok=>(aM.BL (k:=0) (res':=adf S L) rfl (aM.xG (e:=xh) (bP (inl:=(aeq [96])) (ann:=bn) aP (VW L S x.1 hQ) (by kernel_rfl)) fun _ _ h=>PK h))
abbrev adU(L:List Sx.Obj)(S:CS)(oid:Int)(w:Bool)(g:Int):=((la L S oid w g).fst,(la L S oid w g).snd)
theorem Lg(L:List Sx.Obj)(S:CS)(oid:Int)(w:Bool)(hS:qK S 900000):
 (∃g,mz g/\w=w/\(aQ L oid).slots=(aQ L oid).slots/\0=g/\S.fst=(la L S oid w g).fst/\S.snd=(la L S oid w g).snd/\L=L/\aQ L oid=aQ L oid)/\∀(g:Int),mz g->au (decide (g<16)) ((0<=g/\g< ↑16)/\au w (true=true/\qK (adU L S oid w g) 1000000/\az (g+1)/\∃g',mz g'/\(16-g').toNat<(16-g).toNat/\w=w/\(aQ L oid).slots=(aQ L oid).slots/\g+1=g'/\(qR (adU L S oid w g) (ea (aI L ((aQ L oid).slots.at g.toNat)))).fst=(la L S oid w g').fst/\(qR (adU L S oid w g) (ea (aI L ((aQ L oid).slots.at g.toNat)))).snd=(la L S oid w g').snd/\L=L/\aQ L oid=aQ L oid) (true=true/\qK (adU L S oid w g) 1000000/\az (g+1)/\∃g',mz g'/\(16-g').toNat<(16-g).toNat/\w=w/\(aQ L oid).slots=(aQ L oid).slots/\g+1=g'/\(qR (adU L S oid w g) (aI L ((aQ L oid).slots.at g.toNat))).fst=(la L S oid w g').fst/\(qR (adU L S oid w g) (aI L ((aQ L oid).slots.at g.toNat))).snd=(la L S oid w g').snd/\L=L/\aQ L oid=aQ L oid)) (True/\(la L S oid w g).fst=(la L S oid w 16).fst/\(la L S oid w g).snd=(la L S oid w 16).snd):=by
 delta au adU az
 refine⟨⟨0,⟨by omega,by omega⟩,rfl,rfl,rfl,rfl,rfl,rfl,rfl⟩,fun g hg=>⟨fun hlt=>?_,fun hge=>?_⟩⟩
 ·have hlt:=ak hlt;obtain⟨h0,h1⟩:=hg;have hb:qK (la L S oid w g) 1000000:=gX (p6 (f:=nz L oid w) hS g.toNat) (by omega)
  have hs:la L S oid w (g+1)=qR (la L S oid w g) (nz L oid w g.toNat):=by
   unfold la;rw[show(g+1).toNat=g.toNat+1 by omega];rfl
  have hm:bh IntKind.i64 (g+1):=by simp only[bh,cB];omega
  have hi:mz (g+1):=⟨by omega,by omega⟩
  refine⟨⟨h0,hlt⟩,fun hw=>⟨rfl,hb,hm,g+1,hi,by omega,rfl,rfl,rfl,?_,?_,rfl,rfl⟩,fun hw=>⟨rfl,hb,hm,g+1,hi,by omega,rfl,rfl,rfl,?_,?_,rfl,rfl⟩⟩<;>(rw[hs];unfold nz;subst hw;rfl)
 ·have hge:=aj hge;have:g=16:=by have:=hg.2;omega
  subst this;exact⟨trivial,rfl,rfl⟩
theorem wW[Fen]:l5 Tryz.prog 51 M6:=DC (ba fx (ba Ql dq)) (fun _=>rfl) fun L S x hQ hok=>by
 obtain⟨oid,w,_⟩:=x;exact bU (inl:=cH) (ann:=(lf [(51,2,lpR [0,2,20] (fun g=> [(21,.it .i64 g)]) 0 (fun g=>xU 1 (la L S oid w g)) mz 16)])) (aH fi (aH gI (aH wH aP))) (aW Dp aT) (Lg L S oid w hQ) (by kernel_rfl)
abbrev adV(L:List Sx.Obj)(S:CS)(k:Sx.Key):=la L (S.fst,S.snd) k.oid (!decide (bu BinOp.and IntKind.i64 k.rights 2=0)) 16
theorem Sm(L:List Sx.Obj)(S:CS)(k:Sx.Key)(hS:qK S 800000)(h0:0<=k.rights)(h7:k.rights<=7):
 true=true/\qK (S.fst,S.snd) 900000/\au (decide (k.rights=0)) (true=true/\qK ((adV L S k).fst,(adV L S k).snd) 1000000/\True/\(qR ((adV L S k).fst,(adV L S k).snd) (aB 5 k void.value)).fst=(GM L S k).fst/\(qR ((adV L S k).fst,(adV L S k).snd) (aB 5 k void.value)).snd=(GM L S k).snd) (True/\(adV L S k).fst=(GM L S k).fst/\(adV L S k).snd=(GM L S k).snd):=by
 delta au aB adV
 have hb:(!decide (bu BinOp.and IntKind.i64 k.rights 2=0))=du k:=by rw[acB h0 h7];unfold du;simp
 rw[hb];have h16:qK (la L S k.oid (du k) 16) 1000000:=gX (p6 (f:=nz L k.oid (du k)) hS (16:Int).toNat) (by omega)
 refine⟨rfl,gX hS (by omega),fun h=>⟨rfl,h16,trivial,?_,?_⟩,fun h=>⟨trivial,?_,?_⟩⟩
 ·unfold GM;rw[ar (ak h)];rfl
 ·unfold GM;rw[ar (ak h)];rfl
 ·unfold GM;rw[aq (aj h)]
 ·unfold GM;rw[aq (aj h)]
theorem NT[Fen]:l5 Tryz.prog 49 UC:=DC (ba Dq dq) (fun _=>rfl) fun L S x hQ hok=>bU (inl:=cH) (ann:=bn) aP (aW wW (aW Dp aT)) (Sm L S (G0 x.1) hQ.1 hQ.2.1 hQ.2.2) (by kernel_rfl)
abbrev adW(L:List Sx.Obj)(S:CS)(k:Sx.Key):=((la L (S.fst,S.snd) k.oid false 16).fst,(la L (S.fst,S.snd) k.oid false 16).snd)
theorem Og(L:List Sx.Obj)(S:CS)(k:Sx.Key)(hS:qK S 800000):
 true=true/\qK (S.fst,S.snd) 900000/\true=true/\qK (adW L S k) 1000000/\True/\(qR (adW L S k) (aB 6 k void.value)).fst=(SP L S k).fst/\(qR (adW L S k) (aB 6 k void.value)).snd=(SP L S k).snd:=by
 delta aB adW
 have h16:qK (la L S k.oid false 16) 1000000:=gX (p6 (f:=nz L k.oid false) hS (16:Int).toNat) (by omega)
 exact⟨rfl,gX hS (by omega),rfl,h16,trivial,rfl,rfl⟩
theorem Oj[Fen]:l5 Tryz.prog 50 Vu:=DC (ba Dq dq) (fun _=>rfl) fun L S x hQ hok=>bU (inl:=cH) (ann:=bn) aP (aW wW (aW Dp aT)) (Og L S (G0 x.1) hQ) (by kernel_rfl)
end Go.Proofs.YtmfbohanboiklaaGreat
