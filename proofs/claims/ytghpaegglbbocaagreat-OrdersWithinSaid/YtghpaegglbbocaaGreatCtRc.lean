import Derived.Test.YtghpaegglbbocaaGreatCtRb
import Derived.Test.YtghpaegglbbocaaGreatKS
set_option linter.unusedSimpArgs false
set_option linter.unusedVariables false
namespace Go.Proofs.YtghpaegglbbocaaGreat
open Go.Sx
set_option maxRecDepth 100000
theorem CU:cW Tryz.prog 23 B6:=Kv aX
theorem Od (L:List Sx.Obj) (n:Int) (k:Key) (m:aZ) (hL:an L) (hs:az m.data):
 true=true/\(aZ.mk 190 eB void void void,L)=aD L n (kk 0 k) m:=by
 simp+decide [aD,cF,dg,cr,dR,gC,gd,gJ,fB,du,cI,eW,fG,eY,gq,dv,void,ey,eB,aP,eT,dS,er,kk,mm,hL,hs];try grind
theorem OZ (L:List Sx.Obj) (n:Int) (k:Key) (m:aZ) (hL:an L) (hs:az m.data):ai Tryz.prog 24 [.lp 0 0] [.ro (.blk lX (fU (.it .i64 m.code) m n (.ci .i64 0) k)),.store tS eS L] (kO (aD L n ((kk 0 k)) (m))) (fun _ _=>False):=
 aK (inl:=(fun f=>f==37||f==58||f==68||f==62||f==141||f==102||f==172||f==93||f==64||f==90||f==89||f==38||f==60||f==101||f==105)) (ann:=aL) (ab bY ak) aA (dn bm) (Od L n k m hL hs) (by kernel_rfl)
theorem Ou (L:List Sx.Obj) (n:Int) (k:Key) (m:aZ) (hL:an L) (hs:az m.data) (hz:¬k.kind=0):
 true=true/\((!!decide (k.kind=0))=true->(aZ.mk 190 eB void void void,L)=aD L n k (mm 0 m))/\((!!decide (k.kind=0))=false->true=true/\true=true/\(aZ.mk 0 eB void void (Key.mk
  1 void.oid void.count void.call void.rights k.kind),L)=aD L n k (mm 0 m)):=by
 have hX:aD L n k (mm 0 m)=(fG k.kind,L):=by
  have hr:cr L n k (mm 0 m)=(0,fG k.kind,L):=by
   unfold cr;rw[Tn hz,To (show(mm 0 m).code=0 from rfl)]
  simp[aD,cF,dg,hr]
 rw[hX];simp[hz];rfl
theorem PI (L:List Sx.Obj) (n:Int) (k:Key) (m:aZ) (hL:an L) (hs:az m.data) (hz:¬k.kind=0):ai Tryz.prog 24 [.lp 0 0] [.ro (.blk lX (fU (.ci .i64 0) m n (.it .i64 k.kind) k)),.store tS eS L] (kO (aD L n (k) ((mm 0 m)))) (fun _ _=>False):=
 aK (inl:=(fun f=>f==37||f==58||f==68||f==62||f==141||f==102||f==172||f==93||f==64||f==90||f==89||f==38||f==60||f==101||f==105)) (ann:=aL) (ab bY ak) aA (dn bm) (Ou L n k m hL hs hz) (by kernel_rfl)
theorem Oj (L:List Sx.Obj) (n:Int) (k:Key) (m:aZ) (hL:an L) (hs:az m.data) (hz:¬k.kind=0) (hc:¬m.code=0) (hn:m.code<1\/cI k.kind<m.code):
 true=true/\((!!decide (k.kind=0))=true->(aZ.mk 190 eB void void void,L)=aD L n k m)/\((!!decide (k.kind=0))=false->(decide (m.code=0)=true->true=true/\true=true/\(aZ.mk
  0 eB void void (Key.mk 1 void.oid void.count void.call void.rights k.kind),L)=aD L n k m)/\(decide (m.code=0)=false->true=true/\((!(oc 1 1 k m||(oc 2 1 k m||(oc 2 2 k m||(oc 2 3 k
  m||(oc 2 4 k m||(oc 2 5 k m||(oc 2 6 k m||(oc 3 1 k m||(oc 3 2 k m||(oc 3 3 k m||(oc 3 4 k m||(oc 3 5 k m||(oc 4 1 k m||(oc 4 2 k m||(oc 4 3 k m||(oc 4 4 k m||(oc 4 5 k m||
  (oc 4 6 k m||(oc 5 1 k m||(oc 5 2 k m||(oc 5 3 k m||(oc 5 4 k m||(oc 5 5 k m||(oc 5 6 k m||(oc 5 7 k m||(oc 8 1 k m||(oc 8 2 k m||(oc 8 3 k m||(oc 9 1 k m||oc 10 1 k
  m))))))))))))))))))))))))))))))=true->(aZ.mk 240 eB void void void,L)=aD L n k m)/\((!(oc 1 1 k m||(oc 2 1 k m||(oc 2 2 k m||(oc 2 3 k m||(oc 2 4 k m||(oc 2 5 k m||(oc 2 6 k m||
  (oc 3 1 k m||(oc 3 2 k m||(oc 3 3 k m||(oc 3 4 k m||(oc 3 5 k m||(oc 4 1 k m||(oc 4 2 k m||(oc 4 3 k m||(oc 4 4 k m||(oc 4 5 k m||(oc 4 6 k m||(oc 5 1 k m||(oc 5 2 k m||(oc 5
  3 k m||(oc 5 4 k m||(oc 5 5 k m||(oc 5 6 k m||(oc 5 7 k m||(oc 8 1 k m||(oc 8 2 k m||(oc 8 3 k m||(oc 9 1 k m||oc 10 1 k m))))))))))))))))))))))))))))))=false->((oc 1 1 k m)=true
  ->true=true/\False)/\((oc 1 1 k m)=false->((oc 2 1 k m)=true->true=true/\False)/\((oc 2 1 k m)=false->((oc 2 2 k m)=true->true=true/\False)/\((oc 2 2 k m)=false->((oc 2 3 k
  m)=true->true=true/\False)/\((oc 2 3 k m)=false->((oc 2 4 k m)=true->true=true/\False)/\((oc 2 4 k m)=false->((oc 2 5 k m)=true->true=true/\False)/\((oc 2 5 k m)=false->
  ((oc 2 6 k m)=true->true=true/\False)/\((oc 2 6 k m)=false->((oc 3 1 k m)=true->true=true/\False)/\((oc 3 1 k m)=false->((oc 3 2 k m)=true->true=true/\False)/\((oc 3 2 k m)=
  false->((oc 3 3 k m)=true->true=true/\False)/\((oc 3 3 k m)=false->((oc 3 4 k m)=true->true=true/\False)/\((oc 3 4 k m)=false->((oc 3 5 k m)=true->true=true/\False)/\((oc 3
  5 k m)=false->((oc 4 1 k m)=true->true=true/\False)/\((oc 4 1 k m)=false->((oc 4 2 k m)=true->true=true/\False)/\((oc 4 2 k m)=false->((oc 4 3 k m)=true->true=true/\False)
  /\((oc 4 3 k m)=false->((oc 4 4 k m)=true->true=true/\False)/\((oc 4 4 k m)=false->((oc 4 5 k m)=true->true=true/\False)/\((oc 4 5 k m)=false->((oc 4 6 k m)=true->true=true
  /\False)/\((oc 4 6 k m)=false->((oc 5 1 k m)=true->true=true/\False)/\((oc 5 1 k m)=false->((oc 5 2 k m)=true->true=true/\False)/\((oc 5 2 k m)=false->((oc 5 3 k m)=true->
  true=true/\False)/\((oc 5 3 k m)=false->((oc 5 4 k m)=true->true=true/\False)/\((oc 5 4 k m)=false->((oc 5 5 k m)=true->true=true/\False)/\((oc 5 5 k m)=false->((oc 5 6 k m)
  =true->true=true/\False)/\((oc 5 6 k m)=false->((oc 5 7 k m)=true->true=true/\False)/\((oc 5 7 k m)=false->((oc 8 1 k m)=true->true=true/\False)/\((oc 8 1 k m)=false->((oc
  8 2 k m)=true->true=true/\False)/\((oc 8 2 k m)=false->((oc 8 3 k m)=true->true=true/\False)/\((oc 8 3 k m)=false->((oc 9 1 k m)=true->true=true/\False)/\((oc 9 1 k m)=
  false->((oc 10 1 k m)=true->true=true/\False)/\((oc 10 1 k m)=false->False))))))))))))))))))))))))))))))))):=by
 have hX:aD L n k m=(eY 240,L):=by
  have hr:cr L n k m=(240,ey,L):=by
   unfold cr;rw[Tn hz,Tn hc,To (by rcases hn with h|h;exact .inl h;exact .inr (.inl h))]
  simp[aD,cF,dg,hr]
 rw[hX]
 have hq:∀a b:Int,1<=b->b<=cI a->oc a b k m=false:=fun a b h1 h2=>by
  cases h:oc a b k m with
  |false=>rfl
  |true=>
   unfold oc at h;simp only[Th,Ti]at h;obtain⟨rfl,rfl⟩:=h;omega
 have f1_1:oc 1 1 k m=false:=hq 1 1 (by omega) (by decide)
 have f2_1:oc 2 1 k m=false:=hq 2 1 (by omega) (by decide)
 have f2_2:oc 2 2 k m=false:=hq 2 2 (by omega) (by decide)
 have f2_3:oc 2 3 k m=false:=hq 2 3 (by omega) (by decide)
 have f2_4:oc 2 4 k m=false:=hq 2 4 (by omega) (by decide)
 have f2_5:oc 2 5 k m=false:=hq 2 5 (by omega) (by decide)
 have f2_6:oc 2 6 k m=false:=hq 2 6 (by omega) (by decide)
 have f3_1:oc 3 1 k m=false:=hq 3 1 (by omega) (by decide)
 have f3_2:oc 3 2 k m=false:=hq 3 2 (by omega) (by decide)
 have f3_3:oc 3 3 k m=false:=hq 3 3 (by omega) (by decide)
 have f3_4:oc 3 4 k m=false:=hq 3 4 (by omega) (by decide)
 have f3_5:oc 3 5 k m=false:=hq 3 5 (by omega) (by decide)
 have f4_1:oc 4 1 k m=false:=hq 4 1 (by omega) (by decide)
 have f4_2:oc 4 2 k m=false:=hq 4 2 (by omega) (by decide)
 have f4_3:oc 4 3 k m=false:=hq 4 3 (by omega) (by decide)
 have f4_4:oc 4 4 k m=false:=hq 4 4 (by omega) (by decide)
 have f4_5:oc 4 5 k m=false:=hq 4 5 (by omega) (by decide)
 have f4_6:oc 4 6 k m=false:=hq 4 6 (by omega) (by decide)
 have f5_1:oc 5 1 k m=false:=hq 5 1 (by omega) (by decide)
 have f5_2:oc 5 2 k m=false:=hq 5 2 (by omega) (by decide)
 have f5_3:oc 5 3 k m=false:=hq 5 3 (by omega) (by decide)
 have f5_4:oc 5 4 k m=false:=hq 5 4 (by omega) (by decide)
 have f5_5:oc 5 5 k m=false:=hq 5 5 (by omega) (by decide)
 have f5_6:oc 5 6 k m=false:=hq 5 6 (by omega) (by decide)
 have f5_7:oc 5 7 k m=false:=hq 5 7 (by omega) (by decide)
 have f8_1:oc 8 1 k m=false:=hq 8 1 (by omega) (by decide)
 have f8_2:oc 8 2 k m=false:=hq 8 2 (by omega) (by decide)
 have f8_3:oc 8 3 k m=false:=hq 8 3 (by omega) (by decide)
 have f9_1:oc 9 1 k m=false:=hq 9 1 (by omega) (by decide)
 have f10_1:oc 10 1 k m=false:=hq 10 1 (by omega) (by decide)
 simp only[f1_1,f2_1,f2_2,f2_3,f2_4,f2_5,f2_6,f3_1,f3_2,f3_3,f3_4,f3_5,f4_1,f4_2,f4_3,f4_4,f4_5,f4_6,f5_1,f5_2,f5_3,f5_4,f5_5,f5_6,f5_7,f8_1,f8_2,f8_3,f9_1,f10_1];simp[hz,hc];rfl
theorem OM (L:List Sx.Obj) (n:Int) (k:Key) (m:aZ) (hL:an L) (hs:az m.data) (hz:¬k.kind=0) (hc:¬m.code=0) (hn:m.code<1\/cI k.kind<m.code):ai Tryz.prog 24 [.lp 0 0] [.ro (.blk lX (fU (.it .i64 m.code) m n (.it .i64 k.kind) k)),.store tS eS L] (kO (aD L n (k) (m))) (fun _ _=>False):=
 aK (inl:=(fun f=>f==37||f==58||f==68||f==62||f==141||f==102||f==172||f==93||f==64||f==90||f==89||f==38||f==60||f==101||f==105)) (ann:=aL) (ab bY ak) aA (dn bm) (Oj L n k m hL hs hz hc hn) (by kernel_rfl)
theorem qk {L:List Sx.Obj} {n:Int} {k:Key} {m:aZ} {kd cd:Int} (hk:k.kind=kd) (hc:m.code=cd) (h:ai Tryz.prog 24 [.lp 0 0] [.ro (.blk lX (fU (.ci .i64 cd) m n (.ci .i64 kd) k)),.store tS eS L] (kO (aD L n (kk kd k) (mm cd m))) (fun _ _=>False)):
  ai Tryz.prog 24 [.lp 0 0] [.ro (.blk lX (fU (.it .i64 m.code) m n (.it .i64 k.kind) k)),.store tS eS L] (kO (aD L n k m)) (fun _ _=>False):=by
 rw[uy hk,Dg hc]at h;subst hk;subst hc;exact vX (c':= .ci .i64 m.code) (d':= .ci .i64 k.kind) (by simp) (fun _=>rfl) (fun _ h=>h) rfl (fun _=>rfl) (fun _ h=>h) rfl h
theorem LM (L:List Sx.Obj) (n:Int) (k:Key) (m:aZ) (hL:an L) (hs:az m.data) (hk:aB k=true):ai Tryz.prog 24 [.lp 0 0] [.ro (.blk lX (fU (.it .i64 m.code) m n (.it .i64 k.kind) k)),.store tS eS L] (kO (aD L n k m)) (fun _ _=>False):=by
 by_cases h0:k.kind=0
 ·have:=OZ L n k m hL hs;rw[uy h0]at this;exact vX (by simp) (fun _=>rfl) (fun _ h=>h) rfl (fun _=>by rw[h0];rfl) (fun _ h=>by rw[h0]at h;exact h) rfl this
 by_cases hc:m.code=0
 ·have:=PI L n k m hL hs h0;rw[Dg hc]at this;exact vX (by simp) (fun _=>by rw[hc];rfl) (fun _ h=>by rw[hc]at h;exact h) rfl (fun _=>rfl) (fun _ h=>h) rfl this
 by_cases hn:m.code<1\/cI k.kind<m.code
 ·exact OM L n k m hL hs h0 hc hn
 have hkd:k.kind=1\/k.kind=2\/k.kind=3\/k.kind=4\/k.kind=5\/k.kind=8\/k.kind=9\/k.kind=10:=by
  unfold cI at hn;grind
 rcases hkd with e|e|e|e|e|e|e|e
 ·have hq:cI k.kind=1:=by rw[e];decide
  have hcd:m.code=1:=by omega
  have f:=hcd
  ·exact qk e f (IB L n k m hL hs)
 ·have hq:cI k.kind=6:=by rw[e];decide
  have hcd:m.code=1\/m.code=2\/m.code=3\/m.code=4\/m.code=5\/m.code=6:=by omega
  rcases hcd with f|f|f|f|f|f
  ·exact qk e f (Gq L n k m hL hs)
  ·exact qk e f (Hc L n k m hL hs)
  ·exact qk e f (Hb L n k m hL hs)
  ·exact qk e f (I4 L n k m hL hs)
  ·exact qk e f (HM L n k m hL hs (by rw[uy e];exact hk))
  ·exact qk e f (JA L n k m hL hs)
 ·have hq:cI k.kind=5:=by rw[e];decide
  have hcd:m.code=1\/m.code=2\/m.code=3\/m.code=4\/m.code=5:=by omega
  rcases hcd with f|f|f|f|f
  ·exact qk e f (F4 L n k m hL hs)
  ·exact qk e f (Hh L n k m hL hs)
  ·exact qk e f (FM L n k m hL hs)
  ·exact qk e f (HH L n k m hL hs)
  ·exact qk e f (IG L n k m hL hs (by rw[uy e];exact hk))
 ·have hq:cI k.kind=6:=by rw[e];decide
  have hcd:m.code=1\/m.code=2\/m.code=3\/m.code=4\/m.code=5\/m.code=6:=by omega
  rcases hcd with f|f|f|f|f|f
  ·exact qk e f (Ju L n k m hL hs)
  ·exact qk e f (Io L n k m hL hs)
  ·exact qk e f (Fu L n k m hL hs)
  ·exact qk e f (HY L n k m hL hs)
  ·exact qk e f (JJ L n k m hL hs)
  ·exact qk e f (H7 L n k m hL hs)
 ·have hq:cI k.kind=7:=by rw[e];decide
  have hcd:m.code=1\/m.code=2\/m.code=3\/m.code=4\/m.code=5\/m.code=6\/m.code=7:=by omega
  rcases hcd with f|f|f|f|f|f|f
  ·exact qk e f (Is L n k m hL hs)
  ·exact qk e f (IY L n k m hL hs)
  ·exact qk e f (Jz L n k m hL hs)
  ·exact qk e f (Fm L n k m hL hs)
  ·exact qk e f (Gv L n k m hL hs)
  ·exact qk e f (Fh L n k m hL hs)
  ·exact qk e f (Fv L n k m hL hs)
 ·have hq:cI k.kind=3:=by rw[e];decide
  have hcd:m.code=1\/m.code=2\/m.code=3:=by omega
  rcases hcd with f|f|f
  ·exact qk e f (HG L n k m hL hs)
  ·exact qk e f (Ir L n k m hL hs)
  ·exact qk e f (G4 L n k m hL hs)
 ·have hq:cI k.kind=1:=by rw[e];decide
  have hcd:m.code=1:=by omega
  have f:=hcd
  ·exact qk e f (Fe L n k m hL hs)
 ·have hq:cI k.kind=1:=by rw[e];decide
  have hcd:m.code=1:=by omega
  have f:=hcd
  ·exact qk e f (DV L n k m hL hs)
theorem Bo:ql Tryz.prog 24 MU:=by
 intro args res K KP h;unfold MU at h;split at h
 case h_2=>exact h.elim
 split at h
 case h_2=>exact h.elim
 rename_i j off;split at h
 case isFalse=>exact h.elim
 rename_i hoff;have hoff:=Tj.1 hoff;subst hoff;split at h
 case h_2=>exact h.elim
 rename_i t c hj;split at h
 case isFalse=>exact h.elim
 rename_i ht;have ht:=Tj.1 ht;subst ht;split at h
 case h_2=>exact h.elim
 split at h
 case h_2=>exact h.elim
 rename_i mv sv nv kv;split at h
 case h_2=>exact h.elim
 rename_i m hm;split at h
 case h_2=>exact h.elim
 rename_i i o2;split at h
 case isFalse=>exact h.elim
 rename_i hij;simp only[Th,Tj,Bool.not_eq_true',beq_eq_false_iff_ne,ne_eq]at hij;obtain⟨rfl,hij⟩:=hij;split at h
 case h_2=>exact h.elim
 rename_i n hn;split at h
 case h_2=>exact h.elim
 rename_i k hk;split at h
 case h_2=>exact h.elim
 rename_i t2 e L hi;split at h
 case isFalse=>exact h.elim
 rename_i hc;simp only[Th,Tj]at hc;obtain⟨rfl,rfl⟩:=hc;obtain⟨⟨hL,hs,hok⟩,h⟩:=h;have hkj:known res j:=by unfold known;rw[hj];simp
 have hki:known res i:=by unfold known;rw[hi];simp
 have hlj:=aF hkj;have hli:=aF hki;have hlj':cN res j= .blk lX (.ag [mv,.lp i 0,nv,kv]):=by unfold cN;rw[hj]
 have im:=rn (κ:=jO 0 (de [(j,false),(i,true)])) mv (G2 hm);have inn:=rn (κ:=jO 0 (de [(j,false),(i,true)])) nv (nV hn);have ik:=rn (κ:=jO 0 (de [(j,false),(i,true)])) kv (yR hk);have il:fh (jO 0 (de [(j,false),(i,true)])) (.lp i 0)=some (.lp 1 0):=by simp[fh,jO,idxOf,de,Ne.symm hij]
 have hb:fh (jO 0 (de [(j,false),(i,true)])) (.ag [mv,.lp i 0,nv,kv])=some (.ag [mv,.lp 1 0,nv,kv]):=by unfold fh;rw[mQ im (mQ il (mQ inn (mQ ik rfl)))]
 have hres:ei (jO 0 (de [(j,false),(i,true)])) res [(j,false),(i,true)]= [.ro (.blk lX (.ag [mv,.lp 1 0,nv,kv])),.store tS eS L]:=by simp only[ei,hlj',hi,fI,hb];rfl
 refine ai.frame (pl:= [(j,false),(i,true)]) (args0:= [.lp 0 0]) (K0:=kO (aD L n k m)) (KP0:=fun _ _=>False) (by simp[ej,cS.2 hkj,cS.2 hki]) (by simpa[iq,de,nF]using⟨⟨hlj,hij⟩,hli⟩) (by simp[ef,fh,jO,idxOf,de]) ?_ (fun v r hv=>?_) (fun _ _ h=>h.elim)
 ·rw[hres];exact Jr (by simp) hm hn hk (LM L n k m hL hs hok)
 ·obtain⟨h1,h2⟩:=Pv hv;have hm':merge [(j,false),(i,true)] [] r res=bG res i (.store tS eS (dg L n k m)):=by simp[merge,eM,h2,fI,fL,aD]
  exact⟨[],tH (cF L n k m),rfl,by simp[la,h2,iw],rfl,jn.jr h1 rfl,by rw[hm'];exact h⟩
theorem BD (k:Key):
 (decide (bf k=0)&&(!aU k||decide (bW k<0)))=eH [] k:=by
 unfold eH bf bW aU bn;simp only[aE,List.length_nil];grind
theorem D3 (L:List Sx.Obj) (k:Key):
 (decide (bf k=0)&&(!aU k||decide (bW k<ah L)))=eH L k:=by
 unfold eH bf bW aU bn ah;grind
theorem rW:cW Tryz.prog 21 JE:=
 kY (aY rf (aY mF fz)) (fun _=>rfl) fun a hq hok=>by
  obtain⟨S,k,_⟩:=a;cases S with
  |none=>exact cg (inl:=bM) (ann:=aL) (ab aX (ab ia (ab dX ak))) aA (BD k) (by kernel_rfl)
  |some L=>exact cg (inl:=bM) (ann:=aL) (ab aX (ab ia (ab dX ak))) aA (D3 L k) (by kernel_rfl)
theorem Ot (n:Int) (k:Key) (m:aZ) (hs:az m.data):
 (decide (0<=n)=true->aQ IntKind.i64 (dK m.data))/\0=(bX [] n k m).code/\ByteArray.mk (Array.mk [])=(bX [] n k m).data/\void=(bX [] n k m).k0/\void=(bX [] n k m).k1/\void
  =(bX [] n k m).k2/\false=gP [] n k m/\1=fu [] n k m:=by
 have hin:aQ .i64 (dK m.data):=by have:=hs;unfold az at this;unfold aQ cy dK;omega
 have e:fu [] n k m=1:=by unfold fu;rw[To (show aE ([]:List Sx.Obj)=0 from rfl)]
 have e1:bX [] n k m=ey:=by unfold bX;rw[e];rfl
 have e2:gP [] n k m=false:=by unfold gP;rw[e];rfl
 rw[e1,e2,e];exact⟨fun _=>hin,rfl,rfl,rfl,rfl,rfl,rfl,rfl⟩
theorem N2 (n:Int) (k:Key) (m:aZ) (hs:az m.data):
 (decide (0<=n)=true->aQ IntKind.i64 (dK m.data))/\0=(bX [] n k m).code/\ByteArray.mk (Array.mk [])=(bX [] n k m).data/\void=(bX [] n k m).k0/\void=(bX [] n k m).k1/\void
  =(bX [] n k m).k2/\false=gP [] n k m/\1=fu [] n k m:=by
 have hin:aQ .i64 (dK m.data):=by have:=hs;unfold az at this;unfold aQ cy dK;omega
 have e:fu [] n k m=1:=by unfold fu;rw[To (show aE ([]:List Sx.Obj)=0 from rfl)]
 have e1:bX [] n k m=ey:=by unfold bX;rw[e];rfl
 have e2:gP [] n k m=false:=by unfold gP;rw[e];rfl
 rw[e1,e2,e];exact⟨fun _=>hin,rfl,rfl,rfl,rfl,rfl,rfl,rfl⟩
theorem QV (L:List Sx.Obj) (n:Int) (k:Key) (m:aZ) (hL:an L) (hs:az m.data):
 (decide (0<=n)=true->aQ IntKind.i64 (dK m.data))/\(decide (ah L=0)=true->(0=(bX L n k m).code/\ByteArray.mk (Array.mk [])=(bX L n k m).data/\void=(bX L n k m).k0/\
  void=(bX L n k m).k1/\void=(bX L n k m).k2/\false=gP L n k m/\1=fu L n k m)/\L=jl L n k m)/\(decide (ah L=0)=false->((!(decide (0<=n)&&decide (dK m.data<=32)
  &&eH L k&&eH L m.k0&&eH L m.k1&&eH L m.k2))=true->(0=(bX L n k m).code/\ByteArray.mk (Array.mk [])=(bX L n k m).data/\void=(bX L n k m).k0/\void=(bX L n k
  m).k1/\void=(bX L n k m).k2/\false=gP L n k m/\2=fu L n k m)/\L=jl L n k m)/\((!(decide (0<=n)&&decide (dK m.data<=32)&&eH L k&&eH L m.k0&&eH L m.k1&&
  eH L m.k2))=false->((decide ((ae L k).kind=6)||decide ((ae L k).kind=7))=true->(0=(bX L n k m).code/\ByteArray.mk (Array.mk [])=(bX L n k m).data/\void=(bX L n k
  m).k0/\void=(bX L n k m).k1/\void=(bX L n k m).k2/\false=gP L n k m/\241=fu L n k m)/\L=jl L n k m)/\((decide ((ae L k).kind=6)||decide ((ae L k).kind=7))=
  false->true=true/\Ny L (ae L k) (aZ.mk m.code m.data (ae L m.k0) (ae L m.k1) (ae L m.k2))/\((cF L n (ae L k) (aZ.mk m.code m.data (ae L m.k0) (ae L m.k1)
  (ae L m.k2))).code=(bX L n k m).code/\(cF L n (ae L k) (aZ.mk m.code m.data (ae L m.k0) (ae L m.k1) (ae L m.k2))).data=(bX L n k m).data/\(cF L n (ae L k)
  (aZ.mk m.code m.data (ae L m.k0) (ae L m.k1) (ae L m.k2))).k0=(bX L n k m).k0/\(cF L n (ae L k) (aZ.mk m.code m.data (ae L m.k0) (ae L m.k1) (ae L m.k2))).k1=
  (bX L n k m).k1/\(cF L n (ae L k) (aZ.mk m.code m.data (ae L m.k0) (ae L m.k1) (ae L m.k2))).k2=(bX L n k m).k2/\(decide ((ae L k).kind=10)&&decide (m.code=1))=
  gP L n k m/\0=fu L n k m)/\dg L n (ae L k) (aZ.mk m.code m.data (ae L m.k0) (ae L m.k1) (ae L m.k2))=jl L n k m))):=by
 have hcn:aZ.mk m.code m.data (ae L m.k0) (ae L m.k1) (ae L m.k2)=qY L m:=rfl;simp only[hcn];have hin:aQ .i64 (dK m.data):=by have:=hs;unfold az at this;unfold aQ cy dK;omega
 have hf:(decide (0<=n)&&decide (dK m.data<=32)&&eH L k&&eH L m.k0&&eH L m.k1&&eH L m.k2)=xi L n k m:=by
  unfold xi NA;cases decide (0<=n)<;>cases decide (dK m.data<=32)<;>cases eH L k<;>cases eH L m.k0<;>cases eH L m.k1<;>cases eH L m.k2<;>rfl
 rw[hf];have hsz:ah L=0↔aE L=0:=by unfold ah;simp[en]
 have no:∀e:Int,fu L n k m=e->e≠0->(0=(bX L n k m).code/\ByteArray.mk (Array.mk [])=(bX L n k m).data/\void=(bX L n k m).k0/\void=(bX L n k m).k1/\void=(bX L n k m).k2/\false=gP L n k m/\e=fu L n k m)/\L=jl L n k m:=fun e he h0=>by
  have e1:bX L n k m=ey:=by unfold bX;rw[he,Tn h0]
  have e2:gP L n k m=false:=by unfold gP;rw[he];simp[h0]
  have e3:jl L n k m=L:=by unfold jl;rw[he,Tn h0]
  rw[e1,e2,e3,he];exact⟨⟨rfl,rfl,rfl,rfl,rfl,rfl,rfl⟩,rfl⟩
 refine⟨fun _=>hin,fun h=>?_,fun h=>⟨fun h2=>?_,fun h2=>⟨fun h3=>?_,fun h3=>?_⟩⟩⟩
 ·have h:=hsz.1 (by simpa using h)
  exact no 1 (by unfold fu;rw[To h]) (by omega)
 ·have h:¬aE L=0:=fun e=>by simp[hsz.2 e]at h
  have h2:xi L n k m=false:=by simpa using h2
  exact no 2 (by unfold fu;rw[Tn h,To h2]) (by omega)
 ·have h:¬aE L=0:=fun e=>by simp[hsz.2 e]at h
  have h2:xi L n k m=true:=by simpa using h2
  have h3:(ae L k).kind=6\/(ae L k).kind=7:=by simpa using h3
  exact no 241 (by unfold fu;rw[Tn h,Tn (by simp[h2]),To h3]) (by omega)
 ·have h:¬aE L=0:=fun e=>by simp[hsz.2 e]at h
  have h2:xi L n k m=true:=by simpa using h2
  have h3:¬((ae L k).kind=6\/(ae L k).kind=7):=by simpa using h3
  have he:fu L n k m=0:=by unfold fu;rw[Tn h,Tn (by simp[h2]),Tn h3]
  have e1:bX L n k m=cF L n (ae L k) (qY L m):=by unfold bX;rw[To he]
  have e2:gP L n k m=(decide ((ae L k).kind=10)&&decide (m.code=1)):=by unfold gP;rw[he];rfl
  have e3:jl L n k m=dg L n (ae L k) (qY L m):=by unfold jl;rw[To he]
  rw[e1,e2,e3,he];exact⟨trivial,⟨hL,hs,pP⟩,⟨rfl,rfl,rfl,rfl,rfl,rfl,rfl⟩,rfl⟩
theorem QU (L:List Sx.Obj) (n:Int) (k:Key) (m:aZ) (hL:an L) (hs:az m.data):ai Tryz.prog 12 [.lp 0 0,.it .i64 n,.key k,tH m] [.store tS eS L] (zO (.tp [tH (bX L n k m),.bo (gP L n k m),.it .i64 (fu L n k m)]) (jl L n k m)) (fun _ _=>False):=
 cg (inl:=bM) (ann:=(me [(12,3,QB 4)])) (ab aX (ab jH (ab rW ak))) (aG Bo aA) (QV L n k m hL hs) (by kernel_rfl)
theorem M5:ql Tryz.prog 12 Se:=
 Jk (m:=fun x=>NM.cn x 0) (rX LU (fun _=>rfl)) (fun _=>rfl) (fun _ _=>rfl) (fun x hs=>cg (inl:=bM) (ann:=(me [(12,3,QB 4)])) (ab CU (ab jH (ab rW ak))) (aG Bo aA) (Ot x.1 x.2.1 x.2.2.1 hs) (by kernel_rfl)) (fun x hs=>cg (inl:=bM) (ann:=(me [(12,3,QB 4)])) (ab CU (ab jH (ab rW ak))) (aG Bo aA) (N2 x.1 x.2.1 x.2.2.1 hs) (by kernel_rfl)) fun L x hq=>QU L x.1 x.2.1 x.2.2.1 hq.1 hq.2
end Go.Proofs.YtghpaegglbbocaaGreat
