import Derived.Test.YtghpaegglbbocaaGreatCtRb
import Derived.Test.YtghpaegglbbocaaGreatKS
set_option linter.unusedSimpArgs false
set_option linter.unusedVariables false
namespace Go.Proofs.YtghpaegglbbocaaGreat
open Go.Sx
set_option maxRecDepth 100000
theorem FH:cj Tryz.prog 23 Eu:=Ps bB
theorem Sa (L:List Sx.Obj) (n:Int) (k:Key) (m:bm) (hL:aq L) (hs:aA m.data):
 true=true/\(bm.mk 190 eB void void void,L)=aM L n (kk 0 k) m:=by
 simp+decide [aM,dJ,dL,dq,ef,dP,dQ,c8,cT,cC,cF,eh,eW,fu,fB,cG,void,dz,eB,aO,dD,eX,ew,kk,mm,hL,hs];try grind
theorem R1 (L:List Sx.Obj) (n:Int) (k:Key) (m:bm) (hL:aq L) (hs:aA m.data):ai Tryz.prog 24 [.lp 0 0] [.ro (.blk nb (gK (.it .i64 m.code) m n (.ci .i64 0) k)),.store tS eS L] (kO (aM L n ((kk 0 k)) (m))) (fun _ _=>False):=
 aV (inl:=(fun f=>f==37||f==58||f==68||f==62||f==141||f==102||f==172||f==93||f==64||f==90||f==89||f==38||f==60||f==101||f==105)) (ann:=aP) (ae cU an) aC (dT bJ) (Sa L n k m hL hs) (by kernel_rfl)
theorem Sf (L:List Sx.Obj) (n:Int) (k:Key) (m:bm) (hL:aq L) (hs:aA m.data) (hz:¬k.kind=0):
 true=true/\((!!decide (k.kind=0))=true->(bm.mk 190 eB void void void,L)=aM L n k (mm 0 m))/\((!!decide (k.kind=0))=false->true=true/\true=true/\(bm.mk 0 eB void void (Key.mk
  1 void.oid void.count void.call void.rights k.kind),L)=aM L n k (mm 0 m)):=by
 have hX:aM L n k (mm 0 m)=(eW k.kind,L):=by
  have hr:dq L n k (mm 0 m)=(0,eW k.kind,L):=by
   unfold dq;rw[XQ hz,XR (show(mm 0 m).code=0 from rfl)]
  simp[aM,dJ,dL,hr]
 rw[hX];simp[hz];rfl
theorem Sy (L:List Sx.Obj) (n:Int) (k:Key) (m:bm) (hL:aq L) (hs:aA m.data) (hz:¬k.kind=0):ai Tryz.prog 24 [.lp 0 0] [.ro (.blk nb (gK (.ci .i64 0) m n (.it .i64 k.kind) k)),.store tS eS L] (kO (aM L n (k) ((mm 0 m)))) (fun _ _=>False):=
 aV (inl:=(fun f=>f==37||f==58||f==68||f==62||f==141||f==102||f==172||f==93||f==64||f==90||f==89||f==38||f==60||f==101||f==105)) (ann:=aP) (ae cU an) aC (dT bJ) (Sf L n k m hL hs hz) (by kernel_rfl)
theorem TE (L:List Sx.Obj) (n:Int) (k:Key) (m:bm) (hL:aq L) (hs:aA m.data) (hz:¬k.kind=0) (hc:¬m.code=0) (hn:m.code<1\/cF k.kind<m.code):
 true=true/\((!!decide (k.kind=0))=true->(bm.mk 190 eB void void void,L)=aM L n k m)/\((!!decide (k.kind=0))=false->(decide (m.code=0)=true->true=true/\true=true/\(bm.mk
  0 eB void void (Key.mk 1 void.oid void.count void.call void.rights k.kind),L)=aM L n k m)/\(decide (m.code=0)=false->true=true/\((!(oc 1 1 k m||(oc 2 1 k m||(oc 2 2 k m||(oc 2 3 k
  m||(oc 2 4 k m||(oc 2 5 k m||(oc 2 6 k m||(oc 3 1 k m||(oc 3 2 k m||(oc 3 3 k m||(oc 3 4 k m||(oc 3 5 k m||(oc 4 1 k m||(oc 4 2 k m||(oc 4 3 k m||(oc 4 4 k m||(oc 4 5 k m||
  (oc 4 6 k m||(oc 5 1 k m||(oc 5 2 k m||(oc 5 3 k m||(oc 5 4 k m||(oc 5 5 k m||(oc 5 6 k m||(oc 5 7 k m||(oc 8 1 k m||(oc 8 2 k m||(oc 8 3 k m||(oc 9 1 k m||oc 10 1 k
  m))))))))))))))))))))))))))))))=true->(bm.mk 240 eB void void void,L)=aM L n k m)/\((!(oc 1 1 k m||(oc 2 1 k m||(oc 2 2 k m||(oc 2 3 k m||(oc 2 4 k m||(oc 2 5 k m||(oc 2 6 k m||
  (oc 3 1 k m||(oc 3 2 k m||(oc 3 3 k m||(oc 3 4 k m||(oc 3 5 k m||(oc 4 1 k m||(oc 4 2 k m||(oc 4 3 k m||(oc 4 4 k m||(oc 4 5 k m||(oc 4 6 k m||(oc 5 1 k m||(oc 5 2 k m||(oc 5
  3 k m||(oc 5 4 k m||(oc 5 5 k m||(oc 5 6 k m||(oc 5 7 k m||(oc 8 1 k m||(oc 8 2 k m||(oc 8 3 k m||(oc 9 1 k m||oc 10 1 k m))))))))))))))))))))))))))))))=false->((oc 1 1 k m)=true
  ->true=true/\False)/\((oc 1 1 k m)=false->((oc 2 1 k m)=true->true=true/\False)/\((oc 2 1 k m)=false->((oc 2 2 k m)=true->true=true/\False)/\((oc 2 2 k m)=false->((oc 2 3 k
  m)=true->true=true/\False)/\((oc 2 3 k m)=false->((oc 2 4 k m)=true->true=true/\False)/\((oc 2 4 k m)=false->((oc 2 5 k m)=true->true=true/\False)/\((oc 2 5 k m)=false->
  ((oc 2 6 k m)=true->true=true/\False)/\((oc 2 6 k m)=false->((oc 3 1 k m)=true->true=true/\False)/\((oc 3 1 k m)=false->((oc 3 2 k m)=true->true=true/\False)/\((oc 3 2 k m)=
  false->((oc 3 3 k m)=true->true=true/\False)/\((oc 3 3 k m)=false->((oc 3 4 k m)=true->true=true/\False)/\((oc 3 4 k m)=false->((oc 3 5 k m)=true->true=true/\False)/\((oc 3
  5 k m)=false->((oc 4 1 k m)=true->true=true/\False)/\((oc 4 1 k m)=false->((oc 4 2 k m)=true->true=true/\False)/\((oc 4 2 k m)=false->((oc 4 3 k m)=true->true=true/\False)
  /\((oc 4 3 k m)=false->((oc 4 4 k m)=true->true=true/\False)/\((oc 4 4 k m)=false->((oc 4 5 k m)=true->true=true/\False)/\((oc 4 5 k m)=false->((oc 4 6 k m)=true->true=true
  /\False)/\((oc 4 6 k m)=false->((oc 5 1 k m)=true->true=true/\False)/\((oc 5 1 k m)=false->((oc 5 2 k m)=true->true=true/\False)/\((oc 5 2 k m)=false->((oc 5 3 k m)=true->
  true=true/\False)/\((oc 5 3 k m)=false->((oc 5 4 k m)=true->true=true/\False)/\((oc 5 4 k m)=false->((oc 5 5 k m)=true->true=true/\False)/\((oc 5 5 k m)=false->((oc 5 6 k m)
  =true->true=true/\False)/\((oc 5 6 k m)=false->((oc 5 7 k m)=true->true=true/\False)/\((oc 5 7 k m)=false->((oc 8 1 k m)=true->true=true/\False)/\((oc 8 1 k m)=false->((oc
  8 2 k m)=true->true=true/\False)/\((oc 8 2 k m)=false->((oc 8 3 k m)=true->true=true/\False)/\((oc 8 3 k m)=false->((oc 9 1 k m)=true->true=true/\False)/\((oc 9 1 k m)=
  false->((oc 10 1 k m)=true->true=true/\False)/\((oc 10 1 k m)=false->False))))))))))))))))))))))))))))))))):=by
 have hX:aM L n k m=(fu 240,L):=by
  have hr:dq L n k m=(240,dz,L):=by
   unfold dq;rw[XQ hz,XQ hc,XR (by rcases hn with h|h;exact .inl h;exact .inr (.inl h))]
  simp[aM,dJ,dL,hr]
 rw[hX]
 have hq:∀a b:Int,1<=b->b<=cF a->oc a b k m=false:=fun a b h1 h2=>by
  cases h:oc a b k m with
  |false=>rfl
  |true=>
   unfold oc at h;simp only[XK,XL]at h;obtain⟨rfl,rfl⟩:=h;omega
 have f1_1:oc 1 1 k m=false:=hq 1 1 (by omega) (by decide)
 have f2_1:oc 2 1 k m=false:=hq 2 1 (by omega) (by decide)
 have f2_2:oc 2 2 k m=false:=hq 2 2 (by omega) (by decide)
 have f2_3:oc 2 3 k m=false:=hq 2 3 (by omega) (by decide)
 have f2_4:oc 2 4 k m=false:=hq 2 4 (by omega) (by decide)
 have f2_5:oc 2 5 k m=false:=hq 2 5 (by omega) (by decide)
 have f2_6:oc 2 6 k m=false:=hq 2 6 (by omega) (by decide)
 have f3_1:oc 3 1 k m=false:=hq 3 1 (by omega) (by decide)
 have f3_2:oc 3 2 k m=false:=hq 3 2 (by omega) (by decide)
 have f3_3:oc 3 3 k m=false:=hq 3 3 (by omega) (by decide)
 have f3_4:oc 3 4 k m=false:=hq 3 4 (by omega) (by decide)
 have f3_5:oc 3 5 k m=false:=hq 3 5 (by omega) (by decide)
 have f4_1:oc 4 1 k m=false:=hq 4 1 (by omega) (by decide)
 have f4_2:oc 4 2 k m=false:=hq 4 2 (by omega) (by decide)
 have f4_3:oc 4 3 k m=false:=hq 4 3 (by omega) (by decide)
 have f4_4:oc 4 4 k m=false:=hq 4 4 (by omega) (by decide)
 have f4_5:oc 4 5 k m=false:=hq 4 5 (by omega) (by decide)
 have f4_6:oc 4 6 k m=false:=hq 4 6 (by omega) (by decide)
 have f5_1:oc 5 1 k m=false:=hq 5 1 (by omega) (by decide)
 have f5_2:oc 5 2 k m=false:=hq 5 2 (by omega) (by decide)
 have f5_3:oc 5 3 k m=false:=hq 5 3 (by omega) (by decide)
 have f5_4:oc 5 4 k m=false:=hq 5 4 (by omega) (by decide)
 have f5_5:oc 5 5 k m=false:=hq 5 5 (by omega) (by decide)
 have f5_6:oc 5 6 k m=false:=hq 5 6 (by omega) (by decide)
 have f5_7:oc 5 7 k m=false:=hq 5 7 (by omega) (by decide)
 have f8_1:oc 8 1 k m=false:=hq 8 1 (by omega) (by decide)
 have f8_2:oc 8 2 k m=false:=hq 8 2 (by omega) (by decide)
 have f8_3:oc 8 3 k m=false:=hq 8 3 (by omega) (by decide)
 have f9_1:oc 9 1 k m=false:=hq 9 1 (by omega) (by decide)
 have f10_1:oc 10 1 k m=false:=hq 10 1 (by omega) (by decide)
 simp only[f1_1,f2_1,f2_2,f2_3,f2_4,f2_5,f2_6,f3_1,f3_2,f3_3,f3_4,f3_5,f4_1,f4_2,f4_3,f4_4,f4_5,f4_6,f5_1,f5_2,f5_3,f5_4,f5_5,f5_6,f5_7,f8_1,f8_2,f8_3,f9_1,f10_1];simp[hz,hc];rfl
theorem R6 (L:List Sx.Obj) (n:Int) (k:Key) (m:bm) (hL:aq L) (hs:aA m.data) (hz:¬k.kind=0) (hc:¬m.code=0) (hn:m.code<1\/cF k.kind<m.code):ai Tryz.prog 24 [.lp 0 0] [.ro (.blk nb (gK (.it .i64 m.code) m n (.it .i64 k.kind) k)),.store tS eS L] (kO (aM L n (k) (m))) (fun _ _=>False):=
 aV (inl:=(fun f=>f==37||f==58||f==68||f==62||f==141||f==102||f==172||f==93||f==64||f==90||f==89||f==38||f==60||f==101||f==105)) (ann:=aP) (ae cU an) aC (dT bJ) (TE L n k m hL hs hz hc hn) (by kernel_rfl)
theorem sd {L:List Sx.Obj} {n:Int} {k:Key} {m:bm} {kd cd:Int} (hk:k.kind=kd) (hc:m.code=cd) (h:ai Tryz.prog 24 [.lp 0 0] [.ro (.blk nb (gK (.ci .i64 cd) m n (.ci .i64 kd) k)),.store tS eS L] (kO (aM L n (kk kd k) (mm cd m))) (fun _ _=>False)):
  ai Tryz.prog 24 [.lp 0 0] [.ro (.blk nb (gK (.it .i64 m.code) m n (.it .i64 k.kind) k)),.store tS eS L] (kO (aM L n k m)) (fun _ _=>False):=by
 rw[wm hk,EC hc]at h;subst hk;subst hc;exact xr (c':= .ci .i64 m.code) (d':= .ci .i64 k.kind) (by simp) (fun _=>rfl) (fun _ h=>h) rfl (fun _=>rfl) (fun _ h=>h) rfl h
theorem Qk (L:List Sx.Obj) (n:Int) (k:Key) (m:bm) (hL:aq L) (hs:aA m.data) (hk:aT k=true):ai Tryz.prog 24 [.lp 0 0] [.ro (.blk nb (gK (.it .i64 m.code) m n (.it .i64 k.kind) k)),.store tS eS L] (kO (aM L n k m)) (fun _ _=>False):=by
 by_cases h0:k.kind=0
 ·have:=R1 L n k m hL hs;rw[wm h0]at this;exact xr (by simp) (fun _=>rfl) (fun _ h=>h) rfl (fun _=>by rw[h0];rfl) (fun _ h=>by rw[h0]at h;exact h) rfl this
 by_cases hc:m.code=0
 ·have:=Sy L n k m hL hs h0;rw[EC hc]at this;exact xr (by simp) (fun _=>by rw[hc];rfl) (fun _ h=>by rw[hc]at h;exact h) rfl (fun _=>rfl) (fun _ h=>h) rfl this
 by_cases hn:m.code<1\/cF k.kind<m.code
 ·exact R6 L n k m hL hs h0 hc hn
 have hkd:k.kind=1\/k.kind=2\/k.kind=3\/k.kind=4\/k.kind=5\/k.kind=8\/k.kind=9\/k.kind=10:=by
  unfold cF at hn;grind
 rcases hkd with e|e|e|e|e|e|e|e
 ·have hq:cF k.kind=1:=by rw[e];decide
  have hcd:m.code=1:=by omega
  have f:=hcd
  ·exact sd e f (HN L n k m hL hs)
 ·have hq:cF k.kind=6:=by rw[e];decide
  have hcd:m.code=1\/m.code=2\/m.code=3\/m.code=4\/m.code=5\/m.code=6:=by omega
  rcases hcd with f|f|f|f|f|f
  ·exact sd e f (L2 L n k m hL hs)
  ·exact sd e f (Le L n k m hL hs)
  ·exact sd e f (Km L n k m hL hs)
  ·exact sd e f (KQ L n k m hL hs)
  ·exact sd e f (LW L n k m hL hs (by rw[wm e];exact hk))
  ·exact sd e f (It L n k m hL hs)
 ·have hq:cF k.kind=5:=by rw[e];decide
  have hcd:m.code=1\/m.code=2\/m.code=3\/m.code=4\/m.code=5:=by omega
  rcases hcd with f|f|f|f|f
  ·exact sd e f (L9 L n k m hL hs)
  ·exact sd e f (LY L n k m hL hs)
  ·exact sd e f (Iu L n k m hL hs)
  ·exact sd e f (M6 L n k m hL hs)
  ·exact sd e f (Mw L n k m hL hs (by rw[wm e];exact hk))
 ·have hq:cF k.kind=6:=by rw[e];decide
  have hcd:m.code=1\/m.code=2\/m.code=3\/m.code=4\/m.code=5\/m.code=6:=by omega
  rcases hcd with f|f|f|f|f|f
  ·exact sd e f (Ja L n k m hL hs)
  ·exact sd e f (HO L n k m hL hs)
  ·exact sd e f (L6 L n k m hL hs)
  ·exact sd e f (KU L n k m hL hs)
  ·exact sd e f (KK L n k m hL hs)
  ·exact sd e f (L8 L n k m hL hs)
 ·have hq:cF k.kind=7:=by rw[e];decide
  have hcd:m.code=1\/m.code=2\/m.code=3\/m.code=4\/m.code=5\/m.code=6\/m.code=7:=by omega
  rcases hcd with f|f|f|f|f|f|f
  ·exact sd e f (H2 L n k m hL hs)
  ·exact sd e f (MB L n k m hL hs)
  ·exact sd e f (Jr L n k m hL hs)
  ·exact sd e f (Kn L n k m hL hs)
  ·exact sd e f (Lb L n k m hL hs)
  ·exact sd e f (Ks L n k m hL hs)
  ·exact sd e f (I2 L n k m hL hs)
 ·have hq:cF k.kind=3:=by rw[e];decide
  have hcd:m.code=1\/m.code=2\/m.code=3:=by omega
  rcases hcd with f|f|f
  ·exact sd e f (HI L n k m hL hs)
  ·exact sd e f (JX L n k m hL hs)
  ·exact sd e f (JD L n k m hL hs)
 ·have hq:cF k.kind=1:=by rw[e];decide
  have hcd:m.code=1:=by omega
  have f:=hcd
  ·exact sd e f (IH L n k m hL hs)
 ·have hq:cF k.kind=1:=by rw[e];decide
  have hcd:m.code=1:=by omega
  have f:=hcd
  ·exact sd e f (GV L n k m hL hs)
theorem Dx:ll Tryz.prog 24 Rx:=by
 intro args res K KP h;unfold Rx at h;split at h
 case h_2=>exact h.elim
 split at h
 case h_2=>exact h.elim
 rename_i j off;split at h
 case isFalse=>exact h.elim
 rename_i hoff;have hoff:=XM.1 hoff;subst hoff;split at h
 case h_2=>exact h.elim
 rename_i t c hj;split at h
 case isFalse=>exact h.elim
 rename_i ht;have ht:=XM.1 ht;subst ht;split at h
 case h_2=>exact h.elim
 split at h
 case h_2=>exact h.elim
 rename_i mv sv nv kv;split at h
 case h_2=>exact h.elim
 rename_i m hm;split at h
 case h_2=>exact h.elim
 rename_i i o2;split at h
 case isFalse=>exact h.elim
 rename_i hij;simp only[XK,XM,Bool.not_eq_true',beq_eq_false_iff_ne,ne_eq]at hij;obtain⟨rfl,hij⟩:=hij;split at h
 case h_2=>exact h.elim
 rename_i n hn;split at h
 case h_2=>exact h.elim
 rename_i k hk;split at h
 case h_2=>exact h.elim
 rename_i t2 e L hi;split at h
 case isFalse=>exact h.elim
 rename_i hc;simp only[XK,XM]at hc;obtain⟨rfl,rfl⟩:=hc;obtain⟨⟨hL,hs,hok⟩,h⟩:=h;have hkj:known res j:=by unfold known;rw[hj];simp
 have hki:known res i:=by unfold known;rw[hi];simp
 have hlj:=aN hkj;have hli:=aN hki;have hlj':dr res j= .blk nb (.ag [mv,.lp i 0,nv,kv]):=by unfold dr;rw[hj]
 have im:=sI (κ:=kC 0 (dA [(j,false),(i,true)])) mv (M5 hm);have inn:=sI (κ:=kC 0 (dA [(j,false),(i,true)])) nv (qi hn);have ik:=sI (κ:=kC 0 (dA [(j,false),(i,true)])) kv (AM hk);have il:fk (kC 0 (dA [(j,false),(i,true)])) (.lp i 0)=some (.lp 1 0):=by simp[fk,kC,idxOf,dA,Ne.symm hij]
 have hb:fk (kC 0 (dA [(j,false),(i,true)])) (.ag [mv,.lp i 0,nv,kv])=some (.ag [mv,.lp 1 0,nv,kv]):=by unfold fk;rw[jJ im (jJ il (jJ inn (jJ ik rfl)))]
 have hres:ez (kC 0 (dA [(j,false),(i,true)])) res [(j,false),(i,true)]= [.ro (.blk nb (.ag [mv,.lp 1 0,nv,kv])),.store tS eS L]:=by simp only[ez,hlj',hi,fW,hb];rfl
 refine ai.frame (pl:= [(j,false),(i,true)]) (args0:= [.lp 0 0]) (K0:=kO (aM L n k m)) (KP0:=fun _ _=>False) (by simp[eA,cV.2 hkj,cV.2 hki]) (by simpa[gN,dA,na]using⟨⟨hlj,hij⟩,hli⟩) (by simp[eT,fk,kC,idxOf,dA]) ?_ (fun v r hv=>?_) (fun _ _ h=>h.elim)
 ·rw[hres];exact Mx (by simp) hm hn hk (Qk L n k m hL hs hok)
 ·obtain⟨h1,h2⟩:=Tu hv;have hm':merge [(j,false),(i,true)] [] r res=b8 res i (.store tS eS (dL L n k m)):=by simp[merge,eP,h2,fW,fO,aM]
  exact⟨[],kJ (dJ L n k m),rfl,by simp[jR,h2,iH],rfl,iC.j4 h1 rfl,by rw[hm'];exact h⟩
theorem Ej (k:Key):
 (decide (bD k=0)&&(!bg k||decide (cR k<0)))=cZ [] k:=by
 unfold cZ bD cR bg aX;simp only[aj,List.length_nil];grind
theorem Gj (L:List Sx.Obj) (k:Key):
 (decide (bD k=0)&&(!bg k||decide (cR k<ak L)))=cZ L k:=by
 unfold cZ bD cR bg aX ak;grind
theorem uS:cj Tryz.prog 21 KV:=
 eY (aJ tf (aJ gM cK)) (fun _=>rfl) fun a hq hok=>by
  obtain⟨S,k,_⟩:=a;cases S with
  |none=>exact br (inl:=bn) (ann:=aP) (ae bB (ae jf (ae eV an))) aC (Ej k) (by kernel_rfl)
  |some L=>exact br (inl:=bn) (ann:=aP) (ae bB (ae jf (ae eV an))) aC (Gj L k) (by kernel_rfl)
theorem Ta (n:Int) (k:Key) (m:bm) (hs:aA m.data):
 (decide (0<=n)=true->aI IntKind.i64 (cc m.data))/\0=(aB [] n k m).code/\ByteArray.mk (Array.mk [])=(aB [] n k m).data/\void=(aB [] n k m).k0/\void=(aB [] n k m).k1/\void
  =(aB [] n k m).k2/\false=cM [] n k m/\1=bP [] n k m:=by
 have hin:aI .i64 (cc m.data):=by have:=hs;unfold aA at this;unfold aI cg cc;omega
 have e:bP [] n k m=1:=by unfold bP;rw[XR (show aj ([]:List Sx.Obj)=0 from rfl)]
 have e1:aB [] n k m=dz:=by unfold aB;rw[e];rfl
 have e2:cM [] n k m=false:=by unfold cM;rw[e];rfl
 rw[e1,e2,e];exact⟨fun _=>hin,rfl,rfl,rfl,rfl,rfl,rfl,rfl⟩
theorem T1 (n:Int) (k:Key) (m:bm) (hs:aA m.data):
 (decide (0<=n)=true->aI IntKind.i64 (cc m.data))/\0=(aB [] n k m).code/\ByteArray.mk (Array.mk [])=(aB [] n k m).data/\void=(aB [] n k m).k0/\void=(aB [] n k m).k1/\void
  =(aB [] n k m).k2/\false=cM [] n k m/\1=bP [] n k m:=by
 have hin:aI .i64 (cc m.data):=by have:=hs;unfold aA at this;unfold aI cg cc;omega
 have e:bP [] n k m=1:=by unfold bP;rw[XR (show aj ([]:List Sx.Obj)=0 from rfl)]
 have e1:aB [] n k m=dz:=by unfold aB;rw[e];rfl
 have e2:cM [] n k m=false:=by unfold cM;rw[e];rfl
 rw[e1,e2,e];exact⟨fun _=>hin,rfl,rfl,rfl,rfl,rfl,rfl,rfl⟩
theorem Vz (L:List Sx.Obj) (n:Int) (k:Key) (m:bm) (hL:aq L) (hs:aA m.data):
 (decide (0<=n)=true->aI IntKind.i64 (cc m.data))/\(decide (ak L=0)=true->(0=(aB L n k m).code/\ByteArray.mk (Array.mk [])=(aB L n k m).data/\void=(aB L n k m).k0/\
  void=(aB L n k m).k1/\void=(aB L n k m).k2/\false=cM L n k m/\1=bP L n k m)/\L=fq L n k m)/\(decide (ak L=0)=false->((!(decide (0<=n)&&decide (cc m.data<=32)
  &&cZ L k&&cZ L m.k0&&cZ L m.k1&&cZ L m.k2))=true->(0=(aB L n k m).code/\ByteArray.mk (Array.mk [])=(aB L n k m).data/\void=(aB L n k m).k0/\void=(aB L n k
  m).k1/\void=(aB L n k m).k2/\false=cM L n k m/\2=bP L n k m)/\L=fq L n k m)/\((!(decide (0<=n)&&decide (cc m.data<=32)&&cZ L k&&cZ L m.k0&&cZ L m.k1&&
  cZ L m.k2))=false->((decide ((ab L k).kind=6)||decide ((ab L k).kind=7))=true->(0=(aB L n k m).code/\ByteArray.mk (Array.mk [])=(aB L n k m).data/\void=(aB L n k
  m).k0/\void=(aB L n k m).k1/\void=(aB L n k m).k2/\false=cM L n k m/\241=bP L n k m)/\L=fq L n k m)/\((decide ((ab L k).kind=6)||decide ((ab L k).kind=7))=
  false->true=true/\Rd L (ab L k) (bm.mk m.code m.data (ab L m.k0) (ab L m.k1) (ab L m.k2))/\((dJ L n (ab L k) (bm.mk m.code m.data (ab L m.k0) (ab L m.k1)
  (ab L m.k2))).code=(aB L n k m).code/\(dJ L n (ab L k) (bm.mk m.code m.data (ab L m.k0) (ab L m.k1) (ab L m.k2))).data=(aB L n k m).data/\(dJ L n (ab L k)
  (bm.mk m.code m.data (ab L m.k0) (ab L m.k1) (ab L m.k2))).k0=(aB L n k m).k0/\(dJ L n (ab L k) (bm.mk m.code m.data (ab L m.k0) (ab L m.k1) (ab L m.k2))).k1=
  (aB L n k m).k1/\(dJ L n (ab L k) (bm.mk m.code m.data (ab L m.k0) (ab L m.k1) (ab L m.k2))).k2=(aB L n k m).k2/\(decide ((ab L k).kind=10)&&decide (m.code=1))=
  cM L n k m/\0=bP L n k m)/\dL L n (ab L k) (bm.mk m.code m.data (ab L m.k0) (ab L m.k1) (ab L m.k2))=fq L n k m))):=by
 have hcn:bm.mk m.code m.data (ab L m.k0) (ab L m.k1) (ab L m.k2)=aL L m:=rfl;simp only[hcn];have hin:aI .i64 (cc m.data):=by have:=hs;unfold aA at this;unfold aI cg cc;omega
 have hf:(decide (0<=n)&&decide (cc m.data<=32)&&cZ L k&&cZ L m.k0&&cZ L m.k1&&cZ L m.k2)=pc L n k m:=by
  unfold pc qZ;cases decide (0<=n)<;>cases decide (cc m.data<=32)<;>cases cZ L k<;>cases cZ L m.k0<;>cases cZ L m.k1<;>cases cZ L m.k2<;>rfl
 rw[hf];have hsz:ak L=0↔aj L=0:=by unfold ak;simp[cw]
 have no:∀e:Int,bP L n k m=e->e≠0->(0=(aB L n k m).code/\ByteArray.mk (Array.mk [])=(aB L n k m).data/\void=(aB L n k m).k0/\void=(aB L n k m).k1/\void=(aB L n k m).k2/\false=cM L n k m/\e=bP L n k m)/\L=fq L n k m:=fun e he h0=>by
  have e1:aB L n k m=dz:=by unfold aB;rw[he,XQ h0]
  have e2:cM L n k m=false:=by unfold cM;rw[he];simp[h0]
  have e3:fq L n k m=L:=by unfold fq;rw[he,XQ h0]
  rw[e1,e2,e3,he];exact⟨⟨rfl,rfl,rfl,rfl,rfl,rfl,rfl⟩,rfl⟩
 refine⟨fun _=>hin,fun h=>?_,fun h=>⟨fun h2=>?_,fun h2=>⟨fun h3=>?_,fun h3=>?_⟩⟩⟩
 ·have h:=hsz.1 (by simpa using h)
  exact no 1 (by unfold bP;rw[XR h]) (by omega)
 ·have h:¬aj L=0:=fun e=>by simp[hsz.2 e]at h
  have h2:pc L n k m=false:=by simpa using h2
  exact no 2 (by unfold bP;rw[XQ h,XR h2]) (by omega)
 ·have h:¬aj L=0:=fun e=>by simp[hsz.2 e]at h
  have h2:pc L n k m=true:=by simpa using h2
  have h3:(ab L k).kind=6\/(ab L k).kind=7:=by simpa using h3
  exact no 241 (by unfold bP;rw[XQ h,XQ (by simp[h2]),XR h3]) (by omega)
 ·have h:¬aj L=0:=fun e=>by simp[hsz.2 e]at h
  have h2:pc L n k m=true:=by simpa using h2
  have h3:¬((ab L k).kind=6\/(ab L k).kind=7):=by simpa using h3
  have he:bP L n k m=0:=by unfold bP;rw[XQ h,XQ (by simp[h2]),XQ h3]
  have e1:aB L n k m=dJ L n (ab L k) (aL L m):=by unfold aB;rw[XR he]
  have e2:cM L n k m=(decide ((ab L k).kind=10)&&decide (m.code=1)):=by unfold cM;rw[he];rfl
  have e3:fq L n k m=dL L n (ab L k) (aL L m):=by unfold fq;rw[XR he]
  rw[e1,e2,e3,he];exact⟨trivial,⟨hL,hs,rV⟩,⟨rfl,rfl,rfl,rfl,rfl,rfl,rfl⟩,rfl⟩
theorem VX (L:List Sx.Obj) (n:Int) (k:Key) (m:bm) (hL:aq L) (hs:aA m.data):ai Tryz.prog 12 [.lp 0 0,.it .i64 n,.key k,kJ m] [.store tS eS L] (CP (.tp [kJ (aB L n k m),.bo (cM L n k m),.it .i64 (bP L n k m)]) (fq L n k m)) (fun _ _=>False):=
 br (inl:=bn) (ann:=(jC [(12,3,Ve 4)])) (ae bB (ae kV (ae uS an))) (aF Dx aC) (Vz L n k m hL hs) (by kernel_rfl)
theorem Rq:ll Tryz.prog 12 WO:=
 Ii (m:=fun x=>Ji.cn x 0) (gg Fi (fun _=>rfl)) (fun _=>rfl) (fun _ _=>rfl) (fun x hs=>br (inl:=bn) (ann:=(jC [(12,3,Ve 4)])) (ae FH (ae kV (ae uS an))) (aF Dx aC) (Ta x.1 x.2.1 x.2.2.1 hs) (by kernel_rfl)) (fun x hs=>br (inl:=bn) (ann:=(jC [(12,3,Ve 4)])) (ae FH (ae kV (ae uS an))) (aF Dx aC) (T1 x.1 x.2.1 x.2.2.1 hs) (by kernel_rfl)) fun L x hq=>VX L x.1 x.2.1 x.2.2.1 hq.1 hq.2
end Go.Proofs.YtghpaegglbbocaaGreat
