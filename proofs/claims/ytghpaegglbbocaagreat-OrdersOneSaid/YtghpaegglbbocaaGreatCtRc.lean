import Derived.Test.YtghpaegglbbocaaGreatCtRb
import Derived.Test.YtghpaegglbbocaaGreatKS
set_option linter.unusedSimpArgs false
set_option linter.unusedVariables false
namespace Go.Proofs.YtghpaegglbbocaaGreat
open Go.Sx
set_option maxRecDepth 100000
theorem E5:ck Tryz.prog 23 EZ:=Rn bB
theorem TT (L:List Sx.Obj) (n:Int) (k:Key) (m:bm) (hL:aq L) (hs:aw m.data):
 true=true/\(bm.mk 190 eB void void void,L)=aM L n (kk 0 k) m:=by
 simp+decide [aM,dH,dM,dq,ee,dQ,dP,cY,cU,cD,cH,ec,e9,fx,fA,cI,void,dg,eB,aO,dD,eZ,ey,kk,mm,hL,hs];try grind
theorem Tg (L:List Sx.Obj) (n:Int) (k:Key) (m:bm) (hL:aq L) (hs:aw m.data):ai Tryz.prog 24 [.lp 0 0] [.ro (.blk ny (gF (.it .i64 m.code) m n (.ci .i64 0) k)),.store tS eS L] (kO (aM L n ((kk 0 k)) (m))) (fun _ _=>False):=
 aW (inl:=(fun f=>f==37||f==58||f==68||f==62||f==141||f==102||f==172||f==93||f==64||f==90||f==89||f==38||f==60||f==101||f==105)) (ann:=aP) (ab cT ak) aC (dU bK) (TT L n k m hL hs) (by kernel_rfl)
theorem S1 (L:List Sx.Obj) (n:Int) (k:Key) (m:bm) (hL:aq L) (hs:aw m.data) (hz:¬k.kind=0):
 true=true/\((!!decide (k.kind=0))=true->(bm.mk 190 eB void void void,L)=aM L n k (mm 0 m))/\((!!decide (k.kind=0))=false->true=true/\true=true/\(bm.mk 0 eB void void (Key.mk
  1 void.oid void.count void.call void.rights k.kind),L)=aM L n k (mm 0 m)):=by
 have hX:aM L n k (mm 0 m)=(e9 k.kind,L):=by
  have hr:dq L n k (mm 0 m)=(0,e9 k.kind,L):=by
   unfold dq;rw[Yu hz,Yv (show(mm 0 m).code=0 from rfl)]
  simp[aM,dH,dM,hr]
 rw[hX];simp[hz];rfl
theorem SH (L:List Sx.Obj) (n:Int) (k:Key) (m:bm) (hL:aq L) (hs:aw m.data) (hz:¬k.kind=0):ai Tryz.prog 24 [.lp 0 0] [.ro (.blk ny (gF (.ci .i64 0) m n (.it .i64 k.kind) k)),.store tS eS L] (kO (aM L n (k) ((mm 0 m)))) (fun _ _=>False):=
 aW (inl:=(fun f=>f==37||f==58||f==68||f==62||f==141||f==102||f==172||f==93||f==64||f==90||f==89||f==38||f==60||f==101||f==105)) (ann:=aP) (ab cT ak) aC (dU bK) (S1 L n k m hL hs hz) (by kernel_rfl)
theorem UI (L:List Sx.Obj) (n:Int) (k:Key) (m:bm) (hL:aq L) (hs:aw m.data) (hz:¬k.kind=0) (hc:¬m.code=0) (hn:m.code<1\/cH k.kind<m.code):
 true=true/\((!!decide (k.kind=0))=true->(bm.mk 190 eB void void void,L)=aM L n k m)/\((!!decide (k.kind=0))=false->(decide (m.code=0)=true->true=true/\true=true/\(bm.mk
  0 eB void void (Key.mk 1 void.oid void.count void.call void.rights k.kind),L)=aM L n k m)/\(decide (m.code=0)=false->true=true/\((!(oc 1 1 k m||(oc 2 1 k m||(oc 2 2 k m||(oc 2 3 k
  m||(oc 2 4 k m||(oc 2 5 k m||(oc 2 6 k m||(oc 3 1 k m||(oc 3 2 k m||(oc 3 3 k m||(oc 3 4 k m||(oc 3 5 k m||(oc 4 1 k m||(oc 4 2 k m||(oc 4 3 k m||(oc 4 4 k m||(oc 4 5 k m||
  (oc 4 6 k m||(oc 5 1 k m||(oc 5 2 k m||(oc 5 3 k m||(oc 5 4 k m||(oc 5 5 k m||(oc 5 6 k m||(oc 5 7 k m||(oc 8 1 k m||(oc 8 2 k m||(oc 8 3 k m||(oc 9 1 k m||oc 10 1 k
  m))))))))))))))))))))))))))))))=true->(bm.mk 240 eB void void void,L)=aM L n k m)/\((!(oc 1 1 k m||(oc 2 1 k m||(oc 2 2 k m||(oc 2 3 k m||(oc 2 4 k m||(oc 2 5 k m||(oc 2 6 k m||
  (oc 3 1 k m||(oc 3 2 k m||(oc 3 3 k m||(oc 3 4 k m||(oc 3 5 k m||(oc 4 1 k m||(oc 4 2 k m||(oc 4 3 k m||(oc 4 4 k m||(oc 4 5 k m||(oc 4 6 k m||(oc 5 1 k m||(oc 5 2 k m||(oc 5
  3 k m||(oc 5 4 k m||(oc 5 5 k m||(oc 5 6 k m||(oc 5 7 k m||(oc 8 1 k m||(oc 8 2 k m||(oc 8 3 k m||(oc 9 1 k m||oc 10 1 k m))))))))))))))))))))))))))))))=false->((oc 1 1 k m)=true
  ->true=true/\False)/\((oc 1 1 k m)=false->((oc 2 1 k m)=true->true=true/\False)/\((oc 2 1 k m)=false->((oc 2 2 k m)=true->true=true/\False)/\((oc 2 2 k m)=false->((oc 2 3 k
  m)=true->true=true/\False)/\((oc 2 3 k m)=false->((oc 2 4 k m)=true->true=true/\False)/\((oc 2 4 k m)=false->((oc 2 5 k m)=true->true=true/\False)/\((oc 2 5 k m)=false->
  ((oc 2 6 k m)=true->true=true/\False)/\((oc 2 6 k m)=false->((oc 3 1 k m)=true->true=true/\False)/\((oc 3 1 k m)=false->((oc 3 2 k m)=true->true=true/\False)/\((oc 3 2 k m)=
  false->((oc 3 3 k m)=true->true=true/\False)/\((oc 3 3 k m)=false->((oc 3 4 k m)=true->true=true/\False)/\((oc 3 4 k m)=false->((oc 3 5 k m)=true->true=true/\False)/\((oc 3
  5 k m)=false->((oc 4 1 k m)=true->true=true/\False)/\((oc 4 1 k m)=false->((oc 4 2 k m)=true->true=true/\False)/\((oc 4 2 k m)=false->((oc 4 3 k m)=true->true=true/\False)
  /\((oc 4 3 k m)=false->((oc 4 4 k m)=true->true=true/\False)/\((oc 4 4 k m)=false->((oc 4 5 k m)=true->true=true/\False)/\((oc 4 5 k m)=false->((oc 4 6 k m)=true->true=true
  /\False)/\((oc 4 6 k m)=false->((oc 5 1 k m)=true->true=true/\False)/\((oc 5 1 k m)=false->((oc 5 2 k m)=true->true=true/\False)/\((oc 5 2 k m)=false->((oc 5 3 k m)=true->
  true=true/\False)/\((oc 5 3 k m)=false->((oc 5 4 k m)=true->true=true/\False)/\((oc 5 4 k m)=false->((oc 5 5 k m)=true->true=true/\False)/\((oc 5 5 k m)=false->((oc 5 6 k m)
  =true->true=true/\False)/\((oc 5 6 k m)=false->((oc 5 7 k m)=true->true=true/\False)/\((oc 5 7 k m)=false->((oc 8 1 k m)=true->true=true/\False)/\((oc 8 1 k m)=false->((oc
  8 2 k m)=true->true=true/\False)/\((oc 8 2 k m)=false->((oc 8 3 k m)=true->true=true/\False)/\((oc 8 3 k m)=false->((oc 9 1 k m)=true->true=true/\False)/\((oc 9 1 k m)=
  false->((oc 10 1 k m)=true->true=true/\False)/\((oc 10 1 k m)=false->False))))))))))))))))))))))))))))))))):=by
 have hX:aM L n k m=(fx 240,L):=by
  have hr:dq L n k m=(240,dg,L):=by
   unfold dq;rw[Yu hz,Yu hc,Yv (by rcases hn with h|h;exact .inl h;exact .inr (.inl h))]
  simp[aM,dH,dM,hr]
 rw[hX]
 have hq:∀a b:Int,1<=b->b<=cH a->oc a b k m=false:=fun a b h1 h2=>by
  cases h:oc a b k m with
  |false=>rfl
  |true=>
   unfold oc at h;simp only[Yo,Yp]at h;obtain⟨rfl,rfl⟩:=h;omega
 have f1_1:oc 1 1 k m=false:=hq 1 1 (by omega) (by decide)
 have f2_1:oc 2 1 k m=false:=hq 2 1 (by omega) (by decide)
 have f2_2:oc 2 2 k m=false:=hq 2 2 (by omega) (by decide)
 have f2_3:oc 2 3 k m=false:=hq 2 3 (by omega) (by decide)
 have f2_4:oc 2 4 k m=false:=hq 2 4 (by omega) (by decide)
 have f2_5:oc 2 5 k m=false:=hq 2 5 (by omega) (by decide)
 have f2_6:oc 2 6 k m=false:=hq 2 6 (by omega) (by decide)
 have f3_1:oc 3 1 k m=false:=hq 3 1 (by omega) (by decide)
 have f3_2:oc 3 2 k m=false:=hq 3 2 (by omega) (by decide)
 have f3_3:oc 3 3 k m=false:=hq 3 3 (by omega) (by decide)
 have f3_4:oc 3 4 k m=false:=hq 3 4 (by omega) (by decide)
 have f3_5:oc 3 5 k m=false:=hq 3 5 (by omega) (by decide)
 have f4_1:oc 4 1 k m=false:=hq 4 1 (by omega) (by decide)
 have f4_2:oc 4 2 k m=false:=hq 4 2 (by omega) (by decide)
 have f4_3:oc 4 3 k m=false:=hq 4 3 (by omega) (by decide)
 have f4_4:oc 4 4 k m=false:=hq 4 4 (by omega) (by decide)
 have f4_5:oc 4 5 k m=false:=hq 4 5 (by omega) (by decide)
 have f4_6:oc 4 6 k m=false:=hq 4 6 (by omega) (by decide)
 have f5_1:oc 5 1 k m=false:=hq 5 1 (by omega) (by decide)
 have f5_2:oc 5 2 k m=false:=hq 5 2 (by omega) (by decide)
 have f5_3:oc 5 3 k m=false:=hq 5 3 (by omega) (by decide)
 have f5_4:oc 5 4 k m=false:=hq 5 4 (by omega) (by decide)
 have f5_5:oc 5 5 k m=false:=hq 5 5 (by omega) (by decide)
 have f5_6:oc 5 6 k m=false:=hq 5 6 (by omega) (by decide)
 have f5_7:oc 5 7 k m=false:=hq 5 7 (by omega) (by decide)
 have f8_1:oc 8 1 k m=false:=hq 8 1 (by omega) (by decide)
 have f8_2:oc 8 2 k m=false:=hq 8 2 (by omega) (by decide)
 have f8_3:oc 8 3 k m=false:=hq 8 3 (by omega) (by decide)
 have f9_1:oc 9 1 k m=false:=hq 9 1 (by omega) (by decide)
 have f10_1:oc 10 1 k m=false:=hq 10 1 (by omega) (by decide)
 simp only[f1_1,f2_1,f2_2,f2_3,f2_4,f2_5,f2_6,f3_1,f3_2,f3_3,f3_4,f3_5,f4_1,f4_2,f4_3,f4_4,f4_5,f4_6,f5_1,f5_2,f5_3,f5_4,f5_5,f5_6,f5_7,f8_1,f8_2,f8_3,f9_1,f10_1];simp[hz,hc];rfl
theorem Uw (L:List Sx.Obj) (n:Int) (k:Key) (m:bm) (hL:aq L) (hs:aw m.data) (hz:¬k.kind=0) (hc:¬m.code=0) (hn:m.code<1\/cH k.kind<m.code):ai Tryz.prog 24 [.lp 0 0] [.ro (.blk ny (gF (.it .i64 m.code) m n (.it .i64 k.kind) k)),.store tS eS L] (kO (aM L n (k) (m))) (fun _ _=>False):=
 aW (inl:=(fun f=>f==37||f==58||f==68||f==62||f==141||f==102||f==172||f==93||f==64||f==90||f==89||f==38||f==60||f==101||f==105)) (ann:=aP) (ab cT ak) aC (dU bK) (UI L n k m hL hs hz hc hn) (by kernel_rfl)
theorem sG {L:List Sx.Obj} {n:Int} {k:Key} {m:bm} {kd cd:Int} (hk:k.kind=kd) (hc:m.code=cd) (h:ai Tryz.prog 24 [.lp 0 0] [.ro (.blk ny (gF (.ci .i64 cd) m n (.ci .i64 kd) k)),.store tS eS L] (kO (aM L n (kk kd k) (mm cd m))) (fun _ _=>False)):
  ai Tryz.prog 24 [.lp 0 0] [.ro (.blk ny (gF (.it .i64 m.code) m n (.it .i64 k.kind) k)),.store tS eS L] (kO (aM L n k m)) (fun _ _=>False):=by
 rw[v9 hk,FO hc]at h;subst hk;subst hc;exact xi (c':= .ci .i64 m.code) (d':= .ci .i64 k.kind) (by simp) (fun _=>rfl) (fun _ h=>h) rfl (fun _=>rfl) (fun _ h=>h) rfl h
theorem PF (L:List Sx.Obj) (n:Int) (k:Key) (m:bm) (hL:aq L) (hs:aw m.data) (hk:aT k=true):ai Tryz.prog 24 [.lp 0 0] [.ro (.blk ny (gF (.it .i64 m.code) m n (.it .i64 k.kind) k)),.store tS eS L] (kO (aM L n k m)) (fun _ _=>False):=by
 by_cases h0:k.kind=0
 ·have:=Tg L n k m hL hs;rw[v9 h0]at this;exact xi (by simp) (fun _=>rfl) (fun _ h=>h) rfl (fun _=>by rw[h0];rfl) (fun _ h=>by rw[h0]at h;exact h) rfl this
 by_cases hc:m.code=0
 ·have:=SH L n k m hL hs h0;rw[FO hc]at this;exact xi (by simp) (fun _=>by rw[hc];rfl) (fun _ h=>by rw[hc]at h;exact h) rfl (fun _=>rfl) (fun _ h=>h) rfl this
 by_cases hn:m.code<1\/cH k.kind<m.code
 ·exact Uw L n k m hL hs h0 hc hn
 have hkd:k.kind=1\/k.kind=2\/k.kind=3\/k.kind=4\/k.kind=5\/k.kind=8\/k.kind=9\/k.kind=10:=by
  unfold cH at hn;grind
 rcases hkd with e|e|e|e|e|e|e|e
 ·have hq:cH k.kind=1:=by rw[e];decide
  have hcd:m.code=1:=by omega
  have f:=hcd
  ·exact sG e f (NO L n k m hL hs)
 ·have hq:cH k.kind=6:=by rw[e];decide
  have hcd:m.code=1\/m.code=2\/m.code=3\/m.code=4\/m.code=5\/m.code=6:=by omega
  rcases hcd with f|f|f|f|f|f
  ·exact sG e f (MP L n k m hL hs)
  ·exact sG e f (JQ L n k m hL hs)
  ·exact sG e f (J2 L n k m hL hs)
  ·exact sG e f (MJ L n k m hL hs)
  ·exact sG e f (Ko L n k m hL hs (by rw[v9 e];exact hk))
  ·exact sG e f (JG L n k m hL hs)
 ·have hq:cH k.kind=5:=by rw[e];decide
  have hcd:m.code=1\/m.code=2\/m.code=3\/m.code=4\/m.code=5:=by omega
  rcases hcd with f|f|f|f|f
  ·exact sG e f (Ml L n k m hL hs)
  ·exact sG e f (MM L n k m hL hs)
  ·exact sG e f (Kc L n k m hL hs)
  ·exact sG e f (MO L n k m hL hs)
  ·exact sG e f (MK L n k m hL hs (by rw[v9 e];exact hk))
 ·have hq:cH k.kind=6:=by rw[e];decide
  have hcd:m.code=1\/m.code=2\/m.code=3\/m.code=4\/m.code=5\/m.code=6:=by omega
  rcases hcd with f|f|f|f|f|f
  ·exact sG e f (Nx L n k m hL hs)
  ·exact sG e f (Mf L n k m hL hs)
  ·exact sG e f (Ja L n k m hL hs)
  ·exact sG e f (NL L n k m hL hs)
  ·exact sG e f (LZ L n k m hL hs)
  ·exact sG e f (M4 L n k m hL hs)
 ·have hq:cH k.kind=7:=by rw[e];decide
  have hcd:m.code=1\/m.code=2\/m.code=3\/m.code=4\/m.code=5\/m.code=6\/m.code=7:=by omega
  rcases hcd with f|f|f|f|f|f|f
  ·exact sG e f (Il L n k m hL hs)
  ·exact sG e f (Ke L n k m hL hs)
  ·exact sG e f (Kq L n k m hL hs)
  ·exact sG e f (KC L n k m hL hs)
  ·exact sG e f (IP L n k m hL hs)
  ·exact sG e f (Jn L n k m hL hs)
  ·exact sG e f (Jt L n k m hL hs)
 ·have hq:cH k.kind=3:=by rw[e];decide
  have hcd:m.code=1\/m.code=2\/m.code=3:=by omega
  rcases hcd with f|f|f
  ·exact sG e f (Nc L n k m hL hs)
  ·exact sG e f (Jy L n k m hL hs)
  ·exact sG e f (Lr L n k m hL hs)
 ·have hq:cH k.kind=1:=by rw[e];decide
  have hcd:m.code=1:=by omega
  have f:=hcd
  ·exact sG e f (Iz L n k m hL hs)
 ·have hq:cH k.kind=1:=by rw[e];decide
  have hcd:m.code=1:=by omega
  have f:=hcd
  ·exact sG e f (Hk L n k m hL hs)
theorem E2:lG Tryz.prog 24 R4:=by
 intro args res K KP h;unfold R4 at h;split at h
 case h_2=>exact h.elim
 split at h
 case h_2=>exact h.elim
 rename_i j off;split at h
 case isFalse=>exact h.elim
 rename_i hoff;have hoff:=Yq.1 hoff;subst hoff;split at h
 case h_2=>exact h.elim
 rename_i t c hj;split at h
 case isFalse=>exact h.elim
 rename_i ht;have ht:=Yq.1 ht;subst ht;split at h
 case h_2=>exact h.elim
 split at h
 case h_2=>exact h.elim
 rename_i mv sv nv kv;split at h
 case h_2=>exact h.elim
 rename_i m hm;split at h
 case h_2=>exact h.elim
 rename_i i o2;split at h
 case isFalse=>exact h.elim
 rename_i hij;simp only[Yo,Yq,Bool.not_eq_true',beq_eq_false_iff_ne,ne_eq]at hij;obtain⟨rfl,hij⟩:=hij;split at h
 case h_2=>exact h.elim
 rename_i n hn;split at h
 case h_2=>exact h.elim
 rename_i k hk;split at h
 case h_2=>exact h.elim
 rename_i t2 e L hi;split at h
 case isFalse=>exact h.elim
 rename_i hc;simp only[Yo,Yq]at hc;obtain⟨rfl,rfl⟩:=hc;obtain⟨⟨hL,hs,hok⟩,h⟩:=h;have hkj:known res j:=by unfold known;rw[hj];simp
 have hki:known res i:=by unfold known;rw[hi];simp
 have hlj:=aN hkj;have hli:=aN hki;have hlj':dc res j= .blk ny (.ag [mv,.lp i 0,nv,kv]):=by unfold dc;rw[hj]
 have im:=ub (κ:=kH 0 (dz [(j,false),(i,true)])) mv (LP hm);have inn:=ub (κ:=kH 0 (dz [(j,false),(i,true)])) nv (qk hn);have ik:=ub (κ:=kH 0 (dz [(j,false),(i,true)])) kv (BU hk);have il:fm (kH 0 (dz [(j,false),(i,true)])) (.lp i 0)=some (.lp 1 0):=by simp[fm,kH,idxOf,dz,Ne.symm hij]
 have hb:fm (kH 0 (dz [(j,false),(i,true)])) (.ag [mv,.lp i 0,nv,kv])=some (.ag [mv,.lp 1 0,nv,kv]):=by unfold fm;rw[jN im (jN il (jN inn (jN ik rfl)))]
 have hres:eA (kH 0 (dz [(j,false),(i,true)])) res [(j,false),(i,true)]= [.ro (.blk ny (.ag [mv,.lp 1 0,nv,kv])),.store tS eS L]:=by simp only[eA,hlj',hi,ga,hb];rfl
 refine ai.frame (pl:= [(j,false),(i,true)]) (args0:= [.lp 0 0]) (K0:=kO (aM L n k m)) (KP0:=fun _ _=>False) (by simp[ez,cV.2 hkj,cV.2 hki]) (by simpa[gO,dz,nz]using⟨⟨hlj,hij⟩,hli⟩) (by simp[eN,fm,kH,idxOf,dz]) ?_ (fun v r hv=>?_) (fun _ _ h=>h.elim)
 ·rw[hres];exact Ma (by simp) hm hn hk (PF L n k m hL hs hok)
 ·obtain⟨h1,h2⟩:=T1 hv;have hm':merge [(j,false),(i,true)] [] r res=cc res i (.store tS eS (dM L n k m)):=by simp[merge,eM,h2,ga,fI,aM]
  exact⟨[],jS (dH L n k m),rfl,by simp[jQ,h2,iP],rfl,iI.j6 h1 rfl,by rw[hm'];exact h⟩
theorem ET (k:Key):
 (decide (bD k=0)&&(!bg k||decide (cS k<0)))=cZ [] k:=by
 unfold cZ bD cS bg aY;simp only[aj,List.length_nil];grind
theorem HV (L:List Sx.Obj) (k:Key):
 (decide (bD k=0)&&(!bg k||decide (cS k<an L)))=cZ L k:=by
 unfold cZ bD cS bg aY an;grind
theorem uM:ck Tryz.prog 21 Jx:=
 eO (aJ tR (aJ gR cF)) (fun _=>rfl) fun a hq hok=>by
  obtain⟨S,k,_⟩:=a;cases S with
  |none=>exact bp (inl:=bn) (ann:=aP) (ab bB (ab je (ab eY ak))) aC (ET k) (by kernel_rfl)
  |some L=>exact bp (inl:=bn) (ann:=aP) (ab bB (ab je (ab eY ak))) aC (HV L k) (by kernel_rfl)
theorem Ur (n:Int) (k:Key) (m:bm) (hs:aw m.data):
 (decide (0<=n)=true->aG IntKind.i64 (bW m.data))/\0=(aB [] n k m).code/\ByteArray.mk (Array.mk [])=(aB [] n k m).data/\void=(aB [] n k m).k0/\void=(aB [] n k m).k1/\void
  =(aB [] n k m).k2/\false=cz [] n k m/\1=bI [] n k m:=by
 have hin:aG .i64 (bW m.data):=by have:=hs;unfold aw at this;unfold aG bY bW;omega
 have e:bI [] n k m=1:=by unfold bI;rw[Yv (show aj ([]:List Sx.Obj)=0 from rfl)]
 have e1:aB [] n k m=dg:=by unfold aB;rw[e];rfl
 have e2:cz [] n k m=false:=by unfold cz;rw[e];rfl
 rw[e1,e2,e];exact⟨fun _=>hin,rfl,rfl,rfl,rfl,rfl,rfl,rfl⟩
theorem Ud (n:Int) (k:Key) (m:bm) (hs:aw m.data):
 (decide (0<=n)=true->aG IntKind.i64 (bW m.data))/\0=(aB [] n k m).code/\ByteArray.mk (Array.mk [])=(aB [] n k m).data/\void=(aB [] n k m).k0/\void=(aB [] n k m).k1/\void
  =(aB [] n k m).k2/\false=cz [] n k m/\1=bI [] n k m:=by
 have hin:aG .i64 (bW m.data):=by have:=hs;unfold aw at this;unfold aG bY bW;omega
 have e:bI [] n k m=1:=by unfold bI;rw[Yv (show aj ([]:List Sx.Obj)=0 from rfl)]
 have e1:aB [] n k m=dg:=by unfold aB;rw[e];rfl
 have e2:cz [] n k m=false:=by unfold cz;rw[e];rfl
 rw[e1,e2,e];exact⟨fun _=>hin,rfl,rfl,rfl,rfl,rfl,rfl,rfl⟩
theorem VT (L:List Sx.Obj) (n:Int) (k:Key) (m:bm) (hL:aq L) (hs:aw m.data):
 (decide (0<=n)=true->aG IntKind.i64 (bW m.data))/\(decide (an L=0)=true->(0=(aB L n k m).code/\ByteArray.mk (Array.mk [])=(aB L n k m).data/\void=(aB L n k m).k0/\
  void=(aB L n k m).k1/\void=(aB L n k m).k2/\false=cz L n k m/\1=bI L n k m)/\L=fo L n k m)/\(decide (an L=0)=false->((!(decide (0<=n)&&decide (bW m.data<=32)
  &&cZ L k&&cZ L m.k0&&cZ L m.k1&&cZ L m.k2))=true->(0=(aB L n k m).code/\ByteArray.mk (Array.mk [])=(aB L n k m).data/\void=(aB L n k m).k0/\void=(aB L n k
  m).k1/\void=(aB L n k m).k2/\false=cz L n k m/\2=bI L n k m)/\L=fo L n k m)/\((!(decide (0<=n)&&decide (bW m.data<=32)&&cZ L k&&cZ L m.k0&&cZ L m.k1&&
  cZ L m.k2))=false->((decide ((ae L k).kind=6)||decide ((ae L k).kind=7))=true->(0=(aB L n k m).code/\ByteArray.mk (Array.mk [])=(aB L n k m).data/\void=(aB L n k
  m).k0/\void=(aB L n k m).k1/\void=(aB L n k m).k2/\false=cz L n k m/\241=bI L n k m)/\L=fo L n k m)/\((decide ((ae L k).kind=6)||decide ((ae L k).kind=7))=
  false->true=true/\R5 L (ae L k) (bm.mk m.code m.data (ae L m.k0) (ae L m.k1) (ae L m.k2))/\((dH L n (ae L k) (bm.mk m.code m.data (ae L m.k0) (ae L m.k1)
  (ae L m.k2))).code=(aB L n k m).code/\(dH L n (ae L k) (bm.mk m.code m.data (ae L m.k0) (ae L m.k1) (ae L m.k2))).data=(aB L n k m).data/\(dH L n (ae L k)
  (bm.mk m.code m.data (ae L m.k0) (ae L m.k1) (ae L m.k2))).k0=(aB L n k m).k0/\(dH L n (ae L k) (bm.mk m.code m.data (ae L m.k0) (ae L m.k1) (ae L m.k2))).k1=
  (aB L n k m).k1/\(dH L n (ae L k) (bm.mk m.code m.data (ae L m.k0) (ae L m.k1) (ae L m.k2))).k2=(aB L n k m).k2/\(decide ((ae L k).kind=10)&&decide (m.code=1))=
  cz L n k m/\0=bI L n k m)/\dM L n (ae L k) (bm.mk m.code m.data (ae L m.k0) (ae L m.k1) (ae L m.k2))=fo L n k m))):=by
 have hcn:bm.mk m.code m.data (ae L m.k0) (ae L m.k1) (ae L m.k2)=aL L m:=rfl;simp only[hcn];have hin:aG .i64 (bW m.data):=by have:=hs;unfold aw at this;unfold aG bY bW;omega
 have hf:(decide (0<=n)&&decide (bW m.data<=32)&&cZ L k&&cZ L m.k0&&cZ L m.k1&&cZ L m.k2)=ph L n k m:=by
  unfold ph rH;cases decide (0<=n)<;>cases decide (bW m.data<=32)<;>cases cZ L k<;>cases cZ L m.k0<;>cases cZ L m.k1<;>cases cZ L m.k2<;>rfl
 rw[hf];have hsz:an L=0↔aj L=0:=by unfold an;simp[b9]
 have no:∀e:Int,bI L n k m=e->e≠0->(0=(aB L n k m).code/\ByteArray.mk (Array.mk [])=(aB L n k m).data/\void=(aB L n k m).k0/\void=(aB L n k m).k1/\void=(aB L n k m).k2/\false=cz L n k m/\e=bI L n k m)/\L=fo L n k m:=fun e he h0=>by
  have e1:aB L n k m=dg:=by unfold aB;rw[he,Yu h0]
  have e2:cz L n k m=false:=by unfold cz;rw[he];simp[h0]
  have e3:fo L n k m=L:=by unfold fo;rw[he,Yu h0]
  rw[e1,e2,e3,he];exact⟨⟨rfl,rfl,rfl,rfl,rfl,rfl,rfl⟩,rfl⟩
 refine⟨fun _=>hin,fun h=>?_,fun h=>⟨fun h2=>?_,fun h2=>⟨fun h3=>?_,fun h3=>?_⟩⟩⟩
 ·have h:=hsz.1 (by simpa using h)
  exact no 1 (by unfold bI;rw[Yv h]) (by omega)
 ·have h:¬aj L=0:=fun e=>by simp[hsz.2 e]at h
  have h2:ph L n k m=false:=by simpa using h2
  exact no 2 (by unfold bI;rw[Yu h,Yv h2]) (by omega)
 ·have h:¬aj L=0:=fun e=>by simp[hsz.2 e]at h
  have h2:ph L n k m=true:=by simpa using h2
  have h3:(ae L k).kind=6\/(ae L k).kind=7:=by simpa using h3
  exact no 241 (by unfold bI;rw[Yu h,Yu (by simp[h2]),Yv h3]) (by omega)
 ·have h:¬aj L=0:=fun e=>by simp[hsz.2 e]at h
  have h2:ph L n k m=true:=by simpa using h2
  have h3:¬((ae L k).kind=6\/(ae L k).kind=7):=by simpa using h3
  have he:bI L n k m=0:=by unfold bI;rw[Yu h,Yu (by simp[h2]),Yu h3]
  have e1:aB L n k m=dH L n (ae L k) (aL L m):=by unfold aB;rw[Yv he]
  have e2:cz L n k m=(decide ((ae L k).kind=10)&&decide (m.code=1)):=by unfold cz;rw[he];rfl
  have e3:fo L n k m=dM L n (ae L k) (aL L m):=by unfold fo;rw[Yv he]
  rw[e1,e2,e3,he];exact⟨trivial,⟨hL,hs,rT⟩,⟨rfl,rfl,rfl,rfl,rfl,rfl,rfl⟩,rfl⟩
theorem We (L:List Sx.Obj) (n:Int) (k:Key) (m:bm) (hL:aq L) (hs:aw m.data):ai Tryz.prog 12 [.lp 0 0,.it .i64 n,.key k,jS m] [.store tS eS L] (B8 (.tp [jS (aB L n k m),.bo (cz L n k m),.it .i64 (bI L n k m)]) (fo L n k m)) (fun _ _=>False):=
 bp (inl:=bn) (ann:=(iz [(12,3,Tf 4)])) (ab bB (ab lf (ab uM ak))) (aD E2 aC) (VT L n k m hL hs) (by kernel_rfl)
theorem Ni:lG Tryz.prog 12 Xv:=
 Nk (m:=fun x=>Mp.cn x 0) (gh GB (fun _=>rfl)) (fun _=>rfl) (fun _ _=>rfl) (fun x hs=>bp (inl:=bn) (ann:=(iz [(12,3,Tf 4)])) (ab E5 (ab lf (ab uM ak))) (aD E2 aC) (Ur x.1 x.2.1 x.2.2.1 hs) (by kernel_rfl)) (fun x hs=>bp (inl:=bn) (ann:=(iz [(12,3,Tf 4)])) (ab E5 (ab lf (ab uM ak))) (aD E2 aC) (Ud x.1 x.2.1 x.2.2.1 hs) (by kernel_rfl)) fun L x hq=>We L x.1 x.2.1 x.2.2.1 hq.1 hq.2
end Go.Proofs.YtghpaegglbbocaaGreat
