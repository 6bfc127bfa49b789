import Derived.Test.YtlblcfaclmpekaaGreatCtRb
import Derived.Test.YtlblcfaclmpekaaGreatKS
namespace Go.Proofs.YtlblcfaclmpekaaGreat
open Go.Sx
theorem Rs (L:List Sx.Obj) (n:Int) (k:Key) (m:bk) (hL:aw L) (hs:az m.data):
 true=true/\(bk.mk 190 eB void void void,L)=aH L n (kk 0 k) m:=by
 simp+decide [aH,dn,dE,dt,ej,iz,gV,ib,fX,dG,cT,fx,fR,fl,gU,c8,void,ee,eB,bf,eY,eN,eX,kk,mm,hL,hs];try grind
theorem Q6 (L:List Sx.Obj) (n:Int) (k:Key) (m:bk) (hL:aw L) (hs:az m.data):ak Tryz.prog 102 [.lp 0 0] [.ro (.blk m6 (gp (.it .i64 m.code) m n (.ci .i64 0) k)),.store tS eS L] (kO (aH L n ((kk 0 k)) (m))) (fun _ _=>False):=
 aN (inl:=(fun f=>f==131||f==142||f==152||f==146||f==202||f==185||f==227||f==177||f==148||f==174||f==173||f==132||f==144||f==184||f==188)) (ann:=aV) (ae cg ay) aB (dB bB) (Rs L n k m hL hs) (by kernel_rfl)
theorem PL (L:List Sx.Obj) (n:Int) (k:Key) (m:bk) (hL:aw L) (hs:az m.data) (hz:¬k.kind=0):
 true=true/\((!!decide (k.kind=0))=true->(bk.mk 190 eB void void void,L)=aH L n k (mm 0 m))/\((!!decide (k.kind=0))=false->true=true/\true=true/\(bk.mk 0 eB void void (Key.mk
  1 void.oid void.count void.call void.rights k.kind),L)=aH L n k (mm 0 m)):=by
 have hX:aH L n k (mm 0 m)=(fR k.kind,L):=by
  have hr:dt L n k (mm 0 m)=(0,fR k.kind,L):=by
   unfold dt;rw[VQ hz,VR (show(mm 0 m).code=0 from rfl)]
  simp[aH,dn,dE,hr]
 rw[hX];simp[hz];rfl
theorem QP (L:List Sx.Obj) (n:Int) (k:Key) (m:bk) (hL:aw L) (hs:az m.data) (hz:¬k.kind=0):ak Tryz.prog 102 [.lp 0 0] [.ro (.blk m6 (gp (.ci .i64 0) m n (.it .i64 k.kind) k)),.store tS eS L] (kO (aH L n (k) ((mm 0 m)))) (fun _ _=>False):=
 aN (inl:=(fun f=>f==131||f==142||f==152||f==146||f==202||f==185||f==227||f==177||f==148||f==174||f==173||f==132||f==144||f==184||f==188)) (ann:=aV) (ae cg ay) aB (dB bB) (PL L n k m hL hs hz) (by kernel_rfl)
theorem Q8 (L:List Sx.Obj) (n:Int) (k:Key) (m:bk) (hL:aw L) (hs:az m.data) (hz:¬k.kind=0) (hc:¬m.code=0) (hn:m.code<1\/cT k.kind<m.code):
 true=true/\((!!decide (k.kind=0))=true->(bk.mk 190 eB void void void,L)=aH L n k m)/\((!!decide (k.kind=0))=false->(decide (m.code=0)=true->true=true/\true=true/\(bk.mk
  0 eB void void (Key.mk 1 void.oid void.count void.call void.rights k.kind),L)=aH L n k m)/\(decide (m.code=0)=false->true=true/\((!(oc 1 1 k m||(oc 2 1 k m||(oc 2 2 k m||(oc 2 3 k
  m||(oc 2 4 k m||(oc 2 5 k m||(oc 2 6 k m||(oc 3 1 k m||(oc 3 2 k m||(oc 3 3 k m||(oc 3 4 k m||(oc 3 5 k m||(oc 4 1 k m||(oc 4 2 k m||(oc 4 3 k m||(oc 4 4 k m||(oc 4 5 k m||
  (oc 4 6 k m||(oc 5 1 k m||(oc 5 2 k m||(oc 5 3 k m||(oc 5 4 k m||(oc 5 5 k m||(oc 5 6 k m||(oc 5 7 k m||(oc 8 1 k m||(oc 8 2 k m||(oc 8 3 k m||(oc 9 1 k m||oc 10 1 k
  m))))))))))))))))))))))))))))))=true->(bk.mk 240 eB void void void,L)=aH L n k m)/\((!(oc 1 1 k m||(oc 2 1 k m||(oc 2 2 k m||(oc 2 3 k m||(oc 2 4 k m||(oc 2 5 k m||(oc 2 6 k m||
  (oc 3 1 k m||(oc 3 2 k m||(oc 3 3 k m||(oc 3 4 k m||(oc 3 5 k m||(oc 4 1 k m||(oc 4 2 k m||(oc 4 3 k m||(oc 4 4 k m||(oc 4 5 k m||(oc 4 6 k m||(oc 5 1 k m||(oc 5 2 k m||(oc 5
  3 k m||(oc 5 4 k m||(oc 5 5 k m||(oc 5 6 k m||(oc 5 7 k m||(oc 8 1 k m||(oc 8 2 k m||(oc 8 3 k m||(oc 9 1 k m||oc 10 1 k m))))))))))))))))))))))))))))))=false->((oc 1 1 k m)=true
  ->true=true/\False)/\((oc 1 1 k m)=false->((oc 2 1 k m)=true->true=true/\False)/\((oc 2 1 k m)=false->((oc 2 2 k m)=true->true=true/\False)/\((oc 2 2 k m)=false->((oc 2 3 k
  m)=true->true=true/\False)/\((oc 2 3 k m)=false->((oc 2 4 k m)=true->true=true/\False)/\((oc 2 4 k m)=false->((oc 2 5 k m)=true->true=true/\False)/\((oc 2 5 k m)=false->
  ((oc 2 6 k m)=true->true=true/\False)/\((oc 2 6 k m)=false->((oc 3 1 k m)=true->true=true/\False)/\((oc 3 1 k m)=false->((oc 3 2 k m)=true->true=true/\False)/\((oc 3 2 k m)=
  false->((oc 3 3 k m)=true->true=true/\False)/\((oc 3 3 k m)=false->((oc 3 4 k m)=true->true=true/\False)/\((oc 3 4 k m)=false->((oc 3 5 k m)=true->true=true/\False)/\((oc 3
  5 k m)=false->((oc 4 1 k m)=true->true=true/\False)/\((oc 4 1 k m)=false->((oc 4 2 k m)=true->true=true/\False)/\((oc 4 2 k m)=false->((oc 4 3 k m)=true->true=true/\False)
  /\((oc 4 3 k m)=false->((oc 4 4 k m)=true->true=true/\False)/\((oc 4 4 k m)=false->((oc 4 5 k m)=true->true=true/\False)/\((oc 4 5 k m)=false->((oc 4 6 k m)=true->true=true
  /\False)/\((oc 4 6 k m)=false->((oc 5 1 k m)=true->true=true/\False)/\((oc 5 1 k m)=false->((oc 5 2 k m)=true->true=true/\False)/\((oc 5 2 k m)=false->((oc 5 3 k m)=true->
  true=true/\False)/\((oc 5 3 k m)=false->((oc 5 4 k m)=true->true=true/\False)/\((oc 5 4 k m)=false->((oc 5 5 k m)=true->true=true/\False)/\((oc 5 5 k m)=false->((oc 5 6 k m)
  =true->true=true/\False)/\((oc 5 6 k m)=false->((oc 5 7 k m)=true->true=true/\False)/\((oc 5 7 k m)=false->((oc 8 1 k m)=true->true=true/\False)/\((oc 8 1 k m)=false->((oc
  8 2 k m)=true->true=true/\False)/\((oc 8 2 k m)=false->((oc 8 3 k m)=true->true=true/\False)/\((oc 8 3 k m)=false->((oc 9 1 k m)=true->true=true/\False)/\((oc 9 1 k m)=
  false->((oc 10 1 k m)=true->true=true/\False)/\((oc 10 1 k m)=false->False))))))))))))))))))))))))))))))))):=by
 have hX:aH L n k m=(fl 240,L):=by
  have hr:dt L n k m=(240,ee,L):=by
   unfold dt;rw[VQ hz,VQ hc,VR (by rcases hn with h|h;exact .inl h;exact .inr (.inl h))]
  simp[aH,dn,dE,hr]
 rw[hX]
 have hq:∀a b:Int,1<=b->b<=cT a->oc a b k m=false:=fun a b h1 h2=>by
  cases h:oc a b k m with
  |false=>rfl
  |true=>
   unfold oc at h;simp only[VK,VL]at h;obtain⟨rfl,rfl⟩:=h;omega
 have f1_1:oc 1 1 k m=false:=hq 1 1 (by omega) (by decide)
 have f2_1:oc 2 1 k m=false:=hq 2 1 (by omega) (by decide)
 have f2_2:oc 2 2 k m=false:=hq 2 2 (by omega) (by decide)
 have f2_3:oc 2 3 k m=false:=hq 2 3 (by omega) (by decide)
 have f2_4:oc 2 4 k m=false:=hq 2 4 (by omega) (by decide)
 have f2_5:oc 2 5 k m=false:=hq 2 5 (by omega) (by decide)
 have f2_6:oc 2 6 k m=false:=hq 2 6 (by omega) (by decide)
 have f3_1:oc 3 1 k m=false:=hq 3 1 (by omega) (by decide)
 have f3_2:oc 3 2 k m=false:=hq 3 2 (by omega) (by decide)
 have f3_3:oc 3 3 k m=false:=hq 3 3 (by omega) (by decide)
 have f3_4:oc 3 4 k m=false:=hq 3 4 (by omega) (by decide)
 have f3_5:oc 3 5 k m=false:=hq 3 5 (by omega) (by decide)
 have f4_1:oc 4 1 k m=false:=hq 4 1 (by omega) (by decide)
 have f4_2:oc 4 2 k m=false:=hq 4 2 (by omega) (by decide)
 have f4_3:oc 4 3 k m=false:=hq 4 3 (by omega) (by decide)
 have f4_4:oc 4 4 k m=false:=hq 4 4 (by omega) (by decide)
 have f4_5:oc 4 5 k m=false:=hq 4 5 (by omega) (by decide)
 have f4_6:oc 4 6 k m=false:=hq 4 6 (by omega) (by decide)
 have f5_1:oc 5 1 k m=false:=hq 5 1 (by omega) (by decide)
 have f5_2:oc 5 2 k m=false:=hq 5 2 (by omega) (by decide)
 have f5_3:oc 5 3 k m=false:=hq 5 3 (by omega) (by decide)
 have f5_4:oc 5 4 k m=false:=hq 5 4 (by omega) (by decide)
 have f5_5:oc 5 5 k m=false:=hq 5 5 (by omega) (by decide)
 have f5_6:oc 5 6 k m=false:=hq 5 6 (by omega) (by decide)
 have f5_7:oc 5 7 k m=false:=hq 5 7 (by omega) (by decide)
 have f8_1:oc 8 1 k m=false:=hq 8 1 (by omega) (by decide)
 have f8_2:oc 8 2 k m=false:=hq 8 2 (by omega) (by decide)
 have f8_3:oc 8 3 k m=false:=hq 8 3 (by omega) (by decide)
 have f9_1:oc 9 1 k m=false:=hq 9 1 (by omega) (by decide)
 have f10_1:oc 10 1 k m=false:=hq 10 1 (by omega) (by decide)
 simp only[f1_1,f2_1,f2_2,f2_3,f2_4,f2_5,f2_6,f3_1,f3_2,f3_3,f3_4,f3_5,f4_1,f4_2,f4_3,f4_4,f4_5,f4_6,f5_1,f5_2,f5_3,f5_4,f5_5,f5_6,f5_7,f8_1,f8_2,f8_3,f9_1,f10_1];simp[hz,hc];rfl
theorem Ra (L:List Sx.Obj) (n:Int) (k:Key) (m:bk) (hL:aw L) (hs:az m.data) (hz:¬k.kind=0) (hc:¬m.code=0) (hn:m.code<1\/cT k.kind<m.code):ak Tryz.prog 102 [.lp 0 0] [.ro (.blk m6 (gp (.it .i64 m.code) m n (.it .i64 k.kind) k)),.store tS eS L] (kO (aH L n (k) (m))) (fun _ _=>False):=
 aN (inl:=(fun f=>f==131||f==142||f==152||f==146||f==202||f==185||f==227||f==177||f==148||f==174||f==173||f==132||f==144||f==184||f==188)) (ann:=aV) (ae cg ay) aB (dB bB) (Q8 L n k m hL hs hz hc hn) (by kernel_rfl)
theorem rq {L:List Sx.Obj} {n:Int} {k:Key} {m:bk} {kd cd:Int} (hk:k.kind=kd) (hc:m.code=cd) (h:ak Tryz.prog 102 [.lp 0 0] [.ro (.blk m6 (gp (.ci .i64 cd) m n (.ci .i64 kd) k)),.store tS eS L] (kO (aH L n (kk kd k) (mm cd m))) (fun _ _=>False)):
  ak Tryz.prog 102 [.lp 0 0] [.ro (.blk m6 (gp (.it .i64 m.code) m n (.it .i64 k.kind) k)),.store tS eS L] (kO (aH L n k m)) (fun _ _=>False):=by
 rw[va hk,D1 hc]at h;subst hk;subst hc;exact vK (c':= .ci .i64 m.code) (d':= .ci .i64 k.kind) (by simp) (fun _=>rfl) (fun _ h=>h) rfl (fun _=>rfl) (fun _ h=>h) rfl h
theorem Oo (L:List Sx.Obj) (n:Int) (k:Key) (m:bk) (hL:aw L) (hs:az m.data) (hk:aW k=true):ak Tryz.prog 102 [.lp 0 0] [.ro (.blk m6 (gp (.it .i64 m.code) m n (.it .i64 k.kind) k)),.store tS eS L] (kO (aH L n k m)) (fun _ _=>False):=by
 by_cases h0:k.kind=0
 ·have:=Q6 L n k m hL hs;rw[va h0]at this;exact vK (by simp) (fun _=>rfl) (fun _ h=>h) rfl (fun _=>by rw[h0];rfl) (fun _ h=>by rw[h0]at h;exact h) rfl this
 by_cases hc:m.code=0
 ·have:=QP L n k m hL hs h0;rw[D1 hc]at this;exact vK (by simp) (fun _=>by rw[hc];rfl) (fun _ h=>by rw[hc]at h;exact h) rfl (fun _=>rfl) (fun _ h=>h) rfl this
 by_cases hn:m.code<1\/cT k.kind<m.code
 ·exact Ra L n k m hL hs h0 hc hn
 have hkd:k.kind=1\/k.kind=2\/k.kind=3\/k.kind=4\/k.kind=5\/k.kind=8\/k.kind=9\/k.kind=10:=by
  unfold cT at hn;grind
 rcases hkd with e|e|e|e|e|e|e|e
 ·have hq:cT k.kind=1:=by rw[e];decide
  have hcd:m.code=1:=by omega
  have f:=hcd
  ·exact rq e f (Lt L n k m hL hs)
 ·have hq:cT k.kind=6:=by rw[e];decide
  have hcd:m.code=1\/m.code=2\/m.code=3\/m.code=4\/m.code=5\/m.code=6:=by omega
  rcases hcd with f|f|f|f|f|f
  ·exact rq e f (KX L n k m hL hs)
  ·exact rq e f (KS L n k m hL hs)
  ·exact rq e f (IY L n k m hL hs)
  ·exact rq e f (Le L n k m hL hs)
  ·exact rq e f (HT L n k m hL hs (by rw[va e];exact hk))
  ·exact rq e f (JK L n k m hL hs)
 ·have hq:cT k.kind=5:=by rw[e];decide
  have hcd:m.code=1\/m.code=2\/m.code=3\/m.code=4\/m.code=5:=by omega
  rcases hcd with f|f|f|f|f
  ·exact rq e f (I7 L n k m hL hs)
  ·exact rq e f (GY L n k m hL hs)
  ·exact rq e f (JJ L n k m hL hs)
  ·exact rq e f (KC L n k m hL hs)
  ·exact rq e f (Kl L n k m hL hs (by rw[va e];exact hk))
 ·have hq:cT k.kind=6:=by rw[e];decide
  have hcd:m.code=1\/m.code=2\/m.code=3\/m.code=4\/m.code=5\/m.code=6:=by omega
  rcases hcd with f|f|f|f|f|f
  ·exact rq e f (JE L n k m hL hs)
  ·exact rq e f (Lp L n k m hL hs)
  ·exact rq e f (Km L n k m hL hs)
  ·exact rq e f (GX L n k m hL hs)
  ·exact rq e f (Jr L n k m hL hs)
  ·exact rq e f (Js L n k m hL hs)
 ·have hq:cT k.kind=7:=by rw[e];decide
  have hcd:m.code=1\/m.code=2\/m.code=3\/m.code=4\/m.code=5\/m.code=6\/m.code=7:=by omega
  rcases hcd with f|f|f|f|f|f|f
  ·exact rq e f (Ib L n k m hL hs)
  ·exact rq e f (Jq L n k m hL hs)
  ·exact rq e f (HA L n k m hL hs)
  ·exact rq e f (H7 L n k m hL hs)
  ·exact rq e f (HP L n k m hL hs)
  ·exact rq e f (IP L n k m hL hs)
  ·exact rq e f (IE L n k m hL hs)
 ·have hq:cT k.kind=3:=by rw[e];decide
  have hcd:m.code=1\/m.code=2\/m.code=3:=by omega
  rcases hcd with f|f|f
  ·exact rq e f (HE L n k m hL hs)
  ·exact rq e f (I2 L n k m hL hs)
  ·exact rq e f (JN L n k m hL hs)
 ·have hq:cT k.kind=1:=by rw[e];decide
  have hcd:m.code=1:=by omega
  have f:=hcd
  ·exact rq e f (G8 L n k m hL hs)
 ·have hq:cT k.kind=1:=by rw[e];decide
  have hcd:m.code=1:=by omega
  have f:=hcd
  ·exact rq e f (F7 L n k m hL hs)
theorem Ds:oM Tryz.prog 102 OP:=by
 intro args res K KP h;unfold OP at h;split at h
 case h_2=>exact h.elim
 split at h
 case h_2=>exact h.elim
 rename_i j off;split at h
 case isFalse=>exact h.elim
 rename_i hoff;have hoff:=VM.1 hoff;subst hoff;split at h
 case h_2=>exact h.elim
 rename_i t c hj;split at h
 case isFalse=>exact h.elim
 rename_i ht;have ht:=VM.1 ht;subst ht;split at h
 case h_2=>exact h.elim
 split at h
 case h_2=>exact h.elim
 rename_i mv sv nv kv;split at h
 case h_2=>exact h.elim
 rename_i m hm;split at h
 case h_2=>exact h.elim
 rename_i i o2;split at h
 case isFalse=>exact h.elim
 rename_i hij;simp only[VK,VM,Bool.not_eq_true',beq_eq_false_iff_ne,ne_eq]at hij;obtain⟨rfl,hij⟩:=hij;split at h
 case h_2=>exact h.elim
 rename_i n hn;split at h
 case h_2=>exact h.elim
 rename_i k hk;split at h
 case h_2=>exact h.elim
 rename_i t2 e L hi;split at h
 case isFalse=>exact h.elim
 rename_i hc;simp only[VK,VM]at hc;obtain⟨rfl,rfl⟩:=hc;obtain⟨⟨hL,hs,hok⟩,h⟩:=h;have hkj:known res j:=by unfold known;rw[hj];simp
 have hki:known res i:=by unfold known;rw[hi];simp
 have hlj:=aG hkj;have hli:=aG hki;have hlj':cU res j= .blk m6 (.ag [mv,.lp i 0,nv,kv]):=by unfold cU;rw[hj]
 have im:=rC (κ:=kz 0 (dr [(j,false),(i,true)])) mv (Iq hm);have inn:=rC (κ:=kz 0 (dr [(j,false),(i,true)])) nv (pM hn);have ik:=rC (κ:=kz 0 (dr [(j,false),(i,true)])) kv (zr hk);have il:eZ (kz 0 (dr [(j,false),(i,true)])) (.lp i 0)=some (.lp 1 0):=by simp[eZ,kz,idxOf,dr,Ne.symm hij]
 have hb:eZ (kz 0 (dr [(j,false),(i,true)])) (.ag [mv,.lp i 0,nv,kv])=some (.ag [mv,.lp 1 0,nv,kv]):=by unfold eZ;rw[oy im (oy il (oy inn (oy ik rfl)))]
 have hres:ew (kz 0 (dr [(j,false),(i,true)])) res [(j,false),(i,true)]= [.ro (.blk m6 (.ag [mv,.lp 1 0,nv,kv])),.store tS eS L]:=by simp only[ew,hlj',hi,fW,hb];rfl
 refine ak.frame (pl:= [(j,false),(i,true)]) (args0:= [.lp 0 0]) (K0:=kO (aH L n k m)) (KP0:=fun _ _=>False) (by simp[eA,cm.2 hkj,cm.2 hki]) (by simpa[iU,dr,pG]using⟨⟨hlj,hij⟩,hli⟩) (by simp[dS,eZ,kz,idxOf,dr]) ?_ (fun v r hv=>?_) (fun _ _ h=>h.elim)
 ·rw[hres];exact K8 (by simp) hm hn hk (Oo L n k m hL hs hok)
 ·obtain⟨h1,h2⟩:=Rj hv;have hm':merge [(j,false),(i,true)] [] r res=bw res i (.store tS eS (dE L n k m)):=by simp[merge,ff,h2,fW,gm,aH]
  exact⟨[],rp (dn L n k m),rfl,by simp[lT,h2,iP],rfl,j7.jJ h1 rfl,by rw[hm'];exact h⟩
theorem C9 (k:Key):
 (decide (bT k=0)&&(!aU k||decide (bJ k<0)))=bQ [] k:=by
 unfold bQ bT bJ aU cM;simp only[an,List.length_nil];grind
theorem Ga (L:List Sx.Obj) (k:Key):
 (decide (bT k=0)&&(!aU k||decide (bJ k<aj L)))=bQ L k:=by
 unfold bQ bT bJ aU cM aj;grind
theorem tB:dD Tryz.prog 101 HB:=
 jH (aQ qL (aQ mC dU)) (fun _=>rfl) fun a hq hok=>by
  obtain⟨S,k,_⟩:=a;cases S with
  |none=>exact bR (inl:=ca) (ann:=aV) (ae bd (ae fc (ae cF ay))) aB (C9 k) (by kernel_rfl)
  |some L=>exact bR (inl:=ca) (ann:=aV) (ae bd (ae fc (ae cF ay))) aB (Ga L k) (by kernel_rfl)
theorem QQ (n:Int) (k:Key) (m:bk) (hs:az m.data):
 (decide (0<=n)=true->aP IntKind.i64 (cC m.data))/\0=(bG [] n k m).code/\ByteArray.mk (Array.mk [])=(bG [] n k m).data/\void=(bG [] n k m).k0/\void=(bG [] n k m).k1/\void
  =(bG [] n k m).k2/\false=iE [] n k m/\1=iT [] n k m:=by
 have hin:aP .i64 (cC m.data):=by have:=hs;unfold az at this;unfold aP cj cC;omega
 have e:iT [] n k m=1:=by unfold iT;rw[VR (show an ([]:List Sx.Obj)=0 from rfl)]
 have e1:bG [] n k m=ee:=by unfold bG;rw[e];rfl
 have e2:iE [] n k m=false:=by unfold iE;rw[e];rfl
 rw[e1,e2,e];exact⟨fun _=>hin,rfl,rfl,rfl,rfl,rfl,rfl,rfl⟩
theorem Qi (n:Int) (k:Key) (m:bk) (hs:az m.data):
 (decide (0<=n)=true->aP IntKind.i64 (cC m.data))/\0=(bG [] n k m).code/\ByteArray.mk (Array.mk [])=(bG [] n k m).data/\void=(bG [] n k m).k0/\void=(bG [] n k m).k1/\void
  =(bG [] n k m).k2/\false=iE [] n k m/\1=iT [] n k m:=by
 have hin:aP .i64 (cC m.data):=by have:=hs;unfold az at this;unfold aP cj cC;omega
 have e:iT [] n k m=1:=by unfold iT;rw[VR (show an ([]:List Sx.Obj)=0 from rfl)]
 have e1:bG [] n k m=ee:=by unfold bG;rw[e];rfl
 have e2:iE [] n k m=false:=by unfold iE;rw[e];rfl
 rw[e1,e2,e];exact⟨fun _=>hin,rfl,rfl,rfl,rfl,rfl,rfl,rfl⟩
theorem Tz (L:List Sx.Obj) (n:Int) (k:Key) (m:bk) (hL:aw L) (hs:az m.data):
 (decide (0<=n)=true->aP IntKind.i64 (cC m.data))/\(decide (aj L=0)=true->(0=(bG L n k m).code/\ByteArray.mk (Array.mk [])=(bG L n k m).data/\void=(bG L n k m).k0/\
  void=(bG L n k m).k1/\void=(bG L n k m).k2/\false=iE L n k m/\1=iT L n k m)/\L=mO L n k m)/\(decide (aj L=0)=false->((!(decide (0<=n)&&decide (cC m.data<=32)
  &&bQ L k&&bQ L m.k0&&bQ L m.k1&&bQ L m.k2))=true->(0=(bG L n k m).code/\ByteArray.mk (Array.mk [])=(bG L n k m).data/\void=(bG L n k m).k0/\void=(bG L n k
  m).k1/\void=(bG L n k m).k2/\false=iE L n k m/\2=iT L n k m)/\L=mO L n k m)/\((!(decide (0<=n)&&decide (cC m.data<=32)&&bQ L k&&bQ L m.k0&&bQ L m.k1&&
  bQ L m.k2))=false->((decide ((ah L k).kind=6)||decide ((ah L k).kind=7))=true->(0=(bG L n k m).code/\ByteArray.mk (Array.mk [])=(bG L n k m).data/\void=(bG L n k
  m).k0/\void=(bG L n k m).k1/\void=(bG L n k m).k2/\false=iE L n k m/\241=iT L n k m)/\L=mO L n k m)/\((decide ((ah L k).kind=6)||decide ((ah L k).kind=7))=
  false->true=true/\OV L (ah L k) (bk.mk m.code m.data (ah L m.k0) (ah L m.k1) (ah L m.k2))/\((dn L n (ah L k) (bk.mk m.code m.data (ah L m.k0) (ah L m.k1)
  (ah L m.k2))).code=(bG L n k m).code/\(dn L n (ah L k) (bk.mk m.code m.data (ah L m.k0) (ah L m.k1) (ah L m.k2))).data=(bG L n k m).data/\(dn L n (ah L k)
  (bk.mk m.code m.data (ah L m.k0) (ah L m.k1) (ah L m.k2))).k0=(bG L n k m).k0/\(dn L n (ah L k) (bk.mk m.code m.data (ah L m.k0) (ah L m.k1) (ah L m.k2))).k1=
  (bG L n k m).k1/\(dn L n (ah L k) (bk.mk m.code m.data (ah L m.k0) (ah L m.k1) (ah L m.k2))).k2=(bG L n k m).k2/\(decide ((ah L k).kind=10)&&decide (m.code=1))=
  iE L n k m/\0=iT L n k m)/\dE L n (ah L k) (bk.mk m.code m.data (ah L m.k0) (ah L m.k1) (ah L m.k2))=mO L n k m))):=by
 have hcn:bk.mk m.code m.data (ah L m.k0) (ah L m.k1) (ah L m.k2)=lS L m:=rfl;simp only[hcn];have hin:aP .i64 (cC m.data):=by have:=hs;unfold az at this;unfold aP cj cC;omega
 have hf:(decide (0<=n)&&decide (cC m.data<=32)&&bQ L k&&bQ L m.k0&&bQ L m.k1&&bQ L m.k2)=xH L n k m:=by
  unfold xH g8;cases decide (0<=n)<;>cases decide (cC m.data<=32)<;>cases bQ L k<;>cases bQ L m.k0<;>cases bQ L m.k1<;>cases bQ L m.k2<;>rfl
 rw[hf];have hsz:aj L=0↔an L=0:=by unfold aj;simp[bU]
 have no:∀e:Int,iT L n k m=e->e≠0->(0=(bG L n k m).code/\ByteArray.mk (Array.mk [])=(bG L n k m).data/\void=(bG L n k m).k0/\void=(bG L n k m).k1/\void=(bG L n k m).k2/\false=iE L n k m/\e=iT L n k m)/\L=mO L n k m:=fun e he h0=>by
  have e1:bG L n k m=ee:=by unfold bG;rw[he,VQ h0]
  have e2:iE L n k m=false:=by unfold iE;rw[he];simp[h0]
  have e3:mO L n k m=L:=by unfold mO;rw[he,VQ h0]
  rw[e1,e2,e3,he];exact⟨⟨rfl,rfl,rfl,rfl,rfl,rfl,rfl⟩,rfl⟩
 refine⟨fun _=>hin,fun h=>?_,fun h=>⟨fun h2=>?_,fun h2=>⟨fun h3=>?_,fun h3=>?_⟩⟩⟩
 ·have h:=hsz.1 (by simpa using h)
  exact no 1 (by unfold iT;rw[VR h]) (by omega)
 ·have h:¬an L=0:=fun e=>by simp[hsz.2 e]at h
  have h2:xH L n k m=false:=by simpa using h2
  exact no 2 (by unfold iT;rw[VQ h,VR h2]) (by omega)
 ·have h:¬an L=0:=fun e=>by simp[hsz.2 e]at h
  have h2:xH L n k m=true:=by simpa using h2
  have h3:(ah L k).kind=6\/(ah L k).kind=7:=by simpa using h3
  exact no 241 (by unfold iT;rw[VQ h,VQ (by simp[h2]),VR h3]) (by omega)
 ·have h:¬an L=0:=fun e=>by simp[hsz.2 e]at h
  have h2:xH L n k m=true:=by simpa using h2
  have h3:¬((ah L k).kind=6\/(ah L k).kind=7):=by simpa using h3
  have he:iT L n k m=0:=by unfold iT;rw[VQ h,VQ (by simp[h2]),VQ h3]
  have e1:bG L n k m=dn L n (ah L k) (lS L m):=by unfold bG;rw[VR he]
  have e2:iE L n k m=(decide ((ah L k).kind=10)&&decide (m.code=1)):=by unfold iE;rw[he];rfl
  have e3:mO L n k m=dE L n (ah L k) (lS L m):=by unfold mO;rw[VR he]
  rw[e1,e2,e3,he];exact⟨trivial,⟨hL,hs,CI⟩,⟨rfl,rfl,rfl,rfl,rfl,rfl,rfl⟩,rfl⟩
theorem SY (L:List Sx.Obj) (n:Int) (k:Key) (m:bk) (hL:aw L) (hs:az m.data):ak Tryz.prog 61 [.lp 0 0,.it .i64 n,.key k,rp m] [.store tS eS L] (Ae (.tp [rp (bG L n k m),.bo (iE L n k m),.it .i64 (iT L n k m)]) (mO L n k m)) (fun _ _=>False):=
 bR (inl:=ca) (ann:=(lr [(61,3,RI 4)])) (ae bd (ae fO (ae tB ay))) (aF Ds aB) (Tz L n k m hL hs) (by kernel_rfl)
theorem Si:oM Tryz.prog 61 U3:=
 zF (m:=fun x=>QJ.cn x 0) (nW NV (fun _=>rfl)) (fun _=>rfl) (fun _ _=>rfl) (fun x hs=>bR (inl:=ca) (ann:=(lr [(61,3,RI 4)])) (ae qq (ae fO (ae tB ay))) (aF Ds aB) (QQ x.1 x.2.1 x.2.2.1 hs) (by kernel_rfl)) (fun x hs=>bR (inl:=ca) (ann:=(lr [(61,3,RI 4)])) (ae qq (ae fO (ae tB ay))) (aF Ds aB) (Qi x.1 x.2.1 x.2.2.1 hs) (by kernel_rfl)) fun L x hq=>SY L x.1 x.2.1 x.2.2.1 hq.1 hq.2
end Go.Proofs.YtlblcfaclmpekaaGreat
