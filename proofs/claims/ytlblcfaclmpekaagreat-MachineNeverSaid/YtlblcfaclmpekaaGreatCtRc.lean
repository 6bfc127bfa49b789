import Derived.Test.YtlblcfaclmpekaaGreatCtRb
import Derived.Test.YtlblcfaclmpekaaGreatKS
namespace Go.Proofs.YtlblcfaclmpekaaGreat
open Go.Sx
theorem RQ (L:List Sx.Obj) (n:Int) (k:Key) (m:bh) (hL:aq L) (hs:aw m.data):
 true=true/\(bh.mk 190 eB void void void,L)=aD L n (kk 0 k) m:=by
 simp+decide [aD,dq,dG,cZ,dU,hS,gM,hJ,fS,dI,cT,fw,fU,fq,ia,c8,void,dS,eB,aX,fe,eU,eZ,kk,mm,hL,hs];try grind
theorem SH (L:List Sx.Obj) (n:Int) (k:Key) (m:bh) (hL:aq L) (hs:aw m.data):aj Tryz.prog 102 [.lp 0 0] [.ro (.blk nb (gp (.it .i64 m.code) m n (.ci .i64 0) k)),.store tS eS L] (kO (aD L n ((kk 0 k)) (m))) (fun _ _=>False):=
 aK (inl:=(fun f=>f==131||f==142||f==152||f==146||f==202||f==185||f==227||f==177||f==148||f==174||f==173||f==132||f==144||f==184||f==188)) (ann:=aO) (ab ck an) az (dF bq) (RQ L n k m hL hs) (by kernel_rfl)
theorem So (L:List Sx.Obj) (n:Int) (k:Key) (m:bh) (hL:aq L) (hs:aw m.data) (hz:¬k.kind=0):
 true=true/\((!!decide (k.kind=0))=true->(bh.mk 190 eB void void void,L)=aD L n k (mm 0 m))/\((!!decide (k.kind=0))=false->true=true/\true=true/\(bh.mk 0 eB void void (Key.mk
  1 void.oid void.count void.call void.rights k.kind),L)=aD L n k (mm 0 m)):=by
 have hX:aD L n k (mm 0 m)=(fU k.kind,L):=by
  have hr:cZ L n k (mm 0 m)=(0,fU k.kind,L):=by
   unfold cZ;rw[Xu hz,Xv (show(mm 0 m).code=0 from rfl)]
  simp[aD,dq,dG,hr]
 rw[hX];simp[hz];rfl
theorem Rk (L:List Sx.Obj) (n:Int) (k:Key) (m:bh) (hL:aq L) (hs:aw m.data) (hz:¬k.kind=0):aj Tryz.prog 102 [.lp 0 0] [.ro (.blk nb (gp (.ci .i64 0) m n (.it .i64 k.kind) k)),.store tS eS L] (kO (aD L n (k) ((mm 0 m)))) (fun _ _=>False):=
 aK (inl:=(fun f=>f==131||f==142||f==152||f==146||f==202||f==185||f==227||f==177||f==148||f==174||f==173||f==132||f==144||f==184||f==188)) (ann:=aO) (ab ck an) az (dF bq) (So L n k m hL hs hz) (by kernel_rfl)
theorem Rb (L:List Sx.Obj) (n:Int) (k:Key) (m:bh) (hL:aq L) (hs:aw m.data) (hz:¬k.kind=0) (hc:¬m.code=0) (hn:m.code<1\/cT k.kind<m.code):
 true=true/\((!!decide (k.kind=0))=true->(bh.mk 190 eB void void void,L)=aD L n k m)/\((!!decide (k.kind=0))=false->(decide (m.code=0)=true->true=true/\true=true/\(bh.mk
  0 eB void void (Key.mk 1 void.oid void.count void.call void.rights k.kind),L)=aD L n k m)/\(decide (m.code=0)=false->true=true/\((!(oc 1 1 k m||(oc 2 1 k m||(oc 2 2 k m||(oc 2 3 k
  m||(oc 2 4 k m||(oc 2 5 k m||(oc 2 6 k m||(oc 3 1 k m||(oc 3 2 k m||(oc 3 3 k m||(oc 3 4 k m||(oc 3 5 k m||(oc 4 1 k m||(oc 4 2 k m||(oc 4 3 k m||(oc 4 4 k m||(oc 4 5 k m||
  (oc 4 6 k m||(oc 5 1 k m||(oc 5 2 k m||(oc 5 3 k m||(oc 5 4 k m||(oc 5 5 k m||(oc 5 6 k m||(oc 5 7 k m||(oc 8 1 k m||(oc 8 2 k m||(oc 8 3 k m||(oc 9 1 k m||oc 10 1 k
  m))))))))))))))))))))))))))))))=true->(bh.mk 240 eB void void void,L)=aD L n k m)/\((!(oc 1 1 k m||(oc 2 1 k m||(oc 2 2 k m||(oc 2 3 k m||(oc 2 4 k m||(oc 2 5 k m||(oc 2 6 k m||
  (oc 3 1 k m||(oc 3 2 k m||(oc 3 3 k m||(oc 3 4 k m||(oc 3 5 k m||(oc 4 1 k m||(oc 4 2 k m||(oc 4 3 k m||(oc 4 4 k m||(oc 4 5 k m||(oc 4 6 k m||(oc 5 1 k m||(oc 5 2 k m||(oc 5
  3 k m||(oc 5 4 k m||(oc 5 5 k m||(oc 5 6 k m||(oc 5 7 k m||(oc 8 1 k m||(oc 8 2 k m||(oc 8 3 k m||(oc 9 1 k m||oc 10 1 k m))))))))))))))))))))))))))))))=false->((oc 1 1 k m)=true
  ->true=true/\False)/\((oc 1 1 k m)=false->((oc 2 1 k m)=true->true=true/\False)/\((oc 2 1 k m)=false->((oc 2 2 k m)=true->true=true/\False)/\((oc 2 2 k m)=false->((oc 2 3 k
  m)=true->true=true/\False)/\((oc 2 3 k m)=false->((oc 2 4 k m)=true->true=true/\False)/\((oc 2 4 k m)=false->((oc 2 5 k m)=true->true=true/\False)/\((oc 2 5 k m)=false->
  ((oc 2 6 k m)=true->true=true/\False)/\((oc 2 6 k m)=false->((oc 3 1 k m)=true->true=true/\False)/\((oc 3 1 k m)=false->((oc 3 2 k m)=true->true=true/\False)/\((oc 3 2 k m)=
  false->((oc 3 3 k m)=true->true=true/\False)/\((oc 3 3 k m)=false->((oc 3 4 k m)=true->true=true/\False)/\((oc 3 4 k m)=false->((oc 3 5 k m)=true->true=true/\False)/\((oc 3
  5 k m)=false->((oc 4 1 k m)=true->true=true/\False)/\((oc 4 1 k m)=false->((oc 4 2 k m)=true->true=true/\False)/\((oc 4 2 k m)=false->((oc 4 3 k m)=true->true=true/\False)
  /\((oc 4 3 k m)=false->((oc 4 4 k m)=true->true=true/\False)/\((oc 4 4 k m)=false->((oc 4 5 k m)=true->true=true/\False)/\((oc 4 5 k m)=false->((oc 4 6 k m)=true->true=true
  /\False)/\((oc 4 6 k m)=false->((oc 5 1 k m)=true->true=true/\False)/\((oc 5 1 k m)=false->((oc 5 2 k m)=true->true=true/\False)/\((oc 5 2 k m)=false->((oc 5 3 k m)=true->
  true=true/\False)/\((oc 5 3 k m)=false->((oc 5 4 k m)=true->true=true/\False)/\((oc 5 4 k m)=false->((oc 5 5 k m)=true->true=true/\False)/\((oc 5 5 k m)=false->((oc 5 6 k m)
  =true->true=true/\False)/\((oc 5 6 k m)=false->((oc 5 7 k m)=true->true=true/\False)/\((oc 5 7 k m)=false->((oc 8 1 k m)=true->true=true/\False)/\((oc 8 1 k m)=false->((oc
  8 2 k m)=true->true=true/\False)/\((oc 8 2 k m)=false->((oc 8 3 k m)=true->true=true/\False)/\((oc 8 3 k m)=false->((oc 9 1 k m)=true->true=true/\False)/\((oc 9 1 k m)=
  false->((oc 10 1 k m)=true->true=true/\False)/\((oc 10 1 k m)=false->False))))))))))))))))))))))))))))))))):=by
 have hX:aD L n k m=(fq 240,L):=by
  have hr:cZ L n k m=(240,dS,L):=by
   unfold cZ;rw[Xu hz,Xu hc,Xv (by rcases hn with h|h;exact .inl h;exact .inr (.inl h))]
  simp[aD,dq,dG,hr]
 rw[hX]
 have hq:∀a b:Int,1<=b->b<=cT a->oc a b k m=false:=fun a b h1 h2=>by
  cases h:oc a b k m with
  |false=>rfl
  |true=>
   unfold oc at h;simp only[Xo,Xp]at h;obtain⟨rfl,rfl⟩:=h;omega
 have f1_1:oc 1 1 k m=false:=hq 1 1 (by omega) (by decide)
 have f2_1:oc 2 1 k m=false:=hq 2 1 (by omega) (by decide)
 have f2_2:oc 2 2 k m=false:=hq 2 2 (by omega) (by decide)
 have f2_3:oc 2 3 k m=false:=hq 2 3 (by omega) (by decide)
 have f2_4:oc 2 4 k m=false:=hq 2 4 (by omega) (by decide)
 have f2_5:oc 2 5 k m=false:=hq 2 5 (by omega) (by decide)
 have f2_6:oc 2 6 k m=false:=hq 2 6 (by omega) (by decide)
 have f3_1:oc 3 1 k m=false:=hq 3 1 (by omega) (by decide)
 have f3_2:oc 3 2 k m=false:=hq 3 2 (by omega) (by decide)
 have f3_3:oc 3 3 k m=false:=hq 3 3 (by omega) (by decide)
 have f3_4:oc 3 4 k m=false:=hq 3 4 (by omega) (by decide)
 have f3_5:oc 3 5 k m=false:=hq 3 5 (by omega) (by decide)
 have f4_1:oc 4 1 k m=false:=hq 4 1 (by omega) (by decide)
 have f4_2:oc 4 2 k m=false:=hq 4 2 (by omega) (by decide)
 have f4_3:oc 4 3 k m=false:=hq 4 3 (by omega) (by decide)
 have f4_4:oc 4 4 k m=false:=hq 4 4 (by omega) (by decide)
 have f4_5:oc 4 5 k m=false:=hq 4 5 (by omega) (by decide)
 have f4_6:oc 4 6 k m=false:=hq 4 6 (by omega) (by decide)
 have f5_1:oc 5 1 k m=false:=hq 5 1 (by omega) (by decide)
 have f5_2:oc 5 2 k m=false:=hq 5 2 (by omega) (by decide)
 have f5_3:oc 5 3 k m=false:=hq 5 3 (by omega) (by decide)
 have f5_4:oc 5 4 k m=false:=hq 5 4 (by omega) (by decide)
 have f5_5:oc 5 5 k m=false:=hq 5 5 (by omega) (by decide)
 have f5_6:oc 5 6 k m=false:=hq 5 6 (by omega) (by decide)
 have f5_7:oc 5 7 k m=false:=hq 5 7 (by omega) (by decide)
 have f8_1:oc 8 1 k m=false:=hq 8 1 (by omega) (by decide)
 have f8_2:oc 8 2 k m=false:=hq 8 2 (by omega) (by decide)
 have f8_3:oc 8 3 k m=false:=hq 8 3 (by omega) (by decide)
 have f9_1:oc 9 1 k m=false:=hq 9 1 (by omega) (by decide)
 have f10_1:oc 10 1 k m=false:=hq 10 1 (by omega) (by decide)
 simp only[f1_1,f2_1,f2_2,f2_3,f2_4,f2_5,f2_6,f3_1,f3_2,f3_3,f3_4,f3_5,f4_1,f4_2,f4_3,f4_4,f4_5,f4_6,f5_1,f5_2,f5_3,f5_4,f5_5,f5_6,f5_7,f8_1,f8_2,f8_3,f9_1,f10_1];simp[hz,hc];rfl
theorem Ru (L:List Sx.Obj) (n:Int) (k:Key) (m:bh) (hL:aq L) (hs:aw m.data) (hz:¬k.kind=0) (hc:¬m.code=0) (hn:m.code<1\/cT k.kind<m.code):aj Tryz.prog 102 [.lp 0 0] [.ro (.blk nb (gp (.it .i64 m.code) m n (.it .i64 k.kind) k)),.store tS eS L] (kO (aD L n (k) (m))) (fun _ _=>False):=
 aK (inl:=(fun f=>f==131||f==142||f==152||f==146||f==202||f==185||f==227||f==177||f==148||f==174||f==173||f==132||f==144||f==184||f==188)) (ann:=aO) (ab ck an) az (dF bq) (Rb L n k m hL hs hz hc hn) (by kernel_rfl)
theorem rP {L:List Sx.Obj} {n:Int} {k:Key} {m:bh} {kd cd:Int} (hk:k.kind=kd) (hc:m.code=cd) (h:aj Tryz.prog 102 [.lp 0 0] [.ro (.blk nb (gp (.ci .i64 cd) m n (.ci .i64 kd) k)),.store tS eS L] (kO (aD L n (kk kd k) (mm cd m))) (fun _ _=>False)):
  aj Tryz.prog 102 [.lp 0 0] [.ro (.blk nb (gp (.it .i64 m.code) m n (.it .i64 k.kind) k)),.store tS eS L] (kO (aD L n k m)) (fun _ _=>False):=by
 rw[vR hk,Fa hc]at h;subst hk;subst hc;exact wg (c':= .ci .i64 m.code) (d':= .ci .i64 k.kind) (by simp) (fun _=>rfl) (fun _ h=>h) rfl (fun _=>rfl) (fun _ h=>h) rfl h
theorem OT (L:List Sx.Obj) (n:Int) (k:Key) (m:bh) (hL:aq L) (hs:aw m.data) (hk:aN k=true):aj Tryz.prog 102 [.lp 0 0] [.ro (.blk nb (gp (.it .i64 m.code) m n (.it .i64 k.kind) k)),.store tS eS L] (kO (aD L n k m)) (fun _ _=>False):=by
 by_cases h0:k.kind=0
 ·have:=SH L n k m hL hs;rw[vR h0]at this;exact wg (by simp) (fun _=>rfl) (fun _ h=>h) rfl (fun _=>by rw[h0];rfl) (fun _ h=>by rw[h0]at h;exact h) rfl this
 by_cases hc:m.code=0
 ·have:=Rk L n k m hL hs h0;rw[Fa hc]at this;exact wg (by simp) (fun _=>by rw[hc];rfl) (fun _ h=>by rw[hc]at h;exact h) rfl (fun _=>rfl) (fun _ h=>h) rfl this
 by_cases hn:m.code<1\/cT k.kind<m.code
 ·exact Ru L n k m hL hs h0 hc hn
 have hkd:k.kind=1\/k.kind=2\/k.kind=3\/k.kind=4\/k.kind=5\/k.kind=8\/k.kind=9\/k.kind=10:=by
  unfold cT at hn;grind
 rcases hkd with e|e|e|e|e|e|e|e
 ·have hq:cT k.kind=1:=by rw[e];decide
  have hcd:m.code=1:=by omega
  have f:=hcd
  ·exact rP e f (Jj L n k m hL hs)
 ·have hq:cT k.kind=6:=by rw[e];decide
  have hcd:m.code=1\/m.code=2\/m.code=3\/m.code=4\/m.code=5\/m.code=6:=by omega
  rcases hcd with f|f|f|f|f|f
  ·exact rP e f (La L n k m hL hs)
  ·exact rP e f (Je L n k m hL hs)
  ·exact rP e f (J7 L n k m hL hs)
  ·exact rP e f (HM L n k m hL hs)
  ·exact rP e f (IM L n k m hL hs (by rw[vR e];exact hk))
  ·exact rP e f (JD L n k m hL hs)
 ·have hq:cT k.kind=5:=by rw[e];decide
  have hcd:m.code=1\/m.code=2\/m.code=3\/m.code=4\/m.code=5:=by omega
  rcases hcd with f|f|f|f|f
  ·exact rP e f (KC L n k m hL hs)
  ·exact rP e f (HB L n k m hL hs)
  ·exact rP e f (Ix L n k m hL hs)
  ·exact rP e f (J2 L n k m hL hs)
  ·exact rP e f (KU L n k m hL hs (by rw[vR e];exact hk))
 ·have hq:cT k.kind=6:=by rw[e];decide
  have hcd:m.code=1\/m.code=2\/m.code=3\/m.code=4\/m.code=5\/m.code=6:=by omega
  rcases hcd with f|f|f|f|f|f
  ·exact rP e f (Jw L n k m hL hs)
  ·exact rP e f (Ky L n k m hL hs)
  ·exact rP e f (IC L n k m hL hs)
  ·exact rP e f (Iz L n k m hL hs)
  ·exact rP e f (Jh L n k m hL hs)
  ·exact rP e f (HW L n k m hL hs)
 ·have hq:cT k.kind=7:=by rw[e];decide
  have hcd:m.code=1\/m.code=2\/m.code=3\/m.code=4\/m.code=5\/m.code=6\/m.code=7:=by omega
  rcases hcd with f|f|f|f|f|f|f
  ·exact rP e f (Ji L n k m hL hs)
  ·exact rP e f (Kr L n k m hL hs)
  ·exact rP e f (HH L n k m hL hs)
  ·exact rP e f (Lp L n k m hL hs)
  ·exact rP e f (Jg L n k m hL hs)
  ·exact rP e f (HR L n k m hL hs)
  ·exact rP e f (JU L n k m hL hs)
 ·have hq:cT k.kind=3:=by rw[e];decide
  have hcd:m.code=1\/m.code=2\/m.code=3:=by omega
  rcases hcd with f|f|f
  ·exact rP e f (IB L n k m hL hs)
  ·exact rP e f (KT L n k m hL hs)
  ·exact rP e f (HK L n k m hL hs)
 ·have hq:cT k.kind=1:=by rw[e];decide
  have hcd:m.code=1:=by omega
  have f:=hcd
  ·exact rP e f (Mh L n k m hL hs)
 ·have hq:cT k.kind=1:=by rw[e];decide
  have hcd:m.code=1:=by omega
  have f:=hcd
  ·exact rP e f (GA L n k m hL hs)
theorem Dx:oU Tryz.prog 102 QE:=by
 intro args res K KP h;unfold QE at h;split at h
 case h_2=>exact h.elim
 split at h
 case h_2=>exact h.elim
 rename_i j off;split at h
 case isFalse=>exact h.elim
 rename_i hoff;have hoff:=Xq.1 hoff;subst hoff;split at h
 case h_2=>exact h.elim
 rename_i t c hj;split at h
 case isFalse=>exact h.elim
 rename_i ht;have ht:=Xq.1 ht;subst ht;split at h
 case h_2=>exact h.elim
 split at h
 case h_2=>exact h.elim
 rename_i mv sv nv kv;split at h
 case h_2=>exact h.elim
 rename_i m hm;split at h
 case h_2=>exact h.elim
 rename_i i o2;split at h
 case isFalse=>exact h.elim
 rename_i hij;simp only[Xo,Xq,Bool.not_eq_true',beq_eq_false_iff_ne,ne_eq]at hij;obtain⟨rfl,hij⟩:=hij;split at h
 case h_2=>exact h.elim
 rename_i n hn;split at h
 case h_2=>exact h.elim
 rename_i k hk;split at h
 case h_2=>exact h.elim
 rename_i t2 e L hi;split at h
 case isFalse=>exact h.elim
 rename_i hc;simp only[Xo,Xq]at hc;obtain⟨rfl,rfl⟩:=hc;obtain⟨⟨hL,hs,hok⟩,h⟩:=h;have hkj:known res j:=by unfold known;rw[hj];simp
 have hki:known res i:=by unfold known;rw[hi];simp
 have hlj:=aF hkj;have hli:=aF hki;have hlj':cR res j= .blk nb (.ag [mv,.lp i 0,nv,kv]):=by unfold cR;rw[hj]
 have im:=tk (κ:=ko 0 (de [(j,false),(i,true)])) mv (H9 hm);have inn:=tk (κ:=ko 0 (de [(j,false),(i,true)])) nv (oY hn);have ik:=tk (κ:=ko 0 (de [(j,false),(i,true)])) kv (At hk);have il:fh (ko 0 (de [(j,false),(i,true)])) (.lp i 0)=some (.lp 1 0):=by simp[fh,ko,idxOf,de,Ne.symm hij]
 have hb:fh (ko 0 (de [(j,false),(i,true)])) (.ag [mv,.lp i 0,nv,kv])=some (.ag [mv,.lp 1 0,nv,kv]):=by unfold fh;rw[oG im (oG il (oG inn (oG ik rfl)))]
 have hres:eo (ko 0 (de [(j,false),(i,true)])) res [(j,false),(i,true)]= [.ro (.blk nb (.ag [mv,.lp 1 0,nv,kv])),.store tS eS L]:=by simp only[eo,hlj',hi,fZ,hb];rfl
 refine aj.frame (pl:= [(j,false),(i,true)]) (args0:= [.lp 0 0]) (K0:=kO (aD L n k m)) (KP0:=fun _ _=>False) (by simp[en,cH.2 hkj,cH.2 hki]) (by simpa[iE,de,oS]using⟨⟨hlj,hij⟩,hli⟩) (by simp[ee,fh,ko,idxOf,de]) ?_ (fun v r hv=>?_) (fun _ _ h=>h.elim)
 ·rw[hres];exact HI (by simp) hm hn hk (OT L n k m hL hs hok)
 ·obtain⟨h1,h2⟩:=Rn hv;have hm':merge [(j,false),(i,true)] [] r res=bD res i (.store tS eS (dG L n k m)):=by simp[merge,eW,h2,fZ,fW,aD]
  exact⟨[],rk (dq L n k m),rfl,by simp[kT,h2,jd],rfl,jA.jJ h1 rfl,by rw[hm'];exact h⟩
theorem DV (k:Key):
 (decide (bg k=0)&&(!aR k||decide (bG k<0)))=bQ [] k:=by
 unfold bQ bg bG aR bF;simp only[ak,List.length_nil];grind
theorem FO (L:List Sx.Obj) (k:Key):
 (decide (bg k=0)&&(!aR k||decide (bG k<ah L)))=bQ L k:=by
 unfold bQ bg bG aR bF ah;grind
theorem tX:cV Tryz.prog 101 JE:=
 jT (aM qQ (aM mL dM)) (fun _=>rfl) fun a hq hok=>by
  obtain⟨S,k,_⟩:=a;cases S with
  |none=>exact bK (inl:=bS) (ann:=aO) (ab aY (ab fj (ab cF an))) az (DV k) (by kernel_rfl)
  |some L=>exact bK (inl:=bS) (ann:=aO) (ab aY (ab fj (ab cF an))) az (FO L k) (by kernel_rfl)
theorem QH (n:Int) (k:Key) (m:bh) (hs:aw m.data):
 (decide (0<=n)=true->aL IntKind.i64 (cE m.data))/\0=(bu [] n k m).code/\ByteArray.mk (Array.mk [])=(bu [] n k m).data/\void=(bu [] n k m).k0/\void=(bu [] n k m).k1/\void
  =(bu [] n k m).k2/\false=ij [] n k m/\1=iY [] n k m:=by
 have hin:aL .i64 (cE m.data):=by have:=hs;unfold aw at this;unfold aL cg cE;omega
 have e:iY [] n k m=1:=by unfold iY;rw[Xv (show ak ([]:List Sx.Obj)=0 from rfl)]
 have e1:bu [] n k m=dS:=by unfold bu;rw[e];rfl
 have e2:ij [] n k m=false:=by unfold ij;rw[e];rfl
 rw[e1,e2,e];exact⟨fun _=>hin,rfl,rfl,rfl,rfl,rfl,rfl,rfl⟩
theorem Q3 (n:Int) (k:Key) (m:bh) (hs:aw m.data):
 (decide (0<=n)=true->aL IntKind.i64 (cE m.data))/\0=(bu [] n k m).code/\ByteArray.mk (Array.mk [])=(bu [] n k m).data/\void=(bu [] n k m).k0/\void=(bu [] n k m).k1/\void
  =(bu [] n k m).k2/\false=ij [] n k m/\1=iY [] n k m:=by
 have hin:aL .i64 (cE m.data):=by have:=hs;unfold aw at this;unfold aL cg cE;omega
 have e:iY [] n k m=1:=by unfold iY;rw[Xv (show ak ([]:List Sx.Obj)=0 from rfl)]
 have e1:bu [] n k m=dS:=by unfold bu;rw[e];rfl
 have e2:ij [] n k m=false:=by unfold ij;rw[e];rfl
 rw[e1,e2,e];exact⟨fun _=>hin,rfl,rfl,rfl,rfl,rfl,rfl,rfl⟩
theorem T2 (L:List Sx.Obj) (n:Int) (k:Key) (m:bh) (hL:aq L) (hs:aw m.data):
 (decide (0<=n)=true->aL IntKind.i64 (cE m.data))/\(decide (ah L=0)=true->(0=(bu L n k m).code/\ByteArray.mk (Array.mk [])=(bu L n k m).data/\void=(bu L n k m).k0/\
  void=(bu L n k m).k1/\void=(bu L n k m).k2/\false=ij L n k m/\1=iY L n k m)/\L=lb L n k m)/\(decide (ah L=0)=false->((!(decide (0<=n)&&decide (cE m.data<=32)
  &&bQ L k&&bQ L m.k0&&bQ L m.k1&&bQ L m.k2))=true->(0=(bu L n k m).code/\ByteArray.mk (Array.mk [])=(bu L n k m).data/\void=(bu L n k m).k0/\void=(bu L n k
  m).k1/\void=(bu L n k m).k2/\false=ij L n k m/\2=iY L n k m)/\L=lb L n k m)/\((!(decide (0<=n)&&decide (cE m.data<=32)&&bQ L k&&bQ L m.k0&&bQ L m.k1&&
  bQ L m.k2))=false->((decide ((ae L k).kind=6)||decide ((ae L k).kind=7))=true->(0=(bu L n k m).code/\ByteArray.mk (Array.mk [])=(bu L n k m).data/\void=(bu L n k
  m).k0/\void=(bu L n k m).k1/\void=(bu L n k m).k2/\false=ij L n k m/\241=iY L n k m)/\L=lb L n k m)/\((decide ((ae L k).kind=6)||decide ((ae L k).kind=7))=
  false->true=true/\P4 L (ae L k) (bh.mk m.code m.data (ae L m.k0) (ae L m.k1) (ae L m.k2))/\((dq L n (ae L k) (bh.mk m.code m.data (ae L m.k0) (ae L m.k1)
  (ae L m.k2))).code=(bu L n k m).code/\(dq L n (ae L k) (bh.mk m.code m.data (ae L m.k0) (ae L m.k1) (ae L m.k2))).data=(bu L n k m).data/\(dq L n (ae L k)
  (bh.mk m.code m.data (ae L m.k0) (ae L m.k1) (ae L m.k2))).k0=(bu L n k m).k0/\(dq L n (ae L k) (bh.mk m.code m.data (ae L m.k0) (ae L m.k1) (ae L m.k2))).k1=
  (bu L n k m).k1/\(dq L n (ae L k) (bh.mk m.code m.data (ae L m.k0) (ae L m.k1) (ae L m.k2))).k2=(bu L n k m).k2/\(decide ((ae L k).kind=10)&&decide (m.code=1))=
  ij L n k m/\0=iY L n k m)/\dG L n (ae L k) (bh.mk m.code m.data (ae L m.k0) (ae L m.k1) (ae L m.k2))=lb L n k m))):=by
 have hcn:bh.mk m.code m.data (ae L m.k0) (ae L m.k1) (ae L m.k2)=ld L m:=rfl;simp only[hcn];have hin:aL .i64 (cE m.data):=by have:=hs;unfold aw at this;unfold aL cg cE;omega
 have hf:(decide (0<=n)&&decide (cE m.data<=32)&&bQ L k&&bQ L m.k0&&bQ L m.k1&&bQ L m.k2)=yR L n k m:=by
  unfold yR ie;cases decide (0<=n)<;>cases decide (cE m.data<=32)<;>cases bQ L k<;>cases bQ L m.k0<;>cases bQ L m.k1<;>cases bQ L m.k2<;>rfl
 rw[hf];have hsz:ah L=0↔ak L=0:=by unfold ah;simp[bH]
 have no:∀e:Int,iY L n k m=e->e≠0->(0=(bu L n k m).code/\ByteArray.mk (Array.mk [])=(bu L n k m).data/\void=(bu L n k m).k0/\void=(bu L n k m).k1/\void=(bu L n k m).k2/\false=ij L n k m/\e=iY L n k m)/\L=lb L n k m:=fun e he h0=>by
  have e1:bu L n k m=dS:=by unfold bu;rw[he,Xu h0]
  have e2:ij L n k m=false:=by unfold ij;rw[he];simp[h0]
  have e3:lb L n k m=L:=by unfold lb;rw[he,Xu h0]
  rw[e1,e2,e3,he];exact⟨⟨rfl,rfl,rfl,rfl,rfl,rfl,rfl⟩,rfl⟩
 refine⟨fun _=>hin,fun h=>?_,fun h=>⟨fun h2=>?_,fun h2=>⟨fun h3=>?_,fun h3=>?_⟩⟩⟩
 ·have h:=hsz.1 (by simpa using h)
  exact no 1 (by unfold iY;rw[Xv h]) (by omega)
 ·have h:¬ak L=0:=fun e=>by simp[hsz.2 e]at h
  have h2:yR L n k m=false:=by simpa using h2
  exact no 2 (by unfold iY;rw[Xu h,Xv h2]) (by omega)
 ·have h:¬ak L=0:=fun e=>by simp[hsz.2 e]at h
  have h2:yR L n k m=true:=by simpa using h2
  have h3:(ae L k).kind=6\/(ae L k).kind=7:=by simpa using h3
  exact no 241 (by unfold iY;rw[Xu h,Xu (by simp[h2]),Xv h3]) (by omega)
 ·have h:¬ak L=0:=fun e=>by simp[hsz.2 e]at h
  have h2:yR L n k m=true:=by simpa using h2
  have h3:¬((ae L k).kind=6\/(ae L k).kind=7):=by simpa using h3
  have he:iY L n k m=0:=by unfold iY;rw[Xu h,Xu (by simp[h2]),Xu h3]
  have e1:bu L n k m=dq L n (ae L k) (ld L m):=by unfold bu;rw[Xv he]
  have e2:ij L n k m=(decide ((ae L k).kind=10)&&decide (m.code=1)):=by unfold ij;rw[he];rfl
  have e3:lb L n k m=dG L n (ae L k) (ld L m):=by unfold lb;rw[Xv he]
  rw[e1,e2,e3,he];exact⟨trivial,⟨hL,hs,DF⟩,⟨rfl,rfl,rfl,rfl,rfl,rfl,rfl⟩,rfl⟩
theorem Tu (L:List Sx.Obj) (n:Int) (k:Key) (m:bh) (hL:aq L) (hs:aw m.data):aj Tryz.prog 61 [.lp 0 0,.it .i64 n,.key k,rk m] [.store tS eS L] (AA (.tp [rk (bu L n k m),.bo (ij L n k m),.it .i64 (iY L n k m)]) (lb L n k m)) (fun _ _=>False):=
 bK (inl:=bS) (ann:=(kg [(61,3,Q0 4)])) (ab aY (ab fQ (ab tX an))) (aC Dx az) (T2 L n k m hL hs) (by kernel_rfl)
theorem UA:oU Tryz.prog 61 V7:=
 zO (m:=fun x=>Ta.cn x 0) (nM Ob (fun _=>rfl)) (fun _=>rfl) (fun _ _=>rfl) (fun x hs=>bK (inl:=bS) (ann:=(kg [(61,3,Q0 4)])) (ab qD (ab fQ (ab tX an))) (aC Dx az) (QH x.1 x.2.1 x.2.2.1 hs) (by kernel_rfl)) (fun x hs=>bK (inl:=bS) (ann:=(kg [(61,3,Q0 4)])) (ab qD (ab fQ (ab tX an))) (aC Dx az) (Q3 x.1 x.2.1 x.2.2.1 hs) (by kernel_rfl)) fun L x hq=>Tu L x.1 x.2.1 x.2.2.1 hq.1 hq.2
end Go.Proofs.YtlblcfaclmpekaaGreat
