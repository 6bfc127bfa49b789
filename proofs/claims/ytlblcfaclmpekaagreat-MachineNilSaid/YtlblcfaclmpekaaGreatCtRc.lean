import Derived.Test.YtlblcfaclmpekaaGreatCtRb
import Derived.Test.YtlblcfaclmpekaaGreatKS
namespace Go.Proofs.YtlblcfaclmpekaaGreat
open Go.Sx
theorem PG (L:List Sx.Obj) (n:Int) (k:Key) (m:bd) (hL:an L) (hs:au m.data):
 true=true/\(bd.mk 190 eB void void void,L)=aD L n (kk 0 k) m:=by
 simp+decide [aD,cU,di,cY,dW,iq,gO,g8,fQ,dr,cJ,fm,fL,fb,gM,cP,void,dV,eB,aX,eP,eG,eR,kk,mm,hL,hs];try grind
theorem O7 (L:List Sx.Obj) (n:Int) (k:Key) (m:bd) (hL:an L) (hs:au m.data):aj Tryz.prog 102 [.lp 0 0] [.ro (.blk mw (fZ (.it .i64 m.code) m n (.ci .i64 0) k)),.store tS eS L] (kO (aD L n ((kk 0 k)) (m))) (fun _ _=>False):=
 aJ (inl:=(fun f=>f==131||f==142||f==152||f==146||f==202||f==185||f==227||f==177||f==148||f==174||f==173||f==132||f==144||f==184||f==188)) (ann:=aQ) (ab bZ aq) ay (dg bm) (PG L n k m hL hs) (by kernel_rfl)
theorem Pa (L:List Sx.Obj) (n:Int) (k:Key) (m:bd) (hL:an L) (hs:au m.data) (hz:¬k.kind=0):
 true=true/\((!!decide (k.kind=0))=true->(bd.mk 190 eB void void void,L)=aD L n k (mm 0 m))/\((!!decide (k.kind=0))=false->true=true/\true=true/\(bd.mk 0 eB void void (Key.mk
  1 void.oid void.count void.call void.rights k.kind),L)=aD L n k (mm 0 m)):=by
 have hX:aD L n k (mm 0 m)=(fL k.kind,L):=by
  have hr:cY L n k (mm 0 m)=(0,fL k.kind,L):=by
   unfold cY;rw[UZ hz,U0 (show(mm 0 m).code=0 from rfl)]
  simp[aD,cU,di,hr]
 rw[hX];simp[hz];rfl
theorem QW (L:List Sx.Obj) (n:Int) (k:Key) (m:bd) (hL:an L) (hs:au m.data) (hz:¬k.kind=0):aj Tryz.prog 102 [.lp 0 0] [.ro (.blk mw (fZ (.ci .i64 0) m n (.it .i64 k.kind) k)),.store tS eS L] (kO (aD L n (k) ((mm 0 m)))) (fun _ _=>False):=
 aJ (inl:=(fun f=>f==131||f==142||f==152||f==146||f==202||f==185||f==227||f==177||f==148||f==174||f==173||f==132||f==144||f==184||f==188)) (ann:=aQ) (ab bZ aq) ay (dg bm) (Pa L n k m hL hs hz) (by kernel_rfl)
theorem Ph (L:List Sx.Obj) (n:Int) (k:Key) (m:bd) (hL:an L) (hs:au m.data) (hz:¬k.kind=0) (hc:¬m.code=0) (hn:m.code<1\/cJ k.kind<m.code):
 true=true/\((!!decide (k.kind=0))=true->(bd.mk 190 eB void void void,L)=aD L n k m)/\((!!decide (k.kind=0))=false->(decide (m.code=0)=true->true=true/\true=true/\(bd.mk
  0 eB void void (Key.mk 1 void.oid void.count void.call void.rights k.kind),L)=aD L n k m)/\(decide (m.code=0)=false->true=true/\((!(oc 1 1 k m||(oc 2 1 k m||(oc 2 2 k m||(oc 2 3 k
  m||(oc 2 4 k m||(oc 2 5 k m||(oc 2 6 k m||(oc 3 1 k m||(oc 3 2 k m||(oc 3 3 k m||(oc 3 4 k m||(oc 3 5 k m||(oc 4 1 k m||(oc 4 2 k m||(oc 4 3 k m||(oc 4 4 k m||(oc 4 5 k m||
  (oc 4 6 k m||(oc 5 1 k m||(oc 5 2 k m||(oc 5 3 k m||(oc 5 4 k m||(oc 5 5 k m||(oc 5 6 k m||(oc 5 7 k m||(oc 8 1 k m||(oc 8 2 k m||(oc 8 3 k m||(oc 9 1 k m||oc 10 1 k
  m))))))))))))))))))))))))))))))=true->(bd.mk 240 eB void void void,L)=aD L n k m)/\((!(oc 1 1 k m||(oc 2 1 k m||(oc 2 2 k m||(oc 2 3 k m||(oc 2 4 k m||(oc 2 5 k m||(oc 2 6 k m||
  (oc 3 1 k m||(oc 3 2 k m||(oc 3 3 k m||(oc 3 4 k m||(oc 3 5 k m||(oc 4 1 k m||(oc 4 2 k m||(oc 4 3 k m||(oc 4 4 k m||(oc 4 5 k m||(oc 4 6 k m||(oc 5 1 k m||(oc 5 2 k m||(oc 5
  3 k m||(oc 5 4 k m||(oc 5 5 k m||(oc 5 6 k m||(oc 5 7 k m||(oc 8 1 k m||(oc 8 2 k m||(oc 8 3 k m||(oc 9 1 k m||oc 10 1 k m))))))))))))))))))))))))))))))=false->((oc 1 1 k m)=true
  ->true=true/\False)/\((oc 1 1 k m)=false->((oc 2 1 k m)=true->true=true/\False)/\((oc 2 1 k m)=false->((oc 2 2 k m)=true->true=true/\False)/\((oc 2 2 k m)=false->((oc 2 3 k
  m)=true->true=true/\False)/\((oc 2 3 k m)=false->((oc 2 4 k m)=true->true=true/\False)/\((oc 2 4 k m)=false->((oc 2 5 k m)=true->true=true/\False)/\((oc 2 5 k m)=false->
  ((oc 2 6 k m)=true->true=true/\False)/\((oc 2 6 k m)=false->((oc 3 1 k m)=true->true=true/\False)/\((oc 3 1 k m)=false->((oc 3 2 k m)=true->true=true/\False)/\((oc 3 2 k m)=
  false->((oc 3 3 k m)=true->true=true/\False)/\((oc 3 3 k m)=false->((oc 3 4 k m)=true->true=true/\False)/\((oc 3 4 k m)=false->((oc 3 5 k m)=true->true=true/\False)/\((oc 3
  5 k m)=false->((oc 4 1 k m)=true->true=true/\False)/\((oc 4 1 k m)=false->((oc 4 2 k m)=true->true=true/\False)/\((oc 4 2 k m)=false->((oc 4 3 k m)=true->true=true/\False)
  /\((oc 4 3 k m)=false->((oc 4 4 k m)=true->true=true/\False)/\((oc 4 4 k m)=false->((oc 4 5 k m)=true->true=true/\False)/\((oc 4 5 k m)=false->((oc 4 6 k m)=true->true=true
  /\False)/\((oc 4 6 k m)=false->((oc 5 1 k m)=true->true=true/\False)/\((oc 5 1 k m)=false->((oc 5 2 k m)=true->true=true/\False)/\((oc 5 2 k m)=false->((oc 5 3 k m)=true->
  true=true/\False)/\((oc 5 3 k m)=false->((oc 5 4 k m)=true->true=true/\False)/\((oc 5 4 k m)=false->((oc 5 5 k m)=true->true=true/\False)/\((oc 5 5 k m)=false->((oc 5 6 k m)
  =true->true=true/\False)/\((oc 5 6 k m)=false->((oc 5 7 k m)=true->true=true/\False)/\((oc 5 7 k m)=false->((oc 8 1 k m)=true->true=true/\False)/\((oc 8 1 k m)=false->((oc
  8 2 k m)=true->true=true/\False)/\((oc 8 2 k m)=false->((oc 8 3 k m)=true->true=true/\False)/\((oc 8 3 k m)=false->((oc 9 1 k m)=true->true=true/\False)/\((oc 9 1 k m)=
  false->((oc 10 1 k m)=true->true=true/\False)/\((oc 10 1 k m)=false->False))))))))))))))))))))))))))))))))):=by
 have hX:aD L n k m=(fb 240,L):=by
  have hr:cY L n k m=(240,dV,L):=by
   unfold cY;rw[UZ hz,UZ hc,U0 (by rcases hn with h|h;exact .inl h;exact .inr (.inl h))]
  simp[aD,cU,di,hr]
 rw[hX]
 have hq:∀a b:Int,1<=b->b<=cJ a->oc a b k m=false:=fun a b h1 h2=>by
  cases h:oc a b k m with
  |false=>rfl
  |true=>
   unfold oc at h;simp only[US,UT]at h;obtain⟨rfl,rfl⟩:=h;omega
 have f1_1:oc 1 1 k m=false:=hq 1 1 (by omega) (by decide)
 have f2_1:oc 2 1 k m=false:=hq 2 1 (by omega) (by decide)
 have f2_2:oc 2 2 k m=false:=hq 2 2 (by omega) (by decide)
 have f2_3:oc 2 3 k m=false:=hq 2 3 (by omega) (by decide)
 have f2_4:oc 2 4 k m=false:=hq 2 4 (by omega) (by decide)
 have f2_5:oc 2 5 k m=false:=hq 2 5 (by omega) (by decide)
 have f2_6:oc 2 6 k m=false:=hq 2 6 (by omega) (by decide)
 have f3_1:oc 3 1 k m=false:=hq 3 1 (by omega) (by decide)
 have f3_2:oc 3 2 k m=false:=hq 3 2 (by omega) (by decide)
 have f3_3:oc 3 3 k m=false:=hq 3 3 (by omega) (by decide)
 have f3_4:oc 3 4 k m=false:=hq 3 4 (by omega) (by decide)
 have f3_5:oc 3 5 k m=false:=hq 3 5 (by omega) (by decide)
 have f4_1:oc 4 1 k m=false:=hq 4 1 (by omega) (by decide)
 have f4_2:oc 4 2 k m=false:=hq 4 2 (by omega) (by decide)
 have f4_3:oc 4 3 k m=false:=hq 4 3 (by omega) (by decide)
 have f4_4:oc 4 4 k m=false:=hq 4 4 (by omega) (by decide)
 have f4_5:oc 4 5 k m=false:=hq 4 5 (by omega) (by decide)
 have f4_6:oc 4 6 k m=false:=hq 4 6 (by omega) (by decide)
 have f5_1:oc 5 1 k m=false:=hq 5 1 (by omega) (by decide)
 have f5_2:oc 5 2 k m=false:=hq 5 2 (by omega) (by decide)
 have f5_3:oc 5 3 k m=false:=hq 5 3 (by omega) (by decide)
 have f5_4:oc 5 4 k m=false:=hq 5 4 (by omega) (by decide)
 have f5_5:oc 5 5 k m=false:=hq 5 5 (by omega) (by decide)
 have f5_6:oc 5 6 k m=false:=hq 5 6 (by omega) (by decide)
 have f5_7:oc 5 7 k m=false:=hq 5 7 (by omega) (by decide)
 have f8_1:oc 8 1 k m=false:=hq 8 1 (by omega) (by decide)
 have f8_2:oc 8 2 k m=false:=hq 8 2 (by omega) (by decide)
 have f8_3:oc 8 3 k m=false:=hq 8 3 (by omega) (by decide)
 have f9_1:oc 9 1 k m=false:=hq 9 1 (by omega) (by decide)
 have f10_1:oc 10 1 k m=false:=hq 10 1 (by omega) (by decide)
 simp only[f1_1,f2_1,f2_2,f2_3,f2_4,f2_5,f2_6,f3_1,f3_2,f3_3,f3_4,f3_5,f4_1,f4_2,f4_3,f4_4,f4_5,f4_6,f5_1,f5_2,f5_3,f5_4,f5_5,f5_6,f5_7,f8_1,f8_2,f8_3,f9_1,f10_1];simp[hz,hc];rfl
theorem PD (L:List Sx.Obj) (n:Int) (k:Key) (m:bd) (hL:an L) (hs:au m.data) (hz:¬k.kind=0) (hc:¬m.code=0) (hn:m.code<1\/cJ k.kind<m.code):aj Tryz.prog 102 [.lp 0 0] [.ro (.blk mw (fZ (.it .i64 m.code) m n (.it .i64 k.kind) k)),.store tS eS L] (kO (aD L n (k) (m))) (fun _ _=>False):=
 aJ (inl:=(fun f=>f==131||f==142||f==152||f==146||f==202||f==185||f==227||f==177||f==148||f==174||f==173||f==132||f==144||f==184||f==188)) (ann:=aQ) (ab bZ aq) ay (dg bm) (Ph L n k m hL hs hz hc hn) (by kernel_rfl)
theorem qV {L:List Sx.Obj} {n:Int} {k:Key} {m:bd} {kd cd:Int} (hk:k.kind=kd) (hc:m.code=cd) (h:aj Tryz.prog 102 [.lp 0 0] [.ro (.blk mw (fZ (.ci .i64 cd) m n (.ci .i64 kd) k)),.store tS eS L] (kO (aD L n (kk kd k) (mm cd m))) (fun _ _=>False)):
  aj Tryz.prog 102 [.lp 0 0] [.ro (.blk mw (fZ (.it .i64 m.code) m n (.it .i64 k.kind) k)),.store tS eS L] (kO (aD L n k m)) (fun _ _=>False):=by
 rw[uU hk,Ed hc]at h;subst hk;subst hc;exact wF (c':= .ci .i64 m.code) (d':= .ci .i64 k.kind) (by simp) (fun _=>rfl) (fun _ h=>h) rfl (fun _=>rfl) (fun _ h=>h) rfl h
theorem NY (L:List Sx.Obj) (n:Int) (k:Key) (m:bd) (hL:an L) (hs:au m.data) (hk:aP k=true):aj Tryz.prog 102 [.lp 0 0] [.ro (.blk mw (fZ (.it .i64 m.code) m n (.it .i64 k.kind) k)),.store tS eS L] (kO (aD L n k m)) (fun _ _=>False):=by
 by_cases h0:k.kind=0
 ·have:=O7 L n k m hL hs;rw[uU h0]at this;exact wF (by simp) (fun _=>rfl) (fun _ h=>h) rfl (fun _=>by rw[h0];rfl) (fun _ h=>by rw[h0]at h;exact h) rfl this
 by_cases hc:m.code=0
 ·have:=QW L n k m hL hs h0;rw[Ed hc]at this;exact wF (by simp) (fun _=>by rw[hc];rfl) (fun _ h=>by rw[hc]at h;exact h) rfl (fun _=>rfl) (fun _ h=>h) rfl this
 by_cases hn:m.code<1\/cJ k.kind<m.code
 ·exact PD L n k m hL hs h0 hc hn
 have hkd:k.kind=1\/k.kind=2\/k.kind=3\/k.kind=4\/k.kind=5\/k.kind=8\/k.kind=9\/k.kind=10:=by
  unfold cJ at hn;grind
 rcases hkd with e|e|e|e|e|e|e|e
 ·have hq:cJ k.kind=1:=by rw[e];decide
  have hcd:m.code=1:=by omega
  have f:=hcd
  ·exact qV e f (J7 L n k m hL hs)
 ·have hq:cJ k.kind=6:=by rw[e];decide
  have hcd:m.code=1\/m.code=2\/m.code=3\/m.code=4\/m.code=5\/m.code=6:=by omega
  rcases hcd with f|f|f|f|f|f
  ·exact qV e f (JT L n k m hL hs)
  ·exact qV e f (Jh L n k m hL hs)
  ·exact qV e f (JL L n k m hL hs)
  ·exact qV e f (KM L n k m hL hs)
  ·exact qV e f (Ib L n k m hL hs (by rw[uU e];exact hk))
  ·exact qV e f (HW L n k m hL hs)
 ·have hq:cJ k.kind=5:=by rw[e];decide
  have hcd:m.code=1\/m.code=2\/m.code=3\/m.code=4\/m.code=5:=by omega
  rcases hcd with f|f|f|f|f
  ·exact qV e f (I7 L n k m hL hs)
  ·exact qV e f (HY L n k m hL hs)
  ·exact qV e f (Gl L n k m hL hs)
  ·exact qV e f (JZ L n k m hL hs)
  ·exact qV e f (Hq L n k m hL hs (by rw[uU e];exact hk))
 ·have hq:cJ k.kind=6:=by rw[e];decide
  have hcd:m.code=1\/m.code=2\/m.code=3\/m.code=4\/m.code=5\/m.code=6:=by omega
  rcases hcd with f|f|f|f|f|f
  ·exact qV e f (HE L n k m hL hs)
  ·exact qV e f (G3 L n k m hL hs)
  ·exact qV e f (HN L n k m hL hs)
  ·exact qV e f (Ju L n k m hL hs)
  ·exact qV e f (Js L n k m hL hs)
  ·exact qV e f (Hy L n k m hL hs)
 ·have hq:cJ k.kind=7:=by rw[e];decide
  have hcd:m.code=1\/m.code=2\/m.code=3\/m.code=4\/m.code=5\/m.code=6\/m.code=7:=by omega
  rcases hcd with f|f|f|f|f|f|f
  ·exact qV e f (J6 L n k m hL hs)
  ·exact qV e f (Kp L n k m hL hs)
  ·exact qV e f (G2 L n k m hL hs)
  ·exact qV e f (Gp L n k m hL hs)
  ·exact qV e f (GO L n k m hL hs)
  ·exact qV e f (GY L n k m hL hs)
  ·exact qV e f (It L n k m hL hs)
 ·have hq:cJ k.kind=3:=by rw[e];decide
  have hcd:m.code=1\/m.code=2\/m.code=3:=by omega
  rcases hcd with f|f|f
  ·exact qV e f (Gn L n k m hL hs)
  ·exact qV e f (JM L n k m hL hs)
  ·exact qV e f (HT L n k m hL hs)
 ·have hq:cJ k.kind=1:=by rw[e];decide
  have hcd:m.code=1:=by omega
  have f:=hcd
  ·exact qV e f (Io L n k m hL hs)
 ·have hq:cJ k.kind=1:=by rw[e];decide
  have hcd:m.code=1:=by omega
  have f:=hcd
  ·exact qV e f (EP L n k m hL hs)
theorem Dd:p5 Tryz.prog 102 Od:=by
 intro args res K KP h;unfold Od at h;split at h
 case h_2=>exact h.elim
 split at h
 case h_2=>exact h.elim
 rename_i j off;split at h
 case isFalse=>exact h.elim
 rename_i hoff;have hoff:=UU.1 hoff;subst hoff;split at h
 case h_2=>exact h.elim
 rename_i t c hj;split at h
 case isFalse=>exact h.elim
 rename_i ht;have ht:=UU.1 ht;subst ht;split at h
 case h_2=>exact h.elim
 split at h
 case h_2=>exact h.elim
 rename_i mv sv nv kv;split at h
 case h_2=>exact h.elim
 rename_i m hm;split at h
 case h_2=>exact h.elim
 rename_i i o2;split at h
 case isFalse=>exact h.elim
 rename_i hij;simp only[US,UU,Bool.not_eq_true',beq_eq_false_iff_ne,ne_eq]at hij;obtain⟨rfl,hij⟩:=hij;split at h
 case h_2=>exact h.elim
 rename_i n hn;split at h
 case h_2=>exact h.elim
 rename_i k hk;split at h
 case h_2=>exact h.elim
 rename_i t2 e L hi;split at h
 case isFalse=>exact h.elim
 rename_i hc;simp only[US,UU]at hc;obtain⟨rfl,rfl⟩:=hc;obtain⟨⟨hL,hs,hok⟩,h⟩:=h;have hkj:known res j:=by unfold known;rw[hj];simp
 have hki:known res i:=by unfold known;rw[hi];simp
 have hlj:=aG hkj;have hli:=aG hki;have hlj':dw res j= .blk mw (.ag [mv,.lp i 0,nv,kv]):=by unfold dw;rw[hj]
 have im:=sD (κ:=km 0 (dt [(j,false),(i,true)])) mv (HB hm);have inn:=sD (κ:=km 0 (dt [(j,false),(i,true)])) nv (pc hn);have ik:=sD (κ:=km 0 (dt [(j,false),(i,true)])) kv (zh hk);have il:ff (km 0 (dt [(j,false),(i,true)])) (.lp i 0)=some (.lp 1 0):=by simp[ff,km,idxOf,dt,Ne.symm hij]
 have hb:ff (km 0 (dt [(j,false),(i,true)])) (.ag [mv,.lp i 0,nv,kv])=some (.ag [mv,.lp 1 0,nv,kv]):=by unfold ff;rw[nT im (nT il (nT inn (nT ik rfl)))]
 have hres:eC (km 0 (dt [(j,false),(i,true)])) res [(j,false),(i,true)]= [.ro (.blk mw (.ag [mv,.lp 1 0,nv,kv])),.store tS eS L]:=by simp only[eC,hlj',hi,gj,hb];rfl
 refine aj.frame (pl:= [(j,false),(i,true)]) (args0:= [.lp 0 0]) (K0:=kO (aD L n k m)) (KP0:=fun _ _=>False) (by simp[eA,cW.2 hkj,cW.2 hki]) (by simpa[jm,dt,qE]using⟨⟨hlj,hij⟩,hli⟩) (by simp[ef,ff,km,idxOf,dt]) ?_ (fun v r hv=>?_) (fun _ _ h=>h.elim)
 ·rw[hres];exact Ir (by simp) hm hn hk (NY L n k m hL hs hok)
 ·obtain⟨h1,h2⟩:=OV hv;have hm':merge [(j,false),(i,true)] [] r res=bC res i (.store tS eS (di L n k m)):=by simp[merge,fo,h2,gj,gx,aD]
  exact⟨[],qv (cU L n k m),rfl,by simp[mL,h2,iT],rfl,ke.jM h1 rfl,by rw[hm'];exact h⟩
theorem B6 (k:Key):
 (decide (bM k=0)&&(!aN k||decide (bE k<0)))=bJ [] k:=by
 unfold bJ bM bE aN cF;simp only[ar,List.length_nil];grind
theorem E3 (L:List Sx.Obj) (k:Key):
 (decide (bM k=0)&&(!aN k||decide (bE k<ah L)))=bJ L k:=by
 unfold bJ bM bE aN cF ah;grind
theorem sM:dA Tryz.prog 101 GW:=
 jB (aK qs (aK lZ dP)) (fun _=>rfl) fun a hq hok=>by
  obtain⟨S,k,_⟩:=a;cases S with
  |none=>exact bL (inl:=cw) (ann:=aQ) (ab aW (ab eV (ab cy aq))) ay (B6 k) (by kernel_rfl)
  |some L=>exact bL (inl:=cw) (ann:=aQ) (ab aW (ab eV (ab cy aq))) ay (E3 L k) (by kernel_rfl)
theorem OS (n:Int) (k:Key) (m:bd) (hs:au m.data):
 (decide (0<=n)=true->aL IntKind.i64 (ca m.data))/\0=(bw [] n k m).code/\ByteArray.mk (Array.mk [])=(bw [] n k m).data/\void=(bw [] n k m).k0/\void=(bw [] n k m).k1/\void
  =(bw [] n k m).k2/\false=iu [] n k m/\1=iH [] n k m:=by
 have hin:aL .i64 (ca m.data):=by have:=hs;unfold au at this;unfold aL b7 ca;omega
 have e:iH [] n k m=1:=by unfold iH;rw[U0 (show ar ([]:List Sx.Obj)=0 from rfl)]
 have e1:bw [] n k m=dV:=by unfold bw;rw[e];rfl
 have e2:iu [] n k m=false:=by unfold iu;rw[e];rfl
 rw[e1,e2,e];exact⟨fun _=>hin,rfl,rfl,rfl,rfl,rfl,rfl,rfl⟩
theorem QJ (n:Int) (k:Key) (m:bd) (hs:au m.data):
 (decide (0<=n)=true->aL IntKind.i64 (ca m.data))/\0=(bw [] n k m).code/\ByteArray.mk (Array.mk [])=(bw [] n k m).data/\void=(bw [] n k m).k0/\void=(bw [] n k m).k1/\void
  =(bw [] n k m).k2/\false=iu [] n k m/\1=iH [] n k m:=by
 have hin:aL .i64 (ca m.data):=by have:=hs;unfold au at this;unfold aL b7 ca;omega
 have e:iH [] n k m=1:=by unfold iH;rw[U0 (show ar ([]:List Sx.Obj)=0 from rfl)]
 have e1:bw [] n k m=dV:=by unfold bw;rw[e];rfl
 have e2:iu [] n k m=false:=by unfold iu;rw[e];rfl
 rw[e1,e2,e];exact⟨fun _=>hin,rfl,rfl,rfl,rfl,rfl,rfl,rfl⟩
theorem SK (L:List Sx.Obj) (n:Int) (k:Key) (m:bd) (hL:an L) (hs:au m.data):
 (decide (0<=n)=true->aL IntKind.i64 (ca m.data))/\(decide (ah L=0)=true->(0=(bw L n k m).code/\ByteArray.mk (Array.mk [])=(bw L n k m).data/\void=(bw L n k m).k0/\
  void=(bw L n k m).k1/\void=(bw L n k m).k2/\false=iu L n k m/\1=iH L n k m)/\L=lY L n k m)/\(decide (ah L=0)=false->((!(decide (0<=n)&&decide (ca m.data<=32)
  &&bJ L k&&bJ L m.k0&&bJ L m.k1&&bJ L m.k2))=true->(0=(bw L n k m).code/\ByteArray.mk (Array.mk [])=(bw L n k m).data/\void=(bw L n k m).k0/\void=(bw L n k
  m).k1/\void=(bw L n k m).k2/\false=iu L n k m/\2=iH L n k m)/\L=lY L n k m)/\((!(decide (0<=n)&&decide (ca m.data<=32)&&bJ L k&&bJ L m.k0&&bJ L m.k1&&
  bJ L m.k2))=false->((decide ((ae L k).kind=6)||decide ((ae L k).kind=7))=true->(0=(bw L n k m).code/\ByteArray.mk (Array.mk [])=(bw L n k m).data/\void=(bw L n k
  m).k0/\void=(bw L n k m).k1/\void=(bw L n k m).k2/\false=iu L n k m/\241=iH L n k m)/\L=lY L n k m)/\((decide ((ae L k).kind=6)||decide ((ae L k).kind=7))=
  false->true=true/\Oj L (ae L k) (bd.mk m.code m.data (ae L m.k0) (ae L m.k1) (ae L m.k2))/\((cU L n (ae L k) (bd.mk m.code m.data (ae L m.k0) (ae L m.k1)
  (ae L m.k2))).code=(bw L n k m).code/\(cU L n (ae L k) (bd.mk m.code m.data (ae L m.k0) (ae L m.k1) (ae L m.k2))).data=(bw L n k m).data/\(cU L n (ae L k)
  (bd.mk m.code m.data (ae L m.k0) (ae L m.k1) (ae L m.k2))).k0=(bw L n k m).k0/\(cU L n (ae L k) (bd.mk m.code m.data (ae L m.k0) (ae L m.k1) (ae L m.k2))).k1=
  (bw L n k m).k1/\(cU L n (ae L k) (bd.mk m.code m.data (ae L m.k0) (ae L m.k1) (ae L m.k2))).k2=(bw L n k m).k2/\(decide ((ae L k).kind=10)&&decide (m.code=1))=
  iu L n k m/\0=iH L n k m)/\di L n (ae L k) (bd.mk m.code m.data (ae L m.k0) (ae L m.k1) (ae L m.k2))=lY L n k m))):=by
 have hcn:bd.mk m.code m.data (ae L m.k0) (ae L m.k1) (ae L m.k2)=lv L m:=rfl;simp only[hcn];have hin:aL .i64 (ca m.data):=by have:=hs;unfold au at this;unfold aL b7 ca;omega
 have hf:(decide (0<=n)&&decide (ca m.data<=32)&&bJ L k&&bJ L m.k0&&bJ L m.k1&&bJ L m.k2)=xn L n k m:=by
  unfold xn gR;cases decide (0<=n)<;>cases decide (ca m.data<=32)<;>cases bJ L k<;>cases bJ L m.k0<;>cases bJ L m.k1<;>cases bJ L m.k2<;>rfl
 rw[hf];have hsz:ah L=0↔ar L=0:=by unfold ah;simp[dJ]
 have no:∀e:Int,iH L n k m=e->e≠0->(0=(bw L n k m).code/\ByteArray.mk (Array.mk [])=(bw L n k m).data/\void=(bw L n k m).k0/\void=(bw L n k m).k1/\void=(bw L n k m).k2/\false=iu L n k m/\e=iH L n k m)/\L=lY L n k m:=fun e he h0=>by
  have e1:bw L n k m=dV:=by unfold bw;rw[he,UZ h0]
  have e2:iu L n k m=false:=by unfold iu;rw[he];simp[h0]
  have e3:lY L n k m=L:=by unfold lY;rw[he,UZ h0]
  rw[e1,e2,e3,he];exact⟨⟨rfl,rfl,rfl,rfl,rfl,rfl,rfl⟩,rfl⟩
 refine⟨fun _=>hin,fun h=>?_,fun h=>⟨fun h2=>?_,fun h2=>⟨fun h3=>?_,fun h3=>?_⟩⟩⟩
 ·have h:=hsz.1 (by simpa using h)
  exact no 1 (by unfold iH;rw[U0 h]) (by omega)
 ·have h:¬ar L=0:=fun e=>by simp[hsz.2 e]at h
  have h2:xn L n k m=false:=by simpa using h2
  exact no 2 (by unfold iH;rw[UZ h,U0 h2]) (by omega)
 ·have h:¬ar L=0:=fun e=>by simp[hsz.2 e]at h
  have h2:xn L n k m=true:=by simpa using h2
  have h3:(ae L k).kind=6\/(ae L k).kind=7:=by simpa using h3
  exact no 241 (by unfold iH;rw[UZ h,UZ (by simp[h2]),U0 h3]) (by omega)
 ·have h:¬ar L=0:=fun e=>by simp[hsz.2 e]at h
  have h2:xn L n k m=true:=by simpa using h2
  have h3:¬((ae L k).kind=6\/(ae L k).kind=7):=by simpa using h3
  have he:iH L n k m=0:=by unfold iH;rw[UZ h,UZ (by simp[h2]),UZ h3]
  have e1:bw L n k m=cU L n (ae L k) (lv L m):=by unfold bw;rw[U0 he]
  have e2:iu L n k m=(decide ((ae L k).kind=10)&&decide (m.code=1)):=by unfold iu;rw[he];rfl
  have e3:lY L n k m=di L n (ae L k) (lv L m):=by unfold lY;rw[U0 he]
  rw[e1,e2,e3,he];exact⟨trivial,⟨hL,hs,C3⟩,⟨rfl,rfl,rfl,rfl,rfl,rfl,rfl⟩,rfl⟩
theorem Sd (L:List Sx.Obj) (n:Int) (k:Key) (m:bd) (hL:an L) (hs:au m.data):aj Tryz.prog 61 [.lp 0 0,.it .i64 n,.key k,qv m] [.store tS eS L] (yZ (.tp [qv (bw L n k m),.bo (iu L n k m),.it .i64 (iH L n k m)]) (lY L n k m)) (fun _ _=>False):=
 bL (inl:=cw) (ann:=(kW [(61,3,Oo 4)])) (ab aW (ab fJ (ab sM aq))) (aB Dd ay) (SK L n k m hL hs) (by kernel_rfl)
theorem SB:p5 Tryz.prog 61 Tk:=
 yG (m:=fun x=>Pt.cn x 0) (nU Mk (fun _=>rfl)) (fun _=>rfl) (fun _ _=>rfl) (fun x hs=>bL (inl:=cw) (ann:=(kW [(61,3,Oo 4)])) (ab nV (ab fJ (ab sM aq))) (aB Dd ay) (OS x.1 x.2.1 x.2.2.1 hs) (by kernel_rfl)) (fun x hs=>bL (inl:=cw) (ann:=(kW [(61,3,Oo 4)])) (ab nV (ab fJ (ab sM aq))) (aB Dd ay) (QJ x.1 x.2.1 x.2.2.1 hs) (by kernel_rfl)) fun L x hq=>Sd L x.1 x.2.1 x.2.2.1 hq.1 hq.2
end Go.Proofs.YtlblcfaclmpekaaGreat
