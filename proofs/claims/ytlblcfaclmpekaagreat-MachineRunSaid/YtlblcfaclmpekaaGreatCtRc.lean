import Derived.Test.YtlblcfaclmpekaaGreatCtRb
import Derived.Test.YtlblcfaclmpekaaGreatKS
namespace Go.Proofs.YtlblcfaclmpekaaGreat
open Go.Sx
theorem PZ (L:List Sx.Obj) (n:Int) (k:Key) (m:bh) (hL:ar L) (hs:aw m.data):
 true=true/\(bh.mk 190 eB void void void,L)=aG L n (kk 0 k) m:=by
 simp+decide [aG,dg,dF,dt,ef,iC,gW,iI,ga,dG,cV,fy,fT,fo,gV,c8,void,ee,eB,aZ,fc,eP,fe,kk,mm,hL,hs];try grind
theorem Rn (L:List Sx.Obj) (n:Int) (k:Key) (m:bh) (hL:ar L) (hs:aw m.data):aj Tryz.prog 102 [.lp 0 0] [.ro (.blk m9 (gj (.it .i64 m.code) m n (.ci .i64 0) k)),.store tS eS L] (kO (aG L n ((kk 0 k)) (m))) (fun _ _=>False):=
 aL (inl:=(fun f=>f==131||f==142||f==152||f==146||f==202||f==185||f==227||f==177||f==148||f==174||f==173||f==132||f==144||f==184||f==188)) (ann:=aR) (ab cc au) aA (dD bx) (PZ L n k m hL hs) (by kernel_rfl)
theorem Q8 (L:List Sx.Obj) (n:Int) (k:Key) (m:bh) (hL:ar L) (hs:aw m.data) (hz:¬k.kind=0):
 true=true/\((!!decide (k.kind=0))=true->(bh.mk 190 eB void void void,L)=aG L n k (mm 0 m))/\((!!decide (k.kind=0))=false->true=true/\true=true/\(bh.mk 0 eB void void (Key.mk
  1 void.oid void.count void.call void.rights k.kind),L)=aG L n k (mm 0 m)):=by
 have hX:aG L n k (mm 0 m)=(fT k.kind,L):=by
  have hr:dt L n k (mm 0 m)=(0,fT k.kind,L):=by
   unfold dt;rw[VM hz,VN (show(mm 0 m).code=0 from rfl)]
  simp[aG,dg,dF,hr]
 rw[hX];simp[hz];rfl
theorem PB (L:List Sx.Obj) (n:Int) (k:Key) (m:bh) (hL:ar L) (hs:aw m.data) (hz:¬k.kind=0):aj Tryz.prog 102 [.lp 0 0] [.ro (.blk m9 (gj (.ci .i64 0) m n (.it .i64 k.kind) k)),.store tS eS L] (kO (aG L n (k) ((mm 0 m)))) (fun _ _=>False):=
 aL (inl:=(fun f=>f==131||f==142||f==152||f==146||f==202||f==185||f==227||f==177||f==148||f==174||f==173||f==132||f==144||f==184||f==188)) (ann:=aR) (ab cc au) aA (dD bx) (Q8 L n k m hL hs hz) (by kernel_rfl)
theorem Ph (L:List Sx.Obj) (n:Int) (k:Key) (m:bh) (hL:ar L) (hs:aw m.data) (hz:¬k.kind=0) (hc:¬m.code=0) (hn:m.code<1\/cV k.kind<m.code):
 true=true/\((!!decide (k.kind=0))=true->(bh.mk 190 eB void void void,L)=aG L n k m)/\((!!decide (k.kind=0))=false->(decide (m.code=0)=true->true=true/\true=true/\(bh.mk
  0 eB void void (Key.mk 1 void.oid void.count void.call void.rights k.kind),L)=aG L n k m)/\(decide (m.code=0)=false->true=true/\((!(oc 1 1 k m||(oc 2 1 k m||(oc 2 2 k m||(oc 2 3 k
  m||(oc 2 4 k m||(oc 2 5 k m||(oc 2 6 k m||(oc 3 1 k m||(oc 3 2 k m||(oc 3 3 k m||(oc 3 4 k m||(oc 3 5 k m||(oc 4 1 k m||(oc 4 2 k m||(oc 4 3 k m||(oc 4 4 k m||(oc 4 5 k m||
  (oc 4 6 k m||(oc 5 1 k m||(oc 5 2 k m||(oc 5 3 k m||(oc 5 4 k m||(oc 5 5 k m||(oc 5 6 k m||(oc 5 7 k m||(oc 8 1 k m||(oc 8 2 k m||(oc 8 3 k m||(oc 9 1 k m||oc 10 1 k
  m))))))))))))))))))))))))))))))=true->(bh.mk 240 eB void void void,L)=aG L n k m)/\((!(oc 1 1 k m||(oc 2 1 k m||(oc 2 2 k m||(oc 2 3 k m||(oc 2 4 k m||(oc 2 5 k m||(oc 2 6 k m||
  (oc 3 1 k m||(oc 3 2 k m||(oc 3 3 k m||(oc 3 4 k m||(oc 3 5 k m||(oc 4 1 k m||(oc 4 2 k m||(oc 4 3 k m||(oc 4 4 k m||(oc 4 5 k m||(oc 4 6 k m||(oc 5 1 k m||(oc 5 2 k m||(oc 5
  3 k m||(oc 5 4 k m||(oc 5 5 k m||(oc 5 6 k m||(oc 5 7 k m||(oc 8 1 k m||(oc 8 2 k m||(oc 8 3 k m||(oc 9 1 k m||oc 10 1 k m))))))))))))))))))))))))))))))=false->((oc 1 1 k m)=true
  ->true=true/\False)/\((oc 1 1 k m)=false->((oc 2 1 k m)=true->true=true/\False)/\((oc 2 1 k m)=false->((oc 2 2 k m)=true->true=true/\False)/\((oc 2 2 k m)=false->((oc 2 3 k
  m)=true->true=true/\False)/\((oc 2 3 k m)=false->((oc 2 4 k m)=true->true=true/\False)/\((oc 2 4 k m)=false->((oc 2 5 k m)=true->true=true/\False)/\((oc 2 5 k m)=false->
  ((oc 2 6 k m)=true->true=true/\False)/\((oc 2 6 k m)=false->((oc 3 1 k m)=true->true=true/\False)/\((oc 3 1 k m)=false->((oc 3 2 k m)=true->true=true/\False)/\((oc 3 2 k m)=
  false->((oc 3 3 k m)=true->true=true/\False)/\((oc 3 3 k m)=false->((oc 3 4 k m)=true->true=true/\False)/\((oc 3 4 k m)=false->((oc 3 5 k m)=true->true=true/\False)/\((oc 3
  5 k m)=false->((oc 4 1 k m)=true->true=true/\False)/\((oc 4 1 k m)=false->((oc 4 2 k m)=true->true=true/\False)/\((oc 4 2 k m)=false->((oc 4 3 k m)=true->true=true/\False)
  /\((oc 4 3 k m)=false->((oc 4 4 k m)=true->true=true/\False)/\((oc 4 4 k m)=false->((oc 4 5 k m)=true->true=true/\False)/\((oc 4 5 k m)=false->((oc 4 6 k m)=true->true=true
  /\False)/\((oc 4 6 k m)=false->((oc 5 1 k m)=true->true=true/\False)/\((oc 5 1 k m)=false->((oc 5 2 k m)=true->true=true/\False)/\((oc 5 2 k m)=false->((oc 5 3 k m)=true->
  true=true/\False)/\((oc 5 3 k m)=false->((oc 5 4 k m)=true->true=true/\False)/\((oc 5 4 k m)=false->((oc 5 5 k m)=true->true=true/\False)/\((oc 5 5 k m)=false->((oc 5 6 k m)
  =true->true=true/\False)/\((oc 5 6 k m)=false->((oc 5 7 k m)=true->true=true/\False)/\((oc 5 7 k m)=false->((oc 8 1 k m)=true->true=true/\False)/\((oc 8 1 k m)=false->((oc
  8 2 k m)=true->true=true/\False)/\((oc 8 2 k m)=false->((oc 8 3 k m)=true->true=true/\False)/\((oc 8 3 k m)=false->((oc 9 1 k m)=true->true=true/\False)/\((oc 9 1 k m)=
  false->((oc 10 1 k m)=true->true=true/\False)/\((oc 10 1 k m)=false->False))))))))))))))))))))))))))))))))):=by
 have hX:aG L n k m=(fo 240,L):=by
  have hr:dt L n k m=(240,ee,L):=by
   unfold dt;rw[VM hz,VM hc,VN (by rcases hn with h|h;exact .inl h;exact .inr (.inl h))]
  simp[aG,dg,dF,hr]
 rw[hX]
 have hq:∀a b:Int,1<=b->b<=cV a->oc a b k m=false:=fun a b h1 h2=>by
  cases h:oc a b k m with
  |false=>rfl
  |true=>
   unfold oc at h;simp only[VG,VH]at h;obtain⟨rfl,rfl⟩:=h;omega
 have f1_1:oc 1 1 k m=false:=hq 1 1 (by omega) (by decide)
 have f2_1:oc 2 1 k m=false:=hq 2 1 (by omega) (by decide)
 have f2_2:oc 2 2 k m=false:=hq 2 2 (by omega) (by decide)
 have f2_3:oc 2 3 k m=false:=hq 2 3 (by omega) (by decide)
 have f2_4:oc 2 4 k m=false:=hq 2 4 (by omega) (by decide)
 have f2_5:oc 2 5 k m=false:=hq 2 5 (by omega) (by decide)
 have f2_6:oc 2 6 k m=false:=hq 2 6 (by omega) (by decide)
 have f3_1:oc 3 1 k m=false:=hq 3 1 (by omega) (by decide)
 have f3_2:oc 3 2 k m=false:=hq 3 2 (by omega) (by decide)
 have f3_3:oc 3 3 k m=false:=hq 3 3 (by omega) (by decide)
 have f3_4:oc 3 4 k m=false:=hq 3 4 (by omega) (by decide)
 have f3_5:oc 3 5 k m=false:=hq 3 5 (by omega) (by decide)
 have f4_1:oc 4 1 k m=false:=hq 4 1 (by omega) (by decide)
 have f4_2:oc 4 2 k m=false:=hq 4 2 (by omega) (by decide)
 have f4_3:oc 4 3 k m=false:=hq 4 3 (by omega) (by decide)
 have f4_4:oc 4 4 k m=false:=hq 4 4 (by omega) (by decide)
 have f4_5:oc 4 5 k m=false:=hq 4 5 (by omega) (by decide)
 have f4_6:oc 4 6 k m=false:=hq 4 6 (by omega) (by decide)
 have f5_1:oc 5 1 k m=false:=hq 5 1 (by omega) (by decide)
 have f5_2:oc 5 2 k m=false:=hq 5 2 (by omega) (by decide)
 have f5_3:oc 5 3 k m=false:=hq 5 3 (by omega) (by decide)
 have f5_4:oc 5 4 k m=false:=hq 5 4 (by omega) (by decide)
 have f5_5:oc 5 5 k m=false:=hq 5 5 (by omega) (by decide)
 have f5_6:oc 5 6 k m=false:=hq 5 6 (by omega) (by decide)
 have f5_7:oc 5 7 k m=false:=hq 5 7 (by omega) (by decide)
 have f8_1:oc 8 1 k m=false:=hq 8 1 (by omega) (by decide)
 have f8_2:oc 8 2 k m=false:=hq 8 2 (by omega) (by decide)
 have f8_3:oc 8 3 k m=false:=hq 8 3 (by omega) (by decide)
 have f9_1:oc 9 1 k m=false:=hq 9 1 (by omega) (by decide)
 have f10_1:oc 10 1 k m=false:=hq 10 1 (by omega) (by decide)
 simp only[f1_1,f2_1,f2_2,f2_3,f2_4,f2_5,f2_6,f3_1,f3_2,f3_3,f3_4,f3_5,f4_1,f4_2,f4_3,f4_4,f4_5,f4_6,f5_1,f5_2,f5_3,f5_4,f5_5,f5_6,f5_7,f8_1,f8_2,f8_3,f9_1,f10_1];simp[hz,hc];rfl
theorem Pq (L:List Sx.Obj) (n:Int) (k:Key) (m:bh) (hL:ar L) (hs:aw m.data) (hz:¬k.kind=0) (hc:¬m.code=0) (hn:m.code<1\/cV k.kind<m.code):aj Tryz.prog 102 [.lp 0 0] [.ro (.blk m9 (gj (.it .i64 m.code) m n (.it .i64 k.kind) k)),.store tS eS L] (kO (aG L n (k) (m))) (fun _ _=>False):=
 aL (inl:=(fun f=>f==131||f==142||f==152||f==146||f==202||f==185||f==227||f==177||f==148||f==174||f==173||f==132||f==144||f==184||f==188)) (ann:=aR) (ab cc au) aA (dD bx) (Ph L n k m hL hs hz hc hn) (by kernel_rfl)
theorem rq {L:List Sx.Obj} {n:Int} {k:Key} {m:bh} {kd cd:Int} (hk:k.kind=kd) (hc:m.code=cd) (h:aj Tryz.prog 102 [.lp 0 0] [.ro (.blk m9 (gj (.ci .i64 cd) m n (.ci .i64 kd) k)),.store tS eS L] (kO (aG L n (kk kd k) (mm cd m))) (fun _ _=>False)):
  aj Tryz.prog 102 [.lp 0 0] [.ro (.blk m9 (gj (.it .i64 m.code) m n (.it .i64 k.kind) k)),.store tS eS L] (kO (aG L n k m)) (fun _ _=>False):=by
 rw[u5 hk,En hc]at h;subst hk;subst hc;exact w8 (c':= .ci .i64 m.code) (d':= .ci .i64 k.kind) (by simp) (fun _=>rfl) (fun _ h=>h) rfl (fun _=>rfl) (fun _ h=>h) rfl h
theorem Ni (L:List Sx.Obj) (n:Int) (k:Key) (m:bh) (hL:ar L) (hs:aw m.data) (hk:aS k=true):aj Tryz.prog 102 [.lp 0 0] [.ro (.blk m9 (gj (.it .i64 m.code) m n (.it .i64 k.kind) k)),.store tS eS L] (kO (aG L n k m)) (fun _ _=>False):=by
 by_cases h0:k.kind=0
 ·have:=Rn L n k m hL hs;rw[u5 h0]at this;exact w8 (by simp) (fun _=>rfl) (fun _ h=>h) rfl (fun _=>by rw[h0];rfl) (fun _ h=>by rw[h0]at h;exact h) rfl this
 by_cases hc:m.code=0
 ·have:=PB L n k m hL hs h0;rw[En hc]at this;exact w8 (by simp) (fun _=>by rw[hc];rfl) (fun _ h=>by rw[hc]at h;exact h) rfl (fun _=>rfl) (fun _ h=>h) rfl this
 by_cases hn:m.code<1\/cV k.kind<m.code
 ·exact Pq L n k m hL hs h0 hc hn
 have hkd:k.kind=1\/k.kind=2\/k.kind=3\/k.kind=4\/k.kind=5\/k.kind=8\/k.kind=9\/k.kind=10:=by
  unfold cV at hn;grind
 rcases hkd with e|e|e|e|e|e|e|e
 ·have hq:cV k.kind=1:=by rw[e];decide
  have hcd:m.code=1:=by omega
  have f:=hcd
  ·exact rq e f (J3 L n k m hL hs)
 ·have hq:cV k.kind=6:=by rw[e];decide
  have hcd:m.code=1\/m.code=2\/m.code=3\/m.code=4\/m.code=5\/m.code=6:=by omega
  rcases hcd with f|f|f|f|f|f
  ·exact rq e f (HL L n k m hL hs)
  ·exact rq e f (Iu L n k m hL hs)
  ·exact rq e f (Kk L n k m hL hs)
  ·exact rq e f (JI L n k m hL hs)
  ·exact rq e f (JQ L n k m hL hs (by rw[u5 e];exact hk))
  ·exact rq e f (GU L n k m hL hs)
 ·have hq:cV k.kind=5:=by rw[e];decide
  have hcd:m.code=1\/m.code=2\/m.code=3\/m.code=4\/m.code=5:=by omega
  rcases hcd with f|f|f|f|f
  ·exact rq e f (IU L n k m hL hs)
  ·exact rq e f (KG L n k m hL hs)
  ·exact rq e f (Is L n k m hL hs)
  ·exact rq e f (Jv L n k m hL hs)
  ·exact rq e f (G5 L n k m hL hs (by rw[u5 e];exact hk))
 ·have hq:cV k.kind=6:=by rw[e];decide
  have hcd:m.code=1\/m.code=2\/m.code=3\/m.code=4\/m.code=5\/m.code=6:=by omega
  rcases hcd with f|f|f|f|f|f
  ·exact rq e f (IE L n k m hL hs)
  ·exact rq e f (Ho L n k m hL hs)
  ·exact rq e f (Lo L n k m hL hs)
  ·exact rq e f (Il L n k m hL hs)
  ·exact rq e f (HE L n k m hL hs)
  ·exact rq e f (JC L n k m hL hs)
 ·have hq:cV k.kind=7:=by rw[e];decide
  have hcd:m.code=1\/m.code=2\/m.code=3\/m.code=4\/m.code=5\/m.code=6\/m.code=7:=by omega
  rcases hcd with f|f|f|f|f|f|f
  ·exact rq e f (Ju L n k m hL hs)
  ·exact rq e f (Lj L n k m hL hs)
  ·exact rq e f (Hz L n k m hL hs)
  ·exact rq e f (Js L n k m hL hs)
  ·exact rq e f (IV L n k m hL hs)
  ·exact rq e f (Ht L n k m hL hs)
  ·exact rq e f (Le L n k m hL hs)
 ·have hq:cV k.kind=3:=by rw[e];decide
  have hcd:m.code=1\/m.code=2\/m.code=3:=by omega
  rcases hcd with f|f|f
  ·exact rq e f (GS L n k m hL hs)
  ·exact rq e f (HB L n k m hL hs)
  ·exact rq e f (Lm L n k m hL hs)
 ·have hq:cV k.kind=1:=by rw[e];decide
  have hcd:m.code=1:=by omega
  have f:=hcd
  ·exact rq e f (H2 L n k m hL hs)
 ·have hq:cV k.kind=1:=by rw[e];decide
  have hcd:m.code=1:=by omega
  have f:=hcd
  ·exact rq e f (FD L n k m hL hs)
theorem CO:oP Tryz.prog 102 O8:=by
 intro args res K KP h;unfold O8 at h;split at h
 case h_2=>exact h.elim
 split at h
 case h_2=>exact h.elim
 rename_i j off;split at h
 case isFalse=>exact h.elim
 rename_i hoff;have hoff:=VI.1 hoff;subst hoff;split at h
 case h_2=>exact h.elim
 rename_i t c hj;split at h
 case isFalse=>exact h.elim
 rename_i ht;have ht:=VI.1 ht;subst ht;split at h
 case h_2=>exact h.elim
 split at h
 case h_2=>exact h.elim
 rename_i mv sv nv kv;split at h
 case h_2=>exact h.elim
 rename_i m hm;split at h
 case h_2=>exact h.elim
 rename_i i o2;split at h
 case isFalse=>exact h.elim
 rename_i hij;simp only[VG,VI,Bool.not_eq_true',beq_eq_false_iff_ne,ne_eq]at hij;obtain⟨rfl,hij⟩:=hij;split at h
 case h_2=>exact h.elim
 rename_i n hn;split at h
 case h_2=>exact h.elim
 rename_i k hk;split at h
 case h_2=>exact h.elim
 rename_i t2 e L hi;split at h
 case isFalse=>exact h.elim
 rename_i hc;simp only[VG,VI]at hc;obtain⟨rfl,rfl⟩:=hc;obtain⟨⟨hL,hs,hok⟩,h⟩:=h;have hkj:known res j:=by unfold known;rw[hj];simp
 have hki:known res i:=by unfold known;rw[hi];simp
 have hlj:=aF hkj;have hli:=aF hki;have hlj':cT res j= .blk m9 (.ag [mv,.lp i 0,nv,kv]):=by unfold cT;rw[hj]
 have im:=sG (κ:=ky 0 (dr [(j,false),(i,true)])) mv (G1 hm);have inn:=sG (κ:=ky 0 (dr [(j,false),(i,true)])) nv (oZ hn);have ik:=sG (κ:=ky 0 (dr [(j,false),(i,true)])) kv (Ai hk);have il:e9 (ky 0 (dr [(j,false),(i,true)])) (.lp i 0)=some (.lp 1 0):=by simp[e9,ky,idxOf,dr,Ne.symm hij]
 have hb:e9 (ky 0 (dr [(j,false),(i,true)])) (.ag [mv,.lp i 0,nv,kv])=some (.ag [mv,.lp 1 0,nv,kv]):=by unfold e9;rw[om im (om il (om inn (om ik rfl)))]
 have hres:eF (ky 0 (dr [(j,false),(i,true)])) res [(j,false),(i,true)]= [.ro (.blk m9 (.ag [mv,.lp 1 0,nv,kv])),.store tS eS L]:=by simp only[eF,hlj',hi,fZ,hb];rfl
 refine aj.frame (pl:= [(j,false),(i,true)]) (args0:= [.lp 0 0]) (K0:=kO (aG L n k m)) (KP0:=fun _ _=>False) (by simp[eE,cx.2 hkj,cx.2 hki]) (by simpa[iT,dr,pw]using⟨⟨hlj,hij⟩,hli⟩) (by simp[dU,e9,ky,idxOf,dr]) ?_ (fun v r hv=>?_) (fun _ _ h=>h.elim)
 ·rw[hres];exact Iy (by simp) hm hn hk (Ni L n k m hL hs hok)
 ·obtain⟨h1,h2⟩:=PX hv;have hm':merge [(j,false),(i,true)] [] r res=br res i (.store tS eS (dF L n k m)):=by simp[merge,fj,h2,fZ,gq,aG]
  exact⟨[],qQ (dg L n k m),rfl,by simp[lP,h2,iR],rfl,j8.j4 h1 rfl,by rw[hm'];exact h⟩
theorem DI (k:Key):
 (decide (bT k=0)&&(!aP k||decide (bH k<0)))=bQ [] k:=by
 unfold bQ bT bH aP cO;simp only[aq,List.length_nil];grind
theorem Fe (L:List Sx.Obj) (k:Key):
 (decide (bT k=0)&&(!aP k||decide (bH k<ah L)))=bQ L k:=by
 unfold bQ bT bH aP cO ah;grind
theorem sZ:dC Tryz.prog 101 J1:=
 jY (aN qK (aN mG dX)) (fun _=>rfl) fun a hq hok=>by
  obtain⟨S,k,_⟩:=a;cases S with
  |none=>exact bP (inl:=ca) (ann:=aR) (ab ba (ab fh (ab cF au))) aA (DI k) (by kernel_rfl)
  |some L=>exact bP (inl:=ca) (ann:=aR) (ab ba (ab fh (ab cF au))) aA (Fe L k) (by kernel_rfl)
theorem PT (n:Int) (k:Key) (m:bh) (hs:aw m.data):
 (decide (0<=n)=true->aM IntKind.i64 (cC m.data))/\0=(bE [] n k m).code/\ByteArray.mk (Array.mk [])=(bE [] n k m).data/\void=(bE [] n k m).k0/\void=(bE [] n k m).k1/\void
  =(bE [] n k m).k2/\false=iv [] n k m/\1=iS [] n k m:=by
 have hin:aM .i64 (cC m.data):=by have:=hs;unfold aw at this;unfold aM cj cC;omega
 have e:iS [] n k m=1:=by unfold iS;rw[VN (show aq ([]:List Sx.Obj)=0 from rfl)]
 have e1:bE [] n k m=ee:=by unfold bE;rw[e];rfl
 have e2:iv [] n k m=false:=by unfold iv;rw[e];rfl
 rw[e1,e2,e];exact⟨fun _=>hin,rfl,rfl,rfl,rfl,rfl,rfl,rfl⟩
theorem QC (n:Int) (k:Key) (m:bh) (hs:aw m.data):
 (decide (0<=n)=true->aM IntKind.i64 (cC m.data))/\0=(bE [] n k m).code/\ByteArray.mk (Array.mk [])=(bE [] n k m).data/\void=(bE [] n k m).k0/\void=(bE [] n k m).k1/\void
  =(bE [] n k m).k2/\false=iv [] n k m/\1=iS [] n k m:=by
 have hin:aM .i64 (cC m.data):=by have:=hs;unfold aw at this;unfold aM cj cC;omega
 have e:iS [] n k m=1:=by unfold iS;rw[VN (show aq ([]:List Sx.Obj)=0 from rfl)]
 have e1:bE [] n k m=ee:=by unfold bE;rw[e];rfl
 have e2:iv [] n k m=false:=by unfold iv;rw[e];rfl
 rw[e1,e2,e];exact⟨fun _=>hin,rfl,rfl,rfl,rfl,rfl,rfl,rfl⟩
theorem S4 (L:List Sx.Obj) (n:Int) (k:Key) (m:bh) (hL:ar L) (hs:aw m.data):
 (decide (0<=n)=true->aM IntKind.i64 (cC m.data))/\(decide (ah L=0)=true->(0=(bE L n k m).code/\ByteArray.mk (Array.mk [])=(bE L n k m).data/\void=(bE L n k m).k0/\
  void=(bE L n k m).k1/\void=(bE L n k m).k2/\false=iv L n k m/\1=iS L n k m)/\L=mJ L n k m)/\(decide (ah L=0)=false->((!(decide (0<=n)&&decide (cC m.data<=32)
  &&bQ L k&&bQ L m.k0&&bQ L m.k1&&bQ L m.k2))=true->(0=(bE L n k m).code/\ByteArray.mk (Array.mk [])=(bE L n k m).data/\void=(bE L n k m).k0/\void=(bE L n k
  m).k1/\void=(bE L n k m).k2/\false=iv L n k m/\2=iS L n k m)/\L=mJ L n k m)/\((!(decide (0<=n)&&decide (cC m.data<=32)&&bQ L k&&bQ L m.k0&&bQ L m.k1&&
  bQ L m.k2))=false->((decide ((ae L k).kind=6)||decide ((ae L k).kind=7))=true->(0=(bE L n k m).code/\ByteArray.mk (Array.mk [])=(bE L n k m).data/\void=(bE L n k
  m).k0/\void=(bE L n k m).k1/\void=(bE L n k m).k2/\false=iv L n k m/\241=iS L n k m)/\L=mJ L n k m)/\((decide ((ae L k).kind=6)||decide ((ae L k).kind=7))=
  false->true=true/\Pc L (ae L k) (bh.mk m.code m.data (ae L m.k0) (ae L m.k1) (ae L m.k2))/\((dg L n (ae L k) (bh.mk m.code m.data (ae L m.k0) (ae L m.k1)
  (ae L m.k2))).code=(bE L n k m).code/\(dg L n (ae L k) (bh.mk m.code m.data (ae L m.k0) (ae L m.k1) (ae L m.k2))).data=(bE L n k m).data/\(dg L n (ae L k)
  (bh.mk m.code m.data (ae L m.k0) (ae L m.k1) (ae L m.k2))).k0=(bE L n k m).k0/\(dg L n (ae L k) (bh.mk m.code m.data (ae L m.k0) (ae L m.k1) (ae L m.k2))).k1=
  (bE L n k m).k1/\(dg L n (ae L k) (bh.mk m.code m.data (ae L m.k0) (ae L m.k1) (ae L m.k2))).k2=(bE L n k m).k2/\(decide ((ae L k).kind=10)&&decide (m.code=1))=
  iv L n k m/\0=iS L n k m)/\dF L n (ae L k) (bh.mk m.code m.data (ae L m.k0) (ae L m.k1) (ae L m.k2))=mJ L n k m))):=by
 have hcn:bh.mk m.code m.data (ae L m.k0) (ae L m.k1) (ae L m.k2)=lU L m:=rfl;simp only[hcn];have hin:aM .i64 (cC m.data):=by have:=hs;unfold aw at this;unfold aM cj cC;omega
 have hf:(decide (0<=n)&&decide (cC m.data<=32)&&bQ L k&&bQ L m.k0&&bQ L m.k1&&bQ L m.k2)=xF L n k m:=by
  unfold xF h9;cases decide (0<=n)<;>cases decide (cC m.data<=32)<;>cases bQ L k<;>cases bQ L m.k0<;>cases bQ L m.k1<;>cases bQ L m.k2<;>rfl
 rw[hf];have hsz:ah L=0↔aq L=0:=by unfold ah;simp[b6]
 have no:∀e:Int,iS L n k m=e->e≠0->(0=(bE L n k m).code/\ByteArray.mk (Array.mk [])=(bE L n k m).data/\void=(bE L n k m).k0/\void=(bE L n k m).k1/\void=(bE L n k m).k2/\false=iv L n k m/\e=iS L n k m)/\L=mJ L n k m:=fun e he h0=>by
  have e1:bE L n k m=ee:=by unfold bE;rw[he,VM h0]
  have e2:iv L n k m=false:=by unfold iv;rw[he];simp[h0]
  have e3:mJ L n k m=L:=by unfold mJ;rw[he,VM h0]
  rw[e1,e2,e3,he];exact⟨⟨rfl,rfl,rfl,rfl,rfl,rfl,rfl⟩,rfl⟩
 refine⟨fun _=>hin,fun h=>?_,fun h=>⟨fun h2=>?_,fun h2=>⟨fun h3=>?_,fun h3=>?_⟩⟩⟩
 ·have h:=hsz.1 (by simpa using h)
  exact no 1 (by unfold iS;rw[VN h]) (by omega)
 ·have h:¬aq L=0:=fun e=>by simp[hsz.2 e]at h
  have h2:xF L n k m=false:=by simpa using h2
  exact no 2 (by unfold iS;rw[VM h,VN h2]) (by omega)
 ·have h:¬aq L=0:=fun e=>by simp[hsz.2 e]at h
  have h2:xF L n k m=true:=by simpa using h2
  have h3:(ae L k).kind=6\/(ae L k).kind=7:=by simpa using h3
  exact no 241 (by unfold iS;rw[VM h,VM (by simp[h2]),VN h3]) (by omega)
 ·have h:¬aq L=0:=fun e=>by simp[hsz.2 e]at h
  have h2:xF L n k m=true:=by simpa using h2
  have h3:¬((ae L k).kind=6\/(ae L k).kind=7):=by simpa using h3
  have he:iS L n k m=0:=by unfold iS;rw[VM h,VM (by simp[h2]),VM h3]
  have e1:bE L n k m=dg L n (ae L k) (lU L m):=by unfold bE;rw[VN he]
  have e2:iv L n k m=(decide ((ae L k).kind=10)&&decide (m.code=1)):=by unfold iv;rw[he];rfl
  have e3:mJ L n k m=dF L n (ae L k) (lU L m):=by unfold mJ;rw[VN he]
  rw[e1,e2,e3,he];exact⟨trivial,⟨hL,hs,C0⟩,⟨rfl,rfl,rfl,rfl,rfl,rfl,rfl⟩,rfl⟩
theorem Ta (L:List Sx.Obj) (n:Int) (k:Key) (m:bh) (hL:ar L) (hs:aw m.data):aj Tryz.prog 61 [.lp 0 0,.it .i64 n,.key k,qQ m] [.store tS eS L] (zt (.tp [qQ (bE L n k m),.bo (iv L n k m),.it .i64 (iS L n k m)]) (mJ L n k m)) (fun _ _=>False):=
 bP (inl:=ca) (ann:=(kV [(61,3,Rb 4)])) (ab ba (ab fR (ab sZ au))) (aE CO aA) (S4 L n k m hL hs) (by kernel_rfl)
theorem SJ:oP Tryz.prog 61 UJ:=
 zi (m:=fun x=>QZ.cn x 0) (oi N7 (fun _=>rfl)) (fun _=>rfl) (fun _ _=>rfl) (fun x hs=>bP (inl:=ca) (ann:=(kV [(61,3,Rb 4)])) (ab qn (ab fR (ab sZ au))) (aE CO aA) (PT x.1 x.2.1 x.2.2.1 hs) (by kernel_rfl)) (fun x hs=>bP (inl:=ca) (ann:=(kV [(61,3,Rb 4)])) (ab qn (ab fR (ab sZ au))) (aE CO aA) (QC x.1 x.2.1 x.2.2.1 hs) (by kernel_rfl)) fun L x hq=>Ta L x.1 x.2.1 x.2.2.1 hq.1 hq.2
end Go.Proofs.YtlblcfaclmpekaaGreat
