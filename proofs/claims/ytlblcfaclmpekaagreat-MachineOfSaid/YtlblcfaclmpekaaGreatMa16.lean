import Derived.Test.YtlblcfaclmpekaaGreatMa15
set_option linter.unusedSimpArgs false
set_option linter.unusedVariables false
set_option maxRecDepth 100000
namespace Go.Proofs.YtlblcfaclmpekaaGreat
open Go.Sx
theorem VW (L:List Sx.Obj) (n:Int) (k:Key) (m:br) (hL:ar L) (hs:aw m.data):
 true=true/\(br.mk 190 eB void void void,L)=aP L n (kk 0 k) m:=by
 simp+decide [aP,ei,ey,dG,eH,ep,ev,dA,dr,cX,c9,eV,fm,gf,gq,cK,void,cY,eB,aS,ea,fK,fk,kk,mm,hL,hs];try grind
theorem VH (L:List Sx.Obj) (n:Int) (k:Key) (m:br) (hL:ar L) (hs:aw m.data):an Tryz.prog 102 [.lp 0 0] [.ro (.blk oP (iL (.it .i64 m.code) m n (.ci .i64 0) k)),.store tS eS L] (kO (aP L n ((kk 0 k)) (m))) (fun _ _=>False):=
 aY (inl:=(fun f=>f==131||f==142||f==152||f==146||f==202||f==185||f==227||f==177||f==148||f==174||f==173||f==132||f==144||f==184||f==188)) (ann:=aQ) (ae dw aq) aD (eP bX) (VW L n k m hL hs) (by kernel_rfl)
theorem Yk (L:List Sx.Obj) (n:Int) (k:Key) (m:br) (hL:ar L) (hs:aw m.data) (hz:¬k.kind=0):
 abb (aba (!!decide (k.kind=0)) ((br.mk 190 eB void void void,L)=aP L n k (mm 0 m)) (abb (abb ((br.mk 0 eB void void (abg k.kind),L)=aP L n k (mm 0 m))))):=by
 delta aba abg abb
 have hX:aP L n k (mm 0 m)=(fm k.kind,L):=by
  have hr:dG L n k (mm 0 m)=(0,fm k.kind,L):=by
   unfold dG;rw[aa8 hz,aa9 (show(mm 0 m).code=0 from rfl)]
  simp[aP,ei,ey,hr]
 rw[hX];simp[hz];rfl
theorem Xv (L:List Sx.Obj) (n:Int) (k:Key) (m:br) (hL:ar L) (hs:aw m.data) (hz:¬k.kind=0):an Tryz.prog 102 [.lp 0 0] [.ro (.blk oP (iL (.ci .i64 0) m n (.it .i64 k.kind) k)),.store tS eS L] (kO (aP L n (k) ((mm 0 m)))) (fun _ _=>False):=
 aY (inl:=(fun f=>f==131||f==142||f==152||f==146||f==202||f==185||f==227||f==177||f==148||f==174||f==173||f==132||f==144||f==184||f==188)) (ann:=aQ) (ae dw aq) aD (eP bX) (Yk L n k m hL hs hz) (by kernel_rfl)
abbrev abF:=true=true/\False
theorem VY (L:List Sx.Obj) (n:Int) (k:Key) (m:br) (hL:ar L) (hs:aw m.data) (hz:¬k.kind=0) (hc:¬m.code=0) (hn:m.code<1\/c9 k.kind<m.code):
 abb (aba (!!decide (k.kind=0)) ((br.mk 190 eB void void void,L)=aP L n k m) (aba (decide (m.code=0)) (abb (abb ((br.mk 0 eB void void (abg k.kind),L)=aP L n k m))) (abb (aba (!(oc 1 1 k m||(oc 2 1 k m||(oc 2 2 k m||(oc 2 3 k m||(oc 2 4 k m||(oc 2 5 k m||(oc 2 6 k m||(oc 3 1 k m||(oc 3 2 k m||(oc 3 3 k m||(oc 3 4 k m||(oc 3 5 k m||(oc 4 1 k m||(oc 4 2 k m||(oc 4 3 k m||(oc 4 4 k m||(oc 4 5 k m||(oc 4 6 k m||(oc 5 1 k m||(oc 5 2 k m||(oc 5 3 k m||(oc 5 4 k m||(oc 5 5 k m||(oc 5 6 k m||(oc 5 7 k m||(oc 8 1 k m||(oc 8 2 k m||(oc 8 3 k m||(oc 9 1 k m||oc 10 1 k m)))))))))))))))))))))))))))))) ((br.mk 240 eB void void void,L)=aP L n k m) (aba (oc 1 1 k m) abF (aba (oc 2 1 k m) abF (aba (oc 2 2 k m) abF (aba (oc 2 3 k m) abF (aba (oc 2 4 k m) abF (aba (oc 2 5 k m) abF (aba (oc 2 6 k m) abF (aba (oc 3 1 k m) abF (aba (oc 3 2 k m) abF (aba (oc 3 3 k m) abF (aba (oc 3 4 k m) abF (aba (oc 3 5 k m) abF (aba (oc 4 1 k m) abF (aba (oc 4 2 k m) abF (aba (oc 4 3 k m) abF (aba (oc 4 4 k m) abF (aba (oc 4 5 k m) abF (aba (oc 4 6 k m) abF (aba (oc 5 1 k m) abF (aba (oc 5 2 k m) abF (aba (oc 5 3 k m) abF (aba (oc 5 4 k m) abF (aba (oc 5 5 k m) abF (aba (oc 5 6 k m) abF (aba (oc 5 7 k m) abF (aba (oc 8 1 k m) abF (aba (oc 8 2 k m) abF (aba (oc 8 3 k m) abF (aba (oc 9 1 k m) abF (aba (oc 10 1 k m) abF False)))))))))))))))))))))))))))))))))):=by
 delta aba abg abF abb
 have hX:aP L n k m=(gf 240,L):=by
  have hr:dG L n k m=(240,cY,L):=by
   unfold dG;rw[aa8 hz,aa8 hc,aa9 (by rcases hn with h|h;exact .inl h;exact .inr (.inl h))]
  simp[aP,ei,ey,hr]
 rw[hX]
 have hq:∀a b:Int,1<=b->b<=c9 a->oc a b k m=false:=fun a b h1 h2=>by
  cases h:oc a b k m with
  |false=>rfl
  |true=>
   unfold oc at h;simp only[aa2,aa3]at h;obtain⟨rfl,rfl⟩:=h;omega
 have f1_1:oc 1 1 k m=false:=hq 1 1 (by omega) (by decide)
 have f2_1:oc 2 1 k m=false:=hq 2 1 (by omega) (by decide)
 have f2_2:oc 2 2 k m=false:=hq 2 2 (by omega) (by decide)
 have f2_3:oc 2 3 k m=false:=hq 2 3 (by omega) (by decide)
 have f2_4:oc 2 4 k m=false:=hq 2 4 (by omega) (by decide)
 have f2_5:oc 2 5 k m=false:=hq 2 5 (by omega) (by decide)
 have f2_6:oc 2 6 k m=false:=hq 2 6 (by omega) (by decide)
 have f3_1:oc 3 1 k m=false:=hq 3 1 (by omega) (by decide)
 have f3_2:oc 3 2 k m=false:=hq 3 2 (by omega) (by decide)
 have f3_3:oc 3 3 k m=false:=hq 3 3 (by omega) (by decide)
 have f3_4:oc 3 4 k m=false:=hq 3 4 (by omega) (by decide)
 have f3_5:oc 3 5 k m=false:=hq 3 5 (by omega) (by decide)
 have f4_1:oc 4 1 k m=false:=hq 4 1 (by omega) (by decide)
 have f4_2:oc 4 2 k m=false:=hq 4 2 (by omega) (by decide)
 have f4_3:oc 4 3 k m=false:=hq 4 3 (by omega) (by decide)
 have f4_4:oc 4 4 k m=false:=hq 4 4 (by omega) (by decide)
 have f4_5:oc 4 5 k m=false:=hq 4 5 (by omega) (by decide)
 have f4_6:oc 4 6 k m=false:=hq 4 6 (by omega) (by decide)
 have f5_1:oc 5 1 k m=false:=hq 5 1 (by omega) (by decide)
 have f5_2:oc 5 2 k m=false:=hq 5 2 (by omega) (by decide)
 have f5_3:oc 5 3 k m=false:=hq 5 3 (by omega) (by decide)
 have f5_4:oc 5 4 k m=false:=hq 5 4 (by omega) (by decide)
 have f5_5:oc 5 5 k m=false:=hq 5 5 (by omega) (by decide)
 have f5_6:oc 5 6 k m=false:=hq 5 6 (by omega) (by decide)
 have f5_7:oc 5 7 k m=false:=hq 5 7 (by omega) (by decide)
 have f8_1:oc 8 1 k m=false:=hq 8 1 (by omega) (by decide)
 have f8_2:oc 8 2 k m=false:=hq 8 2 (by omega) (by decide)
 have f8_3:oc 8 3 k m=false:=hq 8 3 (by omega) (by decide)
 have f9_1:oc 9 1 k m=false:=hq 9 1 (by omega) (by decide)
 have f10_1:oc 10 1 k m=false:=hq 10 1 (by omega) (by decide)
 simp only[f1_1,f2_1,f2_2,f2_3,f2_4,f2_5,f2_6,f3_1,f3_2,f3_3,f3_4,f3_5,f4_1,f4_2,f4_3,f4_4,f4_5,f4_6,f5_1,f5_2,f5_3,f5_4,f5_5,f5_6,f5_7,f8_1,f8_2,f8_3,f9_1,f10_1];simp[hz,hc];rfl
theorem Xi (L:List Sx.Obj) (n:Int) (k:Key) (m:br) (hL:ar L) (hs:aw m.data) (hz:¬k.kind=0) (hc:¬m.code=0) (hn:m.code<1\/c9 k.kind<m.code):an Tryz.prog 102 [.lp 0 0] [.ro (.blk oP (iL (.it .i64 m.code) m n (.it .i64 k.kind) k)),.store tS eS L] (kO (aP L n (k) (m))) (fun _ _=>False):=
 aY (inl:=(fun f=>f==131||f==142||f==152||f==146||f==202||f==185||f==227||f==177||f==148||f==174||f==173||f==132||f==144||f==184||f==188)) (ann:=aQ) (ae dw aq) aD (eP bX) (VY L n k m hL hs hz hc hn) (by kernel_rfl)
theorem um {L:List Sx.Obj} {n:Int} {k:Key} {m:br} {kd cd:Int} (hk:k.kind=kd) (hc:m.code=cd) (h:an Tryz.prog 102 [.lp 0 0] [.ro (.blk oP (iL (.ci .i64 cd) m n (.ci .i64 kd) k)),.store tS eS L] (kO (aP L n (kk kd k) (mm cd m))) (fun _ _=>False)):
  an Tryz.prog 102 [.lp 0 0] [.ro (.blk oP (iL (.it .i64 m.code) m n (.it .i64 k.kind) k)),.store tS eS L] (kO (aP L n k m)) (fun _ _=>False):=by
 rw[yw hk,Is hc]at h;subst hk;subst hc;exact zM (c':= .ci .i64 m.code) (d':= .ci .i64 k.kind) (by simp) (fun _=>rfl) (fun _ h=>h) rfl (fun _=>rfl) (fun _ h=>h) rfl h
theorem Ue (L:List Sx.Obj) (n:Int) (k:Key) (m:br) (hL:ar L) (hs:aw m.data) (hk:aV k=true):an Tryz.prog 102 [.lp 0 0] [.ro (.blk oP (iL (.it .i64 m.code) m n (.it .i64 k.kind) k)),.store tS eS L] (kO (aP L n k m)) (fun _ _=>False):=by
 by_cases h0:k.kind=0
 ·have:=VH L n k m hL hs;rw[yw h0]at this;exact zM (by simp) (fun _=>rfl) (fun _ h=>h) rfl (fun _=>by rw[h0];rfl) (fun _ h=>by rw[h0]at h;exact h) rfl this
 by_cases hc:m.code=0
 ·have:=Xv L n k m hL hs h0;rw[Is hc]at this;exact zM (by simp) (fun _=>by rw[hc];rfl) (fun _ h=>by rw[hc]at h;exact h) rfl (fun _=>rfl) (fun _ h=>h) rfl this
 by_cases hn:m.code<1\/c9 k.kind<m.code
 ·exact Xi L n k m hL hs h0 hc hn
 have hkd:k.kind=1\/k.kind=2\/k.kind=3\/k.kind=4\/k.kind=5\/k.kind=8\/k.kind=9\/k.kind=10:=by
  unfold c9 at hn;grind
 rcases hkd with e|e|e|e|e|e|e|e
 ·have hq:c9 k.kind=1:=by rw[e];decide
  have hcd:m.code=1:=by omega
  have f:=hcd
  ·exact um e f (PY L n k m hL hs)
 ·have hq:c9 k.kind=6:=by rw[e];decide
  have hcd:m.code=1\/m.code=2\/m.code=3\/m.code=4\/m.code=5\/m.code=6:=by omega
  rcases hcd with f|f|f|f|f|f
  ·exact um e f (OU L n k m hL hs)
  ·exact um e f (MV L n k m hL hs)
  ·exact um e f (PS L n k m hL hs)
  ·exact um e f (Qb L n k m hL hs)
  ·exact um e f (Na L n k m hL hs (by rw[yw e];exact hk))
  ·exact um e f (O5 L n k m hL hs)
 ·have hq:c9 k.kind=5:=by rw[e];decide
  have hcd:m.code=1\/m.code=2\/m.code=3\/m.code=4\/m.code=5:=by omega
  rcases hcd with f|f|f|f|f
  ·exact um e f (OY L n k m hL hs)
  ·exact um e f (PW L n k m hL hs)
  ·exact um e f (L8 L n k m hL hs)
  ·exact um e f (Nh L n k m hL hs)
  ·exact um e f (LD L n k m hL hs (by rw[yw e];exact hk))
 ·have hq:c9 k.kind=6:=by rw[e];decide
  have hcd:m.code=1\/m.code=2\/m.code=3\/m.code=4\/m.code=5\/m.code=6:=by omega
  rcases hcd with f|f|f|f|f|f
  ·exact um e f (ML L n k m hL hs)
  ·exact um e f (Ql L n k m hL hs)
  ·exact um e f (K4 L n k m hL hs)
  ·exact um e f (MI L n k m hL hs)
  ·exact um e f (N6 L n k m hL hs)
  ·exact um e f (KQ L n k m hL hs)
 ·have hq:c9 k.kind=7:=by rw[e];decide
  have hcd:m.code=1\/m.code=2\/m.code=3\/m.code=4\/m.code=5\/m.code=6\/m.code=7:=by omega
  rcases hcd with f|f|f|f|f|f|f
  ·exact um e f (ON L n k m hL hs)
  ·exact um e f (Oq L n k m hL hs)
  ·exact um e f (Qv L n k m hL hs)
  ·exact um e f (Qi L n k m hL hs)
  ·exact um e f (Py L n k m hL hs)
  ·exact um e f (PX L n k m hL hs)
  ·exact um e f (P5 L n k m hL hs)
 ·have hq:c9 k.kind=3:=by rw[e];decide
  have hcd:m.code=1\/m.code=2\/m.code=3:=by omega
  rcases hcd with f|f|f
  ·exact um e f (LU L n k m hL hs)
  ·exact um e f (Np L n k m hL hs)
  ·exact um e f (Nq L n k m hL hs)
 ·have hq:c9 k.kind=1:=by rw[e];decide
  have hcd:m.code=1:=by omega
  have f:=hcd
  ·exact um e f (Mj L n k m hL hs)
 ·have hq:c9 k.kind=1:=by rw[e];decide
  have hcd:m.code=1:=by omega
  have f:=hcd
  ·exact um e f (Jx L n k m hL hs)
theorem Gi:kL Tryz.prog 102 US:=by
 intro args res K KP h;unfold US at h;split at h
 case h_2=>exact h.elim
 split at h
 case h_2=>exact h.elim
 rename_i j off;split at h
 case isFalse=>exact h.elim
 rename_i hoff;have hoff:=aa4.1 hoff;subst hoff;split at h
 case h_2=>exact h.elim
 rename_i t c hj;split at h
 case isFalse=>exact h.elim
 rename_i ht;have ht:=aa4.1 ht;subst ht;split at h
 case h_2=>exact h.elim
 split at h
 case h_2=>exact h.elim
 rename_i mv sv nv kv;split at h
 case h_2=>exact h.elim
 rename_i m hm;split at h
 case h_2=>exact h.elim
 rename_i i o2;split at h
 case isFalse=>exact h.elim
 rename_i hij;simp only[aa2,aa4,Bool.not_eq_true',beq_eq_false_iff_ne,ne_eq]at hij;obtain⟨rfl,hij⟩:=hij;split at h
 case h_2=>exact h.elim
 rename_i n hn;split at h
 case h_2=>exact h.elim
 rename_i k hk;split at h
 case h_2=>exact h.elim
 rename_i t2 e L hi;split at h
 case isFalse=>exact h.elim
 rename_i hc;simp only[aa2,aa4]at hc;obtain⟨rfl,rfl⟩:=hc;obtain⟨⟨hL,hs,hok⟩,h⟩:=h;have hkj:known res j:=by unfold known;rw[hj];simp
 have hki:known res i:=by unfold known;rw[hi];simp
 have hlj:=aO hkj;have hli:=aO hki;have hlj':cH res j= .blk oP (.ag [mv,.lp i 0,nv,kv]):=by unfold cH;rw[hj]
 have im:=uC (κ:=kX 0 (dB [(j,false),(i,true)])) mv (Lf hm);have inn:=uC (κ:=kX 0 (dB [(j,false),(i,true)])) nv (rG hn);have ik:=uC (κ:=kX 0 (dB [(j,false),(i,true)])) kv (C8 hk);have il:fS (kX 0 (dB [(j,false),(i,true)])) (.lp i 0)=some (.lp 1 0):=by simp[fS,kX,idxOf,dB,Ne.symm hij]
 have hb:fS (kX 0 (dB [(j,false),(i,true)])) (.ag [mv,.lp i 0,nv,kv])=some (.ag [mv,.lp 1 0,nv,kv]):=by unfold fS;rw[lV im (lV il (lV inn (lV ik rfl)))]
 have hres:eY (kX 0 (dB [(j,false),(i,true)])) res [(j,false),(i,true)]= [.ro (.blk oP (.ag [mv,.lp 1 0,nv,kv])),.store tS eS L]:=by simp only[eY,hlj',hi,gp,hb];rfl
 refine an.frame (pl:= [(j,false),(i,true)]) (args0:= [.lp 0 0]) (K0:=kO (aP L n k m)) (KP0:=fun _ _=>False) (by simp[eI,cC.2 hkj,cC.2 hki]) (by simpa[iD,dB,nN]using⟨⟨hlj,hij⟩,hli⟩) (by simp[eJ,fS,kX,idxOf,dB]) ?_ (fun v r hv=>?_) (fun _ _ h=>h.elim)
 ·rw[hres];exact OL (by simp) hm hn hk (Ue L n k m hL hs hok)
 ·obtain⟨h1,h2⟩:=VM hv;have hm':merge [(j,false),(i,true)] [] r res=bO res i (.store tS eS (ey L n k m)):=by simp[merge,eZ,h2,gp,fZ,aP]
  exact⟨[],jG (ei L n k m),rfl,by simp[jO,h2,jF],rfl,jT.ke h1 rfl,by rw[hm'];exact h⟩
theorem Gs (k:Key):
 (decide (bw k=0)&&(!aZ k||decide (cw k<0)))=bJ [] k:=by
 unfold bJ bw cw aZ bd;simp only[ai,List.length_nil];grind
theorem Jw (L:List Sx.Obj) (k:Key):
 (decide (bw k=0)&&(!aZ k||decide (cw k<ak L)))=bJ L k:=by
 unfold bJ bw cw aZ bd ak;grind
theorem wk:cq Tryz.prog 101 Pq:=
 eW (aA s5 (aA iF bV)) (fun _=>rfl) fun a hq hok=>by
  obtain⟨S,k,_⟩:=a;cases S with
  |none=>exact bj (inl:=bx) (ann:=aQ) (ae bC (ae gy (ae dH aq))) aD (Gs k) (by kernel_rfl)
  |some L=>exact bj (inl:=bx) (ann:=aQ) (ae bC (ae gy (ae dH aq))) aD (Jw L k) (by kernel_rfl)
theorem Xc (n:Int) (k:Key) (m:br) (hs:aw m.data):
 (decide (0<=n)=true->aF IntKind.i64 (bN m.data))/\0=(aG [] n k m).code/\ByteArray.mk (Array.mk [])=(aG [] n k m).data/\void=(aG [] n k m).k0/\void=(aG [] n k m).k1/\void
  =(aG [] n k m).k2/\false=cW [] n k m/\1=cJ [] n k m:=by
 have hin:aF .i64 (bN m.data):=by have:=hs;unfold aw at this;unfold aF bY bN;omega
 have e:cJ [] n k m=1:=by unfold cJ;rw[aa9 (show ai ([]:List Sx.Obj)=0 from rfl)]
 have e1:aG [] n k m=cY:=by unfold aG;rw[e];rfl
 have e2:cW [] n k m=false:=by unfold cW;rw[e];rfl
 rw[e1,e2,e];exact⟨fun _=>hin,rfl,rfl,rfl,rfl,rfl,rfl,rfl⟩
theorem Vs (n:Int) (k:Key) (m:br) (hs:aw m.data):
 (decide (0<=n)=true->aF IntKind.i64 (bN m.data))/\0=(aG [] n k m).code/\ByteArray.mk (Array.mk [])=(aG [] n k m).data/\void=(aG [] n k m).k0/\void=(aG [] n k m).k1/\void
  =(aG [] n k m).k2/\false=cW [] n k m/\1=cJ [] n k m:=by
 have hin:aF .i64 (bN m.data):=by have:=hs;unfold aw at this;unfold aF bY bN;omega
 have e:cJ [] n k m=1:=by unfold cJ;rw[aa9 (show ai ([]:List Sx.Obj)=0 from rfl)]
 have e1:aG [] n k m=cY:=by unfold aG;rw[e];rfl
 have e2:cW [] n k m=false:=by unfold cW;rw[e];rfl
 rw[e1,e2,e];exact⟨fun _=>hin,rfl,rfl,rfl,rfl,rfl,rfl,rfl⟩
abbrev abH(m:br)(L:List Sx.Obj):=br.mk m.code m.data (ah L m.k0) (ah L m.k1) (ah L m.k2)
theorem Z5 (L:List Sx.Obj) (n:Int) (k:Key) (m:br) (hL:ar L) (hs:aw m.data):
 (decide (0<=n)=true->aF IntKind.i64 (bN m.data))/\aba (decide (ak L=0)) ((0=(aG L n k m).code/\abG=(aG L n k m).data/\void=(aG L n k m).k0/\void=(aG L n k m).k1/\void=(aG L n k m).k2/\false=cW L n k m/\1=cJ L n k m)/\L=gX L n k m) (aba (!(decide (0<=n)&&decide (bN m.data<=32)&&bJ L k&&bJ L m.k0&&bJ L m.k1&&bJ L m.k2)) ((0=(aG L n k m).code/\abG=(aG L n k m).data/\void=(aG L n k m).k0/\void=(aG L n k m).k1/\void=(aG L n k m).k2/\false=cW L n k m/\2=cJ L n k m)/\L=gX L n k m) (aba (decide ((ah L k).kind=6)||decide ((ah L k).kind=7)) ((0=(aG L n k m).code/\abG=(aG L n k m).data/\void=(aG L n k m).k0/\void=(aG L n k m).k1/\void=(aG L n k m).k2/\false=cW L n k m/\241=cJ L n k m)/\L=gX L n k m) (true=true/\Vg L (ah L k) (abH m L)/\((ei L n (ah L k) (abH m L)).code=(aG L n k m).code/\(ei L n (ah L k) (abH m L)).data=(aG L n k m).data/\(ei L n (ah L k) (abH m L)).k0=(aG L n k m).k0/\(ei L n (ah L k) (abH m L)).k1=(aG L n k m).k1/\(ei L n (ah L k) (abH m L)).k2=(aG L n k m).k2/\(decide ((ah L k).kind=10)&&decide (m.code=1))=cW L n k m/\0=cJ L n k m)/\ey L n (ah L k) (abH m L)=gX L n k m))):=by
 delta aba abG abH
 have hcn:br.mk m.code m.data (ah L m.k0) (ah L m.k1) (ah L m.k2)=aH L m:=rfl;simp only[hcn];have hin:aF .i64 (bN m.data):=by have:=hs;unfold aw at this;unfold aF bY bN;omega
 have hf:(decide (0<=n)&&decide (bN m.data<=32)&&bJ L k&&bJ L m.k0&&bJ L m.k1&&bJ L m.k2)=qq L n k m:=by
  unfold qq fj;cases decide (0<=n)<;>cases decide (bN m.data<=32)<;>cases bJ L k<;>cases bJ L m.k0<;>cases bJ L m.k1<;>cases bJ L m.k2<;>rfl
 rw[hf];have hsz:ak L=0↔ai L=0:=by unfold ak;simp[bD]
 have no:∀e:Int,cJ L n k m=e->e≠0->(0=(aG L n k m).code/\ByteArray.mk (Array.mk [])=(aG L n k m).data/\void=(aG L n k m).k0/\void=(aG L n k m).k1/\void=(aG L n k m).k2/\false=cW L n k m/\e=cJ L n k m)/\L=gX L n k m:=fun e he h0=>by
  have e1:aG L n k m=cY:=by unfold aG;rw[he,aa8 h0]
  have e2:cW L n k m=false:=by unfold cW;rw[he];simp[h0]
  have e3:gX L n k m=L:=by unfold gX;rw[he,aa8 h0]
  rw[e1,e2,e3,he];exact⟨⟨rfl,rfl,rfl,rfl,rfl,rfl,rfl⟩,rfl⟩
 refine⟨fun _=>hin,fun h=>?_,fun h=>⟨fun h2=>?_,fun h2=>⟨fun h3=>?_,fun h3=>?_⟩⟩⟩
 ·have h:=hsz.1 (by simpa using h)
  exact no 1 (by unfold cJ;rw[aa9 h]) (by omega)
 ·have h:¬ai L=0:=fun e=>by simp[hsz.2 e]at h
  have h2:qq L n k m=false:=by simpa using h2
  exact no 2 (by unfold cJ;rw[aa8 h,aa9 h2]) (by omega)
 ·have h:¬ai L=0:=fun e=>by simp[hsz.2 e]at h
  have h2:qq L n k m=true:=by simpa using h2
  have h3:(ah L k).kind=6\/(ah L k).kind=7:=by simpa using h3
  exact no 241 (by unfold cJ;rw[aa8 h,aa8 (by simp[h2]),aa9 h3]) (by omega)
 ·have h:¬ai L=0:=fun e=>by simp[hsz.2 e]at h
  have h2:qq L n k m=true:=by simpa using h2
  have h3:¬((ah L k).kind=6\/(ah L k).kind=7):=by simpa using h3
  have he:cJ L n k m=0:=by unfold cJ;rw[aa8 h,aa8 (by simp[h2]),aa8 h3]
  have e1:aG L n k m=ei L n (ah L k) (aH L m):=by unfold aG;rw[aa9 he]
  have e2:cW L n k m=(decide ((ah L k).kind=10)&&decide (m.code=1)):=by unfold cW;rw[he];rfl
  have e3:gX L n k m=ey L n (ah L k) (aH L m):=by unfold gX;rw[aa9 he]
  rw[e1,e2,e3,he];exact⟨trivial,⟨hL,hs,uf⟩,⟨rfl,rfl,rfl,rfl,rfl,rfl,rfl⟩,rfl⟩
theorem ZO (L:List Sx.Obj) (n:Int) (k:Key) (m:br) (hL:ar L) (hs:aw m.data):an Tryz.prog 61 [.lp 0 0,.it .i64 n,.key k,jG m] [.store tS eS L] (B8 (.tp [jG (aG L n k m),.bo (cW L n k m),.it .i64 (cJ L n k m)]) (gX L n k m)) (fun _ _=>False):=
 bj (inl:=bx) (ann:=(iv [(61,3,MO 4)])) (ae bC (ae ir (ae wk aq))) (aB Gi aD) (Z5 L n k m hL hs) (by kernel_rfl)
theorem Y8:kL Tryz.prog 61 aaW:=
 Ch (m:=fun x=>OQ.cn x 0) (fL Ie (fun _=>rfl)) (fun _=>rfl) (fun _ _=>rfl) (fun x hs=>bj (inl:=bx) (ann:=(iv [(61,3,MO 4)])) (ae sb (ae ir (ae wk aq))) (aB Gi aD) (Xc x.1 x.2.1 x.2.2.1 hs) (by kernel_rfl)) (fun x hs=>bj (inl:=bx) (ann:=(iv [(61,3,MO 4)])) (ae sb (ae ir (ae wk aq))) (aB Gi aD) (Vs x.1 x.2.1 x.2.2.1 hs) (by kernel_rfl)) fun L x hq=>ZO L x.1 x.2.1 x.2.2.1 hq.1 hq.2
end Go.Proofs.YtlblcfaclmpekaaGreat
namespace Go.Sx
structure iW where
 kind:Int
 proc:Int
 reg:Int
 mode:Int
 code:Int
 data:ByteArray
 s0:Int
 s1:Int
 s2:Int
 num:Bool
 val:Int
def Ks (o:iW):V:= .ag [.it .i64 o.kind,.it .i64 o.proc,.it .i64 o.reg,.it .i64 o.mode,.it .i64 o.code,.st o.data,.ag [.it .i64 o.s0,.it .i64 o.s1,.it .i64 o.s2],.bo o.num,.it .i64 o.val]
structure Dn where
 out:Int
 proc:Int
 err:Int
 ans:br
 wants:Bool
def YF (d:Dn):V:= .ag [.it .i64 d.out,.it .i64 d.proc,.it .i64 d.err,jG d.ans,.bo d.wants]
def dn0:Dn:=⟨0,0,0,cY,false⟩
def tC (n:Int):Bool:=decide (0<=n)&&decide (n<12)
def gP (n:Int):Bool:=decide (n= -1)||tC n
def er (o:iW) (now:Int):Bool:=
 if o.kind=2 then decide (0<=o.val)&&decide (o.val<=1099511627776)&&decide (now<=4611686018427387904-o.val)
 else decide (o.kind=1)&&decide (1<=o.mode)&&decide (o.mode<=3)&&decide (bN o.data<=32)&&tC o.reg&&gP o.s0&&gP o.s1&&gP o.s2
def ow (o:Obj) (n:Int):Key:=if n<0 then void else o.slots.at (4+n).toNat
def bR (o:Obj) (p:iW):br:=⟨p.code,p.data,ow o p.s0,ow o p.s1,if p.num=true then cK p.val else ow o p.s2⟩
def b6 (L:List Obj):List Int:=dJ L (bD (ai L))
def aX (L:List Obj) (p:iW):Int:=aj (b6 L) ((p.proc.tmod (ai (b6 L):Int)+(ai (b6 L):Int)).tmod (ai (b6 L):Int)).toNat 0
def cT (L:List Obj) (p:iW):Key:=ah L ((aL L (aX L p)).slots.at (4+p.reg).toNat)
def bL (L:List Obj) (p:iW):br:=bR (aL L (aX L p)) p
def rQ (L:List Obj) (p:iW):Bool:=decide ((cT L p).kind=6)||decide ((cT L p).kind=7)
def iE (L:List Obj) (n:Int) (p:iW):List Obj:=gX L n (cT L p) (bL L p)
def xi (L:List Obj) (n:Int) (p:iW):List Obj:=
 if dP (iE L n p) (aX L p)=true/\iC (iE L n p) (aX L p)=1 then
  if p.mode=1 then gw (iE L n p) (aX L p) (aG L n (cT L p) (bL L p))else if p.mode=3 then dc (iE L n p) (aX L p) 0 else iE L n p
 else iE L n p
def dO (L:List Obj) (n:Int) (p:iW):List Obj:=
 if er p n=true/\¬p.kind=2/\¬ai (b6 L)=0 then
  if rQ L p=true then fe L (aX L p) (cT L p) p.mode (bL L p)else xi L n p
 else L
def jj (n:Int) (p:iW):Int:=if er p n=true/\p.kind=2 then n+p.val else n
def ot (n:Int) (p:iW):Int:=if er p n=true then 0 else 2
def aT (L:List Obj) (n:Int) (p:iW):Dn:=
 if er p n=true then
  if p.kind=2 then⟨5,0,0,cY,false⟩
  else if ai (b6 L)=0 then⟨1,0,0,cY,false⟩
  else if rQ L p=true then
   if b7 L (aX L p) (cT L p) p.mode (bL L p)=0 then⟨2,aX L p,0,cY,false⟩else⟨3,aX L p,b7 L (aX L p) (cT L p) p.mode (bL L p),cY,false⟩
  else⟨4,aX L p,0,aG L n (cT L p) (bL L p),cW L n (cT L p) (bL L p)⟩
 else dn0
def gQ (n:Int):Prop:=0<=n/\n<=4611686018427387904
abbrev sD:Nat:=85
def oa (s:Nat) (n:Int):V:= .ag [.lp s 0,.it .i64 n]
def NV (c:V):Option (Nat×Int):=
 match c with
 | .ag m=>match m with
   | [p,y]=>match p with
     | .lp s off=>match rI .i64 y with
       |some n=>if off==0 then some (s,n)else none
       |none=>none
     |_=>none
   |_=>none
 |_=>none
def sdA:Arg (Int×Int×Int×Unit):=YG (bc iA (bc iA (bc iA gK)))
theorem Wx:mT sdA:=GQ (aA dN (aA dN (aA dN bV)))
abbrev OpT:Type:=Int×Int×Int×Int×Int×ByteArray×(Int×Int×Int×Unit)×Bool×Int×Unit
def opA:Arg OpT:=YG (bc iA (bc iA (bc iA (bc iA (bc iA (bc zA (bc sdA (bc bA (bc iA gK)))))))))
theorem Ga:mT opA:=GQ (aA dN (aA dN (aA dN (aA dN (aA dN (aA aal (aA Wx (aA Ff (aA dN bV)))))))))
def wy (x:OpT):iW:=⟨x.1,x.2.1,x.2.2.1,x.2.2.2.1,x.2.2.2.2.1,x.2.2.2.2.2.1,x.2.2.2.2.2.2.1.1,x.2.2.2.2.2.2.1.2.1,x.2.2.2.2.2.2.1.2.2.1,x.2.2.2.2.2.2.2.1,x.2.2.2.2.2.2.2.2.1⟩
def Jo:ld (OpT×Unit):=bc opA gK
theorem GS:gS Jo:=aA Ga bV
theorem vT {c:V} {s:Nat} {n:Int} (h:NV c=some (s,n)):∃y,c= .ag [.lp s 0,y]/\rI .i64 y=some n:=by
 unfold NV at h;repeat' (first| (split at h<;>try(simp at h;done))|skip)
 rename_i y n' hn ho;simp only[aa0,aa1]at h;obtain⟨rfl,rfl⟩:=h;have:=aa4.1 ho;subst this;exact⟨_,rfl,hn⟩
theorem an.Xs {P:Program} {f:Nat} {rest:List V} {res:List aK} {K KP:V->List aK->Prop} {b s tm t e:Nat} {L M:List Obj} {n n':Int} {x:V}
  (hb:ay res b= .blk tm (oa s n)) (hs:ay res s= .store t e L) (hid:lf rest=true) (hx:ke x=true)
  (h:an P f (.lp 0 0::rest) [.blk tm (oa 1 n),.store t e L] (fun v r=>xa x v r/\ay r 0= .blk tm (oa 1 n')/\ay r 1= .store t e M) (fun _ _=>False))
  (hK:K x (bO (bO res b (.blk tm (oa s n'))) s (.store t e M))):an P f (.lp b 0::rest) res K KP:=by
 have hkb:known res b:=by unfold known;rw[hb];simp
 have hks:known res s:=by unfold known;rw[hs];simp
 have hlb:=aO hkb;have hls:=aO hks;have hne:b≠s:=fun e=>by rw[e,hs]at hb;simp at hb
 refine an.frame (pl:= [(b,true),(s,true)]) (args0:= .lp 0 0::rest) (K0:=fun v r=>xa x v r/\ay r 0= .blk tm (oa 1 n')/\ay r 1= .store t e M) (KP0:=fun _ _=>False)
  (by simp[eI,cC.2 hkb,cC.2 hks]) (by simp[iD,dB,nN,hlb,hls,hne,Ne.symm hne]) ?_ ?_ (fun v r hv=>?_) (fun _ _ h=>h.elim)
 ·simp only[eJ,fS,kX,idxOf,dB];rw[js rest hid];simp
 ·have:eY (kX 0 (dB [(b,true),(s,true)])) res [(b,true),(s,true)]= [.blk tm (oa 1 n),.store t e L]:=by simp[eY,hb,hs,gp,oa,fS,eJ,kX,idxOf,dB,hne,Ne.symm hne]
  rw[this];exact h
 ·obtain⟨h1,h2,h3⟩:=hv;have hm:merge [(b,true),(s,true)] [] r res=bO (bO res b (.blk tm (oa s n'))) s (.store t e M):=by simp[merge,eZ,h2,h3,gp,fZ,oa,fS,eJ,back,vF]
  exact⟨[],x,rfl,by simp[jO,h2,h3,jF],rfl,jT.ke h1 hx,by rw[hm];exact hK⟩
theorem an.mcN {P:Program} {f:Nat} {args:List V} {res:List aK} {K KP:V->List aK->Prop} {b s tm:Nat} {y:V} {n:Int} (hb:ay res b= .blk tm (.ag [.lp s 0,y])) (hy:rI .i64 y=some n)
  (h:an P f args (bO res b (.blk tm (oa s n))) K KP):an P f args res K KP:=by
 have hkb:known res b:=by unfold known;rw[hb];simp
 have hlb:=aO hkb
 have hkn:∀i,known (bO res b (.blk tm (oa s n))) i↔known res i:=fun i=>by
  unfold known;rw[bK _ _ _ _ hlb];by_cases e:i=b
  ·subst e;rw[aa9 rfl,hb];simp
  ·rw[aa8 e]
 have hK:known (bO res b (.blk tm (oa s n)))=known res:=by funext i;exact propext (hkn i)
 obtain⟨r1,r2⟩:=gi .i64 y n hy;refine h.tF fun J fps w0 F0 w hH=>⟨J,fps,hH.weaken (fun i hi=>⟨(hkn i).1 hi,fun fp hh=>?_⟩),Env.bE.refl _ _,fun i hi=>(hkn i).2 hi⟩
 rw[hK,bK _ _ _ _ hlb];by_cases e:i=b
 ·subst e;rw[aa9 rfl];rw[hb]at hh;obtain⟨h1,h2,h3,h4⟩:=hh;have hd:=r1 J;refine⟨?_,rfl,h3,?_⟩
  ·exact⟨⟨h1.1.1,fP (r2 _ h1.1.2.1),trivial⟩,trivial,trivial,trivial⟩
  ·rw[h4];simp only[cells,oa,den,bp,Value.cells,hd]
 ·rw[aa8 e];exact hh
def Fq:Ct:=ti (bc opA (bc iA gK)) (fun x=>some (aw x.1.2.2.2.2.2.1/\gQ x.2.1)) fun x=> .bo (er (wy x.1) x.2.1)
def VF:Ct:=ti (bc oA Jo) (fun x=>some (gP (wy x.2.1).s0=true/\gP (wy x.2.1).s1=true/\gP (wy x.2.1).s2=true)) fun x=>jG (bR x.1 (wy x.2.1))
def hMc (Q:List Obj->Int->iW->Prop) (F:List Obj->Int->iW->V) (N:Int->iW->Int) (M:List Obj->Int->iW->List Obj):kc:=fun args res K=>
 match args with
 |a::l=>match uk Jo l with
  |some x=>match a with
   | .lp b off=>if off==0 then match ay res b with
     | .blk t c=>match NV c with
       |some (s,n)=>match ay res s with
        | .store ts e L=>if t==sD&&ts==tS&&e==eS then Q L n (wy x.1)/\K (F L n (wy x.1)) (bO (bO res b (.blk sD (oa s (N n (wy x.1))))) s (.store tS eS (M L n (wy x.1))))else False
        |_=>False
       |none=>False
     |_=>False
     else False
   |_=>False
  |none=>False
 |_=>False
def Yb (L:List Obj) (n:Int) (p:iW):Prop:=ar L/\aw p.data/\gQ n
def VK:kc:=hMc Yb (fun L n p=> .tp [YF (aT L n p),.it .i64 (ot n p)]) jj dO
def Yn:kc:=hMc (fun L n p=>Yb L n p/\er p n=true/\p.kind=1) (fun L n p=>YF (aT L n p)) (fun n _=>n) dO
def mcX (c:V):Option Int:=
 match c with
 | .ag q=>match q with
   | [p,y]=>match p with
     | .lp s off=>match y with
       | .it k n=>match k with
         | .i64=>if s==1&&off==0 then some n else none
         |_=>none
       |_=>none
     |_=>none
   |_=>none
 |_=>none
theorem DU {c:V} {n:Int} (h:mcX c=some n):c=oa 1 n:=by
 unfold mcX at h;split at h
 case h_2=>simp at h
 split at h
 case h_2=>simp at h
 split at h
 case h_2=>simp at h
 split at h
 case h_2=>simp at h
 split at h
 case h_2=>simp at h
 split at h
 case isFalse=>simp at h
 rename_i hc;simp only[aa2,aa4]at hc;obtain⟨rfl,rfl⟩:=hc;simp only[aa0]at h;subst h;rfl
def mcS (r:aK) (m:Int):Prop:=
 match r with
 | .blk t c=>match mcX c with
   |some n=>if t==sD then n=m else False
   |none=>False
 |_=>False
theorem Un {r:aK} {m:Int} (h:mcS r m):r= .blk sD (oa 1 m):=by
 unfold mcS at h;split at h
 case h_2=>exact h.elim
 split at h
 case h_2=>exact h.elim
 rename_i n hn;split at h
 case isFalse=>exact h.elim
 rename_i ht;have ht:=aa4.1 ht;subst ht;subst h;rw[DU hn]
def kMc (x:V) (n:Int) (M:List Obj) (v:V) (r:List aK):Prop:=
 match ay r 1 with
 | .store t e L=>if t==tS&&e==eS then mcS (ay r 0) n/\oq x v r/\L=M else False
 |_=>False
theorem Q4 {x:V} {n:Int} {M:List Obj} {v:V} {r:List aK} (h:kMc x n M v r):xa x v r/\ay r 0= .blk sD (oa 1 n)/\ay r 1= .store tS eS M:=by
 unfold kMc at h;split at h
 ·rename_i hr;split at h
  ·rename_i hc;simp only[aa2,aa4]at hc;obtain⟨rfl,rfl⟩:=hc;obtain⟨h1,h2,rfl⟩:=h;exact⟨dD h2,Un h1,hr⟩
  ·exact h.elim
 ·exact h.elim
theorem NW {P:Program} {f:Nat} {Q:List Obj->Int->iW->Prop} {F:List Obj->Int->iW->V} {N:Int->iW->Int} {M:List Obj->Int->iW->List Obj} (hF:∀L n p,ke (F L n p)=true)
  (h:∀L n p,Q L n p->an P f [.lp 0 0,Ks p] [.blk sD (oa 1 n),.store tS eS L] (kMc (F L n p) (N n p) (M L n p)) (fun _ _=>False)):kL P f (hMc Q F N M):=by
 intro args res K KP hh;unfold hMc at hh;split at hh
 case h_2=>exact hh.elim
 split at hh
 case h_2=>exact hh.elim
 rename_i x hx;split at hh
 case h_2=>exact hh.elim
 rename_i b off;split at hh
 case isFalse=>exact hh.elim
 rename_i ho;have ho:=aa4.1 ho;subst ho;split at hh
 case h_2=>exact hh.elim
 rename_i t c hb;split at hh
 case h_2=>exact hh.elim
 rename_i s n hc;split at hh
 case h_2=>exact hh.elim
 rename_i ts e L hs;split at hh
 case isFalse=>exact hh.elim
 rename_i ht;simp only[aa2,aa4]at ht;obtain⟨⟨rfl,rfl⟩,rfl⟩:=ht;obtain⟨hq,hK⟩:=hh;obtain⟨y,rfl,hy⟩:=vT hc;have hkb:known res b:=by unfold known;rw[hb];simp
 have hlb:=aO hkb;refine an.args (fc.jH (fL GS (fun _=>rfl) _ _ hx)) ?_
 refine an.mcN hb hy ?_;have hne:b≠s:=fun e=>by rw[e,hs]at hb;simp at hb
 refine an.Xs (rest:=Jo.cn x 0) (by rw[bK _ _ _ _ hlb,aa9 rfl]) (by rw[bK _ _ _ _ hlb,aa8 (Ne.symm hne)];exact hs) rfl (hF _ _ _) ((h L n (wy x.1) hq).mono (fun _ _ hv=>Q4 hv) fun _ _ h=>h) ?_
 have:∀(l:List aK) (i:Nat) (a b:aK),bO (bO l i a) i b=bO l i b:=fun l i a b=>by rw[kJ,kJ,kJ,List.set_set]
 rw[this];exact hK
structure Pac where
 kind:Int
 oid:Int
 key:Key
 mode:Int
 state:Int
 msg:br
theorem OD {L:List Obj} {i:Int} {k:Key} {md:Int} {m:br} (h:lK L i k md m=false):fe L i k md m=L:=by
 unfold lK at h;unfold fe;rw[aa8 (aa5 h)]
theorem XS {L:List Obj} {i:Int} {m:br} (h:pf L i m=false):gw L i m=L:=by
 unfold pf at h;unfold gw;rw[aa8 (aa5 h)]
theorem BT {L:List Obj} (h:ar L):iq L:=by have:=gA h;unfold iq;omega
def WJ:ld (Key×Int×Key×Unit):=bc kA (bc iA (bc kA gK))
theorem SV:gS WJ:=aA iF (aA dN (aA iF bV))
def Co:ld (Key×br×Int×Unit):=bc kA (bc mA (bc iA gK))
theorem yb:gS Co:=aA iF (aA zN (aA dN bV))
def iH (L:List Obj) (k:Key) (i:Int) (v:Key):Bool:=decide (bk L k i v=0)
def mh (L:List Obj) (k:Key):Bool:=decide (aC L k 2 true=0)
def kM (L:List Obj) (t f:Key):Bool:=decide (bS L t f=0)
def my (L:List Obj) (k:Key):Bool:=decide (aW L k true=0)
def mH (L:List Obj) (t f:Key):Bool:=decide (cV L t f=0)
def RL:Ct:=ti (bc As (bc kA (bc iA gK))) (fun _=>none) fun x=> .tp [.key (aJ x.1 x.2.1 x.2.2.1),.it .i64 (bW x.1 x.2.1 x.2.2.1)]
def UK:kc:=Ar (uk WJ) (fun L _=>ar L) (fun L x=>iH L x.1 x.2.1 x.2.2.1) (fun L x=>cB L x.1 x.2.1 x.2.2.1) fun L x=> [.key (cR L x.1 x.2.1 x.2.2.1),.it .i64 (bk L x.1 x.2.1 x.2.2.1)]
def Tk:kc:=Ar (uk kB) (fun L _=>ar L) (fun L x=>mh L x.1) (fun L x=>fD L x.1) fun L x=> [.it .i64 (aC L x.1 2 true)]
def Uy:kc:=Ar (uk Oc) (fun L _=>ar L) (fun L x=>kM L x.1 x.2.1) (fun L x=>eT L x.1 x.2.1) fun L x=> [.it .i64 (bS L x.1 x.2.1)]
def K3:Ct:=ti (bc As (bc kA (bc iA (bc iA gK)))) (fun x=>some (ar x.1)) fun x=> .tp [.st (ec x.1 x.2.1 x.2.2.1 x.2.2.2.1),.it .i64 (cy x.1 x.2.1 x.2.2.1 x.2.2.2.1)]
def Ti:kc:=Ar (uk kB) (fun L _=>ar L) (fun L x=>my L x.1) (fun L x=>fl L x.1) fun L x=> [.it .i64 (aW L x.1 true)]
def Wd:kc:=Ar (uk Oc) (fun L _=>ar L) (fun L x=>mH L x.1 x.2.1) (fun L x=>fA L x.1 x.2.1) fun L x=> [.it .i64 (cV L x.1 x.2.1)]
def kg (L:List Obj) (k:Key) (m:br):Bool:=
 if m.code=1 then false else if m.code=2 then iH L k (aS m) m.k0 else if m.code=3 then mh L k else if m.code=4 then kM L k m.k0 else false
def kY (L:List Obj) (k:Key) (m:br):Bool:=
 if m.code=1 then false else if m.code=2 then km L k (aS m) m.data else if m.code=3 then my L k else if m.code=4 then mH L k m.k0 else false
def gT (L:List Obj) (k:Key) (m:br):Bool:=
 if m.code=1 then gD L k 1 else if m.code=2 then gD L k 2 else if m.code=3 then jK L k m.k0 else if m.code=4 then kZ L k (aS m)else if m.code=5 then false else kR L k
def ie (L:List Obj) (k:Key) (m:br):Bool:=
 if m.code=1 then false else if m.code=2 then(if aS m<0\/11<aS m then false else iH L (fk k) (aS m+4) m.k0)else if m.code=3 then false else if m.code=4 then false
 else if m.code=5 then ko L k.oid (aS m)else if m.code=6 then false else mf L (fK L k) m.k2.value (bN m.data) true
def tr (L:List Obj) (k:Key) (m:br):Bool:=
 if k.kind=1 then false else if k.kind=2 then kg L k m else if k.kind=3 then kY L k m else if k.kind=4 then gT L k m else if k.kind=5 then ie L k m else false
def vN (L:List Obj) (k:Key) (m:br):Bool:=
 if k.kind=0 then false else if m.code=0 then false else if m.code<1\/c9 k.kind<m.code\/(cX k.kind m.code=true/\m.k2.kind≠1)then false else tr L k m
def fx (L:List Obj) (n:Int) (k:Key) (m:br):Bool:=decide (cJ L n k m=0)&&vN L (ah L k) (aH L m)
def mG (L:List Obj) (k:Key) (m:br) (i:Int):Prop:=ar L/\aw m.data/\aV k=true/\i=aS m
def yd (d:Int):Prop:=0<=d/\d<=10
def Ra:Ct:=ti (bc iA gK) (fun x=>some (yd x.1)) fun x=> .it .i64 (c9 x.1)
def S2:Ct:=Sg (rI .i64) (rI .i64) fun a b=> .bo (cX a b)
def cj (L:List Obj) (k:Key) (m:br):br:=if(m.code=1\/m.code=2\/m.code=3\/m.code=4)\/(ep L k m).1=0 then(ep L k m).2.1 else cY
def cU (L:List Obj) (k:Key) (m:br):br:=if(m.code=1\/m.code=2\/m.code=3\/m.code=4)\/(ev L k m).1=0 then(ev L k m).2.1 else cY
def bh (L:List Obj) (k:Key) (m:br):br:=(dA L k m).2.1
def bH (L:List Obj) (k:Key) (m:br):br:=if(m.code=1\/m.code=2)/\(aS m<0\/11<aS m)then cY else(dr L k m).2.1
theorem NG {L:List Obj} {k:Key} {m:br} (h:(ep L k m).1=0):cj L k m=(ep L k m).2.1:=by unfold cj;rw[aa9 (.inr h)]
theorem KS {L:List Obj} {k:Key} {m:br} (h:(ev L k m).1=0):cU L k m=(ev L k m).2.1:=by unfold cU;rw[aa9 (.inr h)]
theorem Nr {L:List Obj} {k:Key} {m:br} (h:(dr L k m).1=0):bH L k m=(dr L k m).2.1:=by
 unfold bH;split
 ·rename_i hh;unfold dr at h;obtain⟨h1|h1,h2⟩:=hh
  ·rw[aa9 h1,aa9 h2]at h;simp at h
  ·rw[aa8 (by omega),aa9 h1,aa9 h2]at h;simp at h
 ·rfl
theorem Dh {m:br}: -1<=aS m/\aS m<=2147483647:=by unfold aS;split<;>omega
theorem L6 {m:br}:(0<=aS m/\aS m<=7/\aS m=m.k2.value/\0<=m.k2.value/\m.k2.value<=7)\/((aS m<0\/7<aS m)/\¬(0<=m.k2.value/\m.k2.value<=7)):=by unfold aS;split<;>omega
def Q0:kc:=Ar (uk Co) (fun L x=>mG L x.1 x.2.1 x.2.2.1) (fun L x=>kg L x.1 x.2.1) (fun L x=>(ep L x.1 x.2.1).2.2) fun L x=> [jG (cj L x.1 x.2.1),.it .i64 (ep L x.1 x.2.1).1]
def T6:kc:=Ar (uk Co) (fun L x=>mG L x.1 x.2.1 x.2.2.1) (fun L x=>kY L x.1 x.2.1) (fun L x=>(ev L x.1 x.2.1).2.2) fun L x=> [jG (cU L x.1 x.2.1),.it .i64 (ev L x.1 x.2.1).1]
def Pv:kc:=Ar (uk Co) (fun L x=>mG L x.1 x.2.1 x.2.2.1) (fun L x=>gT L x.1 x.2.1) (fun L x=>(dA L x.1 x.2.1).2.2) fun L x=> [jG (bh L x.1 x.2.1),.it .i64 (dA L x.1 x.2.1).1]
def Sf:kc:=Ar (uk Co) (fun L x=>mG L x.1 x.2.1 x.2.2.1) (fun L x=>ie L x.1 x.2.1) (fun L x=>(dr L x.1 x.2.1).2.2) fun L x=> [jG (bH L x.1 x.2.1),.it .i64 (dr L x.1 x.2.1).1]
def Zm:kc:=Ar (uk OQ) (fun L x=>ar L/\aw x.2.2.1.data) (fun L x=>fx L x.1 x.2.1 x.2.2.1) (fun L x=>gX L x.1 x.2.1 x.2.2.1) fun L x=> [jG (aG L x.1 x.2.1 x.2.2.1),.bo (cW L x.1 x.2.1 x.2.2.1),.it .i64 (cJ L x.1 x.2.1 x.2.2.1)]
def xp (L:List Obj) (n:Int) (k:Key) (m:br):Prop:=
 (ar L/\aw m.data)/\cJ L n k m=0/\¬(ah L k).kind=0/\¬m.code=0/\¬(m.code<1\/c9 (ah L k).kind<m.code\/(cX (ah L k).kind m.code=true/\(aH L m).k2.kind≠1))
theorem Ll {L:List Obj} {n:Int} {k:Key} {m:br} {e:Int} (h:cJ L n k m=e) (h0:e≠0):fx L n k m=false/\aG L n k m=cY/\cW L n k m=false/\e=cJ L n k m:=by
 refine⟨?_,?_,?_,h.symm⟩
 ·unfold fx;rw[h];simp[h0]
 ·unfold aG;rw[h,aa8 h0]
 ·unfold cW;rw[h];simp[h0]
theorem Cu {L:List Obj} {n:Int} {k:Key} {m:br} {c:Bool} {r:OE} (h:cJ L n k m=0) (hr:dG L n (ah L k) (aH L m)=r) (hc:vN L (ah L k) (aH L m)=c):
  fx L n k m=c/\aG L n k m=(if r.1=0 then r.2.1 else gf r.1)/\gX L n k m=r.2.2/\cW L n k m=(decide ((ah L k).kind=10)&&decide (m.code=1))/\0=cJ L n k m:=by
 refine⟨?_,?_,?_,?_,h.symm⟩
 ·unfold fx;rw[h,hc];rfl
 ·unfold aG ei;rw[aa9 h,hr]
 ·unfold gX ey;rw[aa9 h,hr]
 ·unfold cW;rw[h];rfl
theorem SD {L:List Obj} {n:Int} {k:Key} {m:br} (h:xp L n k m):dG L n (ah L k) (aH L m)=eH L n (ah L k) (aH L m)/\vN L (ah L k) (aH L m)=tr L (ah L k) (aH L m):=by
 obtain⟨_,h0,h1,h2,h3⟩:=h;have h2':¬(aH L m).code=0:=h2;have h3':¬((aH L m).code<1\/c9 (ah L k).kind<(aH L m).code\/(cX (ah L k).kind (aH L m).code=true/\(aH L m).k2.kind≠1)):=h3;unfold dG vN;rw[aa8 h1,aa8 h2',aa8 h3',aa8 h1,aa8 h2',aa8 h3'];exact⟨rfl,rfl⟩
theorem ZG {L:List Obj} {n:Int} {k:Key} {m:br} (h:xp L n k m):(decide ((ah L k).kind=10)&&decide (m.code=1))=decide ((ah L k).kind=10):=by
 obtain⟨_,h0,h1,h2,h3⟩:=h;by_cases hk:(ah L k).kind=10
 ·have:c9 (ah L k).kind=1:=by rw[hk];rfl
  have:m.code=1:=by omega
  simp[this]
 ·simp[hk]
theorem Sw {L:List Obj} {n:Int} {k:Key} {m:br} {c:Bool} {r:OE} (h:xp L n k m) (hr:eH L n (ah L k) (aH L m)=r) (hc:tr L (ah L k) (aH L m)=c):
  fx L n k m=c/\aG L n k m=(if r.1=0 then r.2.1 else gf r.1)/\gX L n k m=r.2.2/\cW L n k m=decide ((ah L k).kind=10)/\0=cJ L n k m:=by
 obtain⟨e1,e2⟩:=SD h;obtain⟨a1,a2,a3,a4,a5⟩:=Cu h.2.1 (e1.trans hr) (e2.trans hc);exact⟨a1,a2,a3,a4.trans (ZG h),a5⟩
theorem QN {L:List Obj} {n:Int} {k:Key} {m:br} (h:(decide (n<0)|| !bJ L k|| !fj L m)=true):qq L n k m=false:=by
 unfold qq;cases hm:bJ L k<;>cases hm2:fj L m<;>simp_all<;>omega
theorem M9 {L:List Obj} {n:Int} {k:Key} {m:br} (h:(decide (n<0)|| !bJ L k|| !fj L m)=false):¬qq L n k m=false:=by
 unfold qq;cases hm:bJ L k<;>cases hm2:fj L m<;>simp_all<;>omega
theorem H9 {L:List Obj} {k:Key} {kind:Int} (h:gD L k kind=false):fu L k kind=L:=by
 unfold gD at h;unfold fu;split
 ·rename_i he;rw[decide_eq_true he,Bool.true_and]at h;unfold lr at h;simp only[Bool.or_eq_false_iff,Bool.not_eq_false',aa3]at h;unfold cI;rw[aa9 h.1,yJ h.2]
 ·rfl
theorem SF {L:List Obj} {k:Key} (h:kR L k=false):gZ L k=L:=by
 unfold kR at h;unfold gZ;split
 ·rename_i he;rw[decide_eq_true he,Bool.true_and]at h;simp only[Bool.not_eq_false',aa3]at h;exact zw h
 ·rfl
theorem Xw {L:List Obj} {k:Key} {n:Int} (h:kZ L k n=false):bF L k n=L:=by
 unfold kZ at h;unfold bF;rw[aa8 (aa5 h)]
theorem Q9 {L:List Obj} {k v:Key} (h:jK L k v=false):gE L k v=L:=by
 unfold jK at h;unfold gE;rw[aa8 (aa5 h)]
theorem X4 {L:List Obj} {k:Key} {n:Int} (h:bZ L k n=0):aN L k=0/\0<=gu L k:=by
 have he:aN L k=0:=Decidable.byContradiction fun he=>by
  rw[yH he]at h;exact he h
 refine⟨he,?_⟩;unfold bZ at h;split at h
 ·split at h
  ·omega
  ·rename_i h';omega
 ·rename_i h';exact absurd h h'
theorem Nk {L:List Obj} {k:Key} (hL:ar L):ar (gZ L k):=by
 unfold gZ;split
 ·exact HN hL fun o ho=>xL ho
 ·exact hL
theorem UI {L:List Obj} {k v:Key} (hL:ar L):ar (gE L k v):=by
 unfold gE;split
 ·by_cases h:v.oid.toNat<L.length
  ·exact lH hL (xL (dq hL _ h))
  ·have:cA L v.oid.toNat (yT (aj L v.oid.toNat free))=L:=by unfold cA;exact List.set_eq_of_length_le (by omega)
   rw[this];exact hL
 ·exact hL
theorem Wf {L:List Obj} {k:Key} {n:Int} (hL:ar L):ar (bF L k n):=by
 by_cases h:bZ L k n=0
 ·exact(PQ hL (X4 h).1 h).1
 ·unfold bF;rw[aa8 h];exact hL
theorem Db {L:List Obj} {k:Key} {b:Bytes} (hL:ar L) (h:aU L k=true) (h2:k.kind=3):ar (tU L k b):=(rL hL h h2).2.2
theorem II {L:List Obj} {a:ZT} (hL:ar L) (h:Cq L a=true):ar (LF L a):=by
 unfold Cq at h;unfold LF;split at h
 ·simp at h
 ·rename_i h1;rw[aa8 h1];split at h
  ·rename_i h2;rw[aa9 h2];have h:=aa6 h
   have hp:aW L a.key true=0:=by
    unfold cM at h;split at h
    ·assumption
    ·rename_i h3;exact absurd h h3
   obtain⟨a1,a2,_⟩:=na hp;unfold eX;rw[aa9 h];exact Db hL a1 a2
  ·rename_i h2;rw[aa8 h2];split at h
   ·rename_i h3;rw[aa9 h3];have h:=aa6 h;obtain⟨a1,a2,_⟩:=na h;unfold fl;rw[aa9 h];exact Db hL a1 a2
   ·rename_i h3;rw[aa8 h3];have h:=aa6 h
    have hp:aW L a.key true=0:=by
     unfold cV at h;split at h
     ·assumption
     ·rename_i h3;exact absurd h h3
    obtain⟨a1,a2,_⟩:=na hp;unfold fA;rw[aa9 h];exact Db hL a1 a2
theorem EV {L:List Obj} {k v:Key} {i:Int} (hL:ar L):ar (cB L k i v):=by
 by_cases h:bk L k i v=0
 ·exact zE (a:=⟨2,i,k,v⟩) hL (by simp[zb,h])
 ·unfold cB;rw[aa8 h];exact hL
theorem K2 {L:List Obj} {k:Key} (hL:ar L):ar (fD L k):=by
 by_cases h:aC L k 2 true=0
 ·exact zE (a:=⟨3,0,k,k⟩) hL (by simp[zb,h])
 ·unfold fD;rw[aa8 h];exact hL
theorem O3 {L:List Obj} {t f:Key} (hL:ar L):ar (eT L t f):=by
 by_cases h:bS L t f=0
 ·exact zE (a:=⟨4,0,t,f⟩) hL (by simp[zb,h])
 ·unfold eT;rw[aa8 h];exact hL
theorem NX {L:List Obj} {k:Key} (hL:ar L):ar (fl L k):=by
 by_cases h:aW L k true=0
 ·exact II (a:=⟨3,0,0,k,k,⟨#[]⟩⟩) hL (by simp[Cq,h])
 ·unfold fl;rw[aa8 h];exact hL
theorem Sk {L:List Obj} {t f:Key} (hL:ar L):ar (fA L t f):=by
 by_cases h:cV L t f=0
 ·exact II (a:=⟨4,0,0,t,f,⟨#[]⟩⟩) hL (by simp[Cq,h])
 ·unfold fA;rw[aa8 h];exact hL
theorem ft {c:Prop} [Decidable c] {a b:OE} (ha:ar a.2.2) (hb:ar b.2.2):ar (if c then a else b).2.2:=by split<;>assumption
theorem ZC {L:List Obj} {k:Key} {m:br} (hL:ar L):ar (ep L k m).2.2:=by
 unfold ep;exact ft hL (ft (EV hL) (ft (K2 hL) (ft (O3 hL) (ft hL hL))))
theorem ZZ {L:List Obj} {k:Key} {m:br} (hL:ar L):ar (ev L k m).2.2:=by
 unfold ev;exact ft hL (ft (IF hL) (ft (NX hL) (ft (Sk hL) hL)))
theorem aar {L:List Obj} {k:Key} {m:br} (hL:ar L):ar (dA L k m).2.2:=by
 unfold dA;exact ft (Ic hL) (ft (Ic hL) (ft (UI hL) (ft (Wf hL) (ft hL (Nk hL)))))
theorem Zt {L:List Obj} {k:Key} {m:br} (hL:ar L):ar (dr L k m).2.2:=by
 have hC:ar (if aS m<0\/11<aS m then L else cB L (fk k) (aS m+4) m.k0):=by
  split
  ·exact hL
  ·exact EV hL
 unfold dr;exact ft hL (ft hC (ft hL (ft hL (ft (FM hL) (ft hL (WM hL))))))
theorem Vx {L:List Obj} {n:Int} {k:Key} {m:br} (hL:ar L):ar (eH L n k m).2.2:=by
 unfold eH;exact ft hL (ft (ZC hL) (ft (ZZ hL) (ft (aar hL) (ft (Zt hL) (ft hL (ft hL hL))))))
theorem Eb {L:List Obj} {k v:Key} {i:Int} (h:iH L k i v=false):cB L k i v=L:=by unfold iH at h;unfold cB;rw[aa8 (aa5 h)]
theorem Mw {L:List Obj} {k:Key} (h:mh L k=false):fD L k=L:=by unfold mh at h;unfold fD;rw[aa8 (aa5 h)]
theorem Lm {L:List Obj} {t f:Key} (h:kM L t f=false):eT L t f=L:=by unfold kM at h;unfold eT;rw[aa8 (aa5 h)]
theorem UE {L:List Obj} {k:Key} {i:Int} {s:ByteArray} (h:km L k i s=false):eX L k i s=L:=by unfold km at h;unfold eX;rw[aa8 (aa5 h)]
theorem L9 {L:List Obj} {k:Key} (h:my L k=false):fl L k=L:=by unfold my at h;unfold fl;rw[aa8 (aa5 h)]
theorem Rz {L:List Obj} {t f:Key} (h:mH L t f=false):fA L t f=L:=by unfold mH at h;unfold fA;rw[aa8 (aa5 h)]
theorem Hr {L:List Obj} {i st:Int} (h:ko L i st=false):dc L i st=L:=by unfold ko at h;unfold dc;rw[aa8 (aa5 h)]
theorem fU {c:Prop} [Decidable c] {a b:OE} {x y:Bool} {L:List Obj} (ha:x=false->a.2.2=L) (hb:y=false->b.2.2=L) (h:(if c then x else y)=false):(if c then a else b).2.2=L:=by
 by_cases hc:c
 ·rw[aa9 hc]at h⊢;exact ha h
 ·rw[aa8 hc]at h⊢;exact hb h
theorem Z0 {L:List Obj} {k:Key} {m:br}:kg L k m=false->(ep L k m).2.2=L:=by
 unfold kg ep;exact fU (fun _=>rfl) (fU Eb (fU Mw (fU Lm (fun _=>by split<;>rfl))))
theorem aav {L:List Obj} {k:Key} {m:br}:kY L k m=false->(ev L k m).2.2=L:=by
 unfold kY ev;exact fU (fun _=>rfl) (fU UE (fU L9 (fU Rz (fun _=>rfl))))
theorem aak {L:List Obj} {k:Key} {m:br}:gT L k m=false->(dA L k m).2.2=L:=by
 unfold gT dA;exact fU H9 (fU H9 (fU Q9 (fU Xw (fU (fun _=>rfl) SF))))
theorem YW {L:List Obj} {k:Key} {m:br}:ie L k m=false->(dr L k m).2.2=L:=by
 unfold ie dr;refine fU (fun _=>rfl) (fU (fun h=>?_) (fU (fun _=>rfl) (fU (fun _=>rfl) (fU Hr (fU (fun _=>rfl) VI)))))
 show(if aS m<0\/11<aS m then L else cB L (fk k) (aS m+4) m.k0)=L
 by_cases hc:aS m<0\/11<aS m
 ·rw[aa9 hc]
 ·rw[aa8 hc]at h⊢;exact Eb h
theorem V5 {L:List Obj} {n:Int} {k:Key} {m:br}:tr L k m=false->(eH L n k m).2.2=L:=by
 unfold tr eH
 exact fU (fun _=>rfl) (fU Z0 (fU aav (fU aak (fU YW (fun _=>by repeat' split
                                                                all_goals rfl)))))
theorem Wu {L:List Obj} {n:Int} {k:Key} {m:br} (hL:ar L):ar (ey L n k m):=by
 unfold ey dG;exact ft hL (ft hL (ft hL (Vx hL)))
theorem GA {L:List Obj} {n:Int} {k:Key} {m:br} (hL:ar L):ar (gX L n k m):=by
 unfold gX;split
 ·exact Wu hL
 ·exact hL
theorem Xb {L:List Obj} {n:Int} {k:Key} {m:br} (h:fx L n k m=false):gX L n k m=L:=by
 unfold fx at h;unfold gX;by_cases he:cJ L n k m=0
 ·rw[he]at h;rw[aa9 he];have h:vN L (ah L k) (aH L m)=false:=by simpa using h
  unfold vN at h;unfold ey dG;exact fU (fun _=>rfl) (fU (fun _=>rfl) (fU (fun _=>rfl) V5)) h
 ·rw[aa8 he]
structure Aok where
 key:Key
 msg:br
 now:Int
section
variable {L:List Obj} {n:Int} {k:Key} {m:br} {p:iW}
theorem R9 (b:Bytes) (lo hi:Nat):(xB b lo hi).size<=64:=by rw[Jz];omega
theorem DQ {i x:Int}:(ec L k i x).size<=64:=by
 unfold ec;split
 ·exact R9 _ _ _
 ·exact Nat.zero_le _
theorem XZ {i x:Int}:(jM L k i x).size<=64:=by
 unfold jM;split
 ·exact DQ
 ·exact Nat.zero_le _
theorem SZ:(ep L k m).2.1.data.size<=64:=by unfold ep;(repeat' split)<;>exact Nat.zero_le _
theorem SQ:(ev L k m).2.1.data.size<=64:=by unfold ev;(repeat' split)<;>first|exact DQ|exact Nat.zero_le _
theorem TA:(dA L k m).2.1.data.size<=64:=by unfold dA;(repeat' split)<;>exact Nat.zero_le _
theorem Rf:(dr L k m).2.1.data.size<=64:=by
 unfold dr;by_cases h1:m.code=1
 ·rw[aa9 h1];exact Nat.zero_le _
 rw[aa8 h1];by_cases h2:m.code=2
 ·rw[aa9 h2];exact Nat.zero_le _
 rw[aa8 h2];by_cases h3:m.code=3
 ·rw[aa9 h3];exact Nat.zero_le _
 rw[aa8 h3];by_cases h4:m.code=4
 ·rw[aa9 h4];exact Nat.zero_le _
 rw[aa8 h4];by_cases h5:m.code=5
 ·rw[aa9 h5];exact Nat.zero_le _
 rw[aa8 h5];by_cases h6:m.code=6
 ·rw[aa9 h6];exact XZ
 rw[aa8 h6];exact Nat.zero_le _
theorem VO:(aG L n k m).data.size<=64:=by
 have hB:∀k m,(eH L n k m).2.1.data.size<=64:=fun k m=>by
  unfold eH;split
  ·exact Nat.zero_le _
  split
  ·exact SZ
  split
  ·exact SQ
  split
  ·exact TA
  split
  ·exact Rf
  split
  ·show(if m.code=1 then fm m.k0.kind else if m.code=2 then fm (ea (kS m.k0 m.k1))else fm m.k0.rights).data.size<=64
   split
   ·exact Nat.zero_le _
   ·split<;>exact Nat.zero_le _
  ·split<;>exact Nat.zero_le _
 have hR:∀k m,(dG L n k m).2.1.data.size<=64:=fun k m=>by
  unfold dG;split
  ·exact Nat.zero_le _
  split
  ·exact Nat.zero_le _
  split
  ·exact Nat.zero_le _
  ·exact hB k m
 unfold aG;split
 ·unfold ei;split
  ·exact hR _ _
  ·exact Nat.zero_le _
 ·exact Nat.zero_le _
theorem Cj:aw (aG L n k m).data:=by have:=VO (L:=L) (n:=n) (k:=k) (m:=m);unfold aw;omega
theorem wO (hL:ar L) (h0:¬ai (b6 L)=0):let N:Int:=(ai (b6 L):Int);N<=64/\N≠0/\(-64<=p.proc.tmod N/\p.proc.tmod N<=64)/\(0<=(p.proc.tmod N+N).tmod N/\(p.proc.tmod N+N).tmod N<N):=by
 intro N
 have h1:ai (b6 L)<=L.length:=by
  have:=E4 L (bD (ai L));have e:(bD (ai L)).toNat=L.length:=by unfold bD ai;omega
  rw[e]at this;exact this
 have h2:=gA hL;have hN:0<N:=by show(0:Int)<(ai (b6 L):Int);omega
 have hN2:N<=64:=by show(ai (b6 L):Int)<=64;omega
 have a1:=Int.tmod_lt_of_pos p.proc hN;have a2:=Int.lt_tmod_of_pos p.proc hN;refine⟨hN2,by omega,⟨by omega,by omega⟩,Int.tmod_nonneg _ (by omega),Int.tmod_lt_of_pos _ hN⟩
theorem AM (h:er p n=true) (hk:p.kind=1):(1<=p.mode/\p.mode<=3)/\(0<=p.reg/\p.reg<12)/\(gP p.s0=true/\gP p.s1=true/\gP p.s2=true):=by
 unfold er at h;rw[aa8 (by omega)]at h
 simp only[aa2,aa3]at h;obtain⟨⟨⟨⟨⟨⟨⟨a,b⟩,c⟩,d⟩,e⟩,f⟩,g⟩,h⟩:=h;unfold tC at e;simp only[aa2,aa3]at e;exact⟨⟨b,c⟩,e,f,g,h⟩
end
def m5:iW:=⟨0,0,0,0,0,⟨#[]⟩,0,0,0,false,0⟩
def ly (x:List iW):TL:= .fn (ai x) fun i=>Ks (aj x i m5)
def xE (x:List iW):Nat->V:=fun i=>Ks (aj x i m5)
def opD (v:V):Int:=match v with
 | .ag l=>match l with
   | [_,_,_,_,_,s,_,_,_]=>match s with
     | .st b=>bN b
     |_=>0
   |_=>0
 |_=>0
def opL:Arg TL:=laA 11 some id
theorem Vz:mT opL:=Xe fun l x h=>by simpa using h
def Fs (n:Nat) (F:Nat->V):Nat->Bool
 |0=>false
 |j+1=>Fs n F j||(decide (j<n)&&decide (100<opD (F j)))
def qY (l:TL):Bool:=match l with
 | .fn n F=>decide (40<bD n)||Fs n F n
 |_=>false
def vX (x:List iW):Prop:=∀i,i<ai x->aw (aj x i m5).data
def Nj (l:TL):Prop:=∃x:List iW,l=ly x/\vX x
def Zw:Ct:=ti (bc opL gK) (fun x=>some (Nj x.1)) fun x=> .bo (qY x.1)
def xO (x:List iW) (g:Int):Prop:=0<=g/\g<=(ai x:Int)/\Fs (ai x) (fun i=>Ks (aj x i m5)) g.toNat=false
theorem VN {x:List iW} (h:qY (ly x)=false):¬40<bD (ai x):=by
 unfold qY ly at h;simp only[Bool.or_eq_false_iff,decide_eq_false_iff_not]at h;exact h.1
theorem E2 {n:Nat} {F:Nat->V} {j:Nat} (hj:j<n) (h:100<opD (F j)):∀k,j<k->Fs n F k=true
 |0,hk=>by omega
 |k+1,hk=>by
  unfold Fs;by_cases e:j=k
  ·subst e;simp[hj,h]
  ·rw[E2 hj h k (by omega)];rfl
theorem IU {n:Nat} {F:Nat->V} {j:Nat} (h0:Fs n F j=false) (h:¬100<opD (F j)):Fs n F (j+1)=false:=by
 unfold Fs;simp[h0,h]
def Y4:Obj:=Obj.mk 1 1 free.calls ((((((free.slots.put 2 (Key.mk 1 void.oid void.count void.call void.rights 1)).put 4 (Key.mk 4 1 1 void.call void.rights void.value)).put 5 (Key.mk 8 void.oid void.count void.call void.rights void.value)).put 6 (Key.mk 9 void.oid void.count void.call void.rights void.value)).put 7 (Key.mk 10 void.oid void.count void.call void.rights void.value)).put 8 (Key.mk 5 0 1 void.call void.rights void.value)) free.bytes
def aai (x:Int):Obj:=Obj.mk 1 1 free.calls ((free.slots.put 0 (Key.mk 1 void.oid void.count void.call void.rights 2)).put 1 (Key.mk 1 void.oid void.count void.call void.rights x)) free.bytes
def yg (n:Int):List Obj:=cN (cN (mC n) 0 Y4) 1 (aai (n-1))
end Go.Sx
namespace Go.Proofs.YtlblcfaclmpekaaGreat
open Go.Sx
abbrev abW(p:iW)(n:Int):=aba (!decide (p.s2= -1)) (true=true/\aba (!(decide (0<=p.s2)&&decide (p.s2<12))) (false=er p n) (true=er p n)) (true=er p n)
abbrev abX(p:iW)(n:Int):=aba (!decide (p.s1= -1)) (true=true/\aba (!(decide (0<=p.s1)&&decide (p.s1<12))) (false=er p n) (abW p n)) (abW p n)
theorem Km (p:iW) (n:Int) (hs:aw p.data) (hn:gQ n):
 aba (decide (p.kind=2)) (((decide (0<=p.val)&&decide (p.val<=1099511627776))=true->abd (4611686018427387904-p.val))/\(decide (0<=p.val)&&decide (p.val<=1099511627776)&&decide (n<=4611686018427387904-p.val))=er p n) (((!(!decide (p.kind=1)||decide (p.mode<1)||decide (3<p.mode)))=true->abd (bN p.data))/\aba (!decide (p.kind=1)||decide (p.mode<1)||decide (3<p.mode)||decide (32<bN p.data)) (false=er p n) (true=true/\aba (!(decide (0<=p.reg)&&decide (p.reg<12))) (false=er p n) (aba (!decide (p.s0= -1)) (true=true/\aba (!(decide (0<=p.s0)&&decide (p.s0<12))) (false=er p n) (abX p n)) (abX p n)))):=by
 delta aba abX abW abd
 have hz:(bD (ai ([]:List Int)))=0:=rfl;have h1:aF IntKind.i64 (bN p.data):=by unfold aw at hs;simp only[aF,bY,bN];omega
 have c0:gP p.s0=(decide (p.s0= -1)||(decide (0<=p.s0)&&decide (p.s0<12))):=rfl
 have c1:gP p.s1=(decide (p.s1= -1)||(decide (0<=p.s1)&&decide (p.s1<12))):=rfl
 have c2:gP p.s2=(decide (p.s2= -1)||(decide (0<=p.s2)&&decide (p.s2<12))):=rfl
 unfold er;refine⟨fun hk=>⟨fun hv=>?_,?_⟩,fun hk=>⟨fun _=>h1,fun hb=>?_,fun hb=>⟨rfl,fun hr=>?_,fun hr=>?_⟩⟩⟩
 ·simp only[aa2,aa3]at hv;simp only[aF,bY];omega
 ·rw[aa9 (aa6 hk)]
 all_goals rw[aa8 (aa5 hk),c0,c1,c2]
 ·simp only[Bool.or_eq_true,Bool.not_eq_true',aa3,decide_eq_false_iff_not]at hb;symm
  simp only[Bool.and_eq_false_iff,decide_eq_false_iff_not];omega
 all_goals
  simp only[Bool.or_eq_false_iff,Bool.not_eq_false',aa3,decide_eq_false_iff_not]at hb;obtain⟨⟨⟨b1,b2⟩,b3⟩,b4⟩:=hb;have e1:decide (p.kind=1)=true:=decide_eq_true b1;have e2:decide (1<=p.mode)=true:=decide_eq_true (by omega)
  have e3:decide (p.mode<=3)=true:=decide_eq_true (by omega)
  have e4:decide (bN p.data<=32)=true:=decide_eq_true (by omega)
  have cr:tC p.reg=(decide (0<=p.reg)&&decide (p.reg<12)):=rfl;rw[e1,e2,e3,e4,cr];generalize (decide (0<=p.reg)&&decide (p.reg<12))=r at *
  generalize (decide (0<=p.s0)&&decide (p.s0<12))=a0 at *
  generalize (decide (0<=p.s1)&&decide (p.s1<12))=a1 at *
  generalize (decide (0<=p.s2)&&decide (p.s2<12))=a2 at *
  generalize decide (p.s0= -1)=d0 at *
  generalize decide (p.s1= -1)=d1 at *
  generalize decide (p.s2= -1)=d2 at *
  clear c0 c1 c2 cr;revert hr
  cases r<;>cases a0<;>cases a1<;>cases a2<;>cases d0<;>cases d1<;>cases d2<;>simp
theorem Jn:cq Tryz.prog 37 Fq:=
 eW (aA Ga (aA dN bV)) (fun _=>rfl) fun a hq hok=>by
  obtain⟨x,n,_⟩:=a;exact ba (inl:=(fun f=>f==56)) (ann:=(iv [(37,6,MO 4)])) aq (Km (wy x) n hq.1 hq.2) (by kernel_rfl)
abbrev abY(p:iW)(o:Sx.Obj):=p.code=(bR o p).code/\p.data=(bR o p).data/\o.slots.at (4+p.s0).toNat=(bR o p).k0/\o.slots.at (4+p.s1).toNat=(bR o p).k1/\abg p.val=(bR o p).k2
abbrev abZ(p:iW)(o:Sx.Obj):=p.code=(bR o p).code/\p.data=(bR o p).data/\void=(bR o p).k0/\o.slots.at (4+p.s1).toNat=(bR o p).k1/\abg p.val=(bR o p).k2
abbrev aca(p:iW)(o:Sx.Obj):=p.code=(bR o p).code/\p.data=(bR o p).data/\o.slots.at (4+p.s0).toNat=(bR o p).k0/\void=(bR o p).k1/\abg p.val=(bR o p).k2
abbrev acb(p:iW)(o:Sx.Obj):=p.code=(bR o p).code/\p.data=(bR o p).data/\void=(bR o p).k0/\void=(bR o p).k1/\abg p.val=(bR o p).k2
theorem Uc (o:Sx.Obj) (p:iW) (h0:gP p.s0=true) (h1:gP p.s1=true) (h2:gP p.s2=true):
 abb (aba (decide (p.s0<0)) (abb (aba (decide (p.s1<0)) (abb (aba (decide (p.s2<0)) (aba p.num (acb p o) (p.code=(bR o p).code/\p.data=(bR o p).data/\void=(bR o p).k0/\void=(bR o p).k1/\void=(bR o p).k2)) (abd (4+p.s2)/\(0<=4+p.s2/\4+p.s2< ↑16)/\aba p.num (acb p o) (p.code=(bR o p).code/\p.data=(bR o p).data/\void=(bR o p).k0/\void=(bR o p).k1/\o.slots.at (4+p.s2).toNat=(bR o p).k2)))) (abd (4+p.s1)/\(0<=4+p.s1/\4+p.s1< ↑16)/\abb (aba (decide (p.s2<0)) (aba p.num (abZ p o) (p.code=(bR o p).code/\p.data=(bR o p).data/\void=(bR o p).k0/\o.slots.at (4+p.s1).toNat=(bR o p).k1/\void=(bR o p).k2)) (abd (4+p.s2)/\(0<=4+p.s2/\4+p.s2< ↑16)/\aba p.num (abZ p o) (p.code=(bR o p).code/\p.data=(bR o p).data/\void=(bR o p).k0/\o.slots.at (4+p.s1).toNat=(bR o p).k1/\o.slots.at (4+p.s2).toNat=(bR o p).k2)))))) (abd (4+p.s0)/\(0<=4+p.s0/\4+p.s0< ↑16)/\abb (aba (decide (p.s1<0)) (abb (aba (decide (p.s2<0)) (aba p.num (aca p o) (p.code=(bR o p).code/\p.data=(bR o p).data/\o.slots.at (4+p.s0).toNat=(bR o p).k0/\void=(bR o p).k1/\void=(bR o p).k2)) (abd (4+p.s2)/\(0<=4+p.s2/\4+p.s2< ↑16)/\aba p.num (aca p o) (p.code=(bR o p).code/\p.data=(bR o p).data/\o.slots.at (4+p.s0).toNat=(bR o p).k0/\void=(bR o p).k1/\o.slots.at (4+p.s2).toNat=(bR o p).k2)))) (abd (4+p.s1)/\(0<=4+p.s1/\4+p.s1< ↑16)/\abb (aba (decide (p.s2<0)) (aba p.num (abY p o) (p.code=(bR o p).code/\p.data=(bR o p).data/\o.slots.at (4+p.s0).toNat=(bR o p).k0/\o.slots.at (4+p.s1).toNat=(bR o p).k1/\void=(bR o p).k2)) (abd (4+p.s2)/\(0<=4+p.s2/\4+p.s2< ↑16)/\aba p.num (abY p o) (p.code=(bR o p).code/\p.data=(bR o p).data/\o.slots.at (4+p.s0).toNat=(bR o p).k0/\o.slots.at (4+p.s1).toNat=(bR o p).k1/\o.slots.at (4+p.s2).toNat=(bR o p).k2))))))):=by
 delta aba abg acb aca abZ abY abd abb
 have key:∀s,gP s=true->s<0\/(¬s<0/\aF IntKind.i64 (4+s)/\(0<=4+s/\4+s<16)):=fun s hs=>by
  unfold gP tC at hs;simp only[Bool.or_eq_true,aa2,aa3]at hs;simp only[aF,bY];omega
 have hq:cK p.val=Key.mk 1 void.oid void.count void.call void.rights p.val:=rfl;unfold bR ow;rw[hq]
 rcases key p.s0 h0 with a0|⟨a0,f0,g0,i0⟩<;>rcases key p.s1 h1 with a1|⟨a1,f1,g1,i1⟩<;>rcases key p.s2 h2 with a2|⟨a2,f2,g2,i2⟩<;>cases hn:p.num<;>simp only[*,decide_true,decide_false,if_true,if_false,true_and,and_true,and_self,Bool.false_eq_true,Bool.true_eq_false,false_implies,true_implies,implies_true,reduceCtorEq]<;>(repeat' apply And.intro)<;>omega
theorem Tz:cq Tryz.prog 59 VF:=
 eW (aA Pe GS) (fun _=>rfl) fun a hq hok=>by
  obtain⟨o,x,_⟩:=a;exact ba (inl:=(fun f=>f==89)) (ann:=(iv [(59,4,MO 4)])) aq (Uc o (wy x) hq.1 hq.2.1 hq.2.2) (by kernel_rfl)
abbrev acd(L:List Sx.Obj)(n:Int)(p:iW):=4=(aT L n p).out/\aX L p=(aT L n p).proc/\0=(aT L n p).err/\(aG L n (cT L p) (bL L p)).code=(aT L n p).ans.code/\(aG L n (cT L p) (bL L p)).data=(aT L n p).ans.data/\(aG L n (cT L p) (bL L p)).k0=(aT L n p).ans.k0/\(aG L n (cT L p) (bL L p)).k1=(aT L n p).ans.k1/\(aG L n (cT L p) (bL L p)).k2=(aT L n p).ans.k2/\cW L n (cT L p) (bL L p)=(aT L n p).wants
abbrev ace(p:iW)(L:List Sx.Obj):=p.proc.tmod (bD (ai (b6 L)))+bD (ai (b6 L))
theorem TU (L:List Sx.Obj) (n:Int) (p:iW) (hq:Yb L n p/\er p n=true/\p.kind=1):
 abb (iq L/\(true=false->False)/\(true=true->aba (decide (bD (ai (b6 L))=0)) (n=n/\(1=(aT L n p).out/\0=(aT L n p).proc/\0=(aT L n p).err/\0=(aT L n p).ans.code/\abG=(aT L n p).ans.data/\void=(aT L n p).ans.k0/\void=(aT L n p).ans.k1/\void=(aT L n p).ans.k2/\false=(aT L n p).wants)/\L=dO L n p) ((nU (bD (ai (b6 L)))/\abd (p.proc.tmod (bD (ai (b6 L)))))/\abd (ace p L)/\(nU (bD (ai (b6 L)))/\abd ((ace p L).tmod (bD (ai (b6 L)))))/\(0<=(ace p L).tmod (bD (ai (b6 L)))/\(ace p L).tmod (bD (ai (b6 L)))< ↑(ai (b6 L)))/\((ace p L).tmod (bD (ai (b6 L)))).toNat<ai (b6 L)/\abd (4+p.reg)/\(0<=4+p.reg/\4+p.reg< ↑16)/\(gP p.s0=true/\gP p.s1=true/\gP p.s2=true)/\aba (decide ((cT L p).kind=6)||decide ((cT L p).kind=7)) (abb (aw (bL L p).data/\(ar L/\aw (bL L p).data)/\aba (!decide (b7 L (aX L p) (cT L p) p.mode (bL L p)=0)) (n=n/\(3=(aT L n p).out/\aX L p=(aT L n p).proc/\b7 L (aX L p) (cT L p) p.mode (bL L p)=(aT L n p).err/\0=(aT L n p).ans.code/\abG=(aT L n p).ans.data/\void=(aT L n p).ans.k0/\void=(aT L n p).ans.k1/\void=(aT L n p).ans.k2/\false=(aT L n p).wants)/\fe L (aX L p) (cT L p) p.mode (bL L p)=dO L n p) (n=n/\(2=(aT L n p).out/\aX L p=(aT L n p).proc/\0=(aT L n p).err/\0=(aT L n p).ans.code/\abG=(aT L n p).ans.data/\void=(aT L n p).ans.k0/\void=(aT L n p).ans.k1/\void=(aT L n p).ans.k2/\false=(aT L n p).wants)/\fe L (aX L p) (cT L p) p.mode (bL L p)=dO L n p))) (abb (aw (bL L p).data/\(ar L/\aw (bL L p).data)/\aba (dP (iE L n p) (aX L p)&&decide (iC (iE L n p) (aX L p)=1)) (aba (decide (p.mode=1)) (abb (aw (aG L n (cT L p) (bL L p)).data/\(ar (iE L n p)/\aw (aG L n (cT L p) (bL L p)).data)/\n=n/\(acd L n p)/\gw (iE L n p) (aX L p) (aG L n (cT L p) (bL L p))=dO L n p)) (aba (decide (p.mode=3)) (abb (ar (iE L n p)/\n=n/\(acd L n p)/\dc (iE L n p) (aX L p) 0=dO L n p)) (n=n/\(acd L n p)/\iE L n p=dO L n p))) (n=n/\(acd L n p)/\iE L n p=dO L n p)))))):=by
 delta aba abG ace acd abd abb
 obtain⟨⟨hL,hs,hn⟩,hr,hk⟩:=hq;obtain⟨hm,⟨r0,r1⟩,hsd⟩:=AM hr hk;have nk2:¬p.kind=2:=by omega
 have hnn:bD (ai (b6 L))=(ai (b6 L):Int):=rfl;refine⟨rfl,BT hL,fun h=>by simp at h,fun _=>⟨fun h=>?_,fun h=>?_⟩⟩
 ·have h0:ai (b6 L)=0:=by have:=aa6 h;rw[hnn]at this;omega
  have e1:aT L n p=⟨1,0,0,cY,false⟩:=by unfold aT;rw[aa9 hr,aa8 nk2,aa9 h0]
  have e2:dO L n p=L:=by unfold dO;rw[aa8 (fun h=>h.2.2 h0)]
  rw[e1,e2];exact⟨rfl,(by(repeat' apply And.intro)<;>rfl),rfl⟩
 have h0:¬ai (b6 L)=0:=by have:=aa5 h;rw[hnn]at this;omega
 obtain⟨f1,f2,f3,f4⟩:=wO (p:=p) hL h0
 have eD:aT L n p=if rQ L p=true then(if b7 L (aX L p) (cT L p) p.mode (bL L p)=0 then⟨2,aX L p,0,cY,false⟩else⟨3,aX L p,b7 L (aX L p) (cT L p) p.mode (bL L p),cY,false⟩)
   else⟨4,aX L p,0,aG L n (cT L p) (bL L p),cW L n (cT L p) (bL L p)⟩:=by unfold aT;rw[aa9 hr,aa8 nk2,aa8 h0]
 have eL:dO L n p=if rQ L p=true then fe L (aX L p) (cT L p) p.mode (bL L p)else xi L n p:=by unfold dO;rw[aa9 ⟨hr,nk2,h0⟩]
 have h1:ar (iE L n p):=GA hL;rw[hnn];refine⟨⟨f2,by simp only[aF,bY];omega⟩,by simp only[aF,bY];omega,⟨f2,by simp only[aF,bY];omega⟩,f4,by omega,by simp only[aF,bY];omega,⟨by omega,by omega⟩,hsd,fun hc=>?_,fun hc=>?_⟩
 ·have hC:rQ L p=true:=hc;rw[eD,eL,aa9 hC,aa9 hC];refine⟨rfl,hs,⟨hL,hs⟩,fun he=>?_,fun he=>?_⟩
  ·have he:¬b7 L (aX L p) (cT L p) p.mode (bL L p)=0:=by simpa using he
   rw[aa8 he];exact⟨rfl,(by(repeat' apply And.intro)<;>rfl),rfl⟩
  ·have he:b7 L (aX L p) (cT L p) p.mode (bL L p)=0:=by simpa using he
   rw[aa9 he];exact⟨rfl,(by(repeat' apply And.intro)<;>rfl),rfl⟩
 ·have hC:¬rQ L p=true:=by
   have:rQ L p=false:=hc;rw[this];simp
  rw[eD,eL,aa8 hC,aa8 hC]
  have e2:xi L n p=if dP (iE L n p) (aX L p)=true/\iC (iE L n p) (aX L p)=1 then
    if p.mode=1 then gw (iE L n p) (aX L p) (aG L n (cT L p) (bL L p))else if p.mode=3 then dc (iE L n p) (aX L p) 0 else iE L n p
   else iE L n p:=rfl
  refine⟨rfl,hs,⟨hL,hs⟩,fun hb=>⟨fun h1'=>?_,fun h1'=>⟨fun h3=>?_,fun h3=>?_⟩⟩,fun hb=>?_⟩
  all_goals simp only[aa2,Bool.and_eq_false_iff,aa3,decide_eq_false_iff_not]at hb
  ·rw[e2,aa9 hb,aa9 (aa6 h1')];exact⟨rfl,Cj,⟨h1,Cj⟩,rfl,(by(repeat' apply And.intro)<;>rfl),rfl⟩
  ·rw[e2,aa9 hb,aa8 (aa5 h1'),aa9 (aa6 h3)];exact⟨rfl,h1,rfl,(by(repeat' apply And.intro)<;>rfl),rfl⟩
  ·rw[e2,aa9 hb,aa8 (aa5 h1'),aa8 (aa5 h3)];exact⟨rfl,(by(repeat' apply And.intro)<;>rfl),rfl⟩
  ·rw[e2,aa8 (fun h=>by rcases hb with hb|hb;rw[h.1]at hb;simp at hb;exact hb h.2)]
   exact⟨rfl,(by(repeat' apply And.intro)<;>rfl),rfl⟩
theorem SO:kL Tryz.prog 38 Yn:=NW (fun _ _ _=>rfl) fun L n p hq=>bj (inl:=bx) (ann:=aQ) (ae Tz (ae ga (ae ir (ae rf aq)))) (aB Xg (aB Wt (aB Y8 (aB XX (aB Qj aD))))) (TU L n p hq) (by kernel_rfl)
abbrev acf(L:List Sx.Obj)(p:iW)(n:Int):=true=true/\((ar L/\aw p.data/\gQ n)/\er p n=true/\p.kind=1)/\n=jj n p/\((aT L n p).out=(aT L n p).out/\(aT L n p).proc=(aT L n p).proc/\(aT L n p).err=(aT L n p).err/\(aT L n p).ans.code=(aT L n p).ans.code/\(aT L n p).ans.data=(aT L n p).ans.data/\(aT L n p).ans.k0=(aT L n p).ans.k0/\(aT L n p).ans.k1=(aT L n p).ans.k1/\(aT L n p).ans.k2=(aT L n p).ans.k2/\(aT L n p).wants=(aT L n p).wants/\0=ot n p)/\dO L n p=dO L n p
abbrev acg(n:Int)(p:iW)(L:List Sx.Obj):=true=true/\aF IntKind.i64 (n+p.val)/\n+p.val=jj n p/\(5=(aT L n p).out/\0=(aT L n p).proc/\0=(aT L n p).err/\0=(aT L n p).ans.code/\abG=(aT L n p).ans.data/\void=(aT L n p).ans.k0/\void=(aT L n p).ans.k1/\void=(aT L n p).ans.k2/\false=(aT L n p).wants/\0=ot n p)/\L=dO L n p
theorem TN (L:List Sx.Obj) (n:Int) (p:iW) (hq:Yb L n p):
 true=true/\(aw p.data/\gQ n)/\aba (!er p n) (n=jj n p/\(0=(aT L n p).out/\0=(aT L n p).proc/\0=(aT L n p).err/\0=(aT L n p).ans.code/\abG=(aT L n p).ans.data/\void=(aT L n p).ans.k0/\void=(aT L n p).ans.k1/\void=(aT L n p).ans.k2/\false=(aT L n p).wants/\2=ot n p)/\L=dO L n p) ((aba (decide (p.kind=1)) (acf L p n) (aba (decide (p.kind=2)) (acg n p L) False))/\aba (decide (p.kind=2)) (acg n p L) (aba (decide (p.kind=1)) (acf L p n) False)):=by
 delta aba abG acg acf
 obtain⟨hL,hs,hn⟩:=hq
 have ht:er p n=true->p.kind=2->aF IntKind.i64 (n+p.val):=fun hr hk=>by
  unfold er at hr;rw[aa9 hk]at hr;simp only[aa2,aa3]at hr;unfold gQ at hn;simp only[aF,bY];omega
 refine⟨rfl,⟨hs,hn⟩,fun hr=>?_,fun hr=>?_⟩
 ·have hr:er p n=false:=by simpa using hr
  have e1:jj n p=n:=by unfold jj;rw[aa8 (by simp[hr])]
  have e2:aT L n p=dn0:=by unfold aT;rw[aa8 (by simp[hr])]
  have e3:ot n p=2:=by unfold ot;rw[aa8 (by simp[hr])]
  have e4:dO L n p=L:=by unfold dO;rw[aa8 (by simp[hr])]
  rw[e1,e2,e3,e4];(repeat' apply And.intro)<;>rfl
 have hr:er p n=true:=by simpa using hr
 have e3:ot n p=0:=by unfold ot;rw[aa9 hr]
 have one:∀h1:p.kind=1,jj n p=n:=fun h1=>by unfold jj;rw[aa8 (by omega)]
 have two:∀h2:p.kind=2,jj n p=n+p.val/\aT L n p=⟨5,0,0,cY,false⟩/\dO L n p=L:=fun h2=>by
  refine⟨?_,?_,?_⟩
  ·unfold jj;rw[aa9 ⟨hr,h2⟩]
  ·unfold aT;rw[aa9 hr,aa9 h2]
  ·unfold dO;rw[aa8 (fun h=>h.2.1 h2)]
 have bad:¬p.kind=1->¬p.kind=2->False:=fun h1 h2=>by
  unfold er at hr;rw[aa8 h2]at hr;simp[h1]at hr
 refine⟨⟨fun h1=>?_,fun h1=>⟨fun h2=>?_,fun h2=>?_⟩⟩,⟨fun h2=>?_,fun h2=>⟨fun h1=>?_,fun h1=>?_⟩⟩⟩
 ·have h1:=aa6 h1;refine⟨rfl,⟨⟨hL,hs,hn⟩,hr,h1⟩,(one h1).symm,?_,rfl⟩;(repeat' apply And.intro)<;>first|rfl|exact e3.symm
 ·have h2:=aa6 h2;obtain⟨a,b,c⟩:=two h2;rw[a,b,c,e3];exact⟨rfl,ht hr h2,rfl,(by(repeat' apply And.intro)<;>rfl),rfl⟩
 ·exact(bad (aa5 h1) (aa5 h2)).elim
 ·have h2:=aa6 h2;obtain⟨a,b,c⟩:=two h2;rw[a,b,c,e3];exact⟨rfl,ht hr h2,rfl,(by(repeat' apply And.intro)<;>rfl),rfl⟩
 ·have h1:=aa6 h1;refine⟨rfl,⟨⟨hL,hs,hn⟩,hr,h1⟩,(one h1).symm,?_,rfl⟩;(repeat' apply And.intro)<;>first|rfl|exact e3.symm
 ·exact(bad (aa5 h1) (aa5 h2)).elim
theorem HY:kL Tryz.prog 19 VK:=NW (fun _ _ _=>rfl) fun L n p hq=>bj (inl:=(fun f=>f==32||f==39)) (ann:=aQ) (ae Jn aq) (aB SO aD) (TN L n p hq) (by kernel_rfl)
abbrev ach:=iW.mk 1 0 0 1 1 abG (-1) (-1) (-1) false 0
theorem Qt:
 abb (abb ((jC 6=false->abb False)/\(jC 6=true->abb (abb (abb (abb (abb (abb ((ar (yg 6)/\aw abG/\gQ 0)/\(decide (ot 0 ach=0)&&decide ((aT (yg 6) 0 ach).out=4)&&yf (aT (yg 6) 0 ach).ans.k0 (Key.mk 2 2 1 void.call void.rights void.value))=true))))))))):=by
 delta abG ach abb
 have st:aw (ByteArray.mk (Array.mk [])):=by unfold aw;decide
 have h1:ar (yg 6):=by unfold ar;kernel_rfl
 refine⟨rfl,rfl,fun h=>absurd h (by decide),fun _=>⟨rfl,rfl,rfl,rfl,rfl,rfl,⟨h1,st,by unfold gQ;omega⟩,?_⟩⟩
 kernel_rfl
theorem LN:cq Tryz.prog 11 TK:=Wo rfl (bj (inl:=(fun f=>f==12||f==29)) (ann:=aQ) aq (aB KI (aB dz (aB HY aD))) Qt (by kernel_rfl))
theorem WN (x:List iW) (hx:vX x):
 aba (decide (40<bD (ai x))) (true=qY (ly x)) ((∃g,xO x g/\0=g/\ai x=ai x/\xE x=xE x)/\∀(g:Int),xO x g->aba (decide (g<bD (ai x))) ((0<=g/\g< ↑(ai x))/\g.toNat<ai x/\abd (bN (aj x g.toNat m5).data)/\aba (decide (100<bN (aj x g.toNat m5).data)) (true=qY (ly x)) (abd (g+1)/\∃g',xO x g'/\(bD (ai x)-g').toNat<(bD (ai x)-g).toNat/\g+1=g'/\ai x=ai x/\xE x=xE x)) (false=qY (ly x))):=by
 delta aba abd
 refine⟨fun h=>?_,fun h=>⟨⟨0,⟨by omega,by omega,rfl⟩,rfl,rfl,rfl⟩,fun g hg=>⟨fun hlt=>?_,fun hge=>?_⟩⟩⟩
 ·unfold qY ly;simp only;rw[h];rfl
 ·obtain⟨g0,g1,g2⟩:=hg;have hlt:g<(ai x:Int):=aa6 hlt;have hs:=hx g.toNat (by omega)
  have h40:¬40<(ai x:Int):=aa5 h;have e:opD (Ks (aj x g.toNat m5))=bN (aj x g.toNat m5).data:=rfl;refine⟨⟨g0,hlt⟩,by omega,by unfold aw at hs;simp only[aF,bY,bN];omega,fun h1=>?_,fun h1=>⟨by simp only[aF,bY];omega,g+1,⟨by omega,by omega,?_⟩,by unfold bD;omega,rfl,rfl,rfl⟩⟩
  ·have h1:=aa6 h1;unfold qY ly;simp only;rw[E2 (F:=fun i=>Ks (aj x i m5)) (j:=g.toNat) (by omega) (by rw[e];exact h1) (ai x) (by omega),Bool.or_true]
  ·have h1:=aa5 h1;rw[show(g+1).toNat=g.toNat+1 by omega]
   exact IU g2 (by rw[e];exact h1)
 ·obtain⟨g0,g1,g2⟩:=hg;have hge:¬g<(ai x:Int):=aa5 hge;rw[show g.toNat=ai x by omega]at g2
  unfold qY ly;simp only;rw[h,g2];rfl
theorem Xl:cq Tryz.prog 10 Zw:=
 eW (aA Vz bV) (fun _=>rfl) fun a hq hok=>by
  obtain⟨_,_⟩:=a;obtain⟨x,rfl,hx⟩:=hq;exact ba (inl:=bx) (ann:=(iv [(10,4,UO [0] (fun g=> [(3,.it .i64 g)]) (xO x) (bD (ai x)))])) aq (WN x hx) (by kernel_rfl)
end Go.Proofs.YtlblcfaclmpekaaGreat
