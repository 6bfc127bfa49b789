import Derived.Test.YtmfbohanboiklaaGreatMa16
import Derived.OpenShut
import Derived.Deep.Slices
import Derived.ChangeArms
import Derived.ChangeSame
import Derived.ChangeBook
import Derived.RowKit
import Derived.ProofKit
import Derived.ChangeMaps5
import Derived.SizedLaws
import Derived.Handed
set_option linter.unusedSimpArgs false
set_option linter.unusedVariables false
set_option maxRecDepth 100000
namespace Go.Proofs.YtmfbohanboiklaaGreat
open Go.Sx
theorem XT(n:Int)(L:List Sx.Obj)(hq:aK L<=1000/\bD L=false):
 true=true/\true=true/\(aK L).le 1000/\au (bD L) (∀(nid:Nat),some (V.nl (Value.pointer none))=some (V.lp nid 0)/\none=some [aS.store tS eS L]) (∀(nid: Nat),some (V.lp nid 0)=some (V.lp nid 0)/\some [aS.store tS eS L]=some [aS.store tS eS L]):=by
 delta au
 exact⟨rfl,rfl,hq.1,fun h=>by rw[hq.2]at h;simp at h,fun _ _=>⟨rfl,rfl⟩⟩
theorem YB:dO Tryz.prog 17 abu:=aaX (π:= [2]) (by simp) (fun _=>rfl) fun n L hq=>bU (inl:=(aeq [36])) (ann:=bn) aP (aW tc aT) (XT n L hq) (by kernel_rfl)
abbrev adY(L:List Sx.Obj)(p:lz):=aI L ((aQ L (bg L 0 p).proc).slots.at (4+p.reg).toNat)
theorem U7(L:List Sx.Obj)(p:lz)(hL:aO L)(hs:aU p.data):
 aw (au (decide (aJ L=0)) (jy L p=[]) (au (decide (aJ L<4)||false||false) (jy L p=[]) (aw ((aK L).le 1000/\au (bD L) (au (!decide (p.kind=1)) (jy L p=[]) (aw False)) (au (!decide (p.kind=1)) (jy L p=[]) (aw ((aO L/\aU p.data/\ku 0)/\au (!decide (nc 0 p=0)||decide ((bg L 0 p).out=1)) (jy L p=[]) (bh IntKind.i64 (4+p.reg)/\(0<=4+p.reg/\4+p.reg< ↑16)/\au (decide ((adY L p).kind=6)||decide ((adY L p).kind=7)) ([(bg L 0 p).proc,(adY L p).oid]=jy L p) ([(bg L 0 p).proc]=jy L p))))))))):=by
 delta au adY aw
 obtain⟨l1,l2⟩:=fJ hL;have es:aJ L=(aK L:Int):=rfl;have hsn:bD L=false:=decide_eq_false (by unfold aK;omega)
 have h0:decide (aJ L=0)=false:=decide_eq_false (by rw[es];unfold aK;omega)
 rw[h0,hsn];refine⟨rfl,fun h=>by simp at h,fun _=>⟨fun h=>VN ?_,fun h4=>⟨rfl,(by show L.length<=1000;omega),fun h=>by simp at h,fun _=>⟨fun hk=>OL ?_,fun hk=>⟨rfl,⟨hL,hs,by unfold ku;omega⟩,fun hd=>?_,fun hd=>?_⟩⟩⟩⟩⟩
 ·rw[es]at h;simpa using h
 ·simpa using hk
 ·have hk:p.kind=1:=by simpa using hk
  have h4:¬(aK L:Int)<4:=by rw[es]at h4;simpa using h4
  by_cases hh:dW p 0=true/\¬aK (dV L)=0
  ·rw[(Ji h4 hk hh.1 hh.2).2.1]at hd;simp at hd
  ·exact(NN hk hh).1
 ·have hk:p.kind=1:=by simpa using hk
  have h4:¬(aK L:Int)<4:=by rw[es]at h4;simpa using h4
  by_cases hh:dW p 0=true/\¬aK (dV L)=0
  ·obtain⟨p1,p2,p3⟩:=Ji h4 hk hh.1 hh.2;rw[p1]
   have hg:0<=p.reg/\p.reg<12:=by
    have hr:=hh.1;unfold dW at hr;rw[aq (by omega)]at hr
    simp only[af,ah,rL]at hr;omega
   refine⟨by simp only[bh,cB];omega,⟨by omega,by omega⟩,fun hc=>?_,fun hc=>?_⟩
   ·have hc:pO L p=true:=hc;rw[p3,ar hc];rfl
   ·have hc:pO L p=false:=hc;rw[p3,hc];rfl
  ·rw[(NN hk hh).2]at hd;simp at hd
theorem Yc:l5 Tryz.prog 11 Xk:=by
 unfold Xk
 refine aal (F0:=fun _=>V5) (zY (ba (wj tS eS) Ie) (fun _=>rfl) (fun _=>by simp) fun a hq _=>by
  obtain⟨o,p,_⟩:=a;obtain⟨h1,h2⟩:=hq;cases o with
  |none=>exact h1.elim
  |some L=>exact aM.Z8 (bU (inl:=(aeq [16])) (ann:=bn) (aH bF (aH fi (aH gI aP))) (aW tc (aW Jz aT)) (U7 L (Iv p) h1 h2) (by kernel_rfl)))
end Go.Proofs.YtmfbohanboiklaaGreat
namespace Go.Sx
def oz(L M:List Obj):Prop:=M.length=L.length/\∀j,j<L.length->(aL M j free).kind=(aL L j free).kind/\(aL M j free).count=(aL L j free).count/\(aL L j free).calls<=(aL M j free).calls
theorem iW(L:List Obj):oz L L:=⟨rfl,fun j _=>⟨rfl,rfl,Int.le_refl _⟩⟩
theorem zj{L M N:List Obj}(h:oz L M)(h':oz M N):oz L N:=⟨h'.1.trans h.1,fun j hj=>by
 obtain⟨a,b,c⟩:=h.2 j hj;obtain⟨d,e,f⟩:=h'.2 j (by rw[h.1];exact hj)
 exact⟨d.trans a,e.trans b,by omega⟩⟩
theorem vG{L:List Obj}{i:Nat}{o:Obj}(hi:i<L.length)(h1:o.kind=(aL L i free).kind)(h2:o.count=(aL L i free).count)(h3:(aL L i free).calls<=o.calls):oz L (eQ L i o):=
 ⟨by rw[fN],fun j hj=>by
  rw[dE hi];split
  ·rename_i e;rw[e];exact⟨h1,h2,h3⟩
  ·exact⟨rfl,rfl,Int.le_refl _⟩⟩
theorem tv{o:Obj}{m:bK}{a:Key}:(lT o m a).kind=o.kind/\(lT o m a).count=o.count/\(lT o m a).calls=o.calls:=by simp only[lT,and_self]
theorem CA{o:Obj}{st:Int}:(uX o st).kind=o.kind/\(uX o st).count=o.count/\(uX o st).calls=o.calls:=by simp only[uX,and_self]
section
variable {L:List Obj} {i:Int} {k:Key} {md:Int} {m:bK}
theorem aaH(hL:aO L)(hE:dw L i k md m=0):oz L (gC L i k md):=by
 obtain⟨⟨⟨i0,i1⟩,_,_⟩,⟨⟨k0,k1⟩,_,_⟩,_,⟨_,l1⟩,_⟩:=u7 hL hE;have h1:oz L (iB L i md):=vG (by omega) CA.1 CA.2.1 (by rw[CA.2.2];exact Int.le_refl _)
 unfold gC;split
 ·exact zj h1 (vG (by omega) (by simp only[EP]) (by simp only[EP]) (by simp only[EP];omega))
 ·exact h1
theorem Y5(hE:dw L i k md m=0):fV L i k md m=eQ (gC L i k md) k.oid.toNat (lT (aL (gC L i k md) k.oid.toNat free) (jS L m) (jG L i md)):=by
 unfold fV zr;rw[ar hE]
theorem XW(hL:aO L):oz L (fV L i k md m):=by
 by_cases hE:dw L i k md m=0
 ·obtain⟨_,⟨⟨k0,k1⟩,_,_⟩,_,_,⟨_,l2⟩,_⟩:=u7 hL hE;rw[Y5 hE];exact zj (aaH hL hE) (vG (by omega) tv.1 tv.2.1 (by rw[tv.2.2];exact Int.le_refl _))
 ·rw[<-(nb rfl hE).2];exact iW _
end
def rlO(o o':Obj):Prop:=(o'.kind=o.kind/\o'.count=o.count/\o.calls<=o'.calls)\/(o.kind=0/\o'.kind=3/\o'.count=o.count)\/(o.kind=0/\(o'.kind=1\/o'.kind=2)/\o'.count=o.count+1)\/((o.kind=1\/o.kind=2)/\o'.kind=0/\o'.count=o.count)
def Gz(L M:List Obj):Prop:=M.length=L.length/\∀j,j<L.length->rlO (aL L j free) (aL M j free)
theorem iE(L:List Obj):Gz L L:=⟨rfl,fun j _=> .inl ⟨rfl,rfl,Int.le_refl _⟩⟩
theorem oU{L M:List Obj}(h:oz L M):Gz L M:=⟨h.1,fun j hj=> .inl (h.2 j hj)⟩
theorem DT{L M:List Obj}(h:D8 L M):Gz L M:=⟨h.1,fun j hj=>by
 have:=h.2 j hj;unfold Gm at this;unfold rlO;rcases this with⟨a,b,c⟩|h|h|h
 ·exact .inl ⟨a,b,by omega⟩
 ·exact .inr (.inl h)
 ·exact .inr (.inr (.inl h))
 ·exact .inr (.inr (.inr h))⟩
theorem XA{L M N:List Obj}(h:Gz L M)(h':oz M N):Gz L N:=⟨h'.1.trans h.1,fun j hj=>by
 have h1:=h.2 j hj;obtain⟨a,b,c⟩:=h'.2 j (by rw[h.1];exact hj)
 unfold rlO at h1⊢;rw[a,b];rcases h1 with⟨d,e,f⟩|h|h|h
 ·exact .inl ⟨d,e,by omega⟩
 ·exact .inr (.inl h)
 ·exact .inr (.inr (.inl h))
 ·exact .inr (.inr (.inr h))⟩
theorem zC{L:List Obj}{i:Nat}{o:Obj}(h:¬i<L.length):eQ L i o=L:=by
 unfold eQ;exact List.set_eq_of_length_le (by omega)
theorem vT{L:List Obj}{i:Nat}{o:Obj}(h1:o.kind=(aL L i free).kind)(h2:o.count=(aL L i free).count)(h3:(aL L i free).calls<=o.calls):oz L (eQ L i o):=by
 by_cases h:i<L.length
 ·exact vG h h1 h2 h3
 ·rw[zC h];exact iW L
theorem ze{L:List Obj}{k:Key}{s:ck}:oz L (ry L k s):=vT rfl rfl (Int.le_refl _)
theorem zn{L:List Obj}{k:Key}{s:Bytes}:oz L (pV L k s):=vT rfl rfl (Int.le_refl _)
section
variable {L:List Obj} {k v:Key} {i n:Int} {m:bK} {s:ByteArray}
theorem FP:oz L (dL L k i v):=by unfold dL;split;exact ze;exact iW L
theorem RF:oz L (gu L k):=by unfold gu;split;exact ze;exact iW L
theorem MI:oz L (fL L k v):=by unfold fL;split;exact ze;exact iW L
theorem Kc:oz L (fE L k i s):=by unfold fE;split;exact zn;exact iW L
theorem OU:oz L (fZ L k):=by unfold fZ;split;exact zn;exact iW L
theorem UO:oz L (gw L k v):=by unfold gw;split;exact zn;exact iW L
theorem X1:oz L (mD L k i s):=by unfold mD;split;exact Kc;exact iW L
theorem MJ:oz L (iz L i n):=by
 unfold iz;split
 ·rename_i h
  have hk:(aQ L i).kind=1:=by
   unfold fB at h;split at h
   ·omega
   ·split at h
    ·omega
    ·rename_i h2;exact Classical.not_not.1 h2
  have hg:aQ L i=aL L i.toNat free:=by
   unfold aQ at hk⊢;split at hk
   ·rename_i h0;rw[ar h0]
   ·simp[free]at hk
  rw[hg];exact vT CA.1 CA.2.1 (by rw[CA.2.2];exact Int.le_refl _)
 ·exact iW L
theorem Zo:oz L (ko L i m):=by
 unfold ko;split
 ·exact vT tv.1 tv.2.1 (by rw[tv.2.2];exact Int.le_refl _)
 ·exact iW L
theorem acN:Gz L (iC L k m).2.2:=by unfold iC;(repeat' split)<;>first|exact iE L|exact oU FP|exact oU RF|exact oU MI
theorem abj:Gz L (ir L k m).2.2:=by unfold ir;(repeat' split)<;>first|exact iE L|exact oU Kc|exact oU OU|exact oU UO
theorem abH:Gz L (iR L k m).2.2:=by unfold iR;(repeat' split)<;>first|exact iE L|exact DT EN|exact DT Fl|exact DT Vp|exact DT EM
theorem acA:Gz L (gQ L k m).2.2:=by
 unfold gQ;by_cases h1:m.code=1
 ·rw[ar h1];exact iE L
 rw[aq h1];by_cases h2:m.code=2
 ·rw[ar h2];show Gz L (if bE m<0\/11<bE m then L else dL L (fF k) (bE m+4) m.k0)
  split
  ·exact iE L
  ·exact oU FP
 rw[aq h2];by_cases h3:m.code=3
 ·rw[ar h3];exact iE L
 rw[aq h3];by_cases h4:m.code=4
 ·rw[ar h4];exact iE L
 rw[aq h4];by_cases h5:m.code=5
 ·rw[ar h5];exact oU MJ
 rw[aq h5];by_cases h6:m.code=6
 ·rw[ar h6];exact iE L
 rw[aq h6];exact oU X1
theorem abn:Gz L (mI L n k m):=by
 have hB:∀k m,Gz L (ew L n k m).2.2:=fun k m=>by
  unfold ew;split
  ·exact iE L
  split
  ·exact acN
  split
  ·exact abj
  split
  ·exact abH
  split
  ·exact acA
  split
  ·exact iE L
  ·split<;>exact iE L
 have hR:∀k m,Gz L (dQ L n k m).2.2:=fun k m=>by
  unfold dQ;split
  ·exact iE L
  split
  ·exact iE L
  split
  ·exact iE L
  ·exact hB k m
 unfold mI;split
 ·exact hR _ _
 ·exact iE L
end
theorem Ty{L:List Obj}{n:Int}{p:lz}(hL:aO L):Gz L (gV L n p):=by
 unfold gV;split
 ·split
  ·exact oU (XW hL)
  ·unfold BS;have h1:Gz L (iK L n p):=abn;split
   ·split
    ·exact XA h1 Zo
    ·split
     ·exact XA h1 MJ
     ·exact h1
   ·exact h1
 ·exact iE L
theorem xA{a:Int}(h:0<=a/\a<=7):∃x:Fin 8,a=(x.val:Int):=⟨⟨a.toNat,by omega⟩,by simp;omega⟩
theorem HM{a b c:Int}(ha:0<=a/\a<=7)(hb:0<=b/\b<=7)(hc:0<=c/\c<=7)(h1:bM a b=a)(h2:bM b c=b):bM a c=a:=by
 have key:∀x y z:Fin 8,bM (x.val:Int) (y.val:Int)=(x.val:Int)->bM (y.val:Int) (z.val:Int)=(y.val:Int)->bM (x.val:Int) (z.val:Int)=(x.val:Int):=by decide+kernel
 obtain⟨x,rfl⟩:=xA ha;obtain⟨y,rfl⟩:=xA hb;obtain⟨z,rfl⟩:=xA hc;exact key x y z h1 h2
theorem U4{a:Int}(ha:0<=a/\a<=7):bM (bM a 3) a=bM a 3/\0<=bM a 3/\bM a 3<=7:=by
 have key:∀x:Fin 8,bM (bM (x.val:Int) 3) (x.val:Int)=bM (x.val:Int) 3/\0<=bM (x.val:Int) 3/\bM (x.val:Int) 3<=7:=by decide+kernel
 obtain⟨x,rfl⟩:=xA ha;exact key x
theorem YZ{a:Int}(ha:0<=a/\a<=1):bM 1 a=1:=by
 have h:a=0\/a=1:=by omega
 rcases h with rfl|rfl<;>decide
theorem Zg{a:Int}(ha:0<=a/\a<=7)(h:bM 0 a=0):a=0:=by
 have key:∀x:Fin 8,bM 0 (x.val:Int)=0->(x.val:Int)=0:=by decide+kernel
 obtain⟨x,rfl⟩:=xA ha;exact key x h
theorem V1{a b:Int}(ha:0<=a/\a<=7)(hb:0<=b/\b<=7)(h:bM a b=a)(h2:(b.tdiv 2).tmod 2=1):(a.tdiv 2).tmod 2=1:=by
 have key:∀x y:Fin 8,bM (x.val:Int) (y.val:Int)=(x.val:Int)->((y.val:Int).tdiv 2).tmod 2=1->((x.val:Int).tdiv 2).tmod 2=1:=by decide+kernel
 obtain⟨x,rfl⟩:=xA ha;obtain⟨y,rfl⟩:=xA hb;exact key x y h h2
theorem nk{a b:Key}:lV a b=true↔aR a=true/\aR b=true/\(a.kind=0\/a=b\/((a.kind=2\/a.kind=3)/\a.kind=b.kind/\a.oid=b.oid/\a.count=b.count/\bM a.rights b.rights=a.rights)):=by
 unfold lV mW;cases ha:aR a with
 |false=>simp
 |true=>
  cases hb:aR b with
  |false=>simp
  |true=>
   rw[L7 ha hb];simp only[A4,Bool.and_self,Bool.true_and,Bool.or_eq_true,af,ah,true_and,and_assoc,or_assoc]
theorem Ey{a:Key}(h:aR a=true):lV a a=true:=nk.2 ⟨h,h,.inr (.inl rfl)⟩
theorem LK{a b c:Key}(h1:lV a b=true)(h2:lV b c=true):lV a c=true:=by
 rw[nk]at h1 h2⊢;obtain⟨a1,a2,a3⟩:=h1;obtain⟨b1,b2,b3⟩:=h2;refine⟨a1,b2,?_⟩;rcases a3 with a3|rfl|⟨a3,a4,a5,a6,a7⟩
 ·exact .inl a3
 ·exact b3
 ·rcases b3 with b3|rfl|⟨b3,b4,b5,b6,b7⟩
  ·omega
  ·exact .inr (.inr ⟨a3,a4,a5,a6,a7⟩)
  ·exact .inr (.inr ⟨a3,a4.trans b4,a5.trans b5,a6.trans b6,HM (ie a1) (ie b1) (ie b2) a7 b7⟩)
def kz(k:Key):Key:= {k with value:=0}
theorem xe{k:Key}(h:aR k=true):aR (kz k)=true:=pK h
theorem Ox{k:Key}(h:bc k=true):bc (kz k)=true:=by
 unfold bc at h⊢;simp only[af]at h⊢;exact⟨xe h.1,h.2⟩
theorem Hl(k:Key):(k.kind=2/\gH k=cU k (bM k.rights 3))\/(k.kind=3/\gH k=cU k 1)\/((k.kind=1\/k.kind=8)/\gH k=k)\/gH k=void:=by
 unfold gH;split
 ·rename_i h;exact .inl ⟨h,rfl⟩
 ·split
  ·rename_i h;exact .inr (.inl ⟨h,rfl⟩)
  ·split
   ·rename_i h;exact .inr (.inr (.inl ⟨h,rfl⟩))
   ·exact .inr (.inr (.inr rfl))
theorem AG{k:Key}(h:aR k=true)(hc:gF (gH k)=true):lV (kz (gH k)) (kz k)=true/\gF k=true/\(k.kind=2\/k.kind=3\/k.kind=8)/\(gH k).oid=k.oid/\(gH k).kind=k.kind/\(gH k).count=k.count:=by
 have hw:aR (ea k)=true:=tD h;have e:ea k=gH k:=by unfold ea;rw[h,ar rfl]
 rw[e]at hw;have hr:=ga h;rcases Hl k with⟨h2,e⟩|⟨h2,e⟩|⟨h2,e⟩|e
 ·rw[e]at hc hw⊢;have hm:dg k.kind=7:=by rw[h2];rfl
  rw[hm]at hr;refine⟨nk.2 ⟨xe hw,xe h,.inr (.inr ⟨.inl h2,rfl,rfl,rfl,(U4 hr).1⟩)⟩,?_,.inl h2,rfl,rfl,rfl⟩;unfold gF;rw[h2];rfl
 ·rw[e]at hc hw⊢;have hm:dg k.kind=1:=by rw[h2];rfl
  rw[hm]at hr;refine⟨nk.2 ⟨xe hw,xe h,.inr (.inr ⟨.inr h2,rfl,rfl,rfl,YZ hr⟩)⟩,?_,.inr (.inl h2),rfl,rfl,rfl⟩;unfold gF;rw[h2];rfl
 ·rw[e]at hc hw⊢;refine⟨Ey (xe h),hc,?_,rfl,rfl,rfl⟩;rcases h2 with h2|h2
  ·unfold gF at hc;rw[h2]at hc;simp at hc
  ·exact .inr (.inr h2)
 ·rw[e]at hc;simp[gF,void]at hc
def Nl(L:List Obj)(X:List Int)(k:Key):Prop:=∃x∈X,∃d,Gb L x d/\lV (kz k) (cq d)=true
theorem Jc{L:List Obj}{X Y:List Int}{k:Key}(h:∀x∈X,x∈Y)(a:Nl L X k):Nl L Y k:=by
 obtain⟨x,hx,d,h1,h2⟩:=a;exact⟨x,h x hx,d,h1,h2⟩
theorem qd{L:List Obj}{X:List Int}{x:Int}{k:Key}(hx:x∈X)(h:Gb L x (ef k)):Nl L X k:=⟨x,hx,_,h,Ey (pZ _ h).1⟩
theorem Hr{L:List Obj}{X:List Int}{k j:Key}(h:Nl L X k)(hw:lV (kz j) (kz k)=true):Nl L X j:=by
 obtain⟨x,hx,d,h1,h2⟩:=h;exact⟨x,hx,d,h1,LK hw h2⟩
def Own(ps:List Int)(k:Key):Prop:=5<=k.kind/\k.kind<=7/\k.oid∈ps
def Gd(L M:List Obj)(X ps:List Int)(k:Key):Prop:=gF k=true->Nl L X k\/(bc k=true/\(aQ L k.oid).count<(aQ M k.oid).count)\/Own ps k
theorem Km{L M:List Obj}{X ps:List Int}{k:Key}(hk:aR k=true)(h:Gd L M X ps k):Gd L M X ps (gH k):=fun hc=>by
 obtain⟨h1,h2,h3,h4,h5,h6⟩:=AG hk hc
 have hw:aR (gH k)=true:=by
  have:=tD hk;unfold ea at this;rw[hk,ar rfl]at this;exact this
 rcases h h2 with a|⟨b,c⟩|⟨o1,o2,o3⟩
 ·exact .inl (Hr a h1)
 ·refine .inr (.inl ⟨?_,by rw[h4];exact c⟩)
  unfold bc at b⊢;simp only[af]at b⊢;exact⟨hw,by rw[h5];exact b.2⟩
 ·omega
def Gv(L:List Obj)(ps:List Int)(v:Key):Prop:=gF (aI L v)=true->Nl L ps (aI L v)\/Own ps v
theorem JS(L:List Obj)(v:Key):aI L v=void\/aI L v=v:=by
 unfold aI;split
 ·exact .inl rfl
 ·exact .inr rfl
theorem oE{L:List Obj}{v:Key}(h:gF (aI L v)=true):aI L v=v/\aR v=true/\(bc v=true->bk L v=true):=by
 have hv:gF void=false:=rfl;unfold aI at h⊢;split at h
 ·rw[hv]at h;simp at h
 ·rename_i hn;rw[aq hn];simp only[Bool.or_eq_true,af,Bool.not_eq_true',not_or,not_and,Bool.not_eq_false]at hn;exact⟨rfl,hn.1.2,hn.2⟩
theorem OS{L:List Obj}{v:Key}(hL:0<L.length)(hk:aR v=true)(h:aI L v≠v):bc v=true/\bk L v=false:=by
 unfold aI at h;split at h
 ·rename_i hn;simp only[Bool.or_eq_true,af,Bool.not_eq_true']at hn;rcases hn with(hn|hn)|hn
  ·unfold bD aK at hn;have:=ak hn;omega
  ·rw[hk]at hn;simp at hn
  ·exact hn
 ·exact absurd rfl h
def slR(L:List Obj)(ps:List Int)(o o':Obj):Prop:=∀i,i<16->o'.slots.at i=o.slots.at i\/Gv L ps (o'.slots.at i)
structure Hy(L M:List Obj)(ps:List Int):Prop where
 fq:aO L
 okM:aO M
 rl:Gz L M
 calls:∀j,j<L.length->(aL M j free).calls=(aL L j free).calls\/¬(aL M j free).kind=(aL L j free).kind\/(j:Int)∈ps
 sl:∀j,j<L.length->slR L ps (aL L j free) (aL M j free)
theorem get_at{L:List Obj}{i:Int}(h0:0<=i)(h1:i<(L.length:Int)):aQ L i=aL L i.toNat free:=by
 have:bH L i=0:=jr.2 ⟨h0,h1⟩;unfold aQ;rw[ar this]
theorem IQ{L M:List Obj}{ps X:List Int}(hS:Hy L M ps){v:Key}(h:gF (aI L v)=true->Nl L X (aI L v)\/Own ps v):Gd L M X ps (aI M v):=fun hc=>by
 obtain⟨e,hk,hi⟩:=oE hc;rw[e]at hc⊢;by_cases hL:aI L v=v
 ·rw[hL]at h;rcases h hc with a|o
  ·exact .inl a
  ·exact .inr (.inr o)
 obtain⟨hn,hf⟩:=OS (by have:=(fJ hS.fq).1;omega) hk hL
 have hM:=hi hn;obtain⟨h1,h2,h3⟩:=QW hM;obtain⟨_,g0,g1,_,_⟩:=eT hM;have hl:M.length=L.length:=hS.rl.1;rw[hl]at h1 g1;have gL:=get_at (L:=L) g0 g1;have gM:=get_at (L:=M) g0 (by rw[hl];exact g1)
 rcases hS.rl.2 _ h1 with⟨a,b,c⟩|⟨a,b,c⟩|⟨a,b,c⟩|⟨a,b,c⟩
 ·have h7:v.kind=7:=Decidable.byContradiction fun h7=>by
   have:bk M v=bk L v:=by
    unfold bk bH cW aK;rw[hl,a,b];simp[h7]
   rw[this,hf]at hM;simp at hM
  refine .inr (.inr ⟨by omega,by omega,?_⟩)
  rcases hS.calls _ h1 with e1|e1|e1
  ·exfalso
   have:bk M v=bk L v:=by
    unfold bk bH cW aK;rw[hl,a,b,e1]
   rw[this,hf]at hM;simp at hM
  ·exact absurd a e1
  ·have:((v.oid.toNat:Nat):Int)=v.oid:=by omega
   rw[this]at e1;exact e1
 ·omega
 ·exact .inr (.inl ⟨hn,by rw[gL,gM];omega⟩)
 ·omega
theorem Sh{L:List Obj}(hL:aO L){j:Nat}(hj:j<L.length)(h:(aL L j free).kind≠1){i:Nat}(hi:i<16):(aL L j free).slots.at i=void:=by
 obtain⟨_,_,_,_,_,_,_,_,h1,h2,h3⟩:=dK.1 (dA hL j hj);have:=h2 i hi;unfold iS at this;simp only[af,Bool.or_eq_true,ah]at this;rcases this.2 with h|h
 ·omega
 ·simpa[A4]using h
theorem GU{L:List Obj}{oid:Int}{w:Bool}{i:Nat}(h:gF (nz L oid w i)=true):0<=oid/\oid<(L.length:Int):=by
 have:bH L oid=0:=Decidable.byContradiction fun hn=>by
  rw[IA hn]at h;simp[gF,void]at h
 exact jr.1 this
theorem GF{L:List Obj}{oid:Int}(h0:0<=oid)(h1:oid<(L.length:Int))(i:Nat):nz L oid false i=aI L ((aL L oid.toNat free).slots.at i):=by
 unfold nz;rw[aq (by simp),get_at h0 h1]
theorem Sv{L:List Obj}{oid:Int}(h0:0<=oid)(h1:oid<(L.length:Int))(i:Nat):nz L oid true i=gH (aI L ((aL L oid.toNat free).slots.at i)):=by
 unfold nz;rw[ar rfl,get_at h0 h1,oS]
section
variable {L M:List Obj} {ps:List Int} (hS:Hy L M ps) {X:List Int} (hX:∀x∈ps,x∈X)
include hS hX
theorem va{o:Int}(h0:0<=o)(h1:o<(L.length:Int)){i:Nat}(hi:i<16)(h:∀i,i<16->gF (nz L o false i)=true->Nl L X (nz L o false i)):Gd L M X ps (nz M o false i):=by
 have hl:M.length=L.length:=hS.rl.1;rw[GF h0 (by omega)]
 rcases hS.sl o.toNat (by omega) i hi with e|g
 ·rw[e];refine IQ hS fun hc=> .inl ?_
  have:=h i hi;rw[GF h0 h1]at this;exact this hc
 ·exact IQ hS fun hc=>(g hc).imp (Jc hX) id
theorem DU{o:Int}(h0:0<=o)(h1:o<(L.length:Int)){i:Nat}(hi:i<16)(h:∀i,i<16->gF (nz L o true i)=true->Nl L X (nz L o true i)):Gd L M X ps (nz M o true i):=by
 have hl:M.length=L.length:=hS.rl.1;rw[Sv h0 (by omega)]
 rcases hS.sl o.toNat (by omega) i hi with e|g
 ·rw[e];intro hc;have hk:=gx M ((aL L o.toNat free).slots.at i);obtain⟨w1,w2,w3,w4,w5,w6⟩:=AG hk hc;obtain⟨p1,p2,p3⟩:=oE w2;by_cases hL:aI L ((aL L o.toNat free).slots.at i)=(aL L o.toNat free).slots.at i
  ·have:=h i hi;rw[Sv h0 h1,hL]at this;rw[p1]at hc⊢;exact .inl (this hc)
  ·have hg:Gd L M X ps (aI M ((aL L o.toNat free).slots.at i)):=IQ hS fun hc'=>by
    exact absurd (oE hc').1 hL
   exact Km hk hg hc
 ·exact Km (gx _ _) (IQ hS fun hc=>(g hc).imp (Jc hX) id)
theorem Sb{o:Int}(h0:0<=o)(h1:o<(L.length:Int))(hn:(aQ L o).count<(aQ M o).count){i:Nat}(hi:i<16)(w:Bool):Gd L M X ps (nz M o w i):=by
 have hl:M.length=L.length:=hS.rl.1;rw[get_at h0 h1,get_at h0 (by omega)]at hn
 have hk:(aL L o.toNat free).kind≠1:=by
  rcases hS.rl.2 o.toNat (by omega)with⟨a,b,c⟩|⟨a,b,c⟩|⟨a,b,c⟩|⟨a,b,c⟩<;>omega
 have hv:∀j,j<16->∀w,gF (nz L o w j)=true->False:=fun j hj w hc=>by
  have e:=Sh hS.fq (j:=o.toNat) (by omega) hk hj
  unfold nz at hc;rw[get_at h0 h1,e,sL,xm]at hc;cases w<;>simp[gF,void]at hc
 cases w with
 |false=>exact va hS hX h0 h1 hi fun j hj hc=>(hv j hj _ hc).elim
 |true=>exact DU hS hX h0 h1 hi fun j hj hc=>(hv j hj _ hc).elim
end
theorem Yp{L M:List Obj}{ps:List Int}(hS:Hy L M ps){n:Int}:∀c,Gb M n c->Gd L M (n::ps) ps (cq c):=by
 have hX:∀x∈ps,x∈n::ps:=fun x hx=>List.mem_cons_of_mem _ hx
 have hl:M.length=L.length:=hS.rl.1
 have toC:∀k:Key,Gd L M (n::ps) ps k->Gd L M (n::ps) ps (cq (ef k)):=fun k h hc=>by
  rcases h hc with a|⟨b,c⟩|o
  ·exact .inl a
  ·exact .inr (.inl ⟨Ox b,c⟩)
  ·exact .inr (.inr o)
 intro c h;induction h with
 |base i hi hc=>
  obtain⟨h0,h1⟩:=GU hc;refine toC _ (va hS hX h0 (by omega) hi fun j hj hcj=>qd (List.mem_cons_self ..) (.base j hj hcj))
 |step c d hr hd ih=>
  obtain⟨cok,c5,cnum,ccp⟩:=pZ c hr;have hz:kz (cq c)=cq c:=rfl;have hrd:Gb M n d:= .step c d hr hd;obtain⟨k,k1,rfl,⟨k2,⟨i,hi,rfl⟩|⟨k3,rfl⟩⟩|⟨k2,⟨i,hi,rfl⟩|rfl⟩⟩:=hd
  ·
   obtain⟨h0,h1⟩:=GU k1;rcases ih ccp with⟨x,hx,e,he,hw⟩|⟨hn,hlt⟩|⟨o1,o2,o3⟩
   ·obtain⟨eok,e5,enum,ecp⟩:=pZ e he;rw[hz]at hw
    have hke:(cq e).kind=2/\(cq e).oid=(cq c).oid/\bM (cq c).rights (cq e).rights=(cq c).rights:=by
     obtain⟨_,_,hw⟩:=nk.1 hw;rcases hw with hw|hw|⟨_,w1,w2,w3,w4⟩
     ·omega
     ·rw[<-hw];refine⟨k2,rfl,?_⟩;have key:∀x:Fin 8,bM (x.val:Int) (x.val:Int)=(x.val:Int):=by decide+kernel
      obtain⟨y,hy⟩:=xA (ie cok);rw[hy];exact key y
     ·exact⟨by omega,w2.symm,w4⟩
    obtain⟨e1,e2,e3⟩:=hke
    have hwb:du (cq e)=true->du (cq c)=true:=fun h=>by
     unfold du at h⊢;exact decide_eq_true (V1 (ie cok) (ie eok) e3 (ak h))
    have hst:∀j,j<16->gF (nz L (cq c).oid (du (cq e)) j)=true->Nl L (n::ps) (nz L (cq c).oid (du (cq e)) j):=fun j hj hcj=>
     qd hx (.step e _ he ⟨_,hcj,rfl,.inl ⟨e1,.inl ⟨j,hj,by rw[e2]⟩⟩⟩)
    refine toC _ ?_;cases hwc:du (cq c)with
    |false=>
     have:du (cq e)=false:=by
      cases hwe:du (cq e)with
      |false=>rfl
      |true=>rw[hwb hwe]at hwc;simp at hwc
     rw[this]at hst;exact va hS hX h0 (by omega) hi hst
    |true=>
     cases hwe:du (cq e)with
     |true=>
      rw[hwe]at hst;exact DU hS hX h0 (by omega) hi hst
     |false=>
      rw[hwe]at hst;refine DU hS hX h0 (by omega) hi fun j hj hcj=>?_
      rw[Sv h0 (by omega)]at hcj⊢
      obtain⟨w1,w2,_⟩:=AG (gx L _) hcj;have:=hst j hj;rw[GF h0 (by omega)]at this
      exact Hr (this w2) w1
   ·exact toC _ (Sb hS hX h0 (by omega) hlt hi _)
   ·omega
  ·
   have hdk:=(pZ _ hrd).1;rcases ih ccp with⟨x,hx,e,he,hw⟩|⟨hn,hlt⟩|⟨o1,o2,o3⟩
   ·obtain⟨eok,e5,enum,ecp⟩:=pZ e he;rw[hz]at hw
    have hke:(cq e).kind=2/\(cq e).oid=(cq c).oid/\(cq e).count=(cq c).count/\(cq e).rights=0:=by
     obtain⟨_,_,hw⟩:=nk.1 hw;rcases hw with hw|hw|⟨_,w1,w2,w3,w4⟩
     ·omega
     ·rw[<-hw];exact⟨k2,rfl,rfl,k3⟩
     ·rw[k3]at w4;exact⟨by omega,w2.symm,w3.symm,Zg (ie eok) w4⟩
    obtain⟨e1,e2,e3,e4⟩:=hke;have:SX (cq c)=SX (cq e):=by unfold SX;rw[e2,e3]
    rw[this]at k1⊢;exact toC _ fun _=> .inl (qd hx (.step e _ he ⟨_,k1,rfl,.inl ⟨e1,.inr ⟨e4,rfl⟩⟩⟩))
   ·refine fun _=> .inr (.inl ⟨?_,hlt⟩)
    unfold bc;rw[hdk];rfl
   ·omega
  ·
   obtain⟨h0,h1⟩:=GU k1;rcases ih ccp with⟨x,hx,e,he,hw⟩|⟨hn,hlt⟩|⟨o1,o2,o3⟩
   ·rw[hz]at hw
    have hke:cq c=cq e:=by
     obtain⟨_,_,hw⟩:=nk.1 hw;rcases hw with hw|hw|⟨w0,_⟩
     ·omega
     ·exact hw
     ·omega
    refine toC _ (va hS hX h0 (by omega) hi fun j hj hcj=>qd hx (.step e _ he ⟨_,hcj,rfl,.inr ⟨by rw[<-hke];exact k2,.inl ⟨j,hj,by rw[hke]⟩⟩⟩))
   ·exact toC _ (Sb hS hX h0 (by omega) hlt hi _)
   ·exact toC _ (va hS hX h0 (by omega) hi fun j hj hcj=>qd (hX _ o3) (.base j hj hcj))
  ·
   have hdk:=(pZ _ hrd).1;rcases ih ccp with⟨x,hx,e,he,hw⟩|⟨hn,hlt⟩|⟨o1,o2,o3⟩
   ·rw[hz]at hw
    have hke:cq c=cq e:=by
     obtain⟨_,_,hw⟩:=nk.1 hw;rcases hw with hw|hw|⟨w0,_⟩
     ·omega
     ·exact hw
     ·omega
    rw[hke]at k1 k2⊢;exact toC _ fun _=> .inl (qd hx (.step e _ he ⟨_,k1,rfl,.inr ⟨k2,.inr rfl⟩⟩))
   ·refine fun _=> .inr (.inl ⟨?_,hlt⟩)
    unfold bc;rw[hdk];rfl
   ·exact fun _=> .inr (.inr ⟨by show(5:Int)<=6;omega,by show(6:Int)<=7;omega,o3⟩)
theorem UQ{L M:List Obj}{ps:List Int}(hS:Hy L M ps)(n:Int):vR L M n ps= []:=by
 unfold vR;rw[List.filter_eq_nil_iff];intro c hc;have hr:=(DX hS.okM).1 hc;obtain⟨cok,c5,cnum,ccp⟩:=pZ c hr;have hz:kz (cq c)=cq c:=rfl;unfold Gy;rcases Yp hS c hr ccp with⟨x,hx,e,he,hw⟩|⟨hn,hlt⟩|⟨o1,o2,o3⟩
 ·rw[hz]at hw
  have:mR (cq c) (fO L n ps ((fT n ps).length:Int))=true:=by
   unfold mR fO;rw[List.any_eq_true];refine⟨e,List.mem_flatMap.2 ⟨x,by rw[List.take_of_length_le (by simp)];exact hx,(DX hS.fq).2 he⟩,hw⟩
  rw[this];simp
 ·rw[hn];have:decide ((aQ M (cq c).oid).count<=(aQ L (cq c).oid).count)=false:=decide_eq_false (by omega)
  rw[this];simp
 ·have h1:bc (cq c)=true:=by
   unfold bc cG;rw[cok,decide_eq_true (by omega),decide_eq_true (by omega)];rfl
  have h2:(decide ((cq c).kind=6)||decide ((cq c).kind=7)||decide ((cq c).kind=5))=true:=by
   simp only[Bool.or_eq_true,ah];omega
  have h3:pQ ps (cq c).oid=true:=decide_eq_true o3;rw[h1,h2,h3];simp
def ET(l:List Obj)(k v:Key):Prop:=
 v.kind=0\/je v k=true\/(0<=v.oid/\v.oid<(l.length:Int)/\cx v=v.oid/\v.count=(aL l v.oid.toNat free).count+1)\/
 (k.kind=2/\k.rights=0/\v=⟨5,k.oid,k.count,0,0,0⟩)\/(k.kind=5/\v.kind=6/\v.oid=k.oid/\v.count=k.count)\/
 ((k.kind=2\/k.kind=5)/\0<=k.oid/\k.oid<(l.length:Int)/\∃j:Int,0<=j/\j<16/\je v ((aL l k.oid.toNat free).slots.at j.toNat)=true)
theorem Lh{k:Key}(h:aR k=true):je k k=true:=by unfold je;rw[h,re];simp
theorem Lv{r:Int}(h:0<=r/\r<=7){s:Int}(h':0<=s/\s<=7):bM (bM s r) s=bM s r:=by
 have key:∀x y:Fin 8,bM (bM (y.val:Int) (x.val:Int)) (y.val:Int)=bM (y.val:Int) (x.val:Int):=by decide+kernel
 obtain⟨x,rfl⟩:=wi h;obtain⟨y,rfl⟩:=wi h';exact key x y
theorem ON{r:Int}(h:0<=r/\r<=7){s:Int}(h':0<=s/\s<=1):0<=bM s (r.tmod 2)/\bM s (r.tmod 2)<=1:=by
 have key:∀x y:Fin 8,y.val<=1->0<=bM (y.val:Int) ((x.val:Int).tmod 2)/\bM (y.val:Int) ((x.val:Int).tmod 2)<=1:=by decide+kernel
 obtain⟨x,rfl⟩:=wi h;obtain⟨y,rfl⟩:=wi (a:=s) (by omega)
 exact key x y (by omega)
theorem Pq{r:Int}(h:0<=r/\r<=7){s:Int}(h':0<=s/\s<=1):bM (bM s (r.tmod 2)) s=bM s (r.tmod 2):=by
 have key:∀x y:Fin 8,y.val<=1->bM (bM (y.val:Int) ((x.val:Int).tmod 2)) (y.val:Int)=bM (y.val:Int) ((x.val:Int).tmod 2):=by decide+kernel
 obtain⟨x,rfl⟩:=wi h;obtain⟨y,rfl⟩:=wi (a:=s) (by omega)
 exact key x y (by omega)
theorem wC{k:Key}{r:Int}(h:aR k=true)(h':0<=r/\r<=dg k.kind):aR (cU k r)=true:=by
 simp only[aR,cU,af,ah]at h⊢;grind
theorem ES{k:Key}{r:Int}(h:aR k=true)(h':0<=r/\r<=dg k.kind)(h2:k.kind=2\/k.kind=3)(h3:bM r k.rights=r):je (cU k r) k=true:=by
 unfold je;rw[wC h h',h];unfold cU;simp only[h3,decide_true,Bool.and_true,Bool.true_and];rcases h2 with e|e<;>simp[e]
theorem BM{l:List Obj}{k:Key}{r:Int}(h:aR k=true)(h':0<=r/\r<=7):aR (mP k r)=true/\je (mP k r) k=true:=by
 have hr:=ga h;unfold mP;split
 ·rename_i e;have hm:dg k.kind=7:=by rw[e];rfl
  rw[hm]at hr;have hw:0<=bM k.rights r/\bM k.rights r<=dg k.kind:=by rw[hm];exact Gl
  exact⟨wC h hw,ES h hw (.inl e) (Lv h' hr)⟩
 ·split
  ·rename_i e;have hm:dg k.kind=1:=by rw[e];rfl
   rw[hm]at hr;have hw:0<=bM k.rights (r.tmod 2)/\bM k.rights (r.tmod 2)<=dg k.kind:=by rw[hm];exact ON h' hr
   exact⟨wC h hw,ES h hw (.inr e) (Pq h' hr)⟩
  ·exact⟨h,Lh h⟩
theorem Cc{l:List Obj}{k:Key}:aR void=true/\ET l k void:=⟨nQ,.inl rfl⟩
theorem Fy{l:List Obj}{k v:Key}(hL:aO l)(hk:v.kind=2\/v.kind=3\/v.kind=4)(h0:0<=v.oid)(h1:v.oid<(l.length:Int))(hc:v.count=(aL l v.oid.toNat free).count+1)(hn:ey (aL l v.oid.toNat free)=true)(e1:v.call=0)(e2:v.rights=0)(e3:v.value=0):
  aR v=true/\ET l k v:=by
 have hl:=(fJ hL).2;have ho:=dK.1 (dA hL v.oid.toNat (by omega))
 simp only[ey,af,ah]at hn
 have hok:aR v=true:=by
  obtain⟨_,_,_,_,c0,_,_⟩:=ho;rcases hk with e|e|e<;>simp[aR,eH,cG,fD,jc,dg,e,e1,e2,e3]<;>omega
 refine⟨hok,.inr (.inr (.inl ⟨h0,h1,?_,hc⟩))⟩;unfold cx;rw[hok];have:cG v.kind=true:=by unfold cG;grind
 rw[this];rfl
theorem EU{l:List Obj}{k:Key}{c:Int}(hL:aO l):aR (dh l k c)=true/\ET l k (dh l k c):=by
 by_cases hE:dZ l k c=0
 ·obtain⟨b1,b2,b3,b4,b5,b6,b7,b8⟩:=Tz hE;obtain⟨_,a0,_⟩:=kx b1;have hK:dh l k c=cR c (ff l (aX l k) (aZ l k)) ((aL l (ff l (aX l k) (aZ l k)).toNat free).count+1):=by unfold dh;rw[ar hE]
  refine Fy hL ?_ (by omega) b5 b8 b7 ?_ ?_ ?_<;>rw[hK]<;>unfold cR<;>first|rfl| (simp only;split<;>simp)
 ·have:dh l k c=void:=by unfold dh;rw[aq hE]
  rw[this];exact Cc
theorem JU{l:List Obj}{k:Key}{n:Int}(hL:aO l):aR (cJ l k n)=true/\ET l k (cJ l k n):=by
 by_cases hE:cX l k n=0
 ·obtain⟨he,hI⟩:=Dg hE;obtain⟨_,a0,a1,a2,a3,a4⟩:=kx he;have hK:cJ l k n=⟨4,eU l k,(aL (dP l k) (eU l k).toNat free).count,0,0,0⟩:=by unfold cJ;rw[ar hE]
  rcases qa (L:=l) (l:=aZ l k) a0 with e|⟨i1,i2,i3,i4⟩
  ·have:eU l k= -1:=e;omega
  have i3:eU l k<(l.length:Int):=i3;have hI':¬ff l (aX l k) (aZ l k)= -1:=by have:eU l k=ff l (aX l k) (aZ l k):=rfl;omega
  have hc:(aL (dP l k) (eU l k).toNat free).count=(aL l (eU l k).toNat free).count+1:=by
   unfold dP kq;rw[aq hI'];have hlen:(cw l (aX l k) (ff l (aX l k) (aZ l k))).length=l.length:=iM;have:eU l k=ff l (aX l k) (aZ l k):=rfl;rw[this,dE (by rw[hlen];omega),ar rfl]
   rfl
  refine Fy hL ?_ ?_ ?_ ?_ ?_ ?_ ?_ ?_<;>rw[hK]
  ·exact .inr (.inr rfl)
  ·exact hI
  ·exact i3
  ·exact hc
  ·exact i4
  all_goals rfl
 ·have:cJ l k n=void:=by unfold cJ;rw[aq hE]
  rw[this];exact Cc
theorem abU{L:List Obj}{ps:List Int}{v:Key}(h:gF (aI L v)=false):Gv L ps v:=fun hc=>by rw[h]at hc;simp at hc
theorem gd{L:List Obj}{ps:List Int}:Gv L ps void:=abU (by rw[sL];rfl)
theorem EH{L:List Obj}{ps:List Int}{v:Key}(h:v.kind<2):Gv L ps v:=fun hc=>by
 obtain⟨e,_,_⟩:=oE hc;rw[e]at hc;unfold gF at hc;simp only[af,ah]at hc;omega
theorem rW{L:List Obj}{ps:List Int}{n:Int}:Gv L ps (dR n):=EH (by show(1:Int)<2;omega)
theorem AP{L:List Obj}{ps:List Int}{x:Int}{v:Key}(hx:x∈ps)(h:gF v=true->Gb L x (ef v)):Gv L ps v:=fun hc=>by
 obtain⟨e,_,_⟩:=oE hc;rw[e]at hc⊢;exact .inl (qd hx (h hc))
theorem yk{L L':List Obj}{ps:List Int}{v:Key}(h:Gv L ps v):Gv L ps (aI L' v):=by
 rcases JS L' v with e|e
 ·rw[e];exact gd
 ·rw[e];exact h
theorem Hu{L:List Obj}{ps:List Int}{x:Int}{v k:Key}(hx:x∈ps)(h:gF k=true->Gb L x (ef k))(hw:je v k=true):Gv L ps v:=fun hc=>by
 obtain⟨e,hk,_⟩:=oE hc;rw[e]at hc⊢
 have hw':aR v=true/\aR k=true/\(v.kind=0\/v=k\/((v.kind=2\/v.kind=3)/\v.kind=k.kind/\v.oid=k.oid/\v.count=k.count/\bM v.rights k.rights=v.rights)):=by
  unfold je at hw;simp only[A4,af,Bool.or_eq_true,ah,and_assoc,or_assoc]at hw;exact hw
 obtain⟨w1,w2,w3⟩:=hw';have hck:gF v=true->v.kind=k.kind->gF k=true:=fun h1 h2=>by unfold gF at h1⊢;rw[<-h2];exact h1
 rcases w3 with w3|w3|⟨w3,w4,w5,w6,w7⟩
 ·unfold gF at hc;rw[w3]at hc;simp at hc
 ·subst w3;exact .inl (qd hx (h hc))
 ·exact .inl (Hr (qd hx (h (hck hc w4))) (nk.2 ⟨xe w1,xe w2,.inr (.inr ⟨w3,w4,w5,w6,w7⟩)⟩))
theorem YJ{L:List Obj}{ps:List Int}{v:Key}(h:v.count≠(aL L v.oid.toNat free).count)(hn:2<=v.kind/\v.kind<=7):Gv L ps v:=fun hc=>by
 obtain⟨e,hk,hi⟩:=oE hc
 have:bc v=true:=by
  unfold bc cG;rw[hk,decide_eq_true hn.1,decide_eq_true hn.2];rfl
 exact absurd (QW (hi this)).2.1.symm h
def GN(L:List Obj)(ps:List Int)(s s':ck):Prop:=∀i,i<16->s'.at i=s.at i\/Gv L ps (s'.at i)
theorem gD{L:List Obj}{ps:List Int}(s:ck):GN L ps s s:=fun i _=> .inl rfl
theorem kg{L:List Obj}{ps:List Int}{s s':ck}(h:GN L ps s s'){j:Nat}{v:Key}(hj:j<16)(hv:Gv L ps v):GN L ps s (s'.put j v):=fun i hi=>by
 rw[ck.gg _ _ _ _ hj];split
 ·exact .inr hv
 ·exact h i hi
theorem rZ{L:List Obj}{ps:List Int}{s:ck}:GN L ps s ib:=fun i _=> .inr (by rw[pY];exact gd)
theorem LI{L:List Obj}{ps:List Int}{s s' s'':ck}(h:GN L ps s s')(h':GN L ps s' s''):GN L ps s s'':=fun i hi=>by
 rcases h' i hi with e|g
 ·rw[e];exact h i hi
 ·exact .inr g
def Sq(L:List Obj)(ps:List Int)(A B:List Obj):Prop:=B.length=A.length/\∀j,j<A.length->GN L ps (aL A j free).slots (aL B j free).slots/\((aL B j free).calls=(aL A j free).calls\/¬(aL B j free).kind=(aL A j free).kind\/(j:Int)∈ps)
section
variable {L:List Obj} {ps:List Int}
theorem ec(A:List Obj):Sq L ps A A:=⟨rfl,fun j _=>⟨gD _,.inl rfl⟩⟩
theorem Js{A B:List Obj}(h:Sq L ps A B){i:Nat}{o:Obj}(h1:i<A.length->GN L ps (aL A i free).slots o.slots/\(o.calls=(aL A i free).calls\/¬o.kind=(aL A i free).kind\/(i:Int)∈ps)):Sq L ps A (eQ B i o):=by
 by_cases hi:i<B.length
 ·refine⟨by rw[fN];exact h.1,fun j hj=>?_⟩
  rw[dE hi];split
  ·rename_i e;subst e;exact h1 hj
  ·exact h.2 j hj
 ·rw[zC hi];exact h
theorem rT{A B:List Obj}(h:Sq L ps A B){i:Nat}{o:Obj}(h1:GN L ps (aL B i free).slots o.slots)(h2:o.kind=(aL B i free).kind)(h3:o.calls=(aL B i free).calls\/(i:Int)∈ps):Sq L ps A (eQ B i o):=by
 refine Js h fun hi=>?_
 obtain⟨a,b⟩:=h.2 i hi;refine⟨LI a h1,?_⟩;rw[h2];rcases h3 with h3|h3
 ·rw[h3];exact b
 ·exact .inr (.inr h3)
theorem Ea{k:Key}{s:ck}(h:GN L ps (aL L k.oid.toNat free).slots s):Sq L ps L (ry L k s):=rT (ec L) h rfl (.inl rfl)
theorem Dh{k:Key}{s:Bytes}:Sq L ps L (pV L k s):=rT (ec L) (gD _) rfl (.inl rfl)
theorem DG{M:List Obj}(h:D8 L M)(h':∀j,j<L.length->GN L ps (aL L j free).slots (aL M j free).slots):Sq L ps L M:=⟨h.1,fun j hj=>⟨h' j hj,by
 have:=h.2 j hj;unfold Gm at this;rcases this with⟨a,b,c⟩|⟨a,b,c⟩|⟨a,b,c⟩|⟨a,b,c⟩
 ·exact .inl c
 ·exact .inr (.inl (by omega))
 ·exact .inr (.inl (by omega))
 ·exact .inr (.inl (by omega))⟩⟩
theorem Pc{f g:Int}:∀j,j<L.length->GN L ps (aL L j free).slots (aL (cw L f g) j free).slots:=fun j hj=>by
 unfold cw;rw[ia hj];split
 ·exact rZ
 ·exact gD _
theorem Se{f l kind:Int}(h0:0<=f):∀j,j<L.length->GN L ps (aL L j free).slots (aL (kq L f l kind) j free).slots:=fun j hj=>by
 unfold kq;split
 ·exact Pc j hj
 ·rename_i hi;rcases qa (L:=L) (l:=l) h0 with e|⟨a,b,c,d⟩
  ·exact absurd e hi
  ·rw[dE (by rw[lA];omega)]
   split
   ·exact rZ
   ·exact Pc j hj
theorem YV{k:Key}{kind:Int}:Sq L ps L (gh L k kind):=by
 refine DG EN ?_;unfold gh;split
 ·rename_i h;exact Se (kx (E9 h).1).2.1
 ·exact fun j hj=>gD _
theorem Y3{k:Key}:Sq L ps L (jF L k):=by
 refine DG EM ?_;unfold jF;split
 ·intro j hj;unfold gS;rw[ia hj];split
  ·exact rZ
  ·exact gD _
 ·exact fun j hj=>gD _
theorem ZT{k v:Key}:Sq L ps L (iU L k v):=by
 refine DG Fl ?_;unfold iU;split
 ·intro j hj;by_cases hi:v.oid.toNat<L.length
  ·rw[dE hi];split
   ·exact rZ
   ·exact gD _
  ·rw[zC hi];exact gD _
 ·exact fun j hj=>gD _
theorem acx{k:Key}{n:Int}:Sq L ps L (bN L k n):=by
 unfold bN;split
 ·rename_i h;obtain⟨he,hI⟩:=Dg h;have a0:=(kx he).2.1;have hM:Sq L ps L (dP L k):=DG (Dl a0 (.inl rfl)) (Se a0);refine Js (rT (o:=jE (aL (dP L k) (eU L k).toNat free) (aZ L k-n+1) (aZ L k)) hM (kg (j:=1) (kg (j:=0) (gD _) (by omega) rW) (by omega) rW) rfl (.inl rfl)) fun hi=>?_
  obtain⟨a,b⟩:=hM.2 _ hi;exact⟨kg (j:=1) a (by omega) rW,b⟩
 ·exact ec L
def Hd(L:List Obj)(x:Int)(k:Key):Prop:=gF k=true->Gb L x (ef k)
theorem JP{x:Int}{i:Nat}(hi:i<16)(h0:0<=x)(h1:x<(L.length:Int)):Hd L x (aI L ((aL L x.toNat free).slots.at i)):=fun hc=>by
 have:=Gb.base (L:=L) (oid:=x) i hi (by rw[GF h0 h1];exact hc)
 rw[GF h0 h1]at this;exact this
theorem J9{x:Int}:Hd L x void:=fun h=>by simp[gF,void]at h
theorem PL{x:Int}{k:Key}(h:k.kind<2):Hd L x k:=fun hc=>by
 unfold gF at hc;simp only[af,ah]at hc;omega
theorem zQ{k v:Key}{i:Int}(h:bY L k i v=0):bk L k=true/\k.kind=2/\0<=i/\i<16:=by
 unfold bY at h;split at h
 ·rename_i ha;obtain⟨a1,a2,_⟩:=jv ha;split at h
  ·rename_i hr;unfold lh at hr;simp only[af,ah]at hr;exact⟨a1,a2,hr.1,hr.2⟩
  ·omega
 ·rename_i ha;exact absurd h ha
theorem VH{k:Key}:Sq L ps L (gu L k):=by
 unfold gu;split
 ·exact Ea rZ
 ·exact ec L
def CD(L:List Obj)(ps:List Int)(m:bK):Prop:=Gv L ps m.k0/\Gv L ps m.k1/\Gv L ps m.k2
theorem AW{v:Key}(h:Gv L ps v):CD L ps (gz v):=⟨h,gd,gd⟩
theorem Dw{n:Int}:CD L ps (gO n):=⟨gd,gd,rW⟩
theorem acF{s:ByteArray}:CD L ps (jB s):=⟨gd,gd,gd⟩
theorem acV{e:Int}:CD L ps (gJ e):=⟨gd,gd,gd⟩
theorem xZ:CD L ps fm:=⟨gd,gd,gd⟩
theorem NX{A:List Obj}(hA:Sq L ps L A){i st:Int}:Sq L ps L (iz A i st):=by
 unfold iz;split
 ·rename_i h
  have hk:(aQ A i).kind=1:=by
   unfold fB at h;split at h
   ·omega
   ·split at h
    ·omega
    ·rename_i h2;exact Classical.not_not.1 h2
  have hg:aQ A i=aL A i.toNat free:=by
   unfold aQ at hk⊢;split at hk
   ·rename_i h0;rw[ar h0]
   ·simp[free]at hk
  rw[hg];exact rT hA (kg (gD _) (by omega) rW) rfl (.inl rfl)
 ·exact hA
theorem ace{i st:Int}:Sq L ps L (iz L i st):=NX (ec L)
theorem W9{s:ck}{m:bK}{a:Key}(hm:CD L ps m)(ha:Gv L ps a):GN L ps s (zM s m a):=
 kg (kg (kg (kg (kg (kg (gD _) (by omega) rW) (by omega) rW) (by omega) hm.1) (by omega) hm.2.1) (by omega) hm.2.2) (by omega) ha
theorem P3{A:List Obj}{m:bK}(h:CD L ps m):CD L ps (jS A m):=⟨yk h.1,yk h.2.1,yk h.2.2⟩
theorem acI{A:List Obj}(hA:Sq L ps L A){i:Int}{m:bK}(hm:CD L ps m):Sq L ps L (ko A i m):=by
 unfold ko;split
 ·unfold zr;refine rT (o:=lT (aL A i.toNat free) (jS A m) void) hA ?_ tv.1 (.inl tv.2.2);have e:(lT (aL A i.toNat free) (jS A m) void).slots=zM (aL A i.toNat free).slots (jS A m) void:=by unfold lT;rfl
  rw[e];exact W9 (P3 hm) gd
 ·exact hA
theorem abl{i:Int}{k:Key}{md:Int}{m:bK}(hi:i∈ps)(hk:k.oid∈ps)(hm:CD L ps m):Sq L ps L (fV L i k md m):=by
 unfold fV;split
 ·rename_i hE
  have h0:0<=k.oid:=by
   have:bk L k=true:=by
    unfold dw at hE;(repeat' split at hE)<;>first|omega| (rename_i h _ _;simp only[not_or,Bool.not_eq_false]at h;exact h.1)
   exact(eT this).2.1
  have h1:Sq L ps L (iB L i md):=rT (ec L) (kg (gD _) (by omega) rW) rfl (.inl rfl)
  have h2:Sq L ps L (gC L i k md):=by
   unfold gC;split
   ·exact rT h1 (gD _) rfl (.inr (by rw[show((k.oid.toNat:Nat):Int)=k.oid by omega];exact hk))
   ·exact h1
  unfold zr;refine rT (o:=lT (aL (gC L i k md) k.oid.toNat free) (jS L m) (jG L i md)) h2 ?_ tv.1 (.inl tv.2.2);have e:(lT (aL (gC L i k md) k.oid.toNat free) (jS L m) (jG L i md)).slots=zM (aL (gC L i k md) k.oid.toNat free).slots (jS L m) (jG L i md):=by unfold lT;rfl
  rw[e];refine W9 (P3 hm) ?_;unfold jG;split
  ·exact fun _=> .inr ⟨by show(5:Int)<=7;omega,by show(7:Int)<=7;omega,hi⟩
  ·exact gd
 ·exact ec L
theorem MS{k:Key}{i:Int}{s:ByteArray}:Sq L ps L (fE L k i s):=by unfold fE;split;exact Dh;exact ec L
theorem aa8{k:Key}{i:Int}{s:ByteArray}:Sq L ps L (mD L k i s):=by unfold mD;split;exact MS;exact ec L
theorem acv{k:Key}{m:bK}:Sq L ps L (ir L k m).2.2:=by
 unfold ir;(repeat' split)<;>first|exact ec L|exact MS| (show Sq L ps L (fZ L k);unfold fZ;split;exact Dh;exact ec L)| (show Sq L ps L (gw L k _);unfold gw;split;exact Dh;exact ec L)
theorem acb{k:Key}{m:bK}:Sq L ps L (iR L k m).2.2:=by
 unfold iR;(repeat' split)<;>first|exact ec L|exact YV|exact ZT|exact acx|exact Y3
theorem JJ{k v:Key}(hv:Gv L ps v){i:Int}:Sq L ps L (dL L k i v):=by
 unfold dL;split
 ·rename_i h;obtain⟨a1,a2,a3,a4⟩:=zQ h;exact Ea (kg (gD _) (by omega) (yk hv))
 ·exact ec L
theorem aa2{k:Key}{m:bK}(h0:Gv L ps m.k0):Sq L ps L (gQ L k m).2.2:=by
 unfold gQ;by_cases h1:m.code=1
 ·rw[ar h1];exact ec L
 rw[aq h1];by_cases h2:m.code=2
 ·rw[ar h2];show Sq L ps L (if bE m<0\/11<bE m then L else dL L (fF k) (bE m+4) m.k0)
  split
  ·exact ec L
  ·exact JJ h0
 rw[aq h2];by_cases h3:m.code=3
 ·rw[ar h3];exact ec L
 rw[aq h3];by_cases h4:m.code=4
 ·rw[ar h4];exact ec L
 rw[aq h4];by_cases h5:m.code=5
 ·rw[ar h5];exact ace
 rw[aq h5];by_cases h6:m.code=6
 ·rw[ar h6];exact ec L
 rw[aq h6];exact aa8
variable {x:Int} (hx:x∈ps)
include hx
theorem P7{k:Key}(h:Hd L x k):Gv L ps k:=AP hx h
theorem Hv{k:Key}(hk:Hd L x k)(h:bk L k=true)(h2:k.kind=2){i:Nat}(hi:i<16):Gv L ps (e9 L k (i:Int)):=by
 obtain⟨_,g0,g1,_,_⟩:=eT h;rw[IJ (jr.2 ⟨g0,g1⟩)];refine AP hx fun hc=> .step _ _ (hk (by unfold gF;rw[h2];rfl)) ⟨_,hc,rfl,.inl ⟨h2,.inl ⟨i,hi,rfl⟩⟩⟩
theorem Kn{k:Key}(hk:Hd L x k)(h:bk L (fF k)=true)(h5:k.kind=5){i:Nat}(hi:i<16):Gv L ps (e9 L (fF k) (i:Int)):=by
 obtain⟨_,g0,g1,_,_⟩:=eT h;rw[IJ (jr.2 ⟨g0,g1⟩)];have hw:du (fF k)=false:=rfl;rw[hw];refine AP hx fun hc=> .step _ _ (hk (by unfold gF;rw[h5];rfl)) ⟨_,hc,rfl,.inr ⟨h5,.inl ⟨i,hi,rfl⟩⟩⟩
theorem VB{k:Key}(hk:Hd L x k){i:Int}:Gv L ps (bf L k i):=by
 unfold bf;split
 ·rename_i h;unfold dB at h;split at h
  ·rename_i ha;obtain⟨a1,a2,_⟩:=jv ha;split at h
   ·rename_i hr;unfold lh at hr;simp only[af,ah]at hr;have:i=((i.toNat:Nat):Int):=by omega
    rw[this];exact Hv hx hk a1 a2 (by omega)
   ·omega
  ·rename_i ha;exact absurd h ha
 ·exact gd
theorem Wj{k v:Key}(hk:Hd L x k){i:Int}:Gv L ps (fa L k i v):=by
 unfold fa;split
 ·rename_i h;obtain⟨a1,a2,a3,a4⟩:=zQ h;have:i=((i.toNat:Nat):Int):=by omega
  rw[this];exact Hv hx hk a1 a2 (by omega)
 ·exact gd
theorem VV{t f:Key}(hf:Hd L x f):Sq L ps L (fL L t f):=by
 unfold fL;split
 ·rename_i h
  have ha:bq L f 2 false=0:=by
   unfold dr at h;split at h
   ·exact h
   ·rename_i hn;exact absurd h hn
  obtain⟨a1,a2,_⟩:=jv ha;refine Ea ?_
  have key:∀g:Nat,g<=16->GN L ps (aL L t.oid.toNat free).slots (gG L t f (g:Int)):=fun g=>by
   induction g with
   |zero=>exact fun _=>gD _
   |succ g ih=>
    intro hg;have:=wc (L:=L) (t:=t) (f:=f) (g:=(g:Int)) (by omega)
    rw[show((g+1:Nat):Int)=(g:Int)+1 by omega,this]
    refine kg (ih (by omega)) (by omega) (Hv hx hf a1 a2 (by omega))
  exact key 16 (by omega)
 ·exact ec L
theorem acg{k:Key}{m:bK}(h0:Gv L ps m.k0)(h1:Hd L x m.k0):Sq L ps L (iC L k m).2.2:=by
 unfold iC;(repeat' split)<;>first|exact ec L|exact JJ h0|exact VH|exact VV hx h1
theorem Y1{n:Int}{k:Key}{m:bK}(h0:Hd L x m.k0):Sq L ps L (dQ L n k m).2.2:=by
 have hB:Sq L ps L (ew L n k m).2.2:=by
  unfold ew;split
  ·exact ec L
  split
  ·exact acg hx (P7 hx h0) h0
  split
  ·exact acv
  split
  ·exact acb
  split
  ·exact aa2 (P7 hx h0)
  split
  ·exact ec L
  ·split<;>exact ec L
 unfold dQ;split
 ·exact ec L
 split
 ·exact ec L
 split
 ·exact ec L
 ·exact hB
theorem Jp{k v:Key}(h4:k.kind=4)(hk:Hd L x k)(hv:aR v=true)(h:ET L k v):Gv L ps v:=by
 rcases h with h|h|⟨a,b,c,d⟩|⟨a,_⟩|⟨a,_⟩|⟨a,_⟩
 ·exact EH (by omega)
 ·exact Hu hx hk h
 ·rcases j5 v with⟨hn,_⟩|⟨_,e⟩
  ·unfold bc cG at hn;simp only[af,ah]at hn;exact YJ (by omega) hn.2
  ·omega
 ·omega
 ·omega
 ·omega
theorem aby{k:Key}{m:bK}(hok:aR k=true)(hk:Hd L x k)(k2:k.kind=2)(he:(iC L k m).1=0):CD L ps (iC L k m).2.1:=by
 unfold iC at he⊢;by_cases c1:m.code=1
 ·rw[ar c1];exact AW (VB hx hk)
 rw[aq c1]at he⊢;by_cases c2:m.code=2
 ·rw[ar c2];exact AW (Wj hx hk)
 rw[aq c2]at he⊢;by_cases c3:m.code=3
 ·rw[ar c3];exact xZ
 rw[aq c3]at he⊢;by_cases c4:m.code=4
 ·rw[ar c4];exact xZ
 rw[aq c4]at he⊢;by_cases c5:m.code=5
 ·rw[ar c5]at he⊢;have hr:0<=m.k2.value/\m.k2.value<=7:=Decidable.byContradiction fun hn=>by simp only[aq hn]at he;omega
  exact AW (Hu hx hk (BM (l:=L) hok hr).2)
 rw[aq c5]at he⊢;have hr:k.rights=0:=Decidable.byContradiction fun hn=>by simp only[aq hn]at he;omega
 exact AW (AP hx fun hc=> .step _ _ (hk (by unfold gF;rw[k2];rfl)) ⟨_,hc,rfl,.inl ⟨k2,.inr ⟨hr,rfl⟩⟩⟩)
theorem acy{k:Key}{m:bK}(hok:aR k=true)(hk:Hd L x k)(he:(ir L k m).1=0):CD L ps (ir L k m).2.1:=by
 unfold ir at he⊢;by_cases c1:m.code=1
 ·rw[ar c1];exact acF
 rw[aq c1]at he⊢;by_cases c2:m.code=2
 ·rw[ar c2];exact xZ
 rw[aq c2]at he⊢;by_cases c3:m.code=3
 ·rw[ar c3];exact xZ
 rw[aq c3]at he⊢;by_cases c4:m.code=4
 ·rw[ar c4];exact xZ
 rw[aq c4]at he⊢;have hr:0<=m.k2.value/\m.k2.value<=7:=Decidable.byContradiction fun hn=>by simp only[aq hn]at he;omega
 exact AW (Hu hx hk (BM (l:=L) hok hr).2)
theorem aca{k:Key}{m:bK}(hL:aO L)(hk:Hd L x k)(k4:k.kind=4):CD L ps (iR L k m).2.1:=by
 have hm:∀c,CD L ps (gz (dh L k c)):=fun c=>AW (Jp hx k4 hk (EU hL).1 (EU hL).2)
 have hs:∀n,CD L ps (gz (cJ L k n)):=fun n=>AW (Jp hx k4 hk (JU hL).1 (JU hL).2)
 unfold iR;by_cases c1:m.code=1
 ·rw[ar c1];exact hm 1
 rw[aq c1];by_cases c2:m.code=2
 ·rw[ar c2];exact hm 2
 rw[aq c2];by_cases c3:m.code=3
 ·rw[ar c3];exact xZ
 rw[aq c3];by_cases c4:m.code=4
 ·rw[ar c4];exact hs _
 rw[aq c4];by_cases c5:m.code=5
 ·rw[ar c5];exact Dw
 rw[aq c5];exact Dw
theorem aa0{k:Key}{m:bK}(hk:Hd L x k)(k5:k.kind=5):CD L ps (gQ L k m).2.1:=by
 have hwg:∀i:Int,Gv L ps (bf L (fF k) i):=fun i=>by
  unfold bf;split
  ·rename_i h;unfold dB at h;split at h
   ·rename_i ha;obtain⟨a1,a2,_⟩:=jv ha;split at h
    ·rename_i hr;unfold lh at hr;simp only[af,ah]at hr;have:i=((i.toNat:Nat):Int):=by omega
     rw[this];exact Kn hx hk a1 k5 (by omega)
    ·omega
   ·rename_i ha;exact absurd h ha
  ·exact gd
 have hwp:∀(i:Int) (v:Key),Gv L ps (fa L (fF k) i v):=fun i v=>by
  unfold fa;split
  ·rename_i h;obtain⟨a1,a2,a3,a4⟩:=zQ h;have:i=((i.toNat:Nat):Int):=by omega
   rw[this];exact Kn hx hk a1 k5 (by omega)
  ·exact gd
 unfold gQ;by_cases c1:m.code=1
 ·rw[ar c1];exact AW (hwg _)
 rw[aq c1];by_cases c2:m.code=2
 ·rw[ar c2];exact AW (hwp _ _)
 rw[aq c2];by_cases c3:m.code=3
 ·rw[ar c3];refine AW (AP hx fun hc=>?_)
  exact .step _ _ (hk (by unfold gF;rw[k5];rfl)) ⟨UU k,rfl,rfl,.inr ⟨k5,.inr rfl⟩⟩
 rw[aq c3];by_cases c4:m.code=4
 ·rw[ar c4];exact Dw
 rw[aq c4];by_cases c5:m.code=5
 ·rw[ar c5];exact xZ
 rw[aq c5];by_cases c6:m.code=6
 ·rw[ar c6];exact acF
 rw[aq c6];exact xZ
theorem aam{n:Int}{k:Key}{m:bK}(hL:aO L)(hok:aR k=true)(hk:Hd L x k):CD L ps (eg L n k m):=by
 have hB:(ew L n k m).1=0->CD L ps (ew L n k m).2.1:=fun he=>by
  unfold ew at he⊢;by_cases k1:k.kind=1
  ·rw[ar k1];exact Dw
  rw[aq k1]at he⊢;by_cases k2:k.kind=2
  ·rw[ar k2]at he⊢;exact aby hx hok hk k2 he
  rw[aq k2]at he⊢;by_cases k3:k.kind=3
  ·rw[ar k3]at he⊢;exact acy hx hok hk he
  rw[aq k3]at he⊢;by_cases k4:k.kind=4
  ·rw[ar k4];exact aca hx hL hk k4
  rw[aq k4]at he⊢;by_cases k5:k.kind=5
  ·rw[ar k5];exact aa0 hx hk k5
  rw[aq k5]at he⊢;by_cases k8:k.kind=8
  ·rw[ar k8];show CD L ps (if m.code=1 then gO m.k0.kind else if m.code=2 then gO (gm (je m.k0 m.k1))else gO m.k0.rights)
   by_cases c1:m.code=1
   ·rw[ar c1];exact Dw
   rw[aq c1];by_cases c2:m.code=2
   ·rw[ar c2];exact Dw
   rw[aq c2];exact Dw
  rw[aq k8];by_cases k9:k.kind=9
  ·rw[ar k9];exact Dw
  rw[aq k9];exact xZ
 unfold eg;split
 case isFalse=>exact acV
 rename_i he;unfold dQ at he⊢;by_cases h0:k.kind=0
 ·rw[ar h0];exact xZ
 rw[aq h0]at he⊢;by_cases h1:m.code=0
 ·rw[ar h1];exact Dw
 rw[aq h1]at he⊢;by_cases h2:m.code<1\/dX k.kind<m.code\/eI k.kind m.code=true/\m.k2.kind≠1
 ·rw[ar h2];exact xZ
 rw[aq h2]at he⊢;exact hB he
end
theorem ZQ{L M:List Obj}{ps:List Int}(hL:aO L)(hM:aO M)(hr:Gz L M)(h:Sq L ps L M):Hy L M ps:=
 ⟨hL,hM,hr,fun j hj=>(h.2 j hj).2,fun j hj=>(h.2 j hj).1⟩
theorem aa1{p:lz}(n:Int)(h:¬p.kind=2):dW p n=dW p 0:=by unfold dW;rw[aq h,aq h]
theorem Zp{p:lz}{n:Int}(h:dW p n=true)(h2:¬p.kind=2):p.kind=1/\(0<=p.reg/\p.reg<12)/\fI p.s0=true/\fI p.s1=true/\fI p.s2=true:=by
 unfold dW at h;rw[aq h2]at h;simp only[af,ah]at h;obtain⟨⟨⟨⟨⟨⟨⟨a,b⟩,c⟩,d⟩,e⟩,f⟩,g⟩,i⟩:=h;unfold rL at e;simp only[af,ah]at e;exact⟨a,e,f,g,i⟩
section
variable {L:List Obj} (hL:aO L) {x:Int} (h0:0<=x) (h1:x<(L.length:Int))
include h0 h1
theorem HQ{s:Int}(hs:fI s=true):Hd L x (aI L (zT (aQ L x) s)):=by
 unfold zT;split
 ·rw[sL];exact J9
 ·rename_i hn;unfold fI rL at hs;simp only[Bool.or_eq_true,af,ah]at hs;rw[get_at h0 h1];exact JP (by omega) h0 h1
theorem Zt{p:lz}(s0:fI p.s0=true)(s1:fI p.s1=true)(s2:fI p.s2=true):Hd L x (aI L (bQ (aQ L x) p).k0)/\Hd L x (aI L (bQ (aQ L x) p).k1)/\Hd L x (aI L (bQ (aQ L x) p).k2):=by
 refine⟨HQ h0 h1 s0,HQ h0 h1 s1,?_⟩;show Hd L x (aI L (if p.num=true then dR p.val else zT (aQ L x) p.s2))
 split
 ·rcases JS L (dR p.val)with e|e
  ·rw[e];exact J9
  ·rw[e];exact PL (by show(1:Int)<2;omega)
 ·exact HQ h0 h1 s2
end
theorem MP{L:List Obj}{n:Int}{p:lz}(hL:aO L)(h4:4<=L.length):Hy L (gV L n p) (jy L p):=by
 refine ZQ hL (aaK hL) (Ty hL) ?_;unfold gV;split
 case isFalse=>exact ec L
 rename_i hc;obtain⟨hr,hk,hrun⟩:=hc;obtain⟨hk1,hreg,s0,s1,s2⟩:=Zp hr hk;obtain⟨i0,i1⟩:=Oy (p:=p) hL hrun;have i1:cL L p<(L.length:Int):=i1
 have hpar:jy L p=if pO L p=true then[cL L p,(cF L p).oid]else[cL L p]:=by
  unfold jy;rw[aq (by unfold aK;omega),ar ⟨by rw[<-aa1 n hk];exact hr,hk1,hrun⟩]
 rw[hpar]
 have hK:Hd L (cL L p) (cF L p):=by
  unfold cF;rw[get_at i0 i1];exact JP (by omega) i0 i1
 obtain⟨m0,m1,m2⟩:=Zt i0 i1 s0 s1 s2;split
 ·rename_i hc
  have hg:∀v,Hd L (cL L p) (aI L v)->Gv L [cL L p,(cF L p).oid] v:=fun v h hcv=>by
   obtain⟨e,_,_⟩:=oE hcv;have:=P7 (ps:= [cL L p,(cF L p).oid]) (List.mem_cons_self ..) h;unfold Gv at this;rw[Ch]at this;refine(this hcv).imp id fun o=>?_
   rw[e]at o;exact o
  exact abl (List.mem_cons_self ..) (List.mem_cons_of_mem _ (List.mem_cons_self ..)) ⟨hg _ m0,hg _ m1,hg _ m2⟩
 ·rename_i hc;have hx:cL L p∈ [cL L p]:=List.mem_cons_self ..
  have hK':Hd L (cL L p) (aI L (cF L p)):=by
   have:aI L (cF L p)=cF L p:=Ch _ _;rw[this];exact hK
  have h1:Sq L [cL L p] L (iK L n p):=by
   unfold iK mI;split
   ·exact Y1 hx m0
   ·exact ec L
  have hm:CD L [cL L p] (b9 L n (cF L p) (dN L p)):=by
   unfold b9;split
   ·exact aam hx hL (gx _ _) hK'
   ·exact xZ
  unfold BS;split
  ·split
   ·exact acI h1 hm
   ·split
    ·exact NX h1
    ·exact h1
  ·exact h1
def yG(x:List lz)(g:Int):Prop:=0<=g/\g<=(aK x:Int)/\(aK x:Int)<=20
def sN(L:List Obj)(x:List lz)(g:Int×Int×List Obj):Prop:=0<=g.1/\g.1<=(aK x:Int)/\ku g.2.1/\aO g.2.2/\aK g.2.2=aK L
def Dv(x:List lz)(g:Int×Int×List Obj):Nat:=((aK x:Int)-g.1).toNat
def vm(L:List Obj)(g:Int):Prop:=0<=g/\g<=(aK L:Int)
abbrev u0(x:List lz)(g:Int×Int×List Obj):List Obj:=gV g.2.2 g.2.1 (aL x g.1.toNat lP)
abbrev WY(x:List lz)(g:Int×Int×List Obj):Int:=oq g.2.1 (aL x g.1.toNat lP)
abbrev GL(x:List lz)(g:Int×Int×List Obj):List Int:=jy g.2.2 (aL x g.1.toNat lP)
theorem UX{L:List Obj}{p:lz}(hL:aO L):∀x∈jy L p,bH L x=0:=by
 unfold jy;split
 ·exact fun x hx=>absurd hx (List.not_mem_nil)
 split
 case isFalse=>exact fun x hx=>absurd hx (List.not_mem_nil)
 rename_i hc;obtain⟨i0,i1⟩:=Oy (p:=p) hL hc.2.2;have hI:bH L (cL L p)=0:=jr.2 ⟨i0,i1⟩;split
 ·rename_i hs;intro x hx;rcases List.mem_cons.1 hx with rfl|hx
  ·exact hI
  ·rw[List.mem_singleton.1 hx];refine zF ?_;have hk:aR (cF L p)=true:=gx _ _;unfold pO at hs;simp only[Bool.or_eq_true,ah]at hs;unfold bc cG;have h2:(aI L ((aQ L (cL L p)).slots.at (4+p.reg).toNat)).kind=(cF L p).kind:=rfl;rw[h2,show aR (aI L ((aQ L (cL L p)).slots.at (4+p.reg).toNat))=true from hk,decide_eq_true (by omega),decide_eq_true (by omega)];rfl
 ·intro x hx;rw[List.mem_singleton.1 hx];exact hI
theorem VR{L:List Obj}{p:lz}:(jy L p).length<=2:=by
 unfold jy;(repeat' split)<;>simp
theorem XM{L M:List Obj}{ps:List Int}{n:Int}(hl:M.length=L.length)(hp:∀x∈ps,bH L x=0)(h0:0<=n)(h1:n<(L.length:Int)):pD L M n ps=true:=by
 unfold pD;rw[decide_eq_true (by unfold aK;exact hl.symm),Bool.true_and,MX]
 exact⟨jr.2 ⟨h0,h1⟩,hp⟩
end Go.Sx
namespace Go.Proofs.YtmfbohanboiklaaGreat
open Go.Sx
abbrev adZ(x:List lz)(g_1:Int×Int×List Sx.Obj):=aL x g_1.fst.toNat lP
theorem QM(L:List Sx.Obj)(x:List lz)(hx:RQ x):
 aw (True/\(oX L=false->true=true)/\(oX L=true->au (decide (12<bV (aK L))||decide (12<bV (aK x))||decide (bV (aK L)<4)) (true=true) ((∃g,yG x g/\0=g/\L=L/\aK x=aK x/\(vC x=vC x)/\L=L)/\∀(g:Int),yG x g->au (decide (g<bV (aK x))) ((0<=g/\g< ↑(aK x))/\g.toNat<aK x/\az (dJ (aL x g.toNat lP).data)/\au (decide (100<dJ (aL x g.toNat lP).data)) (true=true) (az (g+1)/\∃g',yG x g'/\(bV (aK x)-g').toNat<(bV (aK x)-g).toNat/\g+1=g'/\L=L/\aK x=aK x/\(vC x=vC x)/\L=L)) (aw (au (decide (aJ L=0)) (false=true) (au (decide (aJ L<4)||false||false) (false=true) (aw ((aK L).le 1000/\au (bD L) ((∃g,sN L x g/\False)/\∀(g:Int×Int×List Sx.Obj),sN L x g->au (decide (g.fst<bV (aK x))) (aw False) (true=true)) ((∃g,sN L x g/\0=g.fst/\L=L/\aK x=aK x/\(vC x=vC x)/\L=L/\L=g.snd.snd/\0=g.snd.fst)/\∀(g_1:Int×Int×List Sx.Obj),sN L x g_1->au (decide (g_1.fst<bV (aK x))) (((aK g_1.snd.snd).le 1000/\bD g_1.snd.snd=false)/\(0<=g_1.fst/\g_1.fst< ↑(aK x))/\g_1.fst.toNat<aK x/\aw (QN (some g_1.snd.snd,((adZ x g_1).kind,(adZ x g_1).proc,(adZ x g_1).reg,(adZ x g_1).mode,(adZ x g_1).code,(adZ x g_1).data,((adZ x g_1).s0,(adZ x g_1).s1,(adZ x g_1).s2,PUnit.unit),(adZ x g_1).num,(adZ x g_1).val,PUnit.unit),PUnit.unit)/\(0<=g_1.fst/\g_1.fst< ↑(aK x))/\g_1.fst.toNat<aK x/\aw ((aO g_1.snd.snd/\aU (adZ x g_1).data/\ku g_1.snd.fst)/\((aK (u0 x g_1)).le 1000/\bD (u0 x g_1)=false)/\(∃g,vm L g/\g_1.fst=g_1.fst/\0=g/\L=L/\aK x=aK x/\(vC x=vC x)/\L=L/\u0 x g_1=u0 x g_1/\WY x g_1=WY x g_1/\g_1.snd.snd=g_1.snd.snd/\GL x g_1=GL x g_1/\u0 x g_1=u0 x g_1)/\∀ (g_2:Int),vm L g_2->au (decide (g_2<bV (aK L))) (aw (WZ (some g_1.snd.snd,some (u0 x g_1),g_2,GL x g_1,PUnit.unit)/\(pD g_1.snd.snd (u0 x g_1) g_2 (GL x g_1)=false->au (!decide (xu g_1.snd.snd (u0 x g_1) g_2 (GL x g_1)=0)||false) (false=true) (az (g_2+1)/\∃g',vm L g'/\(bV (aK L)-g').toNat<(bV (aK L)-g_2).toNat/\g_1.fst=g_1.fst/\g_2+1=g'/\L=L/\aK x=aK x/\(vC x=vC x)/\L=L/\u0 x g_1=u0 x g_1/\WY x g_1=WY x g_1/\g_1.snd.snd=g_1.snd.snd/\GL x g_1=GL x g_1/\u0 x g_1=u0 x g_1))/\(pD g_1.snd.snd (u0 x g_1) g_2 (GL x g_1)=true->au (decide (0<bV (aK (vR g_1.snd.snd (u0 x g_1) g_2 (GL x g_1))))) (false=true) (az (g_2+1)/\∃g',vm L g'/\(bV (aK L)-g').toNat<(bV (aK L)-g_2).toNat/\g_1.fst=g_1.fst/\g_2+1=g'/\L=L/\aK x=aK x/\(vC x=vC x)/\L=L/\u0 x g_1=u0 x g_1/\WY x g_1=WY x g_1/\g_1.snd.snd=g_1.snd.snd/\GL x g_1=GL x g_1/\u0 x g_1=u0 x g_1)))) (az (g_1.fst+1)/\∃g',sN L x g'/\Dv x g'<Dv x g_1/\g_1.fst+1=g'.fst/\L=L/\aK x=aK x/\(vC x=vC x)/\L=L/\u0 x g_1=g'.snd.snd/\WY x g_1=g'.snd.fst)))) (true=true)))))))))):=by
 delta au adZ az aw
 have eL:bV (aK L)=(L.length:Int):=rfl;have eX:bV (aK x)=(x.length:Int):=rfl;rw[eL,eX];refine⟨rfl,trivial,fun _=>rfl,fun hM=>⟨fun _=>rfl,fun hs=>?_⟩⟩
 have hL:aO L:=by unfold oX at hM;simp only[af]at hM;exact hM.2
 simp only[Bool.or_eq_false_iff,decide_eq_false_iff_not]at hs;obtain⟨⟨s1,s2⟩,s3⟩:=hs;obtain⟨l1,l2⟩:=fJ hL;refine⟨⟨0,⟨by omega,Int.natCast_nonneg _,by unfold aK;omega⟩,rfl,rfl,rfl,rfl,rfl⟩,fun g hg=>⟨fun hlt=>?_,fun hge=>?_⟩⟩
 ·have hlt:=ak hlt;obtain⟨h0,h1,h2⟩:=hg;have hj:g.toNat<x.length:=by omega
  have hz:((aL x g.toNat lP).data.size:Int)<=9223372036854775807:=hx _ hj;have hz':dJ (aL x g.toNat lP).data<=9223372036854775807:=hz;have hz0:0<=dJ (aL x g.toNat lP).data:=Int.natCast_nonneg _;exact⟨⟨h0,hlt⟩,hj,by simp only[bh,cB];omega,fun _=>rfl,fun _=>⟨by simp only[bh,cB];omega,g+1,⟨by omega,by show g+1<=(x.length:Int);omega,h2⟩,by omega,rfl,rfl,rfl,rfl,rfl⟩⟩
 have es:aJ L=(L.length:Int):=rfl;have hsn:∀M:List Sx.Obj,M.length=L.length->bD M=false:=fun M h=>decide_eq_false (by unfold aK;omega)
 rw[es,hsn L rfl];refine⟨rfl,fun h=>by have:=ak h;omega,fun _=>⟨fun h=>?_,fun _=>⟨rfl,(by show L.length<=1000;omega),fun h=>by simp at h,fun _=>⟨⟨(0,0,L),⟨by show(0:Int)<=0;omega,Int.natCast_nonneg _,by show ku 0;unfold ku;omega,hL,rfl⟩,rfl,rfl,rfl,rfl,rfl,rfl,rfl⟩,fun g_1 hg1=>⟨fun hlt=>?_,fun _=>rfl⟩⟩⟩⟩⟩
 ·simp only[Bool.or_false,ah]at h;omega
 have hlt:=ak hlt;obtain⟨h0,h1,h2,h3,h4⟩:=hg1;have h4:g_1.2.2.length=L.length:=h4;have hj:g_1.1.toNat<x.length:=by omega
 have hS:Hy g_1.2.2 (u0 x g_1) (GL x g_1):=MP h3 (by omega)
 have hMl:(u0 x g_1).length=g_1.2.2.length:=hS.rl.1;have hstr:aU (aL x g_1.1.toNat lP).data:=hx _ hj;refine⟨⟨(by show g_1.2.2.length<=1000;omega),hsn _ h4⟩,⟨h0,hlt⟩,hj,rfl,⟨h3,hstr⟩,⟨h0,hlt⟩,hj,rfl,⟨h3,hstr,h2⟩,⟨(by show(u0 x g_1).length<=1000;omega),hsn _ (by omega)⟩,⟨0,⟨by omega,Int.natCast_nonneg _⟩,rfl,rfl,rfl,rfl,rfl,rfl,rfl,rfl,rfl,rfl,rfl⟩,fun g_2 hg2=>⟨fun hl2=>?_,fun hl2=>?_⟩⟩
 ·have hl2:=ak hl2;obtain⟨k0,k1⟩:=hg2;have hb:pD g_1.2.2 (u0 x g_1) g_2 (GL x g_1)=true:=XM hMl (UX h3) k0 (by omega)
  have hn:vR g_1.2.2 (u0 x g_1) g_2 (GL x g_1)= []:=UQ hS g_2;rw[hb,hn];refine⟨rfl,⟨h3,hS.okM,by show(jy _ _).length<=100;have:=VR (L:=g_1.2.2) (p:=aL x g_1.1.toNat lP);omega⟩,fun h=>by simp at h,fun _=>⟨fun h=>by simp[bV,aK]at h,fun _=>⟨by simp only[bh,cB];omega,g_2+1,⟨by omega,by show g_2+1<=(L.length:Int);omega⟩,by omega,rfl,rfl,rfl,rfl,rfl,rfl,rfl,rfl,rfl,rfl,rfl⟩⟩⟩
 ·exact⟨by simp only[bh,cB];omega,(g_1.1+1,WY x g_1,u0 x g_1),⟨by show 0<=g_1.1+1;omega,by show g_1.1+1<=(x.length:Int);omega,ZL h2,hS.okM,by show(u0 x g_1).length=L.length;omega⟩,by unfold Dv aK;show((x.length:Int)-(g_1.1+1)).toNat<((x.length:Int)-g_1.1).toNat;omega,rfl,rfl,rfl,rfl,rfl,rfl,rfl⟩
theorem NV(L:List Sx.Obj)(x:List lz)(hx:RQ x):aM Tryz.prog 5 [.sa 0,.sa 1] [.ro (.arr none 163 (.ob L)),.ro (.arr none 11 (L5 x))] (sX (.bo true)) (fun _ _=>False):=
 bU (inl:=(aeq [16])) (ann:=(lf [(5,5,WX [0,1,5] (fun g=> [(6,.it .i64 g)]) (yG x) (bV (aK x))),(5,13,lpT [0,1,7] (fun(g:Int×Int×List Sx.Obj)=> [(9,.it .i64 g.1)]) (fun g=> [(4,.blk Hh (xJ 3 g.2.1)),(3,.store tS eS g.2.2)]) (sN L x) (Dv x)),(5,20,WX [0,1,7,9,10,11,12] (fun g=> [(13,.it .i64 g)]) (vm L) (bV (aK L)))])) (aH Qf (aH bF (aH YB aP))) (aW V4 (aW tc (aW Yc (aW Jz (aW VZ aT))))) (QM L x hx) (by kernel_rfl)
end Go.Proofs.YtmfbohanboiklaaGreat
namespace Go.Sx
open Go.ChangeShapes Go.WideShapes
def Kd.ofR:Kd->Value->Prop
 | .b,v=>∃x,v= .bool x
 | .s,v=>∃x:ByteArray,v= .string x/\x.size<=maxLen
 | .i k,v=>∃n,v= .int k n/\cB k n
def s8:List Kd->List Value->Prop
 | [],[]=>True
 |k::ks,v::vs=>k.ofR v/\s8 ks vs
 |_,_=>False
theorem s8.length:∀{ks:List Kd} {vs:List Value},s8 ks vs->vs.length=ks.length
 | [],[],_=>rfl
 |_::_,_::_,h=>by simp[s8.length h.2]
 | [],_::_,h=>h.elim
 |_::_,[],h=>h.elim
theorem s8.split:∀{a b:List Kd} {vs:List Value},s8 (a++b) vs->s8 a (vs.take a.length)/\s8 b (vs.drop a.length)
 | [],b,vs,h=>by simpa[s8]using h
 |k::a,b,[],h=>h.elim
 |k::a,b,v::vs,h=>by
  obtain⟨h1,h2⟩:=s8.split (a:=a) h.2;exact⟨by simpa[s8]using⟨h.1,h1⟩,by simpa using h2⟩
theorem s8.join:∀{a b:List Kd} {vs us:List Value},s8 a vs->s8 b us->s8 (a++b) (vs++us)
 | [],_,[],_,_,h=>by simpa using h
 |k::a,_,v::vs,_,h,h'=>⟨h.1,s8.join h.2 h'⟩
 | [],_,_::_,_,h,_=>h.elim
 |_::_,_,[],_,h,_=>h.elim
theorem X4{k:IntKind}{n:Int}(h:(Lit.int k n).wf=true):cB k n:=by
 cases k<;>simp[Lit.wf,IntKind.min,IntKind.max,IntKind.signed,IntKind.bits]at h<;>simp only[cB]<;>omega
theorem Aw{α:Type}{l:List α}{c n:Nat}(h:(l.take c).length=n):l.take c=l.take n:=by
 rw[List.length_take]at h;rcases Nat.le_total c l.length with hc|hc
 ·rw[Nat.min_eq_left hc]at h;rw[h]
 ·rw[Nat.min_eq_right hc]at h;rw[List.take_of_length_le hc,List.take_of_length_le (by omega)]
section
variable {H:Type} {enc:TypeId×Value->H} {P:Program} {w:World} {base:Nat} {sp:Nat->Bool} {held:Bool}
theorem rQ{t n:Nat}(h:oG P t=some n):P.cellsOf t=n:=by
 unfold oG at h;unfold Program.cellsOf;rw[h];rfl
theorem xF{m f:Nat}(ih:∀t ks,flatK P f t=some ks->∀cs x,DataW.trod enc P w base sp held m t cs=some x->s8 ks cs)(cs:List Value):∀(fs:List Field) (off:Nat) (ks:List Kd),mj (flatK P f) off fs=some ks->
  (∀g∈fs,∃x,DataW.trod enc P w base sp held m g.type ((cs.drop g.offset).take (P.cellsOf g.type))=some x)->s8 ks ((cs.drop off).take ks.length)
 | [],off,ks,h,_=>by
   simp only[mj,aa]at h;subst h;simp[s8]
 |g::fs,off,ks,h,hx=>by
  simp only[mj]at h;split at h
  ·rename_i hc;simp only[af,bne_iff_ne,ne_eq,ai]at hc;obtain⟨hn,ho⟩:=hc;cases hg:flatK P f g.type with
   |none=>simp[hg]at h
   |some k1=>
    simp only[hg]at h;cases hr:mj (flatK P f) (off+k1.length) fs with
    |none=>simp[hr]at h
    |some k2=>
     simp only[hr,Option.map_some,aa]at h;subst h;obtain⟨x,hx1⟩:=hx g (by simp)
     have t1:=ih _ _ hg _ _ hx1;have hl:=t1.length;rw[Aw hl,ho]at t1;have t2:=xF ih cs fs (off+k1.length) k2 hr fun g' hg'=>hx g' (by simp[hg'])
     have:(cs.drop off).take (k1++k2).length=(cs.drop off).take k1.length++(cs.drop (off+k1.length)).take k2.length:=by
      rw[List.length_append,List.take_add,List.drop_drop]
     rw[this];exact t1.join t2
  ·simp at h
theorem wF:∀(f:Nat) (t:TypeId) (ks:List Kd),flatK P f t=some ks->∀(fuel:Nat) (cs:List Value) (x:DataW H×List MemPlace),DataW.trod enc P w base sp held fuel t cs=some x->s8 ks cs
 |0,_,_,h,_,_,_,_=>by simp[flatK]at h
 |f+1,t,ks,h,fuel,cs,x,hx=>by
  simp only[flatK]at h;split at h
  ·rename_i hu;simp only[aa]at h;subst h;obtain⟨b,rfl,_⟩:=DataW.trod_bool hu hx;exact⟨⟨b,rfl⟩,trivial⟩
  ·rename_i hu;simp only[aa]at h;subst h;obtain⟨b,rfl,_,hb⟩:=DataW.trod_string hu hx;exact⟨⟨b,rfl,hb⟩,trivial⟩
  ·rename_i k hu;simp only[aa]at h;subst h;obtain⟨n,rfl,_,hw⟩:=DataW.trod_int hu hx;exact⟨⟨n,rfl,X4 hw⟩,trivial⟩
  ·rename_i fs hu;split at h
   ·simp at h
   ·split at h
    ·simp at h
    ·rename_i ks' hfs;split at h
     ·rename_i hs;have hs:=ai.1 hs;simp only[aa]at h;subst h;obtain⟨xs,n,rfl,_,hl,hxl,hall⟩:=DataW.trod_struct hu hx
      have:=xF (fun t ks h cs x hx=>wF f t ks h n cs x hx) cs fs.toList 0 ks' hfs fun g hg=>by
       obtain⟨i,hi,hgi⟩:=List.getElem_of_mem hg;have hfi:fs[i]? =some g:=by rw[<-Array.getElem?_toList,List.getElem?_eq_getElem hi,hgi]
       have:=hall i g hfi;rw[List.getElem?_eq_getElem (by rw[hxl];simpa using hi)]at this
       exact⟨_,this⟩
      rw[rQ hs]at hl;rw[List.drop_zero,<-hl,List.take_length]at this;exact this
     ·simp at h
  ·rename_i n e hu;split at h
   ·simp at h
   ·rename_i k1 he;split at h
    ·rename_i hs;simp only[af,ai]at hs;simp only[aa]at h;subst h;obtain⟨xs,m,rfl,_,hl,hxl,hall⟩:=DataW.trod_array hu hx;rw[rQ hs.2]at hl;rw[rQ hs.1]at hall
     have key:∀j,j<=n->s8 (List.replicate j k1).flatten (cs.take (j*k1.length)):=by
      intro j;induction j with
      |zero=>intro _;simp[s8]
      |succ j ihj=>
       intro hj;have h1:=ihj (by omega)
       have h2:=hall j (by omega)
       rw[List.getElem?_eq_getElem (by omega)]at h2
       have h3:=wF f e k1 he m _ _ h2;rw[List.replicate_succ',List.flatten_append,Nat.succ_mul,List.take_add];simpa using h1.join h3
     have:=key n (Nat.le_refl _);rwa [<-hl,List.take_length]at this
    ·simp at h
  ·simp at h
end
theorem DW{k:Kd}:∀{n:Nat} {vs:List Value},s8 (List.replicate n k) vs↔vs.length=n/\∀v∈vs,k.ofR v
 |0,[]=>by simp[s8]
 |0,_::_=>by simp[s8]
 |n+1,[]=>by simp[s8,List.replicate_succ]
 |n+1,v::vs=>by
  rw[List.replicate_succ];simp only[s8,DW (n:=n),List.length_cons,List.mem_cons,forall_eq_or_imp];constructor
  ·rintro⟨a,b,c⟩;exact⟨by omega,a,c⟩
  ·rintro⟨a,b,c⟩;exact⟨b,by omega,c⟩
theorem BN:∀(m:Nat) (cs:List Value),s8 (List.replicate (m*6) (.i .i64)) cs->∃ks:List Key,ks.length=m/\(∀k∈ks,k.wf)/\cs=ks.flatMap dv
 |0,cs,h=>by
  rw[DW]at h;have:cs= []:=List.length_eq_zero_iff.1 (by omega)
  exact⟨[],rfl,by simp,by simp[this]⟩
 |m+1,cs,h=>by
  rw[show(m+1)*6=6+m*6 by omega,<-List.replicate_append_replicate]at h
  obtain⟨h1,h2⟩:=h.split;simp only[List.length_replicate]at h1 h2;obtain⟨ks,i1,i2,i3⟩:=BN m _ h2;match cs,h1,i3 with
  |a::b::c::d::e::f::rest,h1,i3=>
   obtain⟨⟨n1,rfl,r1⟩,⟨n2,rfl,r2⟩,⟨n3,rfl,r3⟩,⟨n4,rfl,r4⟩,⟨n5,rfl,r5⟩,⟨n6,rfl,r6⟩,_⟩:=h1;refine⟨⟨n1,n2,n3,n4,n5,n6⟩::ks,by simp[i1],fun k hk=>?_,?_⟩
   ·rcases List.mem_cons.1 hk with rfl|hk
    ·exact⟨r1,r2,r3,r4,r5,r6⟩
    ·exact i2 k hk
   ·simp only[List.drop_succ_cons,List.drop_zero]at i3;simp[dv,i64,i3]
  | [],h1,_=>exact h1.elim
  | [_],h1,_=>exact h1.2.elim
  | [_,_],h1,_=>exact h1.2.2.elim
  | [_,_,_],h1,_=>exact h1.2.2.2.elim
  | [_,_,_,_],h1,_=>exact h1.2.2.2.2.elim
  | [_,_,_,_,_],h1,_=>exact h1.2.2.2.2.2.elim
theorem HF{cs:List Value}(h:s8 (List.replicate 96 (.i .i64)) cs):∃s:ck,s.wf/\cs=gn s:=by
 obtain⟨ks,h1,h2,h3⟩:=BN 16 cs h;refine⟨⟨ks.toArray,by simp[h1]⟩,fun i hi=>?_,?_⟩
 ·have:(ck.at ⟨ks.toArray,by simp[h1]⟩ i)=ks[i]'(by omega):=by simp[ck.at,h1,hi]
  rw[this];exact h2 _ (List.getElem_mem _)
 ·have hr:List.range ks.length=List.range 16:=by rw[h1]
  rw[h3,Go.Deep.flatMap_by_index ks void,hr];unfold gn;refine Go.Deep.flatMap_congr_range fun i hi=>?_
  simp[ck.at,an]
theorem Ip{cs:List Value}(h:s8 (List.replicate 64 (.i .u8)) cs):∃s:Bytes,cs=cY s:=by
 rw[DW]at h;obtain⟨h1,h2⟩:=h
 have key:∀l:List Value,(∀v∈l,(Kd.i .u8).ofR v)->∃bs:List UInt8,l=bs.map fun b=>Value.int .u8 (b.toNat:Int):=by
  intro l;induction l with
  |nil=>intro _;exact⟨[],rfl⟩
  |cons v l ih=>
   intro hl;obtain⟨n,rfl,hn⟩:=hl v (by simp)
   obtain⟨bs,rfl⟩:=ih fun u hu=>hl u (by simp[hu])
   simp only[cB]at hn;refine⟨UInt8.ofNat n.toNat::bs,?_⟩
   have:(UInt8.ofNat n.toNat).toNat=n.toNat:=by
    rw[UInt8.toNat_ofNat'];omega
   simp only[List.map_cons,this,List.cons.injEq,Value.int.injEq,true_and,and_true];omega
 obtain⟨bs,rfl⟩:=key cs h2;simp only[List.length_map]at h1;refine⟨⟨bs.toArray,by simp[h1]⟩,?_⟩
 have hr:List.range bs.length=List.range 64:=by rw[h1]
 rw[Go.Deep.map_by_index bs 0,hr];unfold cY;refine List.map_congr_left fun i hi=>?_
 simp[Bytes.at,an]
theorem Vd{cs:List Value}(h:s8 SV cs):∃o:Obj,o.wf/\cs=ez o:=by
 have e:SV=List.replicate 3 (.i .i64)++(List.replicate 96 (.i .i64)++List.replicate 64 (.i .u8)):=rfl;rw[e]at h;obtain⟨h1,h2⟩:=h.split;obtain⟨h3,h4⟩:=h2.split;simp only[List.length_replicate]at h1 h3 h4;obtain⟨s,hs,e1⟩:=HF h3;obtain⟨b,e2⟩:=Ip h4;match cs,h1,e1,e2 with
 |x::y::z::rest,h1,e1,e2=>
  obtain⟨⟨n1,rfl,r1⟩,⟨n2,rfl,r2⟩,⟨n3,rfl,r3⟩,_⟩:=h1;refine⟨⟨n1,n2,n3,s,b⟩,⟨r1,r2,r3,hs⟩,?_⟩;simp only[List.drop_succ_cons,List.drop_zero]at e1 e2;simp only[ez,i64,List.cons.injEq,true_and];rw[<-e1,<-e2,List.take_append_drop]
 | [],h1,_,_=>exact h1.elim
 | [_],h1,_,_=>exact h1.2.elim
 | [_,_],h1,_,_=>exact h1.2.2.elim
open Go.RowKit (Below)
section
variable {H:Type} {enc:TypeId×Value->H} {P:Program}
theorem L4[Fen]{f:Nat}{vs:List V}{res:List aS}(h:aM P f vs res (sX (.bo true)) (fun _ _=>False)){J:Env}{W:World}(hH:bp J (fun _ _=>False) res (known res) W (fun _=>False) W)(hok:fq (known res) vs):
  Calls P f (bG J vs).toArray W fun e W'=>e= .returned (.bool true)/\Below W.heap.size W W':=
 (Mz (h J _ W _ W hH hok)).mono fun e W' ⟨x,ρ',fps',res',g1,g2,g3,g4⟩=>by
  rcases g4 with⟨rfl,hK⟩|⟨_,hK⟩
  ·obtain⟨e1,_,_⟩:=eC hK ρ' (known res');refine⟨by rw[e1];rfl,g1.os,g1.tape,g1.output,g1.old,fun b hb=>g1.same b hb (fun h=>h)⟩
  ·exact hK.elim
theorem tu{W W':World}(hB:Below W.heap.size W W')(hl:laidOutB P=true):∀{ts:List TypeId} {vs:List Value} {ds:List (DataW H)} {p:List MemPlace},
  (∀t∈ts,P.readableRec t=true/\t<P.types.size)->DataW.TrodAll enc P W 0 (fun _=>true) true ts vs ds p->(∀q∈p,q.block<W.heap.size)->∀sp:Nat->Bool,(∀q∈p,sp q.block=true)->DataW.TrodAll enc P W' 0 sp true ts vs ds p
 | [],vs,ds,p,_,h,_,sp,_=>by
   obtain⟨rfl,rfl,rfl⟩:=trodAll_nil h;exact trodAll_mk0
 |t::ts,vs,ds,p,hr,h,hlt,sp,hsp=>by
  obtain⟨v,vs',d,ds',p1,q1,rfl,rfl,rfl,⟨n,h1⟩,h2⟩:=trodAll_cons h;obtain⟨r1,r2⟩:=hr t (by simp)
  refine trodAll_cons_mk ⟨n,?_⟩ (tu hB hl (fun t ht=>hr t (by simp[ht])) h2 (fun q hq=>hlt q (List.mem_append_right _ hq)) sp fun q hq=>hsp q (List.mem_append_right _ hq))
  exact DataW.trod_stays (kids_book hl r1) (book_sized r1) (fun h=>by cases h) ⟨r2,book_self t⟩ h1 (fun q hq=>hB.same (hlt q (List.mem_append_left _ hq))) fun q hq=>hsp q (List.mem_append_left _ hq)
theorem PQ{f:Func}{s:ChangeSpec}{apart fresh handsOn again:Bool}{W W':World}{args:Array Value}{ds gs:List (DataW H)}{before:List MemPlace}{tb:TypeId}
  (hW:DataW.Whole enc P f.params.toList s.vars apart W args.toList ds gs before) (hvars:s.vars= []) (hB:Below W.heap.size W W') (hl:laidOutB P=true)
  (hr:∀t∈f.params.toList,P.readableRec t=true/\t<P.types.size) (hrt:f.resultTypes= #[tb]) (htb:P.underlying tb=some .bool)
  (hs:(s.fn H (ds++gs)).results= [.lit (.bool true)]/\(s.fn H (ds++gs)).args=ds/\(s.fn H (ds++gs)).vars= []):s.post enc P f apart fresh handsOn again W args (.bool true) W':=by
 have hW':=hW;have hlt:=hW.lt;obtain⟨pa,pv,hA,hV,hps,hz,hn⟩:=hW;rw[hvars]at hV;obtain⟨rfl,rfl⟩:=trodVars_none hV;rw[List.append_nil]at hps;subst hps;have hag:∀sp:Nat->Bool,(∀q∈before,sp q.block=true)->DataW.TrodAll enc P W' 0 sp true f.params.toList args.toList ds before:=fun sp hsp=>tu hB hl hr hA hlt sp hsp
 have hres:∀(b:Nat) (sp:Nat->Bool) (hd:Bool),DataW.TrodAll enc P W' b sp hd f.resultTypes.toList ((Value.bool true).resultList f.resultTypes.size) [.lit (.bool true)] []:=fun b sp hd=>by
  rw[hrt];exact trodAll_mk1 (RowKit.shut_bool htb true)
 have hok:∀(j:Nat) (t:TypeId) (r:Value),f.resultTypes[j]? =some t->((Value.bool true).resultList f.resultTypes.size)[j]? =some r->Value.okWide P W' .any 0 t r:=RowKit.ok_one hrt rfl (RowKit.okWide_bool_mk htb true);refine⟨ds,[],before,[],before,[],hW',by rw[hs.1];exact hres _ _ _,?_,?_,hB.frame _,fun _=>⟨hok,?_⟩⟩
 ·rw[hs.2.1];exact hag _ fun q hq=>by simpa using hlt q hq
 ·rw[hvars,hs.2.2];rfl
 ·refine⟨[.lit (.bool true)]++ds,[],before,⟨[]++before,[],trodAll_append (hag _ fun _ _=>rfl) (hres _ _ _),by rw[hvars];rfl,by simp,fun b off hp=>?_,hn⟩,fun p hp _=>hp⟩
  have:=hz b off hp;rw[hB.frozen (p:=⟨b,off,none⟩) (hlt _ hp)];exact this
def xL(w:World)(v:Value)(esz:Nat)(l:TL):Prop:=
 (∀j,j<l.len->ok (fun _=>False) (l.get j)/\cE (l.get j)=false/\fe (l.get j)=esz)/\l.len<=9223372036854775807/\
 ∃(sa:Option Addr) (cap:Nat),v= .slice sa l.len cap/\(0<l.len->∃a,sa=some a/\a.spot=none/\a.block<w.heap.size/\∀j,j<l.len->∀k,k<esz->w.cell? ⟨a.block,a.off+(j*esz+k),none⟩=(cells Env.zero (l.get j))[k]?)
def slA:Value->Option Addr
 | .slice a _ _=>a
 |_=>none
def slN:Value->Nat
 | .slice _ n _=>n
 |_=>0
def slC:Value->Nat
 | .slice _ _ c=>c
 |_=>0
def tJ(A:List (Value×Nat×TL)):Env:=
 {num:=fun _=>0,cap:=fun i=>slC (A.getD i (.slice none 0 0,0,.bo [])).1,adr:=fun i=>(slA (A.getD i (.slice none 0 0,0,.bo [])).1).getD ⟨0,0,none⟩,sa:=fun i=>slA (A.getD i (.slice none 0 0,0,.bo [])).1,
  sn:=fun i=>slN (A.getD i (.slice none 0 0,0,.bo [])).1,ob:=fun _ _=>0}
def mS:List (Value×Nat×TL)->List aS
 | []=> []
 |a::l=> .arr none a.2.1 a.2.2::mS l
theorem qo:∀(A:List (Value×Nat×TL)) (i:Nat),aN (mS A) i=match A[i]? with|some a=> .arr none a.2.1 a.2.2|none=> .yet
 | [],i=>by simp[mS,aN]
 |a::l,0=>by simp[mS,aN]
 |a::l,i+1=>by simp[mS,aN,qo l i]
theorem o7:∀A:List (Value×Nat×TL),(mS A).length=A.length
 | []=>rfl
 |a::l=>by simp[mS,o7 l]
theorem Qe{A:List (Value×Nat×TL)}{W:World}(h:∀a∈A,xL W a.1 a.2.1 a.2.2):bp (tJ A) (fun _ _=>False) (mS A) (known (mS A)) W (fun _=>False) W:=by
 refine⟨fun i hi=>hi,Nat.le_refl _,rfl,rfl,rfl,fun i hi=>?_,fun i b _ h=>h.elim,fun i j b _ _ _ h=>h.elim,fun i b _ h=>h.elim,fun _ _ _=>rfl⟩
 have hlt:=aY hi;rw[o7]at hlt;have hA:A[i]? =some A[i]:=List.getElem?_eq_getElem hlt;have hh:=h A[i] (List.getElem_mem hlt);generalize A[i]=a at hA hh
 rw[qo,hA];simp only;obtain⟨h1,h2,sa,cap,h3,h4⟩:=hh;have hd:A.getD i (.slice none 0 0,0,.bo [])=a:=by rw[an,hA];rfl
 have e1:(tJ A).sa i=sa:=by show slA (A.getD i _).1=sa;rw[hd,h3];rfl
 have e2:(tJ A).sn i=a.2.2.len:=by show slN (A.getD i _).1=_;rw[hd,h3];rfl
 have e3:(tJ A).adr i=sa.getD ⟨0,0,none⟩:=by show(slA (A.getD i _).1).getD _=_;rw[hd,h3];rfl
 refine⟨h1,e2,h2,fun x hx=>?_,fun hl=>?_,fun hl=>?_,.inl ⟨rfl,fun hl=>?_,fun j hj k hk=>?_⟩⟩
 ·rw[e1]at hx;rw[e3,hx];rfl
 ·obtain⟨x,rfl,_⟩:=h4 hl;rw[e1];rfl
 ·obtain⟨x,rfl,g,_⟩:=h4 hl;rw[e3];exact g
 ·obtain⟨x,rfl,_,g,_⟩:=h4 hl;exact⟨fun h=>h,by rw[e3];exact g⟩
 ·obtain⟨x,rfl,_,_,g⟩:=h4 (by omega)
  have:=g j hj k hk;rw[e3];simp only[Option.getD_some];rw[this,dU (N:=fun _=>False) (J:=Env.zero) (ρ':=tJ A) (fun _ h=>h.elim) _ (h1 j hj).1]
theorem ID{A:List (Value×Nat×TL)}{W:World}(h:∀a∈A,xL W a.1 a.2.1 a.2.2){i:Nat}{a:Value×Nat×TL}(hi:A[i]? =some a):den (tJ A) (.sa i)=a.1/\known (mS A) i:=by
 obtain⟨h1,h2,sa,cap,h3,h4⟩:=h a (List.mem_of_getElem? hi);have hd:A.getD i (.slice none 0 0,0,.bo [])=a:=by rw[an,hi];rfl
 refine⟨?_,by unfold known;rw[qo,hi];simp⟩
 show Value.slice (slA (A.getD i _).1) (slN (A.getD i _).1) (slC (A.getD i _).1)=a.1
 rw[hd,h3];rfl
theorem xw{α:Type}{p:Nat->α->Prop}:∀n:Nat,(∀i,i<n->∃y,p i y)->∃l:List α,l.length=n/\∀(i:Nat) (y:α),l[i]? =some y->p i y
 |0,_=>⟨[],rfl,by simp⟩
 |n+1,h=>by
  obtain⟨l,h1,h2⟩:=xw n fun i hi=>h i (by omega)
  obtain⟨y,hy⟩:=h n (by omega)
  refine⟨l++ [y],by simp[h1],fun i z hz=>?_⟩
  by_cases hi:i<n
  ·rw[List.getElem?_append_left (by omega)]at hz
   exact h2 i z hz
  ·rw[List.getElem?_append_right (by omega)]at hz
   have:i-l.length=0:=by
    have:=(List.getElem?_eq_some_iff.1 hz).1;simp at this;omega
   rw[this]at hz;simp at hz;subst hz;rw[show i=n by omega];exact hy
theorem Hk{α:Type}{W:World}{t e esz:TypeId}{v:Value}{d:DataW H}{ps:List MemPlace}(ht:P.underlying t=some (.slice e))(hc:P.cellsOf e=esz)(hz:0<esz)
  (hval:∃a0 ln cp,v= .slice a0 ln cp) (hd:DataW.Trod enc P W 0 (fun _=>true) true t v d ps) (mk:α->V) (wf:α->Prop) (tl:List α->TL) (d0:α) (htl:∀l:List α,(tl l).len=l.length/\∀i,(tl l).get i=mk (aL l i d0))
  (hmk:∀y,wf y->ok (fun _=>False) (mk y)/\cE (mk y)=false/\fe (mk y)=esz) (hop:∀n cs x,DataW.trod enc P W 0 (fun _=>true) true n e cs=some x->∃y,wf y/\cs=cells Env.zero (mk y)):
  ∃l:List α,(∀y∈l,wf y)/\xL W v esz (tl l):=by
 obtain⟨a0,ln,cp,rfl⟩:=hval;obtain⟨fuel,hf⟩:=hd;rcases Go.Deep.open_slice ht hf with⟨hcs,_⟩|⟨a,len,cap,m,n,D,Pl,hcs,_,hlc,hcm,hm,_,hx⟩
 ·simp[Value.cells]at hcs;obtain⟨rfl,rfl,rfl⟩:=hcs;obtain⟨e1,e2⟩:=htl [];have e1:(tl []).len=0:=e1;exact⟨[],by simp,fun j hj=>by omega,by omega,none,0,by rw[e1],fun h=>by omega⟩
 ·simp[Value.cells]at hcs;obtain⟨rfl,rfl,rfl⟩:=hcs;simp only[if_true]at hm;subst hm
  have hx':∀i,i<ln->∃y,wf y/\∀k,k<esz->W.cell? ((a.add (i*esz)).add k)=(cells Env.zero (mk y))[k]? :=fun i hi=>by
   obtain⟨cs,g1,g2⟩:=hx i (by omega)
   rw[hc]at g1;obtain⟨y,y1,y2⟩:=hop n cs _ g2;obtain⟨_,_,g3⟩:=World.cells?_some g1;exact⟨y,y1,fun k hk=>by rw[g3 k hk,y2]⟩
  obtain⟨l,l1,l2⟩:=xw ln hx';obtain⟨e1,e2⟩:=htl l
  have hget:∀j,j<ln->l[j]? =some (aL l j d0):=fun j hj=>by
   unfold aL;rw[an,List.getElem?_eq_getElem (by omega)];rfl
  have hcell0:∀j,j<ln->∀k,k<esz->W.cell? ((a.add (j*esz)).add k)=(cells Env.zero ((tl l).get j))[k]? :=fun j hj k hk=>by
   rw[e2];exact(l2 j _ (hget j hj)).2 k hk
  refine⟨l,fun y hy=>?_,fun j hj=>?_,?_,some a,m,by rw[e1,l1],fun hl=>?_⟩
  ·obtain⟨i,hi,rfl⟩:=List.getElem_of_mem hy;exact(l2 i _ (List.getElem?_eq_getElem hi)).1
  ·rw[e2];exact hmk _ (l2 j _ (hget j (by rw[e1,l1]at hj;exact hj))).1
  ·have:m<=9223372036854775807:=by simpa[maxLen]using hcm
   omega
  ·have hln:0<ln:=by rw[e1,l1]at hl;exact hl
   have h0:=hcell0 0 hln 0 hz
   have hsome:∃u,(cells Env.zero ((tl l).get 0))[0]? =some u:=by
    have hk:=hmk _ (l2 0 _ (hget 0 hln)).1;rw[<-e2]at hk;have:=bw Env.zero _ hk.1;exact⟨_,List.getElem?_eq_getElem (by rw[this,hk.2.2];exact hz)⟩
   obtain⟨u,hu⟩:=hsome;rw[hu]at h0;simp only[Nat.zero_mul,Addr.add,if_true]at h0
   have hspot:a.spot=none:=by
    unfold World.cell? at h0;split at h0
    ·split at h0
     ·simp at h0
     ·rename_i hs;simpa using hs
    ·simp at h0
   refine⟨a,rfl,hspot,World.block_lt_of_cell? W a h0,fun j hj k hk=>?_⟩
   have:=hcell0 j (by rw[e1,l1]at hj;exact hj) k hk
   rw[<-this];congr 1
   obtain⟨b,o,s⟩:=a;simp only at hspot;subst hspot;rw[add_lit,add_lit];show(⟨b,o+(j*esz+k),none⟩:Addr)=⟨b,o+j*esz+k,none⟩
   rw[Nat.add_assoc]
theorem KY{α:Type}{W:World}{t e esz:TypeId}{base:Nat}{v:Value}{d:DataW H}{ps:List MemPlace}(ht:P.underlying t=some (.slice e))(hc:P.cellsOf e=esz)(hz:0<esz)
  (hval:Value.okWide P W .any base t v) (hd:DataW.Trod enc P W 0 (fun _=>true) true t v d ps) (mk:α->V) (wf:α->Prop) (tl:List α->TL) (d0:α) (htl:∀l:List α,(tl l).len=l.length/\∀i,(tl l).get i=mk (aL l i d0))
  (hmk:∀y,wf y->ok (fun _=>False) (mk y)/\cE (mk y)=false/\fe (mk y)=esz) (hop:∀n cs x,DataW.trod enc P W 0 (fun _=>true) true n e cs=some x->∃y,wf y/\cs=cells Env.zero (mk y)):
  ∃l:List α,(∀y∈l,wf y)/\xL W v esz (tl l):=
 Hk ht hc hz (okWide_slice ht hval) hd mk wf tl d0 htl hmk hop
end
end Go.Sx
namespace Go.Proofs.YtmfbohanboiklaaGreat
open Go.Sx Go.ChangeShapes Go.WideShapes
theorem adb:ownKnob Tryz.prog.godebug=none:=by kernel_rfl
theorem abF:laidOutB Tryz.prog=true:=by kernel_rfl
section
variable {H:Type} {enc:TypeId×Value->H} {W:World} {base:Nat} {v:Value} {d:DataW H} {ps:List MemPlace}
end
def SO{α:Type}(ks:List Kd)(W:α->Prop)(m:α->V):Prop:=
 (∀cs,s8 ks cs->∃x,W x/\cs=cells Env.zero (m x))/\∀x,W x->ok (fun _=>False) (m x)/\cE (m x)=false/\fe (m x)=ks.length
def Vy{α:Type}(ks:List Kd)(W:α->Prop)(m:α->List V):Prop:=
 (∀cs,s8 ks cs->∃x,W x/\cs=br Env.zero (m x))/\∀x,W x->fq (fun _=>False) (m x)/\qS (m x)/\qQ (m x)=ks.length
theorem E2:Vy [] (fun _:Unit=>True) (fun _=> []):=by
 refine⟨fun cs h=>?_,fun _ _=>⟨trivial,trivial,rfl⟩⟩
 cases cs with
 |nil=>exact⟨(),trivial,rfl⟩
 |cons a l=>exact h.elim
theorem h9{α β:Type}{ks1 ks2:List Kd}{W1:α->Prop}{W2:β->Prop}{m1:α->V}{m2:β->List V}(h1:SO ks1 W1 m1)(h2:Vy ks2 W2 m2):Vy (ks1++ks2) (fun x:α×β=>W1 x.1/\W2 x.2) (fun x=>m1 x.1::m2 x.2):=by
 refine⟨fun cs h=>?_,fun x hx=>?_⟩
 ·obtain⟨g1,g2⟩:=s8.split h;obtain⟨a,a1,a2⟩:=h1.1 _ g1;obtain⟨b,b1,b2⟩:=h2.1 _ g2;refine⟨(a,b),⟨a1,b1⟩,?_⟩;have e:br Env.zero (m1 a::m2 b)=cells Env.zero (m1 a)++br Env.zero (m2 b):=rfl;show cs=br Env.zero (m1 a::m2 b)
  rw[e,<-a2,<-b2,List.take_append_drop]
 ·obtain⟨a1,a2,a3⟩:=h1.2 x.1 hx.1;obtain⟨b1,b2,b3⟩:=h2.2 x.2 hx.2;refine⟨⟨a1,b1⟩,⟨?_,b2⟩,?_⟩
  ·cases hm:m1 x.1<;>rw[hm]at a2<;>first|trivial|simp[cE]at a2
  ·show fe (m1 x.1)+qQ (m2 x.2)=_
   rw[a3,b3,List.length_append]
theorem MH{α:Type}{ks:List Kd}{W:α->Prop}{m:α->List V}(h:Vy ks W m):SO ks W (fun x=> .ag (m x)):=
 ⟨fun cs hc=>by
  obtain⟨x,h1,h2⟩:=h.1 cs hc;exact⟨x,h1,by rw[h2];simp[cells,den,Value.cells]⟩,fun x hx=>⟨⟨(h.2 x hx).1,(h.2 x hx).2.1⟩,rfl,(h.2 x hx).2.2⟩⟩
theorem S3{α β:Type}{ks:List Kd}{W:α->Prop}{m:α->V}{m':β->V}(h:SO ks W m)(f:α->β)(g:β->α)(hm:∀y,m' y=m (g y))(hfg:∀x,g (f x)=x):SO ks (fun y=>W (g y)) m':=by
 refine⟨fun cs hc=>?_,fun y hy=>?_⟩
 ·obtain⟨x,h1,h2⟩:=h.1 cs hc;exact⟨f x,by show W (g (f x));rw[hfg];exact h1,by rw[hm,hfg];exact h2⟩
 ·rw[hm];exact h.2 _ hy
theorem vE(k:IntKind):SO [.i k] (cB k) (V.it k):=by
 refine⟨fun cs h=>?_,fun x hx=>⟨hx,rfl,rfl⟩⟩
 match cs,h with
 | [],h=>exact h.elim
 | [a],h=>obtain⟨⟨n,rfl,hn⟩,_⟩:=h;exact⟨n,hn,rfl⟩
 |_::_::_,h=>exact h.2.elim
theorem acp:SO [.b] (fun _=>True) V.bo:=by
 refine⟨fun cs h=>?_,fun x hx=>⟨trivial,rfl,rfl⟩⟩
 match cs,h with
 | [],h=>exact h.elim
 | [a],h=>obtain⟨⟨n,rfl⟩,_⟩:=h;exact⟨n,trivial,rfl⟩
 |_::_::_,h=>exact h.2.elim
theorem acS:SO [.s] (fun s:ByteArray=>(s.size:Int)<=9223372036854775807) V.st:=by
 refine⟨fun cs h=>?_,fun x hx=>⟨trivial,rfl,rfl⟩⟩
 match cs,h with
 | [],h=>exact h.elim
 | [a],h=>
   obtain⟨⟨n,rfl,hn⟩,_⟩:=h;refine⟨n,?_,rfl⟩;simp only[maxLen]at hn;omega
 |_::_::_,h=>exact h.2.elim
theorem Yo:SO SV Obj.wf V.ob:=⟨fun cs h=>Vd h,fun x hx=>⟨hx,rfl,rfl⟩⟩
section
variable {H:Type} {enc:TypeId×Value->H} {W:World} {base:Nat} {v:Value} {d:DataW H} {ps:List MemPlace}
theorem Ck{α:Type}{t e:TypeId}{ks:List Kd}{wf:α->Prop}{m:α->V}(tl:List α->TL)(d0:α)(ht:Tryz.prog.underlying t=some (.slice e))(hf:flatK Tryz.prog 8 e=some ks)(hc:Tryz.prog.cellsOf e=ks.length)(hz:0<ks.length)(ho:SO ks wf m)
  (htl:∀l:List α,(tl l).len=l.length/\∀i,(tl l).get i=m (aL l i d0)) (hval:Value.okWide Tryz.prog W .any base t v) (hd:DataW.Trod enc Tryz.prog W 0 (fun _=>true) true t v d ps):
  ∃l:List α,(∀o∈l,wf o)/\xL W v ks.length (tl l):=
 KY (esz:=ks.length) ht hc hz hval hd m wf tl d0 htl (fun y hy=>ho.2 y hy) fun n cs x hx=>ho.1 _ (wF 8 _ _ hf n cs x hx)
end
theorem Vm{α:Type}{l:List α}{p:α->Prop}(h:∀o∈l,p o)(d:α)(i:Nat)(hi:i<aK l):p (aL l i d):=by
 have hi:i<l.length:=hi;unfold aL;rw[an,List.getElem?_eq_getElem hi];exact h _ (List.getElem_mem hi)
theorem Tp{J:Env}{res:List aS}{W:World}(h:bp J (fun _ _=>False) res (known res) W (fun _=>False) W)(hk:∀i,i<res.length->known res i):bp J (fun _ _=>False) (ot res) (known (ot res)) W (fun _=>False) W:=by
 have hg:∀i,aN (ot res) i=if i<res.length then .ro (aN res i)else .yet:=fun i=>by
  rw[nu,nu];unfold ot;by_cases hi:i<res.length
  ·simp[an,hi]
  ·simp[an,hi]
 have hkn:∀i,known (ot res) i↔i<res.length:=fun i=>by
  unfold known;rw[hg];split<;>simp_all
 refine⟨fun i hi=>hi,Nat.le_refl _,rfl,rfl,rfl,fun i hi=>?_,fun i b _ h=>h.elim,fun i j b _ _ _ h=>h.elim,fun i b _ h=>h.elim,fun _ _ _=>rfl⟩
 have hlt:=(hkn i).1 hi;rw[hg,ar hlt];exact⟨fun _=>False,aS.oP _ (h.holds i (hk i hlt)) fun j hj=>(hkn j).2 (aY hj),fun b hb=>hb.elim⟩
theorem K2{A:List (Value×Nat×TL)}:∀i,i<(mS A).length->known (mS A) i:=fun i hi=>by
 rw[o7]at hi;unfold known;rw[qo,List.getElem?_eq_getElem hi];simp
theorem Fe{l:List aS}{i:Nat}{r:aS}(h:aN l i= .ro r):known l i:=by
 unfold known;rw[h];simp
def kI:List Kd:= [.i .i64]
def adi:List Kd:=kI++(kI++(kI++ []))
def kOp:List Kd:=kI++(kI++(kI++(kI++(kI++([.s]++(adi++([.b]++(kI++ []))))))))
def acZ(x:lz):Prop:=cB .i64 x.kind/\cB .i64 x.proc/\cB .i64 x.reg/\cB .i64 x.mode/\cB .i64 x.code/\aU x.data/\(cB .i64 x.s0/\cB .i64 x.s1/\cB .i64 x.s2/\True)/\True/\cB .i64 x.val/\True
theorem abX:SO kOp acZ opV:=
 S3 (MH (h9 (vE .i64) (h9 (vE .i64) (h9 (vE .i64) (h9 (vE .i64) (h9 (vE .i64) (h9 acS (h9 (MH (h9 (vE .i64) (h9 (vE .i64) (h9 (vE .i64) E2)))) (h9 acp (h9 (vE .i64) E2))))))))))
  (fun x=>(⟨x.1,x.2.1,x.2.2.1,x.2.2.2.1,x.2.2.2.2.1,x.2.2.2.2.2.1,x.2.2.2.2.2.2.1.1,x.2.2.2.2.2.2.1.2.1,x.2.2.2.2.2.2.1.2.2.1,x.2.2.2.2.2.2.2.1,x.2.2.2.2.2.2.2.2.1⟩:lz))
  (fun y:lz=>(y.kind,y.proc,y.reg,y.mode,y.code,y.data,(y.s0,y.s1,y.s2,()),y.num,y.val,())) (fun _=>rfl) (fun _=>rfl)
end Go.Proofs.YtmfbohanboiklaaGreat
