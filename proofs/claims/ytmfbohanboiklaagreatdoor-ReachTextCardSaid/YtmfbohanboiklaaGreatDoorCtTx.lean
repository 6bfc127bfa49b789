import Derived.Test.YtmfbohanboiklaaGreatDoorCtTj0
import Derived.Test.YtmfbohanboiklaaGreatDoorCtTj
set_option linter.unusedSimpArgs false
set_option linter.unusedVariables false
namespace Go.Proofs.YtmfbohanboiklaaGreatDoor
open Go.Sx
set_option maxRecDepth 100000
theorem Ia(k:Sx.Key)(hk:k.wf)(h:jz k=true):
 (0<=k.kind/\k.kind< ↑11)/\(bH k.kind=true->jC (gA k) fW/\xu (gA k) k.oid/\jC (dq (gA k) k.oid) fW/\xu (dq (gA k) k.oid) k.count/\(dL k.kind=true->jC (dq (dq (gA
  k) k.oid) k.count) fW/\xu (dq (dq (gA k) k.oid) k.count) k.rights/\(bz k.kind=true->jC (dq (dq (dq (gA k) k.oid) k.count) k.rights) fW/\xu (dq (dq (dq (gA k) k.oid) k.count)
  k.rights) k.call/\(bg k.kind=true->jC (dq (dq (dq (dq (gA k) k.oid) k.count) k.rights) k.call) fW/\xu (dq (dq (dq (dq (gA k) k.oid) k.count) k.rights) k.call) k.value/\dq (dq
  (dq (dq (dq (gA k) k.oid) k.count) k.rights) k.call) k.value=cZ k)/\(bg k.kind=false->dq (dq (dq (dq (gA k) k.oid) k.count) k.rights) k.call=cZ k))/\(bz k.kind=false->
  (bg k.kind=true->jC (dq (dq (dq (gA k) k.oid) k.count) k.rights) fW/\xu (dq (dq (dq (gA k) k.oid) k.count) k.rights) k.value/\dq (dq (dq (dq (gA k) k.oid) k.count) k.rights)
  k.value=cZ k)/\(bg k.kind=false->dq (dq (dq (gA k) k.oid) k.count) k.rights=cZ k)))/\(dL k.kind=false->(bz k.kind=true->jC (dq (dq (gA k) k.oid) k.count) fW/\
  xu (dq (dq (gA k) k.oid) k.count) k.call/\(bg k.kind=true->jC (dq (dq (dq (gA k) k.oid) k.count) k.call) fW/\xu (dq (dq (dq (gA k) k.oid) k.count) k.call) k.value/\dq (dq
  (dq (dq (gA k) k.oid) k.count) k.call) k.value=cZ k)/\(bg k.kind=false->dq (dq (dq (gA k) k.oid) k.count) k.call=cZ k))/\(bz k.kind=false->(bg k.kind=true->jC
  (dq (dq (gA k) k.oid) k.count) fW/\xu (dq (dq (gA k) k.oid) k.count) k.value/\dq (dq (dq (gA k) k.oid) k.count) k.value=cZ k)/\(bg k.kind=false->dq (dq (gA k) k.oid)
  k.count=cZ k))))/\(bH k.kind=false->(dL k.kind=true->jC (gA k) fW/\xu (gA k) k.rights/\(bz k.kind=true->jC (dq (gA k) k.rights) fW/\xu (dq (gA k) k.rights)
  k.call/\(bg k.kind=true->jC (dq (dq (gA k) k.rights) k.call) fW/\xu (dq (dq (gA k) k.rights) k.call) k.value/\dq (dq (dq (gA k) k.rights) k.call) k.value=cZ k)/\(bg
  k.kind=false->dq (dq (gA k) k.rights) k.call=cZ k))/\(bz k.kind=false->(bg k.kind=true->jC (dq (gA k) k.rights) fW/\xu (dq (gA k) k.rights) k.value/\dq (dq (gA k)
  k.rights) k.value=cZ k)/\(bg k.kind=false->dq (gA k) k.rights=cZ k)))/\(dL k.kind=false->(bz k.kind=true->jC (gA k) fW/\xu (gA k) k.call/\(bg k.kind=true
  ->jC (dq (gA k) k.call) fW/\xu (dq (gA k) k.call) k.value/\dq (dq (gA k) k.call) k.value=cZ k)/\(bg k.kind=false->dq (gA k) k.call=cZ k))/\(bz k.kind=false->
  (bg k.kind=true->jC (gA k) fW/\xu (gA k) k.value/\dq (gA k) k.value=cZ k)/\(bg k.kind=false->gA k=cZ k)))):=by
 obtain⟨e0,hs,k0,k1⟩:=Eg h;obtain⟨h1,h2,h3,h4,h5,h6⟩:=hk;have s2:=jv _ h2;have s3:=jv _ h3;have s4:=jv _ h4;have s5:=jv _ h5;have s6:=jv _ h6;refine⟨⟨k0,k1⟩,?_⟩
 cases hO:bH k.kind<;>cases hR:dL k.kind<;>cases hC:bz k.kind<;>cases hV:bg k.kind<;>simp only[Bool.false_eq_true,false_implies,true_implies,true_and,and_true,reduceCtorEq,xu,jC,Eh,C7,show fW.size=1 from rfl]<;>and_intros<;>first
  |omega
  | (simp only[e0,Du,ne_eq,reduceCtorEq,not_false_eq_true,List.cons_append,List.nil_append];simp[cZ,rR,qW,hO,hR,hC,hV])
theorem Hm(k:Sx.Key)(hk:k.wf)(h:jz k=true):aJ Tryz.prog 8 [.key k] [.ro .pin] (pz (.st (cZ k))) (fun _ _=>False):=
 bG (inl:=cq) (ann:=cH) (aS Dg (aS CE (aS I3 bf))) (Ia k hk h) (by kernel_rfl)
theorem IU:cI Tryz.prog 8 Js:=kT (n4 (bL CQ ea)) (fun _=>rfl) fun a hq hok=>by
  obtain⟨k,_⟩:=a;exact Hm k hok.1 hq
theorem HX(k:Sx.Key)(hk:k.wf):
 ((!aP k)=true->ByteArray.mk (Array.mk [])=ca k/\2=aU k)/\((!aP k)=false->true=true/\(bH k.kind=true->cV (aN [aL k]) 16/\true=true/\(bH k.kind=true
   ->cV (aN (bk [aL k] k.oid)) 16/\true=true/\(dL k.kind=true->cV (aN (bk (bk [aL k] k.oid) k.count)) 16/\true=true/\(bz k.kind=true->cV (aN (bk (bk (bk
   [aL k] k.oid) k.count) k.rights)) 16/\true=true/\(bg k.kind=true->cV (aN (bk (bk (bk (bk [aL k] k.oid) k.count) k.rights) k.call)) 16/\true=true/\fW=ec/\cN (bk
   (bk (bk (bk (bk [aL k] k.oid) k.count) k.rights) k.call) k.value)/\bC (bk (bk (bk (bk (bk [aL k] k.oid) k.count) k.rights) k.call) k.value)=ca k/\0=aU k)/\(bg
   k.kind=false->true=true/\fW=ec/\cN (bk (bk (bk (bk [aL k] k.oid) k.count) k.rights) k.call)/\bC (bk (bk (bk (bk [aL k] k.oid) k.count) k.rights) k.call)=ca k
   /\0=aU k))/\(bz k.kind=false->true=true/\(bg k.kind=true->cV (aN (bk (bk (bk [aL k] k.oid) k.count) k.rights)) 16/\true=true/\fW=ec/\cN (bk (bk (bk (bk
   [aL k] k.oid) k.count) k.rights) k.value)/\bC (bk (bk (bk (bk [aL k] k.oid) k.count) k.rights) k.value)=ca k/\0=aU k)/\(bg k.kind=false->true=true/\fW=ec/\
   cN (bk (bk (bk [aL k] k.oid) k.count) k.rights)/\bC (bk (bk (bk [aL k] k.oid) k.count) k.rights)=ca k/\0=aU k)))/\(dL k.kind=false->true=true/\(bz k.kind
   =true->cV (aN (bk (bk [aL k] k.oid) k.count)) 16/\true=true/\(bg k.kind=true->cV (aN (bk (bk (bk [aL k] k.oid) k.count) k.call)) 16/\true=true/\fW=ec/\cN
   (bk (bk (bk (bk [aL k] k.oid) k.count) k.call) k.value)/\bC (bk (bk (bk (bk [aL k] k.oid) k.count) k.call) k.value)=ca k/\0=aU k)/\(bg k.kind=false->true=true
   /\fW=ec/\cN (bk (bk (bk [aL k] k.oid) k.count) k.call)/\bC (bk (bk (bk [aL k] k.oid) k.count) k.call)=ca k/\0=aU k))/\(bz k.kind=false->true=true/\
   (bg k.kind=true->cV (aN (bk (bk [aL k] k.oid) k.count)) 16/\true=true/\fW=ec/\cN (bk (bk (bk [aL k] k.oid) k.count) k.value)/\bC (bk (bk (bk [aL k]
   k.oid) k.count) k.value)=ca k/\0=aU k)/\(bg k.kind=false->true=true/\fW=ec/\cN (bk (bk [aL k] k.oid) k.count)/\bC (bk (bk [aL k] k.oid) k.count)=ca
   k/\0=aU k))))/\(bH k.kind=false->true=true/\(dL k.kind=true->cV (aN (bk [aL k] k.oid)) 16/\true=true/\(bz k.kind=true->cV (aN (bk (bk [aL k] k.oid)
   k.rights)) 16/\true=true/\(bg k.kind=true->cV (aN (bk (bk (bk [aL k] k.oid) k.rights) k.call)) 16/\true=true/\fW=ec/\cN (bk (bk (bk (bk [aL k] k.oid)
   k.rights) k.call) k.value)/\bC (bk (bk (bk (bk [aL k] k.oid) k.rights) k.call) k.value)=ca k/\0=aU k)/\(bg k.kind=false->true=true/\fW=ec/\cN (bk (bk (bk
   [aL k] k.oid) k.rights) k.call)/\bC (bk (bk (bk [aL k] k.oid) k.rights) k.call)=ca k/\0=aU k))/\(bz k.kind=false->true=true/\(bg k.kind=true->cV (aN
   (bk (bk [aL k] k.oid) k.rights)) 16/\true=true/\fW=ec/\cN (bk (bk (bk [aL k] k.oid) k.rights) k.value)/\bC (bk (bk (bk [aL k] k.oid) k.rights) k.value)=ca
   k/\0=aU k)/\(bg k.kind=false->true=true/\fW=ec/\cN (bk (bk [aL k] k.oid) k.rights)/\bC (bk (bk [aL k] k.oid) k.rights)=ca k/\0=aU k)))/\(dL
   k.kind=false->true=true/\(bz k.kind=true->cV (aN (bk [aL k] k.oid)) 16/\true=true/\(bg k.kind=true->cV (aN (bk (bk [aL k] k.oid) k.call)) 16/\true=true/\
   fW=ec/\cN (bk (bk (bk [aL k] k.oid) k.call) k.value)/\bC (bk (bk (bk [aL k] k.oid) k.call) k.value)=ca k/\0=aU k)/\(bg k.kind=false->true=true/\fW=
   ec/\cN (bk (bk [aL k] k.oid) k.call)/\bC (bk (bk [aL k] k.oid) k.call)=ca k/\0=aU k))/\(bz k.kind=false->true=true/\(bg k.kind=true->cV (aN (bk
   [aL k] k.oid)) 16/\true=true/\fW=ec/\cN (bk (bk [aL k] k.oid) k.value)/\bC (bk (bk [aL k] k.oid) k.value)=ca k/\0=aU k)/\(bg k.kind=false->true=
   true/\fW=ec/\cN (bk [aL k] k.oid)/\bC (bk [aL k] k.oid)=ca k/\0=aU k)))))/\(bH k.kind=false->true=true/\(bH k.kind=true->cV (aN [aL k]) 16
   /\true=true/\(dL k.kind=true->cV (aN (bk [aL k] k.count)) 16/\true=true/\(bz k.kind=true->cV (aN (bk (bk [aL k] k.count) k.rights)) 16/\true=true/\(bg
   k.kind=true->cV (aN (bk (bk (bk [aL k] k.count) k.rights) k.call)) 16/\true=true/\fW=ec/\cN (bk (bk (bk (bk [aL k] k.count) k.rights) k.call) k.value)/\bC (bk
   (bk (bk (bk [aL k] k.count) k.rights) k.call) k.value)=ca k/\0=aU k)/\(bg k.kind=false->true=true/\fW=ec/\cN (bk (bk (bk [aL k] k.count) k.rights) k.call)
   /\bC (bk (bk (bk [aL k] k.count) k.rights) k.call)=ca k/\0=aU k))/\(bz k.kind=false->true=true/\(bg k.kind=true->cV (aN (bk (bk [aL k] k.count)
   k.rights)) 16/\true=true/\fW=ec/\cN (bk (bk (bk [aL k] k.count) k.rights) k.value)/\bC (bk (bk (bk [aL k] k.count) k.rights) k.value)=ca k/\0=aU k)/\(bg
   k.kind=false->true=true/\fW=ec/\cN (bk (bk [aL k] k.count) k.rights)/\bC (bk (bk [aL k] k.count) k.rights)=ca k/\0=aU k)))/\(dL k.kind=false->true=
   true/\(bz k.kind=true->cV (aN (bk [aL k] k.count)) 16/\true=true/\(bg k.kind=true->cV (aN (bk (bk [aL k] k.count) k.call)) 16/\true=true/\fW=ec/\cN
   (bk (bk (bk [aL k] k.count) k.call) k.value)/\bC (bk (bk (bk [aL k] k.count) k.call) k.value)=ca k/\0=aU k)/\(bg k.kind=false->true=true/\fW=ec/\cN
   (bk (bk [aL k] k.count) k.call)/\bC (bk (bk [aL k] k.count) k.call)=ca k/\0=aU k))/\(bz k.kind=false->true=true/\(bg k.kind=true->cV (aN (bk [aL
   k] k.count)) 16/\true=true/\fW=ec/\cN (bk (bk [aL k] k.count) k.value)/\bC (bk (bk [aL k] k.count) k.value)=ca k/\0=aU k)/\(bg k.kind=false->true=
   true/\fW=ec/\cN (bk [aL k] k.count)/\bC (bk [aL k] k.count)=ca k/\0=aU k))))/\(bH k.kind=false->true=true/\(dL k.kind=true->cV (aN [aL k])
   16/\true=true/\(bz k.kind=true->cV (aN (bk [aL k] k.rights)) 16/\true=true/\(bg k.kind=true->cV (aN (bk (bk [aL k] k.rights) k.call)) 16/\true=true/\fW=
   ec/\cN (bk (bk (bk [aL k] k.rights) k.call) k.value)/\bC (bk (bk (bk [aL k] k.rights) k.call) k.value)=ca k/\0=aU k)/\(bg k.kind=false->true=true/\fW=
   ec/\cN (bk (bk [aL k] k.rights) k.call)/\bC (bk (bk [aL k] k.rights) k.call)=ca k/\0=aU k))/\(bz k.kind=false->true=true/\(bg k.kind=true->cV (aN
   (bk [aL k] k.rights)) 16/\true=true/\fW=ec/\cN (bk (bk [aL k] k.rights) k.value)/\bC (bk (bk [aL k] k.rights) k.value)=ca k/\0=aU k)/\(bg k.kind=
   false->true=true/\fW=ec/\cN (bk [aL k] k.rights)/\bC (bk [aL k] k.rights)=ca k/\0=aU k)))/\(dL k.kind=false->true=true/\(bz k.kind=true->cV
   (aN [aL k]) 16/\true=true/\(bg k.kind=true->cV (aN (bk [aL k] k.call)) 16/\true=true/\fW=ec/\cN (bk (bk [aL k] k.call) k.value)/\bC (bk (bk
   [aL k] k.call) k.value)=ca k/\0=aU k)/\(bg k.kind=false->true=true/\fW=ec/\cN (bk [aL k] k.call)/\bC (bk [aL k] k.call)=ca k/\0=aU k))/\
   (bz k.kind=false->true=true/\(bg k.kind=true->cV (aN [aL k]) 16/\true=true/\fW=ec/\cN (bk [aL k] k.value)/\bC (bk [aL k] k.value)=ca k/\0=
   aU k)/\(bg k.kind=false->true=true/\fW=ec/\cN [aL k]/\bC [aL k]=ca k/\0=aU k)))))):=by
 refine⟨fun h=>?_,fun h=>?_⟩
 ·have hf:aP k=false:=by simpa using h
  simp[ca,aU,hf]
 ·have hok:aP k=true:=by simpa using h
  have hin:jz k=true:=by unfold aP at hok;simp only[ah]at hok;simp[jz,hok]
  have hp:ca k=bC (rR k):=by simp[ca,hok,cZ]
  have hc:aU k=0:=by simp[aU,hok]
  have hj:=F2 hk hin;rw[hp,hc]
  cases hO:bH k.kind<;>cases hR:dL k.kind<;>cases hC:bz k.kind<;>cases hV:bg k.kind<;>simp only[rR,qW,hO,hR,hC,hV,if_true,Bool.false_eq_true,if_false,List.append_nil,List.nil_append,List.cons_append]at hj⊢ <;>simp only[bk,bN,List.cons_append,List.nil_append,true_implies,true_and,and_true,false_implies,reduceCtorEq]<;>and_intros<;>first
   |rfl
   |exact hj.1
   |exact hj.2
   |simp[aN,maxLen]
theorem G6(k:Sx.Key)(hk:k.wf):aJ Tryz.prog 16 [.key k] [.ro .pin] (pz (.tp [.st (ca k),.it .i64 (aU k)])) (fun _ _=>False):=
 eH (inl:=(fun f=>f==29)) (ann:=(qJ [(16,3000005,EJ [.lb 4])])) (aS sb (aS CE bf)) (cP Fa eF) (HX k hk) (by kernel_rfl)
theorem HH:cI Tryz.prog 16 Kp:=kT (n4 (bL CQ ea)) (fun _=>rfl) fun a _ hok=>by
  obtain⟨k,_⟩:=a;exact G6 k hok.1
theorem HI(k:Sx.Key):
 true=true/\true=true/\true=true/\((!(decide (2<=k.kind)&&decide (k.kind<=10)))=true->ByteArray.mk (Array.mk [])=iQ k/\2=iv k)/\((!(decide (2<=k.kind)&&decide (k.kind<=
  10)))=false->ca (Key.mk k.kind k.oid k.count k.call k.rights void.value)=iQ k/\aU (Key.mk k.kind k.oid k.count k.call k.rights void.value)=iv k):=by
 refine⟨rfl,rfl,rfl,fun h=>?_,fun h=>?_⟩
 ·have hc:mA k=false:=by unfold mA;exact Bool.not_eq_true' _▸h
  simp[iQ,iv,hc]
 ·have hc:mA k=true:=by unfold mA;simpa using h
  unfold iQ iv;rw[hc];exact⟨rfl,rfl⟩
theorem IM(k:Sx.Key):aJ Tryz.prog 5 [ye k] [.ro .pin] (pz (.tp [.st (iQ k),.it .i64 (iv k)])) (fun _ _=>False):=
 bG (inl:=(fun f=>f==13||f==15||f==14)) (ann:=cH) (aS HH bf) (HI k) (by kernel_rfl)
theorem HM:cI Tryz.prog 5 Jt:=kT (n4 (bL me ea)) (fun _=>rfl) fun a _ _=>by
  obtain⟨x,_⟩:=a;exact IM (nf x)
theorem IJ(l:List Cp)(c:Sx.Key)(h5:xB l):
 (decide (30<cW (aN l))=true->true=true)/\(decide (30<cW (aN l))=false->(∃g,ma l g/\0=g/\l=l/\c.kind=c.kind/\c.oid=c.oid/\c.count=c.count/\c.call=c.call/\
  c.rights=c.rights)/\∀(g:Int),ma l g->(decide (g<cW (aN l))=true->(0<=g/\g< ↑(aN l))/\g.toNat<aN l/\(0<=g/\g< ↑(aN l))/\g.toNat<aN l/\((decide (cr l g.toNat 0
  <2)||decide (10<cr l g.toNat 0)|| !decide (aU (xA l g)=0))=true->((!p9 (iQ (xA l g)) (ByteArray.mk (Array.mk []))|| !decide (iv (xA l g)=2))=true->false=true)/\
  ((!p9 (iQ (xA l g)) (ByteArray.mk (Array.mk []))|| !decide (iv (xA l g)=2))=false->dI IntKind.i64 (g+1)/\∃g',ma l g'/\(cW (aN l)-g').toNat<(cW (aN l)-g).toNat/\
  g+1=g'/\l=l/\c.kind=c.kind/\c.oid=c.oid/\c.count=c.count/\c.call=c.call/\c.rights=c.rights))/\((decide (cr l g.toNat 0<2)||decide (10<cr l g.toNat 0)|| !decide (aU
  (xA l g)=0))=false->((!!decide (iv (xA l g)=0))=true->jz (xA l g)=true)/\((!decide (iv (xA l g)=0)|| !p9 (iQ (xA l g)) (cZ (xA l g)))=true->false=true)/\
  ((!decide (iv (xA l g)=0)|| !p9 (iQ (xA l g)) (cZ (xA l g)))=false->dI IntKind.i64 (g+1)/\∃g',ma l g'/\(cW (aN l)-g').toNat<(cW (aN l)-g).toNat/\g+1=
  g'/\l=l/\c.kind=c.kind/\c.oid=c.oid/\c.count=c.count/\c.call=c.call/\c.rights=c.rights)))/\(decide (g<cW (aN l))=false->mN l/\mN l/\(fS (Key.mk c.kind c.oid
  c.count c.call c.rights 0) l==fS (Key.mk c.kind c.oid c.count c.call c.rights 0) l&&true)=true)):=by
 have e1:cW (aN l)=(l.length:Int):=rfl;refine⟨fun _=>rfl,fun h30=>?_⟩
 have hb:l.length<=1000000:=by have:=ak h30;omega
 refine⟨⟨0,⟨by omega,Int.natCast_nonneg _⟩,rfl,rfl,rfl,rfl,rfl,rfl,rfl⟩,fun g hg=>⟨fun hlt=>?_,fun _=>⟨⟨h5,hb⟩,⟨h5,hb⟩,by simp⟩⟩⟩
 have hlt:=an hlt;rw[e1]at hlt;obtain⟨h0,h1⟩:=hg;have hj:g.toNat<aN l:=by show g.toNat<l.length;omega
 have hn:dI IntKind.i64 (g+1)/\∃g',ma l g'/\(cW (aN l)-g').toNat<(cW (aN l)-g).toNat/\g+1=g'/\l=l/\c.kind=c.kind/\c.oid=c.oid/\c.count=c.count/\c.call=c.call/\c.rights=c.rights:=
  ⟨by simp only[dI,bU];omega,g+1,⟨by omega,by omega⟩,by rw[e1];omega,rfl,rfl,rfl,rfl,rfl,rfl,rfl⟩
 have hs:∀a b:ByteArray,a=b->p9 a b=true:=fun a b h=>by unfold p9;simp[h]
 refine⟨⟨h0,hlt⟩,hj,⟨h0,hlt⟩,hj,fun hA=>?_,fun hA=>?_⟩
 ·obtain⟨f1,f2⟩:=HQ (k:=xA l g) rfl hA;rw[f1,f2,hs _ _ rfl];exact⟨fun h=>by simp at h,fun _=>hn⟩
 ·obtain⟨f0,f1,f2⟩:=F6 (k:=xA l g) rfl hA;rw[f1,f2,hs _ _ rfl];exact⟨fun _=>f0,fun h=>by simp at h,fun _=>hn⟩
theorem Iv(l:List Cp)(c:Sx.Key)(h5:xB l):aJ Tryz.prog 3 [.sa 0,ye c] [.ro (.arr none 5 (.qs 5 l)),.pin] (pz (.bo true)) (fun _ _=>False):=
 bG (inl:=cq) (ann:=(qJ [(3,4,Jw [0,3] (fun g=> [(5,.it .i64 g)]) (ma l) (cW (aN l)))])) (aS CO (aS HM (aS wc (aS zp (aS IU (aS IF (aS EB bf))))))) (IJ l c h5) (by kernel_rfl)
end Go.Proofs.YtmfbohanboiklaaGreatDoor
