import Derived.Test.YtlblcfaclmpekaaGreatCtRc
import Derived.Test.YtlblcfaclmpekaaGreatCtQe
import Derived.Test.YtlblcfaclmpekaaGreatSpMb
set_option linter.unusedSimpArgs false
set_option linter.unusedVariables false
namespace Go.Proofs.YtlblcfaclmpekaaGreat
open Go.Sx
set_option maxRecDepth 100000
theorem Gt (p:k9) (n:Int) (hs:az p.data) (hn:gF n):
 (decide (p.kind=2)=true->((decide (0<=p.val)&&decide (p.val<=1099511627776))=true->aP IntKind.i64 (4611686018427387904-p.val))/\(decide (0<=p.val)&&decide (p.val<=1099511627776)&&
  decide (n<=4611686018427387904-p.val))=ec p n)/\(decide (p.kind=2)=false->((!(!decide (p.kind=1)||decide (p.mode<1)||decide (3<p.mode)))=true->aP IntKind.i64 (cC p.data))
  /\((!decide (p.kind=1)||decide (p.mode<1)||decide (3<p.mode)||decide (32<cC p.data))=true->false=ec p n)/\((!decide (p.kind=1)||decide (p.mode<1)||decide (3<p.mode)||
  decide (32<cC p.data))=false->true=true/\((!(decide (0<=p.reg)&&decide (p.reg<12)))=true->false=ec p n)/\((!(decide (0<=p.reg)&&decide (p.reg<12)))=false->((!decide (p.s0
  = -1))=true->true=true/\((!(decide (0<=p.s0)&&decide (p.s0<12)))=true->false=ec p n)/\((!(decide (0<=p.s0)&&decide (p.s0<12)))=false->((!decide (p.s1= -1))=true->true=
  true/\((!(decide (0<=p.s1)&&decide (p.s1<12)))=true->false=ec p n)/\((!(decide (0<=p.s1)&&decide (p.s1<12)))=false->((!decide (p.s2= -1))=true->true=true/\((!(decide (0<=
  p.s2)&&decide (p.s2<12)))=true->false=ec p n)/\((!(decide (0<=p.s2)&&decide (p.s2<12)))=false->true=ec p n))/\((!decide (p.s2= -1))=false->true=ec p n)))/\((!decide
  (p.s1= -1))=false->((!decide (p.s2= -1))=true->true=true/\((!(decide (0<=p.s2)&&decide (p.s2<12)))=true->false=ec p n)/\((!(decide (0<=p.s2)&&decide (p.s2<12)))=false->
  true=ec p n))/\((!decide (p.s2= -1))=false->true=ec p n))))/\((!decide (p.s0= -1))=false->((!decide (p.s1= -1))=true->true=true/\((!(decide (0<=p.s1)&&decide (p.s1<12)))
  =true->false=ec p n)/\((!(decide (0<=p.s1)&&decide (p.s1<12)))=false->((!decide (p.s2= -1))=true->true=true/\((!(decide (0<=p.s2)&&decide (p.s2<12)))=true->false=ec
  p n)/\((!(decide (0<=p.s2)&&decide (p.s2<12)))=false->true=ec p n))/\((!decide (p.s2= -1))=false->true=ec p n)))/\((!decide (p.s1= -1))=false->((!decide (p.s2= -1))=true
  ->true=true/\((!(decide (0<=p.s2)&&decide (p.s2<12)))=true->false=ec p n)/\((!(decide (0<=p.s2)&&decide (p.s2<12)))=false->true=ec p n))/\((!decide (p.s2= -1))=false->
  true=ec p n)))))):=by
 have hz:(bU (an ([]:List Int)))=0:=rfl;have h1:aP IntKind.i64 (cC p.data):=by unfold az at hs;simp only[aP,cj,cC];omega
 have c0:gh p.s0=(decide (p.s0= -1)||(decide (0<=p.s0)&&decide (p.s0<12))):=rfl
 have c1:gh p.s1=(decide (p.s1= -1)||(decide (0<=p.s1)&&decide (p.s1<12))):=rfl
 have c2:gh p.s2=(decide (p.s2= -1)||(decide (0<=p.s2)&&decide (p.s2<12))):=rfl
 unfold ec;refine⟨fun hk=>⟨fun hv=>?_,?_⟩,fun hk=>⟨fun _=>h1,fun hb=>?_,fun hb=>⟨rfl,fun hr=>?_,fun hr=>?_⟩⟩⟩
 ·simp only[VK,VL]at hv;simp only[aP,cj];omega
 ·rw[VR (VO hk)]
 all_goals rw[VQ (VN hk),c0,c1,c2]
 ·simp only[Bool.or_eq_true,Bool.not_eq_true',VL,decide_eq_false_iff_not]at hb;symm
  simp only[Bool.and_eq_false_iff,decide_eq_false_iff_not];omega
 all_goals
  simp only[Bool.or_eq_false_iff,Bool.not_eq_false',VL,decide_eq_false_iff_not]at hb;obtain⟨⟨⟨b1,b2⟩,b3⟩,b4⟩:=hb;have e1:decide (p.kind=1)=true:=decide_eq_true b1;have e2:decide (1<=p.mode)=true:=decide_eq_true (by omega)
  have e3:decide (p.mode<=3)=true:=decide_eq_true (by omega)
  have e4:decide (cC p.data<=32)=true:=decide_eq_true (by omega)
  have cr:wj p.reg=(decide (0<=p.reg)&&decide (p.reg<12)):=rfl;rw[e1,e2,e3,e4,cr];generalize (decide (0<=p.reg)&&decide (p.reg<12))=r at *
  generalize (decide (0<=p.s0)&&decide (p.s0<12))=a0 at *
  generalize (decide (0<=p.s1)&&decide (p.s1<12))=a1 at *
  generalize (decide (0<=p.s2)&&decide (p.s2<12))=a2 at *
  generalize decide (p.s0= -1)=d0 at *
  generalize decide (p.s1= -1)=d1 at *
  generalize decide (p.s2= -1)=d2 at *
  clear c0 c1 c2 cr;revert hr
  cases r<;>cases a0<;>cases a1<;>cases a2<;>cases d0<;>cases d1<;>cases d2<;>simp
theorem Fk:dD Tryz.prog 37 HZ:=
 jH (aQ JC (aQ fP dU)) (fun _=>rfl) fun a hq hok=>by
  obtain⟨x,n,_⟩:=a;exact bx (inl:=(fun f=>f==56)) (ann:=(lr [(37,6,RI 4)])) ay (Gt (FQ x) n hq.1 hq.2) (by kernel_rfl)
theorem MB (o:Sx.Obj) (p:k9) (h0:gh p.s0=true) (h1:gh p.s1=true) (h2:gh p.s2=true):
 true=true/\(decide (p.s0<0)=true->true=true/\(decide (p.s1<0)=true->true=true/\(decide (p.s2<0)=true->(p.num=true->p.code=(bp o p).code/\p.data=(bp o p).data/\
  void=(bp o p).k0/\void=(bp o p).k1/\Key.mk 1 void.oid void.count void.call void.rights p.val=(bp o p).k2)/\(p.num=false->p.code=(bp o p).code/\p.data=(bp o p).data/\
  void=(bp o p).k0/\void=(bp o p).k1/\void=(bp o p).k2))/\(decide (p.s2<0)=false->aP IntKind.i64 (4+p.s2)/\(0<=4+p.s2/\4+p.s2< ↑16)/\(p.num=true->p.code=(bp o
  p).code/\p.data=(bp o p).data/\void=(bp o p).k0/\void=(bp o p).k1/\Key.mk 1 void.oid void.count void.call void.rights p.val=(bp o p).k2)/\(p.num=false->p.code=(bp o
  p).code/\p.data=(bp o p).data/\void=(bp o p).k0/\void=(bp o p).k1/\o.slots.at (4+p.s2).toNat=(bp o p).k2)))/\(decide (p.s1<0)=false->aP IntKind.i64 (4+p.s1)/\(0<=4
  +p.s1/\4+p.s1< ↑16)/\true=true/\(decide (p.s2<0)=true->(p.num=true->p.code=(bp o p).code/\p.data=(bp o p).data/\void=(bp o p).k0/\o.slots.at (4+p.s1).toNat=(bp
  o p).k1/\Key.mk 1 void.oid void.count void.call void.rights p.val=(bp o p).k2)/\(p.num=false->p.code=(bp o p).code/\p.data=(bp o p).data/\void=(bp o p).k0/\o.slots.at (4+
  p.s1).toNat=(bp o p).k1/\void=(bp o p).k2))/\(decide (p.s2<0)=false->aP IntKind.i64 (4+p.s2)/\(0<=4+p.s2/\4+p.s2< ↑16)/\(p.num=true->p.code=(bp o p).code/\p.data
  =(bp o p).data/\void=(bp o p).k0/\o.slots.at (4+p.s1).toNat=(bp o p).k1/\Key.mk 1 void.oid void.count void.call void.rights p.val=(bp o p).k2)/\(p.num=false->p.code=(bp
  o p).code/\p.data=(bp o p).data/\void=(bp o p).k0/\o.slots.at (4+p.s1).toNat=(bp o p).k1/\o.slots.at (4+p.s2).toNat=(bp o p).k2))))/\(decide (p.s0<0)=false->aP
  IntKind.i64 (4+p.s0)/\(0<=4+p.s0/\4+p.s0< ↑16)/\true=true/\(decide (p.s1<0)=true->true=true/\(decide (p.s2<0)=true->(p.num=true->p.code=(bp o p).code/\p.data=
  (bp o p).data/\o.slots.at (4+p.s0).toNat=(bp o p).k0/\void=(bp o p).k1/\Key.mk 1 void.oid void.count void.call void.rights p.val=(bp o p).k2)/\(p.num=false->p.code=(bp o
  p).code/\p.data=(bp o p).data/\o.slots.at (4+p.s0).toNat=(bp o p).k0/\void=(bp o p).k1/\void=(bp o p).k2))/\(decide (p.s2<0)=false->aP IntKind.i64 (4+p.s2)/\(0<=4
  +p.s2/\4+p.s2< ↑16)/\(p.num=true->p.code=(bp o p).code/\p.data=(bp o p).data/\o.slots.at (4+p.s0).toNat=(bp o p).k0/\void=(bp o p).k1/\Key.mk 1 void.oid void.count
  void.call void.rights p.val=(bp o p).k2)/\(p.num=false->p.code=(bp o p).code/\p.data=(bp o p).data/\o.slots.at (4+p.s0).toNat=(bp o p).k0/\void=(bp o p).k1/\
  o.slots.at (4+p.s2).toNat=(bp o p).k2)))/\(decide (p.s1<0)=false->aP IntKind.i64 (4+p.s1)/\(0<=4+p.s1/\4+p.s1< ↑16)/\true=true/\(decide (p.s2<0)=true->(p.num=true->
  p.code=(bp o p).code/\p.data=(bp o p).data/\o.slots.at (4+p.s0).toNat=(bp o p).k0/\o.slots.at (4+p.s1).toNat=(bp o p).k1/\Key.mk 1 void.oid void.count void.call void.rights
  p.val=(bp o p).k2)/\(p.num=false->p.code=(bp o p).code/\p.data=(bp o p).data/\o.slots.at (4+p.s0).toNat=(bp o p).k0/\o.slots.at (4+p.s1).toNat=(bp o p).k1/\void=
  (bp o p).k2))/\(decide (p.s2<0)=false->aP IntKind.i64 (4+p.s2)/\(0<=4+p.s2/\4+p.s2< ↑16)/\(p.num=true->p.code=(bp o p).code/\p.data=(bp o p).data/\o.slots.at (4+
  p.s0).toNat=(bp o p).k0/\o.slots.at (4+p.s1).toNat=(bp o p).k1/\Key.mk 1 void.oid void.count void.call void.rights p.val=(bp o p).k2)/\(p.num=false->p.code=(bp o p).code/\
  p.data=(bp o p).data/\o.slots.at (4+p.s0).toNat=(bp o p).k0/\o.slots.at (4+p.s1).toNat=(bp o p).k1/\o.slots.at (4+p.s2).toNat=(bp o p).k2)))):=by
 have key:∀s,gh s=true->s<0\/(¬s<0/\aP IntKind.i64 (4+s)/\(0<=4+s/\4+s<16)):=fun s hs=>by
  unfold gh wj at hs;simp only[Bool.or_eq_true,VK,VL]at hs;simp only[aP,cj];omega
 have hq:c8 p.val=Key.mk 1 void.oid void.count void.call void.rights p.val:=rfl;unfold bp Ep;rw[hq]
 rcases key p.s0 h0 with a0|⟨a0,f0,g0,i0⟩<;>rcases key p.s1 h1 with a1|⟨a1,f1,g1,i1⟩<;>rcases key p.s2 h2 with a2|⟨a2,f2,g2,i2⟩<;>cases hn:p.num<;>simp only[*,decide_true,decide_false,if_true,if_false,true_and,and_true,and_self,Bool.false_eq_true,Bool.true_eq_false,false_implies,true_implies,implies_true,reduceCtorEq]<;>(repeat' apply And.intro)<;>omega
theorem LH:dD Tryz.prog 59 Rg:=
 jH (aQ Pb JG) (fun _=>rfl) fun a hq hok=>by
  obtain⟨o,x,_⟩:=a;exact bx (inl:=(fun f=>f==89)) (ann:=(lr [(59,4,RI 4)])) ay (MB o (FQ x) hq.1 hq.2.1 hq.2.2) (by kernel_rfl)
theorem L6 (L:List Sx.Obj) (n:Int) (p:k9) (hq:T1 L n p/\ec p n=true/\p.kind=1):
 true=true/\ja L/\(true=false->False)/\(true=true->(decide (bU (an (eI L))=0)=true->n=n/\(1=(aM L n p).out/\0=(aM L n p).proc/\0=(aM L n p).err/\0=
  (aM L n p).ans.code/\ByteArray.mk (Array.mk [])=(aM L n p).ans.data/\void=(aM L n p).ans.k0/\void=(aM L n p).ans.k1/\void=(aM L n p).ans.k2/\false=(aM L n p).wants)/\L
  =fk L n p)/\(decide (bU (an (eI L))=0)=false->(EY (bU (an (eI L)))/\aP IntKind.i64 (p.proc.tmod (bU (an (eI L)))))/\aP IntKind.i64 (p.proc.tmod (bU (an (eI L)))
  +bU (an (eI L)))/\(EY (bU (an (eI L)))/\aP IntKind.i64 ((p.proc.tmod (bU (an (eI L)))+bU (an (eI L))).tmod (bU (an (eI L)))))/\(0<=(p.proc.tmod (bU (an (eI
  L)))+bU (an (eI L))).tmod (bU (an (eI L)))/\(p.proc.tmod (bU (an (eI L)))+bU (an (eI L))).tmod (bU (an (eI L)))< ↑(an (eI L)))/\((p.proc.tmod (bU (an (eI
  L)))+bU (an (eI L))).tmod (bU (an (eI L)))).toNat<an (eI L)/\aP IntKind.i64 (4+p.reg)/\(0<=4+p.reg/\4+p.reg< ↑16)/\(gh p.s0=true/\gh p.s1=true/\gh
  p.s2=true)/\((decide ((cD L p).kind=6)||decide ((cD L p).kind=7))=true->true=true/\az (cJ L p).data/\(aw L/\az (cJ L p).data)/\((!decide (cE L (dT L p)
  (cD L p) p.mode (cJ L p)=0))=true->n=n/\(3=(aM L n p).out/\dT L p=(aM L n p).proc/\cE L (dT L p) (cD L p) p.mode (cJ L p)=(aM L n p).err/\0=(aM L n
  p).ans.code/\ByteArray.mk (Array.mk [])=(aM L n p).ans.data/\void=(aM L n p).ans.k0/\void=(aM L n p).ans.k1/\void=(aM L n p).ans.k2/\false=(aM L n p).wants)/\fo L
  (dT L p) (cD L p) p.mode (cJ L p)=fk L n p)/\((!decide (cE L (dT L p) (cD L p) p.mode (cJ L p)=0))=false->n=n/\(2=(aM L n p).out/\dT L p=(aM L n p).proc
  /\0=(aM L n p).err/\0=(aM L n p).ans.code/\ByteArray.mk (Array.mk [])=(aM L n p).ans.data/\void=(aM L n p).ans.k0/\void=(aM L n p).ans.k1/\void=(aM L n p).ans.k2/\
  false=(aM L n p).wants)/\fo L (dT L p) (cD L p) p.mode (cJ L p)=fk L n p))/\((decide ((cD L p).kind=6)||decide ((cD L p).kind=7))=false->true=true/\az
  (cJ L p).data/\(aw L/\az (cJ L p).data)/\((de (hJ L n p) (dT L p)&&decide (gz (hJ L n p) (dT L p)=1))=true->(decide (p.mode=1)=true->true=true/\az
  (bG L n (cD L p) (cJ L p)).data/\(aw (hJ L n p)/\az (bG L n (cD L p) (cJ L p)).data)/\n=n/\(4=(aM L n p).out/\dT L p=(aM L n p).proc/\0=(aM L n
  p).err/\(bG L n (cD L p) (cJ L p)).code=(aM L n p).ans.code/\(bG L n (cD L p) (cJ L p)).data=(aM L n p).ans.data/\(bG L n (cD L p) (cJ L p)).k0=(aM L n
  p).ans.k0/\(bG L n (cD L p) (cJ L p)).k1=(aM L n p).ans.k1/\(bG L n (cD L p) (cJ L p)).k2=(aM L n p).ans.k2/\iE L n (cD L p) (cJ L p)=(aM L n p).wants)/\
  j6 (hJ L n p) (dT L p) (bG L n (cD L p) (cJ L p))=fk L n p)/\(decide (p.mode=1)=false->(decide (p.mode=3)=true->true=true/\aw (hJ L n p)/\n=n/\(4=(aM
  L n p).out/\dT L p=(aM L n p).proc/\0=(aM L n p).err/\(bG L n (cD L p) (cJ L p)).code=(aM L n p).ans.code/\(bG L n (cD L p) (cJ L p)).data=(aM L n
  p).ans.data/\(bG L n (cD L p) (cJ L p)).k0=(aM L n p).ans.k0/\(bG L n (cD L p) (cJ L p)).k1=(aM L n p).ans.k1/\(bG L n (cD L p) (cJ L p)).k2=(aM L n
  p).ans.k2/\iE L n (cD L p) (cJ L p)=(aM L n p).wants)/\ie (hJ L n p) (dT L p) 0=fk L n p)/\(decide (p.mode=3)=false->n=n/\(4=(aM L n p).out/\dT L p=
  (aM L n p).proc/\0=(aM L n p).err/\(bG L n (cD L p) (cJ L p)).code=(aM L n p).ans.code/\(bG L n (cD L p) (cJ L p)).data=(aM L n p).ans.data/\(bG L n (cD L
  p) (cJ L p)).k0=(aM L n p).ans.k0/\(bG L n (cD L p) (cJ L p)).k1=(aM L n p).ans.k1/\(bG L n (cD L p) (cJ L p)).k2=(aM L n p).ans.k2/\iE L n (cD L p) (cJ
  L p)=(aM L n p).wants)/\hJ L n p=fk L n p)))/\((de (hJ L n p) (dT L p)&&decide (gz (hJ L n p) (dT L p)=1))=false->n=n/\(4=(aM L n p).out/\dT L p=
  (aM L n p).proc/\0=(aM L n p).err/\(bG L n (cD L p) (cJ L p)).code=(aM L n p).ans.code/\(bG L n (cD L p) (cJ L p)).data=(aM L n p).ans.data/\(bG L n (cD L
  p) (cJ L p)).k0=(aM L n p).ans.k0/\(bG L n (cD L p) (cJ L p)).k1=(aM L n p).ans.k1/\(bG L n (cD L p) (cJ L p)).k2=(aM L n p).ans.k2/\iE L n (cD L p) (cJ
  L p)=(aM L n p).wants)/\hJ L n p=fk L n p)))):=by
 obtain⟨⟨hL,hs,hn⟩,hr,hk⟩:=hq;obtain⟨hm,⟨r0,r1⟩,hsd⟩:=F4 hr hk;have nk2:¬p.kind=2:=by omega
 have hnn:bU (an (eI L))=(an (eI L):Int):=rfl;refine⟨rfl,FT hL,fun h=>by simp at h,fun _=>⟨fun h=>?_,fun h=>?_⟩⟩
 ·have h0:an (eI L)=0:=by have:=VO h;rw[hnn]at this;omega
  have e1:aM L n p=⟨1,0,0,ee,false⟩:=by unfold aM;rw[VR hr,VQ nk2,VR h0]
  have e2:fk L n p=L:=by unfold fk;rw[VQ (fun h=>h.2.2 h0)]
  rw[e1,e2];exact⟨rfl,(by(repeat' apply And.intro)<;>rfl),rfl⟩
 have h0:¬an (eI L)=0:=by have:=VN h;rw[hnn]at this;omega
 obtain⟨f1,f2,f3,f4⟩:=FX (p:=p) hL h0
 have eD:aM L n p=if vP L p=true then(if cE L (dT L p) (cD L p) p.mode (cJ L p)=0 then⟨2,dT L p,0,ee,false⟩else⟨3,dT L p,cE L (dT L p) (cD L p) p.mode (cJ L p),ee,false⟩)
   else⟨4,dT L p,0,bG L n (cD L p) (cJ L p),iE L n (cD L p) (cJ L p)⟩:=by unfold aM;rw[VR hr,VQ nk2,VQ h0]
 have eL:fk L n p=if vP L p=true then fo L (dT L p) (cD L p) p.mode (cJ L p)else El L n p:=by unfold fk;rw[VR ⟨hr,nk2,h0⟩]
 have h1:aw (hJ L n p):=Hn hL;rw[hnn];refine⟨⟨f2,by simp only[aP,cj];omega⟩,by simp only[aP,cj];omega,⟨f2,by simp only[aP,cj];omega⟩,f4,by omega,by simp only[aP,cj];omega,⟨by omega,by omega⟩,hsd,fun hc=>?_,fun hc=>?_⟩
 ·have hC:vP L p=true:=hc;rw[eD,eL,VR hC,VR hC];refine⟨rfl,hs,⟨hL,hs⟩,fun he=>?_,fun he=>?_⟩
  ·have he:¬cE L (dT L p) (cD L p) p.mode (cJ L p)=0:=by simpa using he
   rw[VQ he];exact⟨rfl,(by(repeat' apply And.intro)<;>rfl),rfl⟩
  ·have he:cE L (dT L p) (cD L p) p.mode (cJ L p)=0:=by simpa using he
   rw[VR he];exact⟨rfl,(by(repeat' apply And.intro)<;>rfl),rfl⟩
 ·have hC:¬vP L p=true:=by
   have:vP L p=false:=hc;rw[this];simp
  rw[eD,eL,VQ hC,VQ hC]
  have e2:El L n p=if de (hJ L n p) (dT L p)=true/\gz (hJ L n p) (dT L p)=1 then
    if p.mode=1 then j6 (hJ L n p) (dT L p) (bG L n (cD L p) (cJ L p))else if p.mode=3 then ie (hJ L n p) (dT L p) 0 else hJ L n p
   else hJ L n p:=rfl
  refine⟨rfl,hs,⟨hL,hs⟩,fun hb=>⟨fun h1'=>?_,fun h1'=>⟨fun h3=>?_,fun h3=>?_⟩⟩,fun hb=>?_⟩
  all_goals simp only[VK,Bool.and_eq_false_iff,VL,decide_eq_false_iff_not]at hb
  ·rw[e2,VR hb,VR (VO h1')];exact⟨rfl,DY,⟨h1,DY⟩,rfl,(by(repeat' apply And.intro)<;>rfl),rfl⟩
  ·rw[e2,VR hb,VQ (VN h1'),VR (VO h3)];exact⟨rfl,h1,rfl,(by(repeat' apply And.intro)<;>rfl),rfl⟩
  ·rw[e2,VR hb,VQ (VN h1'),VQ (VN h3)];exact⟨rfl,(by(repeat' apply And.intro)<;>rfl),rfl⟩
  ·rw[e2,VQ (fun h=>by rcases hb with hb|hb;rw[h.1]at hb;simp at hb;exact hb h.2)]
   exact⟨rfl,(by(repeat' apply And.intro)<;>rfl),rfl⟩
theorem N5:oM Tryz.prog 38 Q5:=GS (fun _ _ _=>rfl) fun L n p hq=>bR (inl:=ca) (ann:=aV) (ae LH (ae eM (ae fO (ae pR ay)))) (aF Qt (aF PV (aF Si (aF QB (aF G2 aB))))) (L6 L n p hq) (by kernel_rfl)
theorem Oa (L:List Sx.Obj) (n:Int) (p:k9) (hq:T1 L n p):
 true=true/\(az p.data/\gF n)/\((!ec p n)=true->n=jv n p/\(0=(aM L n p).out/\0=(aM L n p).proc/\0=(aM L n p).err/\0=(aM L n p).ans.code/\ByteArray.mk
  (Array.mk [])=(aM L n p).ans.data/\void=(aM L n p).ans.k0/\void=(aM L n p).ans.k1/\void=(aM L n p).ans.k2/\false=(aM L n p).wants/\2=g9 n p)/\L=fk L n p)/\
  ((!ec p n)=false->((decide (p.kind=1)=true->true=true/\((aw L/\az p.data/\gF n)/\ec p n=true/\p.kind=1)/\n=jv n p/\((aM L n p).out=(aM L n p).out/\
  (aM L n p).proc=(aM L n p).proc/\(aM L n p).err=(aM L n p).err/\(aM L n p).ans.code=(aM L n p).ans.code/\(aM L n p).ans.data=(aM L n p).ans.data/\(aM L n
  p).ans.k0=(aM L n p).ans.k0/\(aM L n p).ans.k1=(aM L n p).ans.k1/\(aM L n p).ans.k2=(aM L n p).ans.k2/\(aM L n p).wants=(aM L n p).wants/\0=g9 n p)/\fk L n p=
  fk L n p)/\(decide (p.kind=1)=false->(decide (p.kind=2)=true->true=true/\aP IntKind.i64 (n+p.val)/\n+p.val=jv n p/\(5=(aM L n p).out/\0=(aM L n p).proc/\0=
  (aM L n p).err/\0=(aM L n p).ans.code/\ByteArray.mk (Array.mk [])=(aM L n p).ans.data/\void=(aM L n p).ans.k0/\void=(aM L n p).ans.k1/\void=(aM L n p).ans.k2/\false=
  (aM L n p).wants/\0=g9 n p)/\L=fk L n p)/\(decide (p.kind=2)=false->False)))/\(decide (p.kind=2)=true->true=true/\aP IntKind.i64 (n+p.val)/\n+p.val=jv n p/\(5
  =(aM L n p).out/\0=(aM L n p).proc/\0=(aM L n p).err/\0=(aM L n p).ans.code/\ByteArray.mk (Array.mk [])=(aM L n p).ans.data/\void=(aM L n p).ans.k0/\void=(aM L n
  p).ans.k1/\void=(aM L n p).ans.k2/\false=(aM L n p).wants/\0=g9 n p)/\L=fk L n p)/\(decide (p.kind=2)=false->(decide (p.kind=1)=true->true=true/\((aw L/\
  az p.data/\gF n)/\ec p n=true/\p.kind=1)/\n=jv n p/\((aM L n p).out=(aM L n p).out/\(aM L n p).proc=(aM L n p).proc/\(aM L n p).err=(aM L n p).err/\
  (aM L n p).ans.code=(aM L n p).ans.code/\(aM L n p).ans.data=(aM L n p).ans.data/\(aM L n p).ans.k0=(aM L n p).ans.k0/\(aM L n p).ans.k1=(aM L n p).ans.k1/\(aM L
  n p).ans.k2=(aM L n p).ans.k2/\(aM L n p).wants=(aM L n p).wants/\0=g9 n p)/\fk L n p=fk L n p)/\(decide (p.kind=1)=false->False))):=by
 obtain⟨hL,hs,hn⟩:=hq
 have ht:ec p n=true->p.kind=2->aP IntKind.i64 (n+p.val):=fun hr hk=>by
  unfold ec at hr;rw[VR hk]at hr;simp only[VK,VL]at hr;unfold gF at hn;simp only[aP,cj];omega
 refine⟨rfl,⟨hs,hn⟩,fun hr=>?_,fun hr=>?_⟩
 ·have hr:ec p n=false:=by simpa using hr
  have e1:jv n p=n:=by unfold jv;rw[VQ (by simp[hr])]
  have e2:aM L n p=Vd:=by unfold aM;rw[VQ (by simp[hr])]
  have e3:g9 n p=2:=by unfold g9;rw[VQ (by simp[hr])]
  have e4:fk L n p=L:=by unfold fk;rw[VQ (by simp[hr])]
  rw[e1,e2,e3,e4];(repeat' apply And.intro)<;>rfl
 have hr:ec p n=true:=by simpa using hr
 have e3:g9 n p=0:=by unfold g9;rw[VR hr]
 have one:∀h1:p.kind=1,jv n p=n:=fun h1=>by unfold jv;rw[VQ (by omega)]
 have two:∀h2:p.kind=2,jv n p=n+p.val/\aM L n p=⟨5,0,0,ee,false⟩/\fk L n p=L:=fun h2=>by
  refine⟨?_,?_,?_⟩
  ·unfold jv;rw[VR ⟨hr,h2⟩]
  ·unfold aM;rw[VR hr,VR h2]
  ·unfold fk;rw[VQ (fun h=>h.2.1 h2)]
 have bad:¬p.kind=1->¬p.kind=2->False:=fun h1 h2=>by
  unfold ec at hr;rw[VQ h2]at hr;simp[h1]at hr
 refine⟨⟨fun h1=>?_,fun h1=>⟨fun h2=>?_,fun h2=>?_⟩⟩,⟨fun h2=>?_,fun h2=>⟨fun h1=>?_,fun h1=>?_⟩⟩⟩
 ·have h1:=VO h1;refine⟨rfl,⟨⟨hL,hs,hn⟩,hr,h1⟩,(one h1).symm,?_,rfl⟩;(repeat' apply And.intro)<;>first|rfl|exact e3.symm
 ·have h2:=VO h2;obtain⟨a,b,c⟩:=two h2;rw[a,b,c,e3];exact⟨rfl,ht hr h2,rfl,(by(repeat' apply And.intro)<;>rfl),rfl⟩
 ·exact(bad (VN h1) (VN h2)).elim
 ·have h2:=VO h2;obtain⟨a,b,c⟩:=two h2;rw[a,b,c,e3];exact⟨rfl,ht hr h2,rfl,(by(repeat' apply And.intro)<;>rfl),rfl⟩
 ·have h1:=VO h1;refine⟨rfl,⟨⟨hL,hs,hn⟩,hr,h1⟩,(one h1).symm,?_,rfl⟩;(repeat' apply And.intro)<;>first|rfl|exact e3.symm
 ·exact(bad (VN h1) (VN h2)).elim
theorem Eo:oM Tryz.prog 19 P6:=GS (fun _ _ _=>rfl) fun L n p hq=>bR (inl:=(fun f=>f==32||f==39)) (ann:=aV) (ae Fk ay) (aF N5 aB) (Oa L n p hq) (by kernel_rfl)
end Go.Proofs.YtlblcfaclmpekaaGreat
