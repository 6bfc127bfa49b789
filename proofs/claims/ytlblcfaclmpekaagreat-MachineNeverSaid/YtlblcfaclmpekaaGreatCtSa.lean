import Derived.Test.YtlblcfaclmpekaaGreatCtRc
import Derived.Test.YtlblcfaclmpekaaGreatCtQe
import Derived.Test.YtlblcfaclmpekaaGreatSpMb
set_option linter.unusedSimpArgs false
set_option linter.unusedVariables false
namespace Go.Proofs.YtlblcfaclmpekaaGreat
open Go.Sx
set_option maxRecDepth 100000
theorem G3 (p:ke) (n:Int) (hs:aw p.data) (hn:gH n):
 (decide (p.kind=2)=true->((decide (0<=p.val)&&decide (p.val<=1099511627776))=true->aL IntKind.i64 (4611686018427387904-p.val))/\(decide (0<=p.val)&&decide (p.val<=1099511627776)&&
  decide (n<=4611686018427387904-p.val))=eu p n)/\(decide (p.kind=2)=false->((!(!decide (p.kind=1)||decide (p.mode<1)||decide (3<p.mode)))=true->aL IntKind.i64 (cE p.data))
  /\((!decide (p.kind=1)||decide (p.mode<1)||decide (3<p.mode)||decide (32<cE p.data))=true->false=eu p n)/\((!decide (p.kind=1)||decide (p.mode<1)||decide (3<p.mode)||
  decide (32<cE p.data))=false->true=true/\((!(decide (0<=p.reg)&&decide (p.reg<12)))=true->false=eu p n)/\((!(decide (0<=p.reg)&&decide (p.reg<12)))=false->((!decide (p.s0
  = -1))=true->true=true/\((!(decide (0<=p.s0)&&decide (p.s0<12)))=true->false=eu p n)/\((!(decide (0<=p.s0)&&decide (p.s0<12)))=false->((!decide (p.s1= -1))=true->true=
  true/\((!(decide (0<=p.s1)&&decide (p.s1<12)))=true->false=eu p n)/\((!(decide (0<=p.s1)&&decide (p.s1<12)))=false->((!decide (p.s2= -1))=true->true=true/\((!(decide (0<=
  p.s2)&&decide (p.s2<12)))=true->false=eu p n)/\((!(decide (0<=p.s2)&&decide (p.s2<12)))=false->true=eu p n))/\((!decide (p.s2= -1))=false->true=eu p n)))/\((!decide
  (p.s1= -1))=false->((!decide (p.s2= -1))=true->true=true/\((!(decide (0<=p.s2)&&decide (p.s2<12)))=true->false=eu p n)/\((!(decide (0<=p.s2)&&decide (p.s2<12)))=false->
  true=eu p n))/\((!decide (p.s2= -1))=false->true=eu p n))))/\((!decide (p.s0= -1))=false->((!decide (p.s1= -1))=true->true=true/\((!(decide (0<=p.s1)&&decide (p.s1<12)))
  =true->false=eu p n)/\((!(decide (0<=p.s1)&&decide (p.s1<12)))=false->((!decide (p.s2= -1))=true->true=true/\((!(decide (0<=p.s2)&&decide (p.s2<12)))=true->false=eu
  p n)/\((!(decide (0<=p.s2)&&decide (p.s2<12)))=false->true=eu p n))/\((!decide (p.s2= -1))=false->true=eu p n)))/\((!decide (p.s1= -1))=false->((!decide (p.s2= -1))=true
  ->true=true/\((!(decide (0<=p.s2)&&decide (p.s2<12)))=true->false=eu p n)/\((!(decide (0<=p.s2)&&decide (p.s2<12)))=false->true=eu p n))/\((!decide (p.s2= -1))=false->
  true=eu p n)))))):=by
 have hz:(bH (ak ([]:List Int)))=0:=rfl;have h1:aL IntKind.i64 (cE p.data):=by unfold aw at hs;simp only[aL,cg,cE];omega
 have c0:gr p.s0=(decide (p.s0= -1)||(decide (0<=p.s0)&&decide (p.s0<12))):=rfl
 have c1:gr p.s1=(decide (p.s1= -1)||(decide (0<=p.s1)&&decide (p.s1<12))):=rfl
 have c2:gr p.s2=(decide (p.s2= -1)||(decide (0<=p.s2)&&decide (p.s2<12))):=rfl
 unfold eu;refine⟨fun hk=>⟨fun hv=>?_,?_⟩,fun hk=>⟨fun _=>h1,fun hb=>?_,fun hb=>⟨rfl,fun hr=>?_,fun hr=>?_⟩⟩⟩
 ·simp only[Xo,Xp]at hv;simp only[aL,cg];omega
 ·rw[Xv (Xs hk)]
 all_goals rw[Xu (Xr hk),c0,c1,c2]
 ·simp only[Bool.or_eq_true,Bool.not_eq_true',Xp,decide_eq_false_iff_not]at hb;symm
  simp only[Bool.and_eq_false_iff,decide_eq_false_iff_not];omega
 all_goals
  simp only[Bool.or_eq_false_iff,Bool.not_eq_false',Xp,decide_eq_false_iff_not]at hb;obtain⟨⟨⟨b1,b2⟩,b3⟩,b4⟩:=hb;have e1:decide (p.kind=1)=true:=decide_eq_true b1;have e2:decide (1<=p.mode)=true:=decide_eq_true (by omega)
  have e3:decide (p.mode<=3)=true:=decide_eq_true (by omega)
  have e4:decide (cE p.data<=32)=true:=decide_eq_true (by omega)
  have cr:xb p.reg=(decide (0<=p.reg)&&decide (p.reg<12)):=rfl;rw[e1,e2,e3,e4,cr];generalize (decide (0<=p.reg)&&decide (p.reg<12))=r at *
  generalize (decide (0<=p.s0)&&decide (p.s0<12))=a0 at *
  generalize (decide (0<=p.s1)&&decide (p.s1<12))=a1 at *
  generalize (decide (0<=p.s2)&&decide (p.s2<12))=a2 at *
  generalize decide (p.s0= -1)=d0 at *
  generalize decide (p.s1= -1)=d1 at *
  generalize decide (p.s2= -1)=d2 at *
  clear c0 c1 c2 cr;revert hr
  cases r<;>cases a0<;>cases a1<;>cases a2<;>cases d0<;>cases d1<;>cases d2<;>simp
theorem Hb:cV Tryz.prog 37 KB:=
 jT (aM I7 (aM fP dM)) (fun _=>rfl) fun a hq hok=>by
  obtain⟨x,n,_⟩:=a;exact bd (inl:=(fun f=>f==56)) (ann:=(kg [(37,6,Q0 4)])) an (G3 (Hw x) n hq.1 hq.2) (by kernel_rfl)
theorem OS (o:Sx.Obj) (p:ke) (h0:gr p.s0=true) (h1:gr p.s1=true) (h2:gr p.s2=true):
 true=true/\(decide (p.s0<0)=true->true=true/\(decide (p.s1<0)=true->true=true/\(decide (p.s2<0)=true->(p.num=true->p.code=(bn o p).code/\p.data=(bn o p).data/\
  void=(bn o p).k0/\void=(bn o p).k1/\Key.mk 1 void.oid void.count void.call void.rights p.val=(bn o p).k2)/\(p.num=false->p.code=(bn o p).code/\p.data=(bn o p).data/\
  void=(bn o p).k0/\void=(bn o p).k1/\void=(bn o p).k2))/\(decide (p.s2<0)=false->aL IntKind.i64 (4+p.s2)/\(0<=4+p.s2/\4+p.s2< ↑16)/\(p.num=true->p.code=(bn o
  p).code/\p.data=(bn o p).data/\void=(bn o p).k0/\void=(bn o p).k1/\Key.mk 1 void.oid void.count void.call void.rights p.val=(bn o p).k2)/\(p.num=false->p.code=(bn o
  p).code/\p.data=(bn o p).data/\void=(bn o p).k0/\void=(bn o p).k1/\o.slots.at (4+p.s2).toNat=(bn o p).k2)))/\(decide (p.s1<0)=false->aL IntKind.i64 (4+p.s1)/\(0<=4
  +p.s1/\4+p.s1< ↑16)/\true=true/\(decide (p.s2<0)=true->(p.num=true->p.code=(bn o p).code/\p.data=(bn o p).data/\void=(bn o p).k0/\o.slots.at (4+p.s1).toNat=(bn
  o p).k1/\Key.mk 1 void.oid void.count void.call void.rights p.val=(bn o p).k2)/\(p.num=false->p.code=(bn o p).code/\p.data=(bn o p).data/\void=(bn o p).k0/\o.slots.at (4+
  p.s1).toNat=(bn o p).k1/\void=(bn o p).k2))/\(decide (p.s2<0)=false->aL IntKind.i64 (4+p.s2)/\(0<=4+p.s2/\4+p.s2< ↑16)/\(p.num=true->p.code=(bn o p).code/\p.data
  =(bn o p).data/\void=(bn o p).k0/\o.slots.at (4+p.s1).toNat=(bn o p).k1/\Key.mk 1 void.oid void.count void.call void.rights p.val=(bn o p).k2)/\(p.num=false->p.code=(bn
  o p).code/\p.data=(bn o p).data/\void=(bn o p).k0/\o.slots.at (4+p.s1).toNat=(bn o p).k1/\o.slots.at (4+p.s2).toNat=(bn o p).k2))))/\(decide (p.s0<0)=false->aL
  IntKind.i64 (4+p.s0)/\(0<=4+p.s0/\4+p.s0< ↑16)/\true=true/\(decide (p.s1<0)=true->true=true/\(decide (p.s2<0)=true->(p.num=true->p.code=(bn o p).code/\p.data=
  (bn o p).data/\o.slots.at (4+p.s0).toNat=(bn o p).k0/\void=(bn o p).k1/\Key.mk 1 void.oid void.count void.call void.rights p.val=(bn o p).k2)/\(p.num=false->p.code=(bn o
  p).code/\p.data=(bn o p).data/\o.slots.at (4+p.s0).toNat=(bn o p).k0/\void=(bn o p).k1/\void=(bn o p).k2))/\(decide (p.s2<0)=false->aL IntKind.i64 (4+p.s2)/\(0<=4
  +p.s2/\4+p.s2< ↑16)/\(p.num=true->p.code=(bn o p).code/\p.data=(bn o p).data/\o.slots.at (4+p.s0).toNat=(bn o p).k0/\void=(bn o p).k1/\Key.mk 1 void.oid void.count
  void.call void.rights p.val=(bn o p).k2)/\(p.num=false->p.code=(bn o p).code/\p.data=(bn o p).data/\o.slots.at (4+p.s0).toNat=(bn o p).k0/\void=(bn o p).k1/\
  o.slots.at (4+p.s2).toNat=(bn o p).k2)))/\(decide (p.s1<0)=false->aL IntKind.i64 (4+p.s1)/\(0<=4+p.s1/\4+p.s1< ↑16)/\true=true/\(decide (p.s2<0)=true->(p.num=true->
  p.code=(bn o p).code/\p.data=(bn o p).data/\o.slots.at (4+p.s0).toNat=(bn o p).k0/\o.slots.at (4+p.s1).toNat=(bn o p).k1/\Key.mk 1 void.oid void.count void.call void.rights
  p.val=(bn o p).k2)/\(p.num=false->p.code=(bn o p).code/\p.data=(bn o p).data/\o.slots.at (4+p.s0).toNat=(bn o p).k0/\o.slots.at (4+p.s1).toNat=(bn o p).k1/\void=
  (bn o p).k2))/\(decide (p.s2<0)=false->aL IntKind.i64 (4+p.s2)/\(0<=4+p.s2/\4+p.s2< ↑16)/\(p.num=true->p.code=(bn o p).code/\p.data=(bn o p).data/\o.slots.at (4+
  p.s0).toNat=(bn o p).k0/\o.slots.at (4+p.s1).toNat=(bn o p).k1/\Key.mk 1 void.oid void.count void.call void.rights p.val=(bn o p).k2)/\(p.num=false->p.code=(bn o p).code/\
  p.data=(bn o p).data/\o.slots.at (4+p.s0).toNat=(bn o p).k0/\o.slots.at (4+p.s1).toNat=(bn o p).k1/\o.slots.at (4+p.s2).toNat=(bn o p).k2)))):=by
 have key:∀s,gr s=true->s<0\/(¬s<0/\aL IntKind.i64 (4+s)/\(0<=4+s/\4+s<16)):=fun s hs=>by
  unfold gr xb at hs;simp only[Bool.or_eq_true,Xo,Xp]at hs;simp only[aL,cg];omega
 have hq:c8 p.val=Key.mk 1 void.oid void.count void.call void.rights p.val:=rfl;unfold bn EO;rw[hq]
 rcases key p.s0 h0 with a0|⟨a0,f0,g0,i0⟩<;>rcases key p.s1 h1 with a1|⟨a1,f1,g1,i1⟩<;>rcases key p.s2 h2 with a2|⟨a2,f2,g2,i2⟩<;>cases hn:p.num<;>simp only[*,decide_true,decide_false,if_true,if_false,true_and,and_true,and_self,Bool.false_eq_true,Bool.true_eq_false,false_implies,true_implies,implies_true,reduceCtorEq]<;>(repeat' apply And.intro)<;>omega
theorem OO:cV Tryz.prog 59 SM:=
 jT (aM Qg Lq) (fun _=>rfl) fun a hq hok=>by
  obtain⟨o,x,_⟩:=a;exact bd (inl:=(fun f=>f==89)) (ann:=(kg [(59,4,Q0 4)])) an (OS o (Hw x) hq.1 hq.2.1 hq.2.2) (by kernel_rfl)
theorem Pq (L:List Sx.Obj) (n:Int) (p:ke) (hq:U9 L n p/\eu p n=true/\p.kind=1):
 true=true/\jn L/\(true=false->False)/\(true=true->(decide (bH (ak (eJ L))=0)=true->n=n/\(1=(aJ L n p).out/\0=(aJ L n p).proc/\0=(aJ L n p).err/\0=
  (aJ L n p).ans.code/\ByteArray.mk (Array.mk [])=(aJ L n p).ans.data/\void=(aJ L n p).ans.k0/\void=(aJ L n p).ans.k1/\void=(aJ L n p).ans.k2/\false=(aJ L n p).wants)/\L
  =er L n p)/\(decide (bH (ak (eJ L))=0)=false->(FJ (bH (ak (eJ L)))/\aL IntKind.i64 (p.proc.tmod (bH (ak (eJ L)))))/\aL IntKind.i64 (p.proc.tmod (bH (ak (eJ L)))
  +bH (ak (eJ L)))/\(FJ (bH (ak (eJ L)))/\aL IntKind.i64 ((p.proc.tmod (bH (ak (eJ L)))+bH (ak (eJ L))).tmod (bH (ak (eJ L)))))/\(0<=(p.proc.tmod (bH (ak (eJ
  L)))+bH (ak (eJ L))).tmod (bH (ak (eJ L)))/\(p.proc.tmod (bH (ak (eJ L)))+bH (ak (eJ L))).tmod (bH (ak (eJ L)))< ↑(ak (eJ L)))/\((p.proc.tmod (bH (ak (eJ
  L)))+bH (ak (eJ L))).tmod (bH (ak (eJ L)))).toNat<ak (eJ L)/\aL IntKind.i64 (4+p.reg)/\(0<=4+p.reg/\4+p.reg< ↑16)/\(gr p.s0=true/\gr p.s1=true/\gr
  p.s2=true)/\((decide ((b9 L p).kind=6)||decide ((b9 L p).kind=7))=true->true=true/\aw (cz L p).data/\(aq L/\aw (cz L p).data)/\((!decide (b8 L (du L p)
  (b9 L p) p.mode (cz L p)=0))=true->n=n/\(3=(aJ L n p).out/\du L p=(aJ L n p).proc/\b8 L (du L p) (b9 L p) p.mode (cz L p)=(aJ L n p).err/\0=(aJ L n
  p).ans.code/\ByteArray.mk (Array.mk [])=(aJ L n p).ans.data/\void=(aJ L n p).ans.k0/\void=(aJ L n p).ans.k1/\void=(aJ L n p).ans.k2/\false=(aJ L n p).wants)/\eN L
  (du L p) (b9 L p) p.mode (cz L p)=er L n p)/\((!decide (b8 L (du L p) (b9 L p) p.mode (cz L p)=0))=false->n=n/\(2=(aJ L n p).out/\du L p=(aJ L n p).proc
  /\0=(aJ L n p).err/\0=(aJ L n p).ans.code/\ByteArray.mk (Array.mk [])=(aJ L n p).ans.data/\void=(aJ L n p).ans.k0/\void=(aJ L n p).ans.k1/\void=(aJ L n p).ans.k2/\
  false=(aJ L n p).wants)/\eN L (du L p) (b9 L p) p.mode (cz L p)=er L n p))/\((decide ((b9 L p).kind=6)||decide ((b9 L p).kind=7))=false->true=true/\aw
  (cz L p).data/\(aq L/\aw (cz L p).data)/\((di (gT L n p) (du L p)&&decide (gF (gT L n p) (du L p)=1))=true->(decide (p.mode=1)=true->true=true/\aw
  (bu L n (b9 L p) (cz L p)).data/\(aq (gT L n p)/\aw (bu L n (b9 L p) (cz L p)).data)/\n=n/\(4=(aJ L n p).out/\du L p=(aJ L n p).proc/\0=(aJ L n
  p).err/\(bu L n (b9 L p) (cz L p)).code=(aJ L n p).ans.code/\(bu L n (b9 L p) (cz L p)).data=(aJ L n p).ans.data/\(bu L n (b9 L p) (cz L p)).k0=(aJ L n
  p).ans.k0/\(bu L n (b9 L p) (cz L p)).k1=(aJ L n p).ans.k1/\(bu L n (b9 L p) (cz L p)).k2=(aJ L n p).ans.k2/\ij L n (b9 L p) (cz L p)=(aJ L n p).wants)/\
  jF (gT L n p) (du L p) (bu L n (b9 L p) (cz L p))=er L n p)/\(decide (p.mode=1)=false->(decide (p.mode=3)=true->true=true/\aq (gT L n p)/\n=n/\(4=(aJ
  L n p).out/\du L p=(aJ L n p).proc/\0=(aJ L n p).err/\(bu L n (b9 L p) (cz L p)).code=(aJ L n p).ans.code/\(bu L n (b9 L p) (cz L p)).data=(aJ L n
  p).ans.data/\(bu L n (b9 L p) (cz L p)).k0=(aJ L n p).ans.k0/\(bu L n (b9 L p) (cz L p)).k1=(aJ L n p).ans.k1/\(bu L n (b9 L p) (cz L p)).k2=(aJ L n
  p).ans.k2/\ij L n (b9 L p) (cz L p)=(aJ L n p).wants)/\gZ (gT L n p) (du L p) 0=er L n p)/\(decide (p.mode=3)=false->n=n/\(4=(aJ L n p).out/\du L p=
  (aJ L n p).proc/\0=(aJ L n p).err/\(bu L n (b9 L p) (cz L p)).code=(aJ L n p).ans.code/\(bu L n (b9 L p) (cz L p)).data=(aJ L n p).ans.data/\(bu L n (b9 L
  p) (cz L p)).k0=(aJ L n p).ans.k0/\(bu L n (b9 L p) (cz L p)).k1=(aJ L n p).ans.k1/\(bu L n (b9 L p) (cz L p)).k2=(aJ L n p).ans.k2/\ij L n (b9 L p) (cz
  L p)=(aJ L n p).wants)/\gT L n p=er L n p)))/\((di (gT L n p) (du L p)&&decide (gF (gT L n p) (du L p)=1))=false->n=n/\(4=(aJ L n p).out/\du L p=
  (aJ L n p).proc/\0=(aJ L n p).err/\(bu L n (b9 L p) (cz L p)).code=(aJ L n p).ans.code/\(bu L n (b9 L p) (cz L p)).data=(aJ L n p).ans.data/\(bu L n (b9 L
  p) (cz L p)).k0=(aJ L n p).ans.k0/\(bu L n (b9 L p) (cz L p)).k1=(aJ L n p).ans.k1/\(bu L n (b9 L p) (cz L p)).k2=(aJ L n p).ans.k2/\ij L n (b9 L p) (cz
  L p)=(aJ L n p).wants)/\gT L n p=er L n p)))):=by
 obtain⟨⟨hL,hs,hn⟩,hr,hk⟩:=hq;obtain⟨hm,⟨r0,r1⟩,hsd⟩:=F9 hr hk;have nk2:¬p.kind=2:=by omega
 have hnn:bH (ak (eJ L))=(ak (eJ L):Int):=rfl;refine⟨rfl,Hj hL,fun h=>by simp at h,fun _=>⟨fun h=>?_,fun h=>?_⟩⟩
 ·have h0:ak (eJ L)=0:=by have:=Xs h;rw[hnn]at this;omega
  have e1:aJ L n p=⟨1,0,0,dS,false⟩:=by unfold aJ;rw[Xv hr,Xu nk2,Xv h0]
  have e2:er L n p=L:=by unfold er;rw[Xu (fun h=>h.2.2 h0)]
  rw[e1,e2];exact⟨rfl,(by(repeat' apply And.intro)<;>rfl),rfl⟩
 have h0:¬ak (eJ L)=0:=by have:=Xr h;rw[hnn]at this;omega
 obtain⟨f1,f2,f3,f4⟩:=Gy (p:=p) hL h0
 have eD:aJ L n p=if sk L p=true then(if b8 L (du L p) (b9 L p) p.mode (cz L p)=0 then⟨2,du L p,0,dS,false⟩else⟨3,du L p,b8 L (du L p) (b9 L p) p.mode (cz L p),dS,false⟩)
   else⟨4,du L p,0,bu L n (b9 L p) (cz L p),ij L n (b9 L p) (cz L p)⟩:=by unfold aJ;rw[Xv hr,Xu nk2,Xu h0]
 have eL:er L n p=if sk L p=true then eN L (du L p) (b9 L p) p.mode (cz L p)else Bc L n p:=by unfold er;rw[Xv ⟨hr,nk2,h0⟩]
 have h1:aq (gT L n p):=KN hL;rw[hnn];refine⟨⟨f2,by simp only[aL,cg];omega⟩,by simp only[aL,cg];omega,⟨f2,by simp only[aL,cg];omega⟩,f4,by omega,by simp only[aL,cg];omega,⟨by omega,by omega⟩,hsd,fun hc=>?_,fun hc=>?_⟩
 ·have hC:sk L p=true:=hc;rw[eD,eL,Xv hC,Xv hC];refine⟨rfl,hs,⟨hL,hs⟩,fun he=>?_,fun he=>?_⟩
  ·have he:¬b8 L (du L p) (b9 L p) p.mode (cz L p)=0:=by simpa using he
   rw[Xu he];exact⟨rfl,(by(repeat' apply And.intro)<;>rfl),rfl⟩
  ·have he:b8 L (du L p) (b9 L p) p.mode (cz L p)=0:=by simpa using he
   rw[Xv he];exact⟨rfl,(by(repeat' apply And.intro)<;>rfl),rfl⟩
 ·have hC:¬sk L p=true:=by
   have:sk L p=false:=hc;rw[this];simp
  rw[eD,eL,Xu hC,Xu hC]
  have e2:Bc L n p=if di (gT L n p) (du L p)=true/\gF (gT L n p) (du L p)=1 then
    if p.mode=1 then jF (gT L n p) (du L p) (bu L n (b9 L p) (cz L p))else if p.mode=3 then gZ (gT L n p) (du L p) 0 else gT L n p
   else gT L n p:=rfl
  refine⟨rfl,hs,⟨hL,hs⟩,fun hb=>⟨fun h1'=>?_,fun h1'=>⟨fun h3=>?_,fun h3=>?_⟩⟩,fun hb=>?_⟩
  all_goals simp only[Xo,Bool.and_eq_false_iff,Xp,decide_eq_false_iff_not]at hb
  ·rw[e2,Xv hb,Xv (Xs h1')];exact⟨rfl,Ek,⟨h1,Ek⟩,rfl,(by(repeat' apply And.intro)<;>rfl),rfl⟩
  ·rw[e2,Xv hb,Xu (Xr h1'),Xv (Xs h3)];exact⟨rfl,h1,rfl,(by(repeat' apply And.intro)<;>rfl),rfl⟩
  ·rw[e2,Xv hb,Xu (Xr h1'),Xu (Xr h3)];exact⟨rfl,(by(repeat' apply And.intro)<;>rfl),rfl⟩
  ·rw[e2,Xu (fun h=>by rcases hb with hb|hb;rw[h.1]at hb;simp at hb;exact hb h.2)]
   exact⟨rfl,(by(repeat' apply And.intro)<;>rfl),rfl⟩
theorem NA:oU Tryz.prog 38 Sb:=KW (fun _ _ _=>rfl) fun L n p hq=>bK (inl:=bS) (ann:=aO) (ab OO (ab eG (ab fQ (ab pD an)))) (aC Sv (aC RW (aC UA (aC R3 (aC Kt az))))) (Pq L n p hq) (by kernel_rfl)
theorem M8 (L:List Sx.Obj) (n:Int) (p:ke) (hq:U9 L n p):
 true=true/\(aw p.data/\gH n)/\((!eu p n)=true->n=me n p/\(0=(aJ L n p).out/\0=(aJ L n p).proc/\0=(aJ L n p).err/\0=(aJ L n p).ans.code/\ByteArray.mk
  (Array.mk [])=(aJ L n p).ans.data/\void=(aJ L n p).ans.k0/\void=(aJ L n p).ans.k1/\void=(aJ L n p).ans.k2/\false=(aJ L n p).wants/\2=mz n p)/\L=er L n p)/\
  ((!eu p n)=false->((decide (p.kind=1)=true->true=true/\((aq L/\aw p.data/\gH n)/\eu p n=true/\p.kind=1)/\n=me n p/\((aJ L n p).out=(aJ L n p).out/\
  (aJ L n p).proc=(aJ L n p).proc/\(aJ L n p).err=(aJ L n p).err/\(aJ L n p).ans.code=(aJ L n p).ans.code/\(aJ L n p).ans.data=(aJ L n p).ans.data/\(aJ L n
  p).ans.k0=(aJ L n p).ans.k0/\(aJ L n p).ans.k1=(aJ L n p).ans.k1/\(aJ L n p).ans.k2=(aJ L n p).ans.k2/\(aJ L n p).wants=(aJ L n p).wants/\0=mz n p)/\er L n p=
  er L n p)/\(decide (p.kind=1)=false->(decide (p.kind=2)=true->true=true/\aL IntKind.i64 (n+p.val)/\n+p.val=me n p/\(5=(aJ L n p).out/\0=(aJ L n p).proc/\0=
  (aJ L n p).err/\0=(aJ L n p).ans.code/\ByteArray.mk (Array.mk [])=(aJ L n p).ans.data/\void=(aJ L n p).ans.k0/\void=(aJ L n p).ans.k1/\void=(aJ L n p).ans.k2/\false=
  (aJ L n p).wants/\0=mz n p)/\L=er L n p)/\(decide (p.kind=2)=false->False)))/\(decide (p.kind=2)=true->true=true/\aL IntKind.i64 (n+p.val)/\n+p.val=me n p/\(5
  =(aJ L n p).out/\0=(aJ L n p).proc/\0=(aJ L n p).err/\0=(aJ L n p).ans.code/\ByteArray.mk (Array.mk [])=(aJ L n p).ans.data/\void=(aJ L n p).ans.k0/\void=(aJ L n
  p).ans.k1/\void=(aJ L n p).ans.k2/\false=(aJ L n p).wants/\0=mz n p)/\L=er L n p)/\(decide (p.kind=2)=false->(decide (p.kind=1)=true->true=true/\((aq L/\
  aw p.data/\gH n)/\eu p n=true/\p.kind=1)/\n=me n p/\((aJ L n p).out=(aJ L n p).out/\(aJ L n p).proc=(aJ L n p).proc/\(aJ L n p).err=(aJ L n p).err/\
  (aJ L n p).ans.code=(aJ L n p).ans.code/\(aJ L n p).ans.data=(aJ L n p).ans.data/\(aJ L n p).ans.k0=(aJ L n p).ans.k0/\(aJ L n p).ans.k1=(aJ L n p).ans.k1/\(aJ L
  n p).ans.k2=(aJ L n p).ans.k2/\(aJ L n p).wants=(aJ L n p).wants/\0=mz n p)/\er L n p=er L n p)/\(decide (p.kind=1)=false->False))):=by
 obtain⟨hL,hs,hn⟩:=hq
 have ht:eu p n=true->p.kind=2->aL IntKind.i64 (n+p.val):=fun hr hk=>by
  unfold eu at hr;rw[Xv hk]at hr;simp only[Xo,Xp]at hr;unfold gH at hn;simp only[aL,cg];omega
 refine⟨rfl,⟨hs,hn⟩,fun hr=>?_,fun hr=>?_⟩
 ·have hr:eu p n=false:=by simpa using hr
  have e1:me n p=n:=by unfold me;rw[Xu (by simp[hr])]
  have e2:aJ L n p=WZ:=by unfold aJ;rw[Xu (by simp[hr])]
  have e3:mz n p=2:=by unfold mz;rw[Xu (by simp[hr])]
  have e4:er L n p=L:=by unfold er;rw[Xu (by simp[hr])]
  rw[e1,e2,e3,e4];(repeat' apply And.intro)<;>rfl
 have hr:eu p n=true:=by simpa using hr
 have e3:mz n p=0:=by unfold mz;rw[Xv hr]
 have one:∀h1:p.kind=1,me n p=n:=fun h1=>by unfold me;rw[Xu (by omega)]
 have two:∀h2:p.kind=2,me n p=n+p.val/\aJ L n p=⟨5,0,0,dS,false⟩/\er L n p=L:=fun h2=>by
  refine⟨?_,?_,?_⟩
  ·unfold me;rw[Xv ⟨hr,h2⟩]
  ·unfold aJ;rw[Xv hr,Xv h2]
  ·unfold er;rw[Xu (fun h=>h.2.1 h2)]
 have bad:¬p.kind=1->¬p.kind=2->False:=fun h1 h2=>by
  unfold eu at hr;rw[Xu h2]at hr;simp[h1]at hr
 refine⟨⟨fun h1=>?_,fun h1=>⟨fun h2=>?_,fun h2=>?_⟩⟩,⟨fun h2=>?_,fun h2=>⟨fun h1=>?_,fun h1=>?_⟩⟩⟩
 ·have h1:=Xs h1;refine⟨rfl,⟨⟨hL,hs,hn⟩,hr,h1⟩,(one h1).symm,?_,rfl⟩;(repeat' apply And.intro)<;>first|rfl|exact e3.symm
 ·have h2:=Xs h2;obtain⟨a,b,c⟩:=two h2;rw[a,b,c,e3];exact⟨rfl,ht hr h2,rfl,(by(repeat' apply And.intro)<;>rfl),rfl⟩
 ·exact(bad (Xr h1) (Xr h2)).elim
 ·have h2:=Xs h2;obtain⟨a,b,c⟩:=two h2;rw[a,b,c,e3];exact⟨rfl,ht hr h2,rfl,(by(repeat' apply And.intro)<;>rfl),rfl⟩
 ·have h1:=Xs h1;refine⟨rfl,⟨⟨hL,hs,hn⟩,hr,h1⟩,(one h1).symm,?_,rfl⟩;(repeat' apply And.intro)<;>first|rfl|exact e3.symm
 ·exact(bad (Xr h1) (Xr h2)).elim
theorem EM:oU Tryz.prog 19 Rl:=KW (fun _ _ _=>rfl) fun L n p hq=>bK (inl:=(fun f=>f==32||f==39)) (ann:=aO) (ab Hb an) (aC NA az) (M8 L n p hq) (by kernel_rfl)
end Go.Proofs.YtlblcfaclmpekaaGreat
