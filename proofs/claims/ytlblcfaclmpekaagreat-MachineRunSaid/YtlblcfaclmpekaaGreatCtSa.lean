import Derived.Test.YtlblcfaclmpekaaGreatCtRc
import Derived.Test.YtlblcfaclmpekaaGreatCtQe
import Derived.Test.YtlblcfaclmpekaaGreatSpMb
set_option linter.unusedSimpArgs false
set_option linter.unusedVariables false
namespace Go.Proofs.YtlblcfaclmpekaaGreat
open Go.Sx
set_option maxRecDepth 100000
theorem Fb (p:k7) (n:Int) (hs:aw p.data) (hn:gF n):
 (decide (p.kind=2)=true->((decide (0<=p.val)&&decide (p.val<=1099511627776))=true->aM IntKind.i64 (4611686018427387904-p.val))/\(decide (0<=p.val)&&decide (p.val<=1099511627776)&&
  decide (n<=4611686018427387904-p.val))=dO p n)/\(decide (p.kind=2)=false->((!(!decide (p.kind=1)||decide (p.mode<1)||decide (3<p.mode)))=true->aM IntKind.i64 (cC p.data))
  /\((!decide (p.kind=1)||decide (p.mode<1)||decide (3<p.mode)||decide (32<cC p.data))=true->false=dO p n)/\((!decide (p.kind=1)||decide (p.mode<1)||decide (3<p.mode)||
  decide (32<cC p.data))=false->true=true/\((!(decide (0<=p.reg)&&decide (p.reg<12)))=true->false=dO p n)/\((!(decide (0<=p.reg)&&decide (p.reg<12)))=false->((!decide (p.s0
  = -1))=true->true=true/\((!(decide (0<=p.s0)&&decide (p.s0<12)))=true->false=dO p n)/\((!(decide (0<=p.s0)&&decide (p.s0<12)))=false->((!decide (p.s1= -1))=true->true=
  true/\((!(decide (0<=p.s1)&&decide (p.s1<12)))=true->false=dO p n)/\((!(decide (0<=p.s1)&&decide (p.s1<12)))=false->((!decide (p.s2= -1))=true->true=true/\((!(decide (0<=
  p.s2)&&decide (p.s2<12)))=true->false=dO p n)/\((!(decide (0<=p.s2)&&decide (p.s2<12)))=false->true=dO p n))/\((!decide (p.s2= -1))=false->true=dO p n)))/\((!decide
  (p.s1= -1))=false->((!decide (p.s2= -1))=true->true=true/\((!(decide (0<=p.s2)&&decide (p.s2<12)))=true->false=dO p n)/\((!(decide (0<=p.s2)&&decide (p.s2<12)))=false->
  true=dO p n))/\((!decide (p.s2= -1))=false->true=dO p n))))/\((!decide (p.s0= -1))=false->((!decide (p.s1= -1))=true->true=true/\((!(decide (0<=p.s1)&&decide (p.s1<12)))
  =true->false=dO p n)/\((!(decide (0<=p.s1)&&decide (p.s1<12)))=false->((!decide (p.s2= -1))=true->true=true/\((!(decide (0<=p.s2)&&decide (p.s2<12)))=true->false=dO
  p n)/\((!(decide (0<=p.s2)&&decide (p.s2<12)))=false->true=dO p n))/\((!decide (p.s2= -1))=false->true=dO p n)))/\((!decide (p.s1= -1))=false->((!decide (p.s2= -1))=true
  ->true=true/\((!(decide (0<=p.s2)&&decide (p.s2<12)))=true->false=dO p n)/\((!(decide (0<=p.s2)&&decide (p.s2<12)))=false->true=dO p n))/\((!decide (p.s2= -1))=false->
  true=dO p n)))))):=by
 have hz:(b6 (aq ([]:List Int)))=0:=rfl;have h1:aM IntKind.i64 (cC p.data):=by unfold aw at hs;simp only[aM,cj,cC];omega
 have c0:gu p.s0=(decide (p.s0= -1)||(decide (0<=p.s0)&&decide (p.s0<12))):=rfl
 have c1:gu p.s1=(decide (p.s1= -1)||(decide (0<=p.s1)&&decide (p.s1<12))):=rfl
 have c2:gu p.s2=(decide (p.s2= -1)||(decide (0<=p.s2)&&decide (p.s2<12))):=rfl
 unfold dO;refine⟨fun hk=>⟨fun hv=>?_,?_⟩,fun hk=>⟨fun _=>h1,fun hb=>?_,fun hb=>⟨rfl,fun hr=>?_,fun hr=>?_⟩⟩⟩
 ·simp only[VG,VH]at hv;simp only[aM,cj];omega
 ·rw[VN (VK hk)]
 all_goals rw[VM (VJ hk),c0,c1,c2]
 ·simp only[Bool.or_eq_true,Bool.not_eq_true',VH,decide_eq_false_iff_not]at hb;symm
  simp only[Bool.and_eq_false_iff,decide_eq_false_iff_not];omega
 all_goals
  simp only[Bool.or_eq_false_iff,Bool.not_eq_false',VH,decide_eq_false_iff_not]at hb;obtain⟨⟨⟨b1,b2⟩,b3⟩,b4⟩:=hb;have e1:decide (p.kind=1)=true:=decide_eq_true b1;have e2:decide (1<=p.mode)=true:=decide_eq_true (by omega)
  have e3:decide (p.mode<=3)=true:=decide_eq_true (by omega)
  have e4:decide (cC p.data<=32)=true:=decide_eq_true (by omega)
  have cr:wv p.reg=(decide (0<=p.reg)&&decide (p.reg<12)):=rfl;rw[e1,e2,e3,e4,cr];generalize (decide (0<=p.reg)&&decide (p.reg<12))=r at *
  generalize (decide (0<=p.s0)&&decide (p.s0<12))=a0 at *
  generalize (decide (0<=p.s1)&&decide (p.s1<12))=a1 at *
  generalize (decide (0<=p.s2)&&decide (p.s2<12))=a2 at *
  generalize decide (p.s0= -1)=d0 at *
  generalize decide (p.s1= -1)=d1 at *
  generalize decide (p.s2= -1)=d2 at *
  clear c0 c1 c2 cr;revert hr
  cases r<;>cases a0<;>cases a1<;>cases a2<;>cases d0<;>cases d1<;>cases d2<;>simp
theorem GG:dC Tryz.prog 37 Ji:=
 jY (aN JX (aN fN dX)) (fun _=>rfl) fun a hq hok=>by
  obtain⟨x,n,_⟩:=a;exact bu (inl:=(fun f=>f==56)) (ann:=(kV [(37,6,Rb 4)])) au (Fb (Ga x) n hq.1 hq.2) (by kernel_rfl)
theorem LA (o:Sx.Obj) (p:k7) (h0:gu p.s0=true) (h1:gu p.s1=true) (h2:gu p.s2=true):
 true=true/\(decide (p.s0<0)=true->true=true/\(decide (p.s1<0)=true->true=true/\(decide (p.s2<0)=true->(p.num=true->p.code=(bp o p).code/\p.data=(bp o p).data/\
  void=(bp o p).k0/\void=(bp o p).k1/\Key.mk 1 void.oid void.count void.call void.rights p.val=(bp o p).k2)/\(p.num=false->p.code=(bp o p).code/\p.data=(bp o p).data/\
  void=(bp o p).k0/\void=(bp o p).k1/\void=(bp o p).k2))/\(decide (p.s2<0)=false->aM IntKind.i64 (4+p.s2)/\(0<=4+p.s2/\4+p.s2< ↑16)/\(p.num=true->p.code=(bp o
  p).code/\p.data=(bp o p).data/\void=(bp o p).k0/\void=(bp o p).k1/\Key.mk 1 void.oid void.count void.call void.rights p.val=(bp o p).k2)/\(p.num=false->p.code=(bp o
  p).code/\p.data=(bp o p).data/\void=(bp o p).k0/\void=(bp o p).k1/\o.slots.at (4+p.s2).toNat=(bp o p).k2)))/\(decide (p.s1<0)=false->aM IntKind.i64 (4+p.s1)/\(0<=4
  +p.s1/\4+p.s1< ↑16)/\true=true/\(decide (p.s2<0)=true->(p.num=true->p.code=(bp o p).code/\p.data=(bp o p).data/\void=(bp o p).k0/\o.slots.at (4+p.s1).toNat=(bp
  o p).k1/\Key.mk 1 void.oid void.count void.call void.rights p.val=(bp o p).k2)/\(p.num=false->p.code=(bp o p).code/\p.data=(bp o p).data/\void=(bp o p).k0/\o.slots.at (4+
  p.s1).toNat=(bp o p).k1/\void=(bp o p).k2))/\(decide (p.s2<0)=false->aM IntKind.i64 (4+p.s2)/\(0<=4+p.s2/\4+p.s2< ↑16)/\(p.num=true->p.code=(bp o p).code/\p.data
  =(bp o p).data/\void=(bp o p).k0/\o.slots.at (4+p.s1).toNat=(bp o p).k1/\Key.mk 1 void.oid void.count void.call void.rights p.val=(bp o p).k2)/\(p.num=false->p.code=(bp
  o p).code/\p.data=(bp o p).data/\void=(bp o p).k0/\o.slots.at (4+p.s1).toNat=(bp o p).k1/\o.slots.at (4+p.s2).toNat=(bp o p).k2))))/\(decide (p.s0<0)=false->aM
  IntKind.i64 (4+p.s0)/\(0<=4+p.s0/\4+p.s0< ↑16)/\true=true/\(decide (p.s1<0)=true->true=true/\(decide (p.s2<0)=true->(p.num=true->p.code=(bp o p).code/\p.data=
  (bp o p).data/\o.slots.at (4+p.s0).toNat=(bp o p).k0/\void=(bp o p).k1/\Key.mk 1 void.oid void.count void.call void.rights p.val=(bp o p).k2)/\(p.num=false->p.code=(bp o
  p).code/\p.data=(bp o p).data/\o.slots.at (4+p.s0).toNat=(bp o p).k0/\void=(bp o p).k1/\void=(bp o p).k2))/\(decide (p.s2<0)=false->aM IntKind.i64 (4+p.s2)/\(0<=4
  +p.s2/\4+p.s2< ↑16)/\(p.num=true->p.code=(bp o p).code/\p.data=(bp o p).data/\o.slots.at (4+p.s0).toNat=(bp o p).k0/\void=(bp o p).k1/\Key.mk 1 void.oid void.count
  void.call void.rights p.val=(bp o p).k2)/\(p.num=false->p.code=(bp o p).code/\p.data=(bp o p).data/\o.slots.at (4+p.s0).toNat=(bp o p).k0/\void=(bp o p).k1/\
  o.slots.at (4+p.s2).toNat=(bp o p).k2)))/\(decide (p.s1<0)=false->aM IntKind.i64 (4+p.s1)/\(0<=4+p.s1/\4+p.s1< ↑16)/\true=true/\(decide (p.s2<0)=true->(p.num=true->
  p.code=(bp o p).code/\p.data=(bp o p).data/\o.slots.at (4+p.s0).toNat=(bp o p).k0/\o.slots.at (4+p.s1).toNat=(bp o p).k1/\Key.mk 1 void.oid void.count void.call void.rights
  p.val=(bp o p).k2)/\(p.num=false->p.code=(bp o p).code/\p.data=(bp o p).data/\o.slots.at (4+p.s0).toNat=(bp o p).k0/\o.slots.at (4+p.s1).toNat=(bp o p).k1/\void=
  (bp o p).k2))/\(decide (p.s2<0)=false->aM IntKind.i64 (4+p.s2)/\(0<=4+p.s2/\4+p.s2< ↑16)/\(p.num=true->p.code=(bp o p).code/\p.data=(bp o p).data/\o.slots.at (4+
  p.s0).toNat=(bp o p).k0/\o.slots.at (4+p.s1).toNat=(bp o p).k1/\Key.mk 1 void.oid void.count void.call void.rights p.val=(bp o p).k2)/\(p.num=false->p.code=(bp o p).code/\
  p.data=(bp o p).data/\o.slots.at (4+p.s0).toNat=(bp o p).k0/\o.slots.at (4+p.s1).toNat=(bp o p).k1/\o.slots.at (4+p.s2).toNat=(bp o p).k2)))):=by
 have key:∀s,gu s=true->s<0\/(¬s<0/\aM IntKind.i64 (4+s)/\(0<=4+s/\4+s<16)):=fun s hs=>by
  unfold gu wv at hs;simp only[Bool.or_eq_true,VG,VH]at hs;simp only[aM,cj];omega
 have hq:c8 p.val=Key.mk 1 void.oid void.count void.call void.rights p.val:=rfl;unfold bp DY;rw[hq]
 rcases key p.s0 h0 with a0|⟨a0,f0,g0,i0⟩<;>rcases key p.s1 h1 with a1|⟨a1,f1,g1,i1⟩<;>rcases key p.s2 h2 with a2|⟨a2,f2,g2,i2⟩<;>cases hn:p.num<;>simp only[*,decide_true,decide_false,if_true,if_false,true_and,and_true,and_self,Bool.false_eq_true,Bool.true_eq_false,false_implies,true_implies,implies_true,reduceCtorEq]<;>(repeat' apply And.intro)<;>omega
theorem NP:dC Tryz.prog 59 P0:=
 jY (aN O5 JL) (fun _=>rfl) fun a hq hok=>by
  obtain⟨o,x,_⟩:=a;exact bu (inl:=(fun f=>f==89)) (ann:=(kV [(59,4,Rb 4)])) au (LA o (Ga x) hq.1 hq.2.1 hq.2.2) (by kernel_rfl)
theorem OB (L:List Sx.Obj) (n:Int) (p:k7) (hq:TO L n p/\dO p n=true/\p.kind=1):
 true=true/\jb L/\(true=false->False)/\(true=true->(decide (b6 (aq (eJ L))=0)=true->n=n/\(1=(aK L n p).out/\0=(aK L n p).proc/\0=(aK L n p).err/\0=
  (aK L n p).ans.code/\ByteArray.mk (Array.mk [])=(aK L n p).ans.data/\void=(aK L n p).ans.k0/\void=(aK L n p).ans.k1/\void=(aK L n p).ans.k2/\false=(aK L n p).wants)/\L
  =eu L n p)/\(decide (b6 (aq (eJ L))=0)=false->(Eb (b6 (aq (eJ L)))/\aM IntKind.i64 (p.proc.tmod (b6 (aq (eJ L)))))/\aM IntKind.i64 (p.proc.tmod (b6 (aq (eJ L)))
  +b6 (aq (eJ L)))/\(Eb (b6 (aq (eJ L)))/\aM IntKind.i64 ((p.proc.tmod (b6 (aq (eJ L)))+b6 (aq (eJ L))).tmod (b6 (aq (eJ L)))))/\(0<=(p.proc.tmod (b6 (aq (eJ
  L)))+b6 (aq (eJ L))).tmod (b6 (aq (eJ L)))/\(p.proc.tmod (b6 (aq (eJ L)))+b6 (aq (eJ L))).tmod (b6 (aq (eJ L)))< ↑(aq (eJ L)))/\((p.proc.tmod (b6 (aq (eJ
  L)))+b6 (aq (eJ L))).tmod (b6 (aq (eJ L)))).toNat<aq (eJ L)/\aM IntKind.i64 (4+p.reg)/\(0<=4+p.reg/\4+p.reg< ↑16)/\(gu p.s0=true/\gu p.s1=true/\gu
  p.s2=true)/\((decide ((cE L p).kind=6)||decide ((cE L p).kind=7))=true->true=true/\aw (cJ L p).data/\(ar L/\aw (cJ L p).data)/\((!decide (cD L (dT L p)
  (cE L p) p.mode (cJ L p)=0))=true->n=n/\(3=(aK L n p).out/\dT L p=(aK L n p).proc/\cD L (dT L p) (cE L p) p.mode (cJ L p)=(aK L n p).err/\0=(aK L n
  p).ans.code/\ByteArray.mk (Array.mk [])=(aK L n p).ans.data/\void=(aK L n p).ans.k0/\void=(aK L n p).ans.k1/\void=(aK L n p).ans.k2/\false=(aK L n p).wants)/\fz L
  (dT L p) (cE L p) p.mode (cJ L p)=eu L n p)/\((!decide (cD L (dT L p) (cE L p) p.mode (cJ L p)=0))=false->n=n/\(2=(aK L n p).out/\dT L p=(aK L n p).proc
  /\0=(aK L n p).err/\0=(aK L n p).ans.code/\ByteArray.mk (Array.mk [])=(aK L n p).ans.data/\void=(aK L n p).ans.k0/\void=(aK L n p).ans.k1/\void=(aK L n p).ans.k2/\
  false=(aK L n p).wants)/\fz L (dT L p) (cE L p) p.mode (cJ L p)=eu L n p))/\((decide ((cE L p).kind=6)||decide ((cE L p).kind=7))=false->true=true/\aw
  (cJ L p).data/\(ar L/\aw (cJ L p).data)/\((dc (gZ L n p) (dT L p)&&decide (gE (gZ L n p) (dT L p)=1))=true->(decide (p.mode=1)=true->true=true/\aw
  (bE L n (cE L p) (cJ L p)).data/\(ar (gZ L n p)/\aw (bE L n (cE L p) (cJ L p)).data)/\n=n/\(4=(aK L n p).out/\dT L p=(aK L n p).proc/\0=(aK L n
  p).err/\(bE L n (cE L p) (cJ L p)).code=(aK L n p).ans.code/\(bE L n (cE L p) (cJ L p)).data=(aK L n p).ans.data/\(bE L n (cE L p) (cJ L p)).k0=(aK L n
  p).ans.k0/\(bE L n (cE L p) (cJ L p)).k1=(aK L n p).ans.k1/\(bE L n (cE L p) (cJ L p)).k2=(aK L n p).ans.k2/\iv L n (cE L p) (cJ L p)=(aK L n p).wants)/\
  j7 (gZ L n p) (dT L p) (bE L n (cE L p) (cJ L p))=eu L n p)/\(decide (p.mode=1)=false->(decide (p.mode=3)=true->true=true/\ar (gZ L n p)/\n=n/\(4=(aK
  L n p).out/\dT L p=(aK L n p).proc/\0=(aK L n p).err/\(bE L n (cE L p) (cJ L p)).code=(aK L n p).ans.code/\(bE L n (cE L p) (cJ L p)).data=(aK L n
  p).ans.data/\(bE L n (cE L p) (cJ L p)).k0=(aK L n p).ans.k0/\(bE L n (cE L p) (cJ L p)).k1=(aK L n p).ans.k1/\(bE L n (cE L p) (cJ L p)).k2=(aK L n
  p).ans.k2/\iv L n (cE L p) (cJ L p)=(aK L n p).wants)/\iw (gZ L n p) (dT L p) 0=eu L n p)/\(decide (p.mode=3)=false->n=n/\(4=(aK L n p).out/\dT L p=
  (aK L n p).proc/\0=(aK L n p).err/\(bE L n (cE L p) (cJ L p)).code=(aK L n p).ans.code/\(bE L n (cE L p) (cJ L p)).data=(aK L n p).ans.data/\(bE L n (cE L
  p) (cJ L p)).k0=(aK L n p).ans.k0/\(bE L n (cE L p) (cJ L p)).k1=(aK L n p).ans.k1/\(bE L n (cE L p) (cJ L p)).k2=(aK L n p).ans.k2/\iv L n (cE L p) (cJ
  L p)=(aK L n p).wants)/\gZ L n p=eu L n p)))/\((dc (gZ L n p) (dT L p)&&decide (gE (gZ L n p) (dT L p)=1))=false->n=n/\(4=(aK L n p).out/\dT L p=
  (aK L n p).proc/\0=(aK L n p).err/\(bE L n (cE L p) (cJ L p)).code=(aK L n p).ans.code/\(bE L n (cE L p) (cJ L p)).data=(aK L n p).ans.data/\(bE L n (cE L
  p) (cJ L p)).k0=(aK L n p).ans.k0/\(bE L n (cE L p) (cJ L p)).k1=(aK L n p).ans.k1/\(bE L n (cE L p) (cJ L p)).k2=(aK L n p).ans.k2/\iv L n (cE L p) (cJ
  L p)=(aK L n p).wants)/\gZ L n p=eu L n p)))):=by
 obtain⟨⟨hL,hs,hn⟩,hr,hk⟩:=hq;obtain⟨hm,⟨r0,r1⟩,hsd⟩:=GD hr hk;have nk2:¬p.kind=2:=by omega
 have hnn:b6 (aq (eJ L))=(aq (eJ L):Int):=rfl;refine⟨rfl,E6 hL,fun h=>by simp at h,fun _=>⟨fun h=>?_,fun h=>?_⟩⟩
 ·have h0:aq (eJ L)=0:=by have:=VK h;rw[hnn]at this;omega
  have e1:aK L n p=⟨1,0,0,ee,false⟩:=by unfold aK;rw[VN hr,VM nk2,VN h0]
  have e2:eu L n p=L:=by unfold eu;rw[VM (fun h=>h.2.2 h0)]
  rw[e1,e2];exact⟨rfl,(by(repeat' apply And.intro)<;>rfl),rfl⟩
 have h0:¬aq (eJ L)=0:=by have:=VJ h;rw[hnn]at this;omega
 obtain⟨f1,f2,f3,f4⟩:=Fg (p:=p) hL h0
 have eD:aK L n p=if wX L p=true then(if cD L (dT L p) (cE L p) p.mode (cJ L p)=0 then⟨2,dT L p,0,ee,false⟩else⟨3,dT L p,cD L (dT L p) (cE L p) p.mode (cJ L p),ee,false⟩)
   else⟨4,dT L p,0,bE L n (cE L p) (cJ L p),iv L n (cE L p) (cJ L p)⟩:=by unfold aK;rw[VN hr,VM nk2,VM h0]
 have eL:eu L n p=if wX L p=true then fz L (dT L p) (cE L p) p.mode (cJ L p)else Ei L n p:=by unfold eu;rw[VN ⟨hr,nk2,h0⟩]
 have h1:ar (gZ L n p):=Hw hL;rw[hnn];refine⟨⟨f2,by simp only[aM,cj];omega⟩,by simp only[aM,cj];omega,⟨f2,by simp only[aM,cj];omega⟩,f4,by omega,by simp only[aM,cj];omega,⟨by omega,by omega⟩,hsd,fun hc=>?_,fun hc=>?_⟩
 ·have hC:wX L p=true:=hc;rw[eD,eL,VN hC,VN hC];refine⟨rfl,hs,⟨hL,hs⟩,fun he=>?_,fun he=>?_⟩
  ·have he:¬cD L (dT L p) (cE L p) p.mode (cJ L p)=0:=by simpa using he
   rw[VM he];exact⟨rfl,(by(repeat' apply And.intro)<;>rfl),rfl⟩
  ·have he:cD L (dT L p) (cE L p) p.mode (cJ L p)=0:=by simpa using he
   rw[VN he];exact⟨rfl,(by(repeat' apply And.intro)<;>rfl),rfl⟩
 ·have hC:¬wX L p=true:=by
   have:wX L p=false:=hc;rw[this];simp
  rw[eD,eL,VM hC,VM hC]
  have e2:Ei L n p=if dc (gZ L n p) (dT L p)=true/\gE (gZ L n p) (dT L p)=1 then
    if p.mode=1 then j7 (gZ L n p) (dT L p) (bE L n (cE L p) (cJ L p))else if p.mode=3 then iw (gZ L n p) (dT L p) 0 else gZ L n p
   else gZ L n p:=rfl
  refine⟨rfl,hs,⟨hL,hs⟩,fun hb=>⟨fun h1'=>?_,fun h1'=>⟨fun h3=>?_,fun h3=>?_⟩⟩,fun hb=>?_⟩
  all_goals simp only[VG,Bool.and_eq_false_iff,VH,decide_eq_false_iff_not]at hb
  ·rw[e2,VN hb,VN (VK h1')];exact⟨rfl,DW,⟨h1,DW⟩,rfl,(by(repeat' apply And.intro)<;>rfl),rfl⟩
  ·rw[e2,VN hb,VM (VJ h1'),VN (VK h3)];exact⟨rfl,h1,rfl,(by(repeat' apply And.intro)<;>rfl),rfl⟩
  ·rw[e2,VN hb,VM (VJ h1'),VM (VJ h3)];exact⟨rfl,(by(repeat' apply And.intro)<;>rfl),rfl⟩
  ·rw[e2,VM (fun h=>by rcases hb with hb|hb;rw[h.1]at hb;simp at hb;exact hb h.2)]
   exact⟨rfl,(by(repeat' apply And.intro)<;>rfl),rfl⟩
theorem NF:oP Tryz.prog 38 QF:=HI (fun _ _ _=>rfl) fun L n p hq=>bP (inl:=ca) (ann:=aR) (ab NP (ab eN (ab fR (ab pt au)))) (aE PI (aE Qv (aE SJ (aE Ps (aE Hn aA))))) (OB L n p hq) (by kernel_rfl)
theorem MJ (L:List Sx.Obj) (n:Int) (p:k7) (hq:TO L n p):
 true=true/\(aw p.data/\gF n)/\((!dO p n)=true->n=gA n p/\(0=(aK L n p).out/\0=(aK L n p).proc/\0=(aK L n p).err/\0=(aK L n p).ans.code/\ByteArray.mk
  (Array.mk [])=(aK L n p).ans.data/\void=(aK L n p).ans.k0/\void=(aK L n p).ans.k1/\void=(aK L n p).ans.k2/\false=(aK L n p).wants/\2=eT n p)/\L=eu L n p)/\
  ((!dO p n)=false->((decide (p.kind=1)=true->true=true/\((ar L/\aw p.data/\gF n)/\dO p n=true/\p.kind=1)/\n=gA n p/\((aK L n p).out=(aK L n p).out/\
  (aK L n p).proc=(aK L n p).proc/\(aK L n p).err=(aK L n p).err/\(aK L n p).ans.code=(aK L n p).ans.code/\(aK L n p).ans.data=(aK L n p).ans.data/\(aK L n
  p).ans.k0=(aK L n p).ans.k0/\(aK L n p).ans.k1=(aK L n p).ans.k1/\(aK L n p).ans.k2=(aK L n p).ans.k2/\(aK L n p).wants=(aK L n p).wants/\0=eT n p)/\eu L n p=
  eu L n p)/\(decide (p.kind=1)=false->(decide (p.kind=2)=true->true=true/\aM IntKind.i64 (n+p.val)/\n+p.val=gA n p/\(5=(aK L n p).out/\0=(aK L n p).proc/\0=
  (aK L n p).err/\0=(aK L n p).ans.code/\ByteArray.mk (Array.mk [])=(aK L n p).ans.data/\void=(aK L n p).ans.k0/\void=(aK L n p).ans.k1/\void=(aK L n p).ans.k2/\false=
  (aK L n p).wants/\0=eT n p)/\L=eu L n p)/\(decide (p.kind=2)=false->False)))/\(decide (p.kind=2)=true->true=true/\aM IntKind.i64 (n+p.val)/\n+p.val=gA n p/\(5
  =(aK L n p).out/\0=(aK L n p).proc/\0=(aK L n p).err/\0=(aK L n p).ans.code/\ByteArray.mk (Array.mk [])=(aK L n p).ans.data/\void=(aK L n p).ans.k0/\void=(aK L n
  p).ans.k1/\void=(aK L n p).ans.k2/\false=(aK L n p).wants/\0=eT n p)/\L=eu L n p)/\(decide (p.kind=2)=false->(decide (p.kind=1)=true->true=true/\((ar L/\
  aw p.data/\gF n)/\dO p n=true/\p.kind=1)/\n=gA n p/\((aK L n p).out=(aK L n p).out/\(aK L n p).proc=(aK L n p).proc/\(aK L n p).err=(aK L n p).err/\
  (aK L n p).ans.code=(aK L n p).ans.code/\(aK L n p).ans.data=(aK L n p).ans.data/\(aK L n p).ans.k0=(aK L n p).ans.k0/\(aK L n p).ans.k1=(aK L n p).ans.k1/\(aK L
  n p).ans.k2=(aK L n p).ans.k2/\(aK L n p).wants=(aK L n p).wants/\0=eT n p)/\eu L n p=eu L n p)/\(decide (p.kind=1)=false->False))):=by
 obtain⟨hL,hs,hn⟩:=hq
 have ht:dO p n=true->p.kind=2->aM IntKind.i64 (n+p.val):=fun hr hk=>by
  unfold dO at hr;rw[VN hk]at hr;simp only[VG,VH]at hr;unfold gF at hn;simp only[aM,cj];omega
 refine⟨rfl,⟨hs,hn⟩,fun hr=>?_,fun hr=>?_⟩
 ·have hr:dO p n=false:=by simpa using hr
  have e1:gA n p=n:=by unfold gA;rw[VM (by simp[hr])]
  have e2:aK L n p=U8:=by unfold aK;rw[VM (by simp[hr])]
  have e3:eT n p=2:=by unfold eT;rw[VM (by simp[hr])]
  have e4:eu L n p=L:=by unfold eu;rw[VM (by simp[hr])]
  rw[e1,e2,e3,e4];(repeat' apply And.intro)<;>rfl
 have hr:dO p n=true:=by simpa using hr
 have e3:eT n p=0:=by unfold eT;rw[VN hr]
 have one:∀h1:p.kind=1,gA n p=n:=fun h1=>by unfold gA;rw[VM (by omega)]
 have two:∀h2:p.kind=2,gA n p=n+p.val/\aK L n p=⟨5,0,0,ee,false⟩/\eu L n p=L:=fun h2=>by
  refine⟨?_,?_,?_⟩
  ·unfold gA;rw[VN ⟨hr,h2⟩]
  ·unfold aK;rw[VN hr,VN h2]
  ·unfold eu;rw[VM (fun h=>h.2.1 h2)]
 have bad:¬p.kind=1->¬p.kind=2->False:=fun h1 h2=>by
  unfold dO at hr;rw[VM h2]at hr;simp[h1]at hr
 refine⟨⟨fun h1=>?_,fun h1=>⟨fun h2=>?_,fun h2=>?_⟩⟩,⟨fun h2=>?_,fun h2=>⟨fun h1=>?_,fun h1=>?_⟩⟩⟩
 ·have h1:=VK h1;refine⟨rfl,⟨⟨hL,hs,hn⟩,hr,h1⟩,(one h1).symm,?_,rfl⟩;(repeat' apply And.intro)<;>first|rfl|exact e3.symm
 ·have h2:=VK h2;obtain⟨a,b,c⟩:=two h2;rw[a,b,c,e3];exact⟨rfl,ht hr h2,rfl,(by(repeat' apply And.intro)<;>rfl),rfl⟩
 ·exact(bad (VJ h1) (VJ h2)).elim
 ·have h2:=VK h2;obtain⟨a,b,c⟩:=two h2;rw[a,b,c,e3];exact⟨rfl,ht hr h2,rfl,(by(repeat' apply And.intro)<;>rfl),rfl⟩
 ·have h1:=VK h1;refine⟨rfl,⟨⟨hL,hs,hn⟩,hr,h1⟩,(one h1).symm,?_,rfl⟩;(repeat' apply And.intro)<;>first|rfl|exact e3.symm
 ·exact(bad (VJ h1) (VJ h2)).elim
theorem z7:oP Tryz.prog 19 QT:=HI (fun _ _ _=>rfl) fun L n p hq=>bP (inl:=(fun f=>f==32||f==39)) (ann:=aR) (ab GG au) (aE NF aA) (MJ L n p hq) (by kernel_rfl)
end Go.Proofs.YtlblcfaclmpekaaGreat
