import Derived.Test.YtlblcfaclmpekaaGreatCtRc
import Derived.Test.YtlblcfaclmpekaaGreatCtQe
import Derived.Test.YtlblcfaclmpekaaGreatSpMb
set_option linter.unusedSimpArgs false
set_option linter.unusedVariables false
namespace Go.Proofs.YtlblcfaclmpekaaGreat
open Go.Sx
set_option maxRecDepth 100000
theorem FD (p:kh) (n:Int) (hs:au p.data) (hn:jf n):
 (decide (p.kind=2)=true->((decide (0<=p.val)&&decide (p.val<=1099511627776))=true->aL IntKind.i64 (4611686018427387904-p.val))/\(decide (0<=p.val)&&decide (p.val<=1099511627776)&&
  decide (n<=4611686018427387904-p.val))=dU p n)/\(decide (p.kind=2)=false->((!(!decide (p.kind=1)||decide (p.mode<1)||decide (3<p.mode)))=true->aL IntKind.i64 (ca p.data))
  /\((!decide (p.kind=1)||decide (p.mode<1)||decide (3<p.mode)||decide (32<ca p.data))=true->false=dU p n)/\((!decide (p.kind=1)||decide (p.mode<1)||decide (3<p.mode)||
  decide (32<ca p.data))=false->true=true/\((!(decide (0<=p.reg)&&decide (p.reg<12)))=true->false=dU p n)/\((!(decide (0<=p.reg)&&decide (p.reg<12)))=false->((!decide (p.s0
  = -1))=true->true=true/\((!(decide (0<=p.s0)&&decide (p.s0<12)))=true->false=dU p n)/\((!(decide (0<=p.s0)&&decide (p.s0<12)))=false->((!decide (p.s1= -1))=true->true=
  true/\((!(decide (0<=p.s1)&&decide (p.s1<12)))=true->false=dU p n)/\((!(decide (0<=p.s1)&&decide (p.s1<12)))=false->((!decide (p.s2= -1))=true->true=true/\((!(decide (0<=
  p.s2)&&decide (p.s2<12)))=true->false=dU p n)/\((!(decide (0<=p.s2)&&decide (p.s2<12)))=false->true=dU p n))/\((!decide (p.s2= -1))=false->true=dU p n)))/\((!decide
  (p.s1= -1))=false->((!decide (p.s2= -1))=true->true=true/\((!(decide (0<=p.s2)&&decide (p.s2<12)))=true->false=dU p n)/\((!(decide (0<=p.s2)&&decide (p.s2<12)))=false->
  true=dU p n))/\((!decide (p.s2= -1))=false->true=dU p n))))/\((!decide (p.s0= -1))=false->((!decide (p.s1= -1))=true->true=true/\((!(decide (0<=p.s1)&&decide (p.s1<12)))
  =true->false=dU p n)/\((!(decide (0<=p.s1)&&decide (p.s1<12)))=false->((!decide (p.s2= -1))=true->true=true/\((!(decide (0<=p.s2)&&decide (p.s2<12)))=true->false=dU
  p n)/\((!(decide (0<=p.s2)&&decide (p.s2<12)))=false->true=dU p n))/\((!decide (p.s2= -1))=false->true=dU p n)))/\((!decide (p.s1= -1))=false->((!decide (p.s2= -1))=true
  ->true=true/\((!(decide (0<=p.s2)&&decide (p.s2<12)))=true->false=dU p n)/\((!(decide (0<=p.s2)&&decide (p.s2<12)))=false->true=dU p n))/\((!decide (p.s2= -1))=false->
  true=dU p n)))))):=by
 have hz:(dJ (ar ([]:List Int)))=0:=rfl;have h1:aL IntKind.i64 (ca p.data):=by unfold au at hs;simp only[aL,b7,ca];omega
 have c0:fV p.s0=(decide (p.s0= -1)||(decide (0<=p.s0)&&decide (p.s0<12))):=rfl
 have c1:fV p.s1=(decide (p.s1= -1)||(decide (0<=p.s1)&&decide (p.s1<12))):=rfl
 have c2:fV p.s2=(decide (p.s2= -1)||(decide (0<=p.s2)&&decide (p.s2<12))):=rfl
 unfold dU;refine⟨fun hk=>⟨fun hv=>?_,?_⟩,fun hk=>⟨fun _=>h1,fun hb=>?_,fun hb=>⟨rfl,fun hr=>?_,fun hr=>?_⟩⟩⟩
 ·simp only[US,UT]at hv;simp only[aL,b7];omega
 ·rw[U0 (UX hk)]
 all_goals rw[UZ (UW hk),c0,c1,c2]
 ·simp only[Bool.or_eq_true,Bool.not_eq_true',UT,decide_eq_false_iff_not]at hb;symm
  simp only[Bool.and_eq_false_iff,decide_eq_false_iff_not];omega
 all_goals
  simp only[Bool.or_eq_false_iff,Bool.not_eq_false',UT,decide_eq_false_iff_not]at hb;obtain⟨⟨⟨b1,b2⟩,b3⟩,b4⟩:=hb;have e1:decide (p.kind=1)=true:=decide_eq_true b1;have e2:decide (1<=p.mode)=true:=decide_eq_true (by omega)
  have e3:decide (p.mode<=3)=true:=decide_eq_true (by omega)
  have e4:decide (ca p.data<=32)=true:=decide_eq_true (by omega)
  have cr:vD p.reg=(decide (0<=p.reg)&&decide (p.reg<12)):=rfl;rw[e1,e2,e3,e4,cr];generalize (decide (0<=p.reg)&&decide (p.reg<12))=r at *
  generalize (decide (0<=p.s0)&&decide (p.s0<12))=a0 at *
  generalize (decide (0<=p.s1)&&decide (p.s1<12))=a1 at *
  generalize (decide (0<=p.s2)&&decide (p.s2<12))=a2 at *
  generalize decide (p.s0= -1)=d0 at *
  generalize decide (p.s1= -1)=d1 at *
  generalize decide (p.s2= -1)=d2 at *
  clear c0 c1 c2 cr;revert hr
  cases r<;>cases a0<;>cases a1<;>cases a2<;>cases d0<;>cases d1<;>cases d2<;>simp
theorem FR:dA Tryz.prog 37 HH:=
 jB (aK GB (aK fE dP)) (fun _=>rfl) fun a hq hok=>by
  obtain⟨x,n,_⟩:=a;exact bx (inl:=(fun f=>f==56)) (ann:=(kW [(37,6,Oo 4)])) aq (FD (Gf x) n hq.1 hq.2) (by kernel_rfl)
theorem LJ (o:Sx.Obj) (p:kh) (h0:fV p.s0=true) (h1:fV p.s1=true) (h2:fV p.s2=true):
 true=true/\(decide (p.s0<0)=true->true=true/\(decide (p.s1<0)=true->true=true/\(decide (p.s2<0)=true->(p.num=true->p.code=(bh o p).code/\p.data=(bh o p).data/\
  void=(bh o p).k0/\void=(bh o p).k1/\Key.mk 1 void.oid void.count void.call void.rights p.val=(bh o p).k2)/\(p.num=false->p.code=(bh o p).code/\p.data=(bh o p).data/\
  void=(bh o p).k0/\void=(bh o p).k1/\void=(bh o p).k2))/\(decide (p.s2<0)=false->aL IntKind.i64 (4+p.s2)/\(0<=4+p.s2/\4+p.s2< ↑16)/\(p.num=true->p.code=(bh o
  p).code/\p.data=(bh o p).data/\void=(bh o p).k0/\void=(bh o p).k1/\Key.mk 1 void.oid void.count void.call void.rights p.val=(bh o p).k2)/\(p.num=false->p.code=(bh o
  p).code/\p.data=(bh o p).data/\void=(bh o p).k0/\void=(bh o p).k1/\o.slots.at (4+p.s2).toNat=(bh o p).k2)))/\(decide (p.s1<0)=false->aL IntKind.i64 (4+p.s1)/\(0<=4
  +p.s1/\4+p.s1< ↑16)/\true=true/\(decide (p.s2<0)=true->(p.num=true->p.code=(bh o p).code/\p.data=(bh o p).data/\void=(bh o p).k0/\o.slots.at (4+p.s1).toNat=(bh
  o p).k1/\Key.mk 1 void.oid void.count void.call void.rights p.val=(bh o p).k2)/\(p.num=false->p.code=(bh o p).code/\p.data=(bh o p).data/\void=(bh o p).k0/\o.slots.at (4+
  p.s1).toNat=(bh o p).k1/\void=(bh o p).k2))/\(decide (p.s2<0)=false->aL IntKind.i64 (4+p.s2)/\(0<=4+p.s2/\4+p.s2< ↑16)/\(p.num=true->p.code=(bh o p).code/\p.data
  =(bh o p).data/\void=(bh o p).k0/\o.slots.at (4+p.s1).toNat=(bh o p).k1/\Key.mk 1 void.oid void.count void.call void.rights p.val=(bh o p).k2)/\(p.num=false->p.code=(bh
  o p).code/\p.data=(bh o p).data/\void=(bh o p).k0/\o.slots.at (4+p.s1).toNat=(bh o p).k1/\o.slots.at (4+p.s2).toNat=(bh o p).k2))))/\(decide (p.s0<0)=false->aL
  IntKind.i64 (4+p.s0)/\(0<=4+p.s0/\4+p.s0< ↑16)/\true=true/\(decide (p.s1<0)=true->true=true/\(decide (p.s2<0)=true->(p.num=true->p.code=(bh o p).code/\p.data=
  (bh o p).data/\o.slots.at (4+p.s0).toNat=(bh o p).k0/\void=(bh o p).k1/\Key.mk 1 void.oid void.count void.call void.rights p.val=(bh o p).k2)/\(p.num=false->p.code=(bh o
  p).code/\p.data=(bh o p).data/\o.slots.at (4+p.s0).toNat=(bh o p).k0/\void=(bh o p).k1/\void=(bh o p).k2))/\(decide (p.s2<0)=false->aL IntKind.i64 (4+p.s2)/\(0<=4
  +p.s2/\4+p.s2< ↑16)/\(p.num=true->p.code=(bh o p).code/\p.data=(bh o p).data/\o.slots.at (4+p.s0).toNat=(bh o p).k0/\void=(bh o p).k1/\Key.mk 1 void.oid void.count
  void.call void.rights p.val=(bh o p).k2)/\(p.num=false->p.code=(bh o p).code/\p.data=(bh o p).data/\o.slots.at (4+p.s0).toNat=(bh o p).k0/\void=(bh o p).k1/\
  o.slots.at (4+p.s2).toNat=(bh o p).k2)))/\(decide (p.s1<0)=false->aL IntKind.i64 (4+p.s1)/\(0<=4+p.s1/\4+p.s1< ↑16)/\true=true/\(decide (p.s2<0)=true->(p.num=true->
  p.code=(bh o p).code/\p.data=(bh o p).data/\o.slots.at (4+p.s0).toNat=(bh o p).k0/\o.slots.at (4+p.s1).toNat=(bh o p).k1/\Key.mk 1 void.oid void.count void.call void.rights
  p.val=(bh o p).k2)/\(p.num=false->p.code=(bh o p).code/\p.data=(bh o p).data/\o.slots.at (4+p.s0).toNat=(bh o p).k0/\o.slots.at (4+p.s1).toNat=(bh o p).k1/\void=
  (bh o p).k2))/\(decide (p.s2<0)=false->aL IntKind.i64 (4+p.s2)/\(0<=4+p.s2/\4+p.s2< ↑16)/\(p.num=true->p.code=(bh o p).code/\p.data=(bh o p).data/\o.slots.at (4+
  p.s0).toNat=(bh o p).k0/\o.slots.at (4+p.s1).toNat=(bh o p).k1/\Key.mk 1 void.oid void.count void.call void.rights p.val=(bh o p).k2)/\(p.num=false->p.code=(bh o p).code/\
  p.data=(bh o p).data/\o.slots.at (4+p.s0).toNat=(bh o p).k0/\o.slots.at (4+p.s1).toNat=(bh o p).k1/\o.slots.at (4+p.s2).toNat=(bh o p).k2)))):=by
 have key:∀s,fV s=true->s<0\/(¬s<0/\aL IntKind.i64 (4+s)/\(0<=4+s/\4+s<16)):=fun s hs=>by
  unfold fV vD at hs;simp only[Bool.or_eq_true,US,UT]at hs;simp only[aL,b7];omega
 have hq:cP p.val=Key.mk 1 void.oid void.count void.call void.rights p.val:=rfl;unfold bh Dy;rw[hq]
 rcases key p.s0 h0 with a0|⟨a0,f0,g0,i0⟩<;>rcases key p.s1 h1 with a1|⟨a1,f1,g1,i1⟩<;>rcases key p.s2 h2 with a2|⟨a2,f2,g2,i2⟩<;>cases hn:p.num<;>simp only[*,decide_true,decide_false,if_true,if_false,true_and,and_true,and_self,Bool.false_eq_true,Bool.true_eq_false,false_implies,true_implies,implies_true,reduceCtorEq]<;>(repeat' apply And.intro)<;>omega
theorem MV:dA Tryz.prog 59 QH:=
 jB (aK Oe Jo) (fun _=>rfl) fun a hq hok=>by
  obtain⟨o,x,_⟩:=a;exact bx (inl:=(fun f=>f==89)) (ann:=(kW [(59,4,Oo 4)])) aq (LJ o (Gf x) hq.1 hq.2.1 hq.2.2) (by kernel_rfl)
theorem Lh (L:List Sx.Obj) (n:Int) (p:kh) (hq:SQ L n p/\dU p n=true/\p.kind=1):
 true=true/\iV L/\(true=false->False)/\(true=true->(decide (dJ (ar (ev L))=0)=true->n=n/\(1=(aI L n p).out/\0=(aI L n p).proc/\0=(aI L n p).err/\0=
  (aI L n p).ans.code/\ByteArray.mk (Array.mk [])=(aI L n p).ans.data/\void=(aI L n p).ans.k0/\void=(aI L n p).ans.k1/\void=(aI L n p).ans.k2/\false=(aI L n p).wants)/\L
  =eI L n p)/\(decide (dJ (ar (ev L))=0)=false->(Ds (dJ (ar (ev L)))/\aL IntKind.i64 (p.proc.tmod (dJ (ar (ev L)))))/\aL IntKind.i64 (p.proc.tmod (dJ (ar (ev L)))
  +dJ (ar (ev L)))/\(Ds (dJ (ar (ev L)))/\aL IntKind.i64 ((p.proc.tmod (dJ (ar (ev L)))+dJ (ar (ev L))).tmod (dJ (ar (ev L)))))/\(0<=(p.proc.tmod (dJ (ar (ev
  L)))+dJ (ar (ev L))).tmod (dJ (ar (ev L)))/\(p.proc.tmod (dJ (ar (ev L)))+dJ (ar (ev L))).tmod (dJ (ar (ev L)))< ↑(ar (ev L)))/\((p.proc.tmod (dJ (ar (ev
  L)))+dJ (ar (ev L))).tmod (dJ (ar (ev L)))).toNat<ar (ev L)/\aL IntKind.i64 (4+p.reg)/\(0<=4+p.reg/\4+p.reg< ↑16)/\(fV p.s0=true/\fV p.s1=true/\fV
  p.s2=true)/\((decide ((cq L p).kind=6)||decide ((cq L p).kind=7))=true->true=true/\au (cE L p).data/\(an L/\au (cE L p).data)/\((!decide (cm L (dM L p)
  (cq L p) p.mode (cE L p)=0))=true->n=n/\(3=(aI L n p).out/\dM L p=(aI L n p).proc/\cm L (dM L p) (cq L p) p.mode (cE L p)=(aI L n p).err/\0=(aI L n
  p).ans.code/\ByteArray.mk (Array.mk [])=(aI L n p).ans.data/\void=(aI L n p).ans.k0/\void=(aI L n p).ans.k1/\void=(aI L n p).ans.k2/\false=(aI L n p).wants)/\fh L
  (dM L p) (cq L p) p.mode (cE L p)=eI L n p)/\((!decide (cm L (dM L p) (cq L p) p.mode (cE L p)=0))=false->n=n/\(2=(aI L n p).out/\dM L p=(aI L n p).proc
  /\0=(aI L n p).err/\0=(aI L n p).ans.code/\ByteArray.mk (Array.mk [])=(aI L n p).ans.data/\void=(aI L n p).ans.k0/\void=(aI L n p).ans.k1/\void=(aI L n p).ans.k2/\
  false=(aI L n p).wants)/\fh L (dM L p) (cq L p) p.mode (cE L p)=eI L n p))/\((decide ((cq L p).kind=6)||decide ((cq L p).kind=7))=false->true=true/\au
  (cE L p).data/\(an L/\au (cE L p).data)/\((cR (gQ L n p) (dM L p)&&decide (gn (gQ L n p) (dM L p)=1))=true->(decide (p.mode=1)=true->true=true/\au
  (bw L n (cq L p) (cE L p)).data/\(an (gQ L n p)/\au (bw L n (cq L p) (cE L p)).data)/\n=n/\(4=(aI L n p).out/\dM L p=(aI L n p).proc/\0=(aI L n
  p).err/\(bw L n (cq L p) (cE L p)).code=(aI L n p).ans.code/\(bw L n (cq L p) (cE L p)).data=(aI L n p).ans.data/\(bw L n (cq L p) (cE L p)).k0=(aI L n
  p).ans.k0/\(bw L n (cq L p) (cE L p)).k1=(aI L n p).ans.k1/\(bw L n (cq L p) (cE L p)).k2=(aI L n p).ans.k2/\iu L n (cq L p) (cE L p)=(aI L n p).wants)/\
  jO (gQ L n p) (dM L p) (bw L n (cq L p) (cE L p))=eI L n p)/\(decide (p.mode=1)=false->(decide (p.mode=3)=true->true=true/\an (gQ L n p)/\n=n/\(4=(aI
  L n p).out/\dM L p=(aI L n p).proc/\0=(aI L n p).err/\(bw L n (cq L p) (cE L p)).code=(aI L n p).ans.code/\(bw L n (cq L p) (cE L p)).data=(aI L n
  p).ans.data/\(bw L n (cq L p) (cE L p)).k0=(aI L n p).ans.k0/\(bw L n (cq L p) (cE L p)).k1=(aI L n p).ans.k1/\(bw L n (cq L p) (cE L p)).k2=(aI L n
  p).ans.k2/\iu L n (cq L p) (cE L p)=(aI L n p).wants)/\hU (gQ L n p) (dM L p) 0=eI L n p)/\(decide (p.mode=3)=false->n=n/\(4=(aI L n p).out/\dM L p=
  (aI L n p).proc/\0=(aI L n p).err/\(bw L n (cq L p) (cE L p)).code=(aI L n p).ans.code/\(bw L n (cq L p) (cE L p)).data=(aI L n p).ans.data/\(bw L n (cq L
  p) (cE L p)).k0=(aI L n p).ans.k0/\(bw L n (cq L p) (cE L p)).k1=(aI L n p).ans.k1/\(bw L n (cq L p) (cE L p)).k2=(aI L n p).ans.k2/\iu L n (cq L p) (cE
  L p)=(aI L n p).wants)/\gQ L n p=eI L n p)))/\((cR (gQ L n p) (dM L p)&&decide (gn (gQ L n p) (dM L p)=1))=false->n=n/\(4=(aI L n p).out/\dM L p=
  (aI L n p).proc/\0=(aI L n p).err/\(bw L n (cq L p) (cE L p)).code=(aI L n p).ans.code/\(bw L n (cq L p) (cE L p)).data=(aI L n p).ans.data/\(bw L n (cq L
  p) (cE L p)).k0=(aI L n p).ans.k0/\(bw L n (cq L p) (cE L p)).k1=(aI L n p).ans.k1/\(bw L n (cq L p) (cE L p)).k2=(aI L n p).ans.k2/\iu L n (cq L p) (cE
  L p)=(aI L n p).wants)/\gQ L n p=eI L n p)))):=by
 obtain⟨⟨hL,hs,hn⟩,hr,hk⟩:=hq;obtain⟨hm,⟨r0,r1⟩,hsd⟩:=FA hr hk;have nk2:¬p.kind=2:=by omega
 have hnn:dJ (ar (ev L))=(ar (ev L):Int):=rfl;refine⟨rfl,E2 hL,fun h=>by simp at h,fun _=>⟨fun h=>?_,fun h=>?_⟩⟩
 ·have h0:ar (ev L)=0:=by have:=UX h;rw[hnn]at this;omega
  have e1:aI L n p=⟨1,0,0,dV,false⟩:=by unfold aI;rw[U0 hr,UZ nk2,U0 h0]
  have e2:eI L n p=L:=by unfold eI;rw[UZ (fun h=>h.2.2 h0)]
  rw[e1,e2];exact⟨rfl,(by(repeat' apply And.intro)<;>rfl),rfl⟩
 have h0:¬ar (ev L)=0:=by have:=UW h;rw[hnn]at this;omega
 obtain⟨f1,f2,f3,f4⟩:=FZ (p:=p) hL h0
 have eD:aI L n p=if wg L p=true then(if cm L (dM L p) (cq L p) p.mode (cE L p)=0 then⟨2,dM L p,0,dV,false⟩else⟨3,dM L p,cm L (dM L p) (cq L p) p.mode (cE L p),dV,false⟩)
   else⟨4,dM L p,0,bw L n (cq L p) (cE L p),iu L n (cq L p) (cE L p)⟩:=by unfold aI;rw[U0 hr,UZ nk2,UZ h0]
 have eL:eI L n p=if wg L p=true then fh L (dM L p) (cq L p) p.mode (cE L p)else Dx L n p:=by unfold eI;rw[U0 ⟨hr,nk2,h0⟩]
 have h1:an (gQ L n p):=Hl hL;rw[hnn];refine⟨⟨f2,by simp only[aL,b7];omega⟩,by simp only[aL,b7];omega,⟨f2,by simp only[aL,b7];omega⟩,f4,by omega,by simp only[aL,b7];omega,⟨by omega,by omega⟩,hsd,fun hc=>?_,fun hc=>?_⟩
 ·have hC:wg L p=true:=hc;rw[eD,eL,U0 hC,U0 hC];refine⟨rfl,hs,⟨hL,hs⟩,fun he=>?_,fun he=>?_⟩
  ·have he:¬cm L (dM L p) (cq L p) p.mode (cE L p)=0:=by simpa using he
   rw[UZ he];exact⟨rfl,(by(repeat' apply And.intro)<;>rfl),rfl⟩
  ·have he:cm L (dM L p) (cq L p) p.mode (cE L p)=0:=by simpa using he
   rw[U0 he];exact⟨rfl,(by(repeat' apply And.intro)<;>rfl),rfl⟩
 ·have hC:¬wg L p=true:=by
   have:wg L p=false:=hc;rw[this];simp
  rw[eD,eL,UZ hC,UZ hC]
  have e2:Dx L n p=if cR (gQ L n p) (dM L p)=true/\gn (gQ L n p) (dM L p)=1 then
    if p.mode=1 then jO (gQ L n p) (dM L p) (bw L n (cq L p) (cE L p))else if p.mode=3 then hU (gQ L n p) (dM L p) 0 else gQ L n p
   else gQ L n p:=rfl
  refine⟨rfl,hs,⟨hL,hs⟩,fun hb=>⟨fun h1'=>?_,fun h1'=>⟨fun h3=>?_,fun h3=>?_⟩⟩,fun hb=>?_⟩
  all_goals simp only[US,Bool.and_eq_false_iff,UT,decide_eq_false_iff_not]at hb
  ·rw[e2,U0 hb,U0 (UX h1')];exact⟨rfl,DG,⟨h1,DG⟩,rfl,(by(repeat' apply And.intro)<;>rfl),rfl⟩
  ·rw[e2,U0 hb,UZ (UW h1'),U0 (UX h3)];exact⟨rfl,h1,rfl,(by(repeat' apply And.intro)<;>rfl),rfl⟩
  ·rw[e2,U0 hb,UZ (UW h1'),UZ (UW h3)];exact⟨rfl,(by(repeat' apply And.intro)<;>rfl),rfl⟩
  ·rw[e2,UZ (fun h=>by rcases hb with hb|hb;rw[h.1]at hb;simp at hb;exact hb h.2)]
   exact⟨rfl,(by(repeat' apply And.intro)<;>rfl),rfl⟩
theorem MZ:p5 Tryz.prog 38 Qh:=H8 (fun _ _ _=>rfl) fun L n p hq=>bL (inl:=cw) (ann:=aQ) (ab MV (ab ez (ab fJ (ab oX aq)))) (aB O1 (aB Qx (aB SB (aB Pm (aB HU ay))))) (Lh L n p hq) (by kernel_rfl)
theorem LR (L:List Sx.Obj) (n:Int) (p:kh) (hq:SQ L n p):
 true=true/\(au p.data/\jf n)/\((!dU p n)=true->n=fg n p/\(0=(aI L n p).out/\0=(aI L n p).proc/\0=(aI L n p).err/\0=(aI L n p).ans.code/\ByteArray.mk
  (Array.mk [])=(aI L n p).ans.data/\void=(aI L n p).ans.k0/\void=(aI L n p).ans.k1/\void=(aI L n p).ans.k2/\false=(aI L n p).wants/\2=lF n p)/\L=eI L n p)/\
  ((!dU p n)=false->((decide (p.kind=1)=true->true=true/\((an L/\au p.data/\jf n)/\dU p n=true/\p.kind=1)/\n=fg n p/\((aI L n p).out=(aI L n p).out/\
  (aI L n p).proc=(aI L n p).proc/\(aI L n p).err=(aI L n p).err/\(aI L n p).ans.code=(aI L n p).ans.code/\(aI L n p).ans.data=(aI L n p).ans.data/\(aI L n
  p).ans.k0=(aI L n p).ans.k0/\(aI L n p).ans.k1=(aI L n p).ans.k1/\(aI L n p).ans.k2=(aI L n p).ans.k2/\(aI L n p).wants=(aI L n p).wants/\0=lF n p)/\eI L n p=
  eI L n p)/\(decide (p.kind=1)=false->(decide (p.kind=2)=true->true=true/\aL IntKind.i64 (n+p.val)/\n+p.val=fg n p/\(5=(aI L n p).out/\0=(aI L n p).proc/\0=
  (aI L n p).err/\0=(aI L n p).ans.code/\ByteArray.mk (Array.mk [])=(aI L n p).ans.data/\void=(aI L n p).ans.k0/\void=(aI L n p).ans.k1/\void=(aI L n p).ans.k2/\false=
  (aI L n p).wants/\0=lF n p)/\L=eI L n p)/\(decide (p.kind=2)=false->False)))/\(decide (p.kind=2)=true->true=true/\aL IntKind.i64 (n+p.val)/\n+p.val=fg n p/\(5
  =(aI L n p).out/\0=(aI L n p).proc/\0=(aI L n p).err/\0=(aI L n p).ans.code/\ByteArray.mk (Array.mk [])=(aI L n p).ans.data/\void=(aI L n p).ans.k0/\void=(aI L n
  p).ans.k1/\void=(aI L n p).ans.k2/\false=(aI L n p).wants/\0=lF n p)/\L=eI L n p)/\(decide (p.kind=2)=false->(decide (p.kind=1)=true->true=true/\((an L/\
  au p.data/\jf n)/\dU p n=true/\p.kind=1)/\n=fg n p/\((aI L n p).out=(aI L n p).out/\(aI L n p).proc=(aI L n p).proc/\(aI L n p).err=(aI L n p).err/\
  (aI L n p).ans.code=(aI L n p).ans.code/\(aI L n p).ans.data=(aI L n p).ans.data/\(aI L n p).ans.k0=(aI L n p).ans.k0/\(aI L n p).ans.k1=(aI L n p).ans.k1/\(aI L
  n p).ans.k2=(aI L n p).ans.k2/\(aI L n p).wants=(aI L n p).wants/\0=lF n p)/\eI L n p=eI L n p)/\(decide (p.kind=1)=false->False))):=by
 obtain⟨hL,hs,hn⟩:=hq
 have ht:dU p n=true->p.kind=2->aL IntKind.i64 (n+p.val):=fun hr hk=>by
  unfold dU at hr;rw[U0 hk]at hr;simp only[US,UT]at hr;unfold jf at hn;simp only[aL,b7];omega
 refine⟨rfl,⟨hs,hn⟩,fun hr=>?_,fun hr=>?_⟩
 ·have hr:dU p n=false:=by simpa using hr
  have e1:fg n p=n:=by unfold fg;rw[UZ (by simp[hr])]
  have e2:aI L n p=Up:=by unfold aI;rw[UZ (by simp[hr])]
  have e3:lF n p=2:=by unfold lF;rw[UZ (by simp[hr])]
  have e4:eI L n p=L:=by unfold eI;rw[UZ (by simp[hr])]
  rw[e1,e2,e3,e4];(repeat' apply And.intro)<;>rfl
 have hr:dU p n=true:=by simpa using hr
 have e3:lF n p=0:=by unfold lF;rw[U0 hr]
 have one:∀h1:p.kind=1,fg n p=n:=fun h1=>by unfold fg;rw[UZ (by omega)]
 have two:∀h2:p.kind=2,fg n p=n+p.val/\aI L n p=⟨5,0,0,dV,false⟩/\eI L n p=L:=fun h2=>by
  refine⟨?_,?_,?_⟩
  ·unfold fg;rw[U0 ⟨hr,h2⟩]
  ·unfold aI;rw[U0 hr,U0 h2]
  ·unfold eI;rw[UZ (fun h=>h.2.1 h2)]
 have bad:¬p.kind=1->¬p.kind=2->False:=fun h1 h2=>by
  unfold dU at hr;rw[UZ h2]at hr;simp[h1]at hr
 refine⟨⟨fun h1=>?_,fun h1=>⟨fun h2=>?_,fun h2=>?_⟩⟩,⟨fun h2=>?_,fun h2=>⟨fun h1=>?_,fun h1=>?_⟩⟩⟩
 ·have h1:=UX h1;refine⟨rfl,⟨⟨hL,hs,hn⟩,hr,h1⟩,(one h1).symm,?_,rfl⟩;(repeat' apply And.intro)<;>first|rfl|exact e3.symm
 ·have h2:=UX h2;obtain⟨a,b,c⟩:=two h2;rw[a,b,c,e3];exact⟨rfl,ht hr h2,rfl,(by(repeat' apply And.intro)<;>rfl),rfl⟩
 ·exact(bad (UW h1) (UW h2)).elim
 ·have h2:=UX h2;obtain⟨a,b,c⟩:=two h2;rw[a,b,c,e3];exact⟨rfl,ht hr h2,rfl,(by(repeat' apply And.intro)<;>rfl),rfl⟩
 ·have h1:=UX h1;refine⟨rfl,⟨⟨hL,hs,hn⟩,hr,h1⟩,(one h1).symm,?_,rfl⟩;(repeat' apply And.intro)<;>first|rfl|exact e3.symm
 ·exact(bad (UW h1) (UW h2)).elim
theorem Ey:p5 Tryz.prog 19 Qe:=H8 (fun _ _ _=>rfl) fun L n p hq=>bL (inl:=(fun f=>f==32||f==39)) (ann:=aQ) (ab FR aq) (aB MZ ay) (LR L n p hq) (by kernel_rfl)
end Go.Proofs.YtlblcfaclmpekaaGreat
