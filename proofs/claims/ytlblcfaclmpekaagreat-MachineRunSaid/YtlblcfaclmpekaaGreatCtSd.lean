import Derived.Test.YtlblcfaclmpekaaGreatCtSb
import Derived.Test.YtlblcfaclmpekaaGreatSpMd
import Derived.Test.YtlblcfaclmpekaaGreatCtQs
set_option linter.unusedSimpArgs false
set_option linter.unusedVariables false
namespace Go.Proofs.YtlblcfaclmpekaaGreat
open Go.Sx
set_option maxRecDepth 100000
theorem N0 (x:List k7) (L:List Sx.Obj) (n:Int) (hq:vx (az x) L n):
 true=true/\(∃g,mM (az x) L n g/\b6 (aq x)=b6 (aq x)/\0=g/\n=bg (az x) L n g/\L=bN (az x) L n g/\aq x=aq x/\(sB x=sB x)/\0=g.toNat/\(At (az x)
  L n)=At (az x) L n)/\∀(g:Int),mM (az x) L n g->(decide (g<b6 (aq x))=true->(0<=g/\g< ↑(aq x))/\g.toNat<aq x/\true=true/\(ar (bN (az x) L n g)/\aw
  (ak x g.toNat cR).data/\gF (bg (az x) L n g))/\((!decide (eT (bg (az x) L n g) (ak x g.toNat cR)=0))=true->gA (bg (az x) L n g) (ak x g.toNat cR)=bg
  (az x) L n (bI (az x) L n)/\eT (bg (az x) L n g) (ak x g.toNat cR)=fY (az x) L n/\eu (bN (az x) L n g) (bg (az x) L n g) (ak x g.toNat cR)=bN (az x)
  L n (bI (az x) L n)/\g.toNat=(bI (az x) L n).toNat/\(At (az x) L n)=At (az x) L n)/\((!decide (eT (bg (az x) L n g) (ak x g.toNat cR)=0))=false->oR g.toNat 200
  /\aM IntKind.i64 (g+1)/\∃g',mM (az x) L n g'/\(1000-g').toNat<(1000-g).toNat/\b6 (aq x)=b6 (aq x)/\g+1=g'/\gA (bg (az x) L n g) (ak x g.toNat cR)=bg
  (az x) L n g'/\eu (bN (az x) L n g) (bg (az x) L n g) (ak x g.toNat cR)=bN (az x) L n g'/\aq x=aq x/\(sB x=sB x)/\g.toNat.succ=g'.toNat/\(uc g.toNat (At
  (az x) L n) (TD (aK (bN (az x) L n g) (bg (az x) L n g) (ak x g.toNat cR))))=At (az x) L n))/\(decide (g<b6 (aq x))=false->bg (az x) L n g=bg (az x) L n
  (bI (az x) L n)/\0=fY (az x) L n/\bN (az x) L n g=bN (az x) L n (bI (az x) L n)/\g.toNat=(bI (az x) L n).toNat/\(At (az x) L n)=At (az x) L n):=by
 obtain⟨hL,hn,x',hx',hxs,hxl⟩:=id hq;have hlen:(az x).len=aq x:=rfl
 have hxe:tV x/\aq x<=40:=by
  have e1:aq x=aq x':=congrArg TL.len hx';refine⟨fun i hi=>?_,by omega⟩
  have e2:(az x).get i=(az x').get i:=by rw[hx']
  have e3:Lu (ak x i cR)=Lu (ak x' i cR):=e2
  have e4:(ak x i cR).data=(ak x' i cR).data:=by
   simp only[Lu,V.ag.injEq,List.cons.injEq,V.st.injEq]at e3;exact e3.2.2.2.2.2.1
  rw[e4];exact hxs i (by omega)
 obtain⟨hxs,hxl⟩:=hxe;have hat:∀j:Nat,xu (az x) j=ak x j cR:=fun j=>rfl
 refine⟨rfl,⟨0,⟨by omega,by omega,fun j hj=>by omega⟩,rfl,rfl,rfl,rfl,rfl,rfl,rfl,rfl⟩,fun g hg=>⟨fun hlt=>?_,fun hge=>?_⟩⟩
 ·have hlt:g<(aq x:Int):=VK hlt;obtain⟨g0,g1,g2⟩:=id hg;obtain⟨k1,k2⟩:=zY (l:=az x) hL hn g.toNat;have hgn:(g.toNat:Int)=g:=by omega
  have t1:(g+1).toNat=g.toNat+1:=by omega
  have s1:bN (az x) L n (g+1)=eu (bN (az x) L n g) (bg (az x) L n g) (ak x g.toNat cR):=by unfold bN bg;rw[t1];rfl
  have s2:bg (az x) L n (g+1)=gA (bg (az x) L n g) (ak x g.toNat cR):=by unfold bg;rw[t1];rfl
  refine⟨⟨g0,hlt⟩,by omega,rfl,⟨k1,hxs g.toNat (by omega),k2⟩,fun he=>?_,fun he=>?_⟩
  ·have he:¬eT (bg (az x) L n g) (ak x g.toNat cR)=0:=by simpa using he
   have hs:=zc hg (.inr he)
   have hr:dO (ak x g.toNat cR) (bg (az x) L n g)=false:=by
    unfold eT at he;cases h:dO (ak x g.toNat cR) (bg (az x) L n g)with
    |false=>rfl
    |true=>rw[h]at he;simp at he
   have z1:gA (bg (az x) L n g) (ak x g.toNat cR)=bg (az x) L n g:=by unfold gA;rw[VM (by simp[hr])]
   have z2:eu (bN (az x) L n g) (bg (az x) L n g) (ak x g.toNat cR)=bN (az x) L n g:=by unfold eu;rw[VM (by simp[hr])]
   have z3:eT (bg (az x) L n g) (ak x g.toNat cR)=2:=by unfold eT;rw[VM (by simp[hr])]
   have z4:fY (az x) L n=2:=by unfold fY;rw[hs,VM (by rw[hlen];omega)]
   rw[z1,z2,z3,z4,hs];exact⟨rfl,rfl,rfl,rfl,rfl⟩
  ·have he:eT (bg (az x) L n g) (ak x g.toNat cR)=0:=by simpa using he
   refine⟨⟨by unfold maxLen;omega,by omega⟩,by simp only[aM,cj];omega,g+1,⟨by omega,by rw[hlen];omega,fun j hj=>?_⟩,by omega,rfl,rfl,s2.symm,s1.symm,rfl,rfl,t1.symm,?_⟩
   ·by_cases e:(j:Int)=g
    ·have e':j=g.toNat:=by omega
     subst e';exact he
    ·exact g2 j (by omega)
   ·funext i
    unfold uc;cases hb:Nat.beq i g.toNat with
    |false=>rfl
    |true=>
     have:=Nat.eq_of_beq_eq_true hb;subst this;rfl
 ·have hge:¬g<(aq x:Int):=VJ hge;obtain⟨g0,g1,g2⟩:=id hg;have hgl:g=((az x).len:Int):=by rw[hlen]at g1⊢;omega
  have hs:=zc hg (.inl hgl);have z4:fY (az x) L n=0:=by unfold fY;rw[hs,VN hgl]
  rw[hs,z4];exact⟨rfl,rfl,rfl,rfl,rfl⟩
theorem Ly:oP Tryz.prog 20 CZ:=QX fun x L n hq=>bP (inl:=(fun f=>f==32)) (ann:=(kV [(20,5,Um [0,1,13,14] 0 1 6 15)])) au (aE z7 aA) (N0 x L n hq) (by kernel_rfl)
theorem Qx (n:Int) (x:List k7) (hx:tV x):
 true=true/\true=true/\(dW n=false->vD (az x)/\((kX (az x)||true)=true->true=true)/\((kX (az x)||true)=false->true=true/\true=true/\(dW n=false->
  true=true/\False)/\(dW n=true->(decide (n<4)=true->true=true/\False)/\(decide (n<4)=false->true=true/\true=true/\aM IntKind.i64 (n-1)/\true=true/\true=true/\
  true=true/\true=true/\False))))/\(dW n=true->(decide (n<4)=true->vD (az x)/\((kX (az x)||true)=true->true=true)/\((kX (az x)||true)=false->true=true
  /\true=true/\(dW n=false->true=true/\False)/\(dW n=true->(decide (n<4)=true->true=true/\False)/\(decide (n<4)=false->true=true/\true=true/\aM IntKind.i64 (n
  -1)/\true=true/\true=true/\true=true/\true=true/\False))))/\(decide (n<4)=false->true=true/\true=true/\aM IntKind.i64 (n-1)/\true=true/\true=true/\true=true/\
  vD (az x)/\((kX (az x)||false)=true->true=true)/\((kX (az x)||false)=false->true=true/\true=true/\(dW n=false->true=true/\vx (az x) (ai n) 0/\
  (∃g,mM (az x) (ai n) 0 g/\False)/\∀(g:Int),mM (az x) (ai n) 0 g->(decide (g<b6 (aq x))=true->(0<=g/\g< ↑(aq x))/\g.toNat<aq x/\true=true/\False)/\
  (decide (g<b6 (aq x))=false->(decide (fY (az x) (ai n) 0=0)=true->False)/\(decide (fY (az x) (ai n) 0=0)=false->false=true)))/\(dW n=true->(decide (n<
  4)=true->true=true/\vx (az x) (ai n) 0/\(∃g,mM (az x) (ai n) 0 g/\Value.pointer none=Value.pointer none/\fY (az x) (ai n) 0=fY (az x) (ai n) 0/\0
  =g/\aq x=aq x/\(sB x=sB x)/\bN (az x) (ai n) 0 (bI (az x) (ai n) 0)=bN (az x) (ai n) 0 (bI (az x) (ai n) 0)/\bg (az x) (ai n) 0
  (bI (az x) (ai n) 0)=bg (az x) (ai n) 0 (bI (az x) (ai n) 0)/\jv n=bN (az x) (ai n) 0 g)/\∀(g:Int),mM (az x) (ai n) 0 g->(decide (g<b6
  (aq x))=true->(0<=g/\g< ↑(aq x))/\g.toNat<aq x/\true=true/\False)/\(decide (g<b6 (aq x))=false->(decide (fY (az x) (ai n) 0=0)=true->False)/\(decide (fY
  (az x) (ai n) 0=0)=false->false=true)))/\(decide (n<4)=false->true=true/\true=true/\aM IntKind.i64 (n-1)/\true=true/\true=true/\true=true/\true=true/\vx
  (az x) (ai n) 0/\(∃g,mM (az x) (ai n) 0 g/\fY (az x) (ai n) 0=fY (az x) (ai n) 0/\0=g/\aq x=aq x/\(sB x=sB x)/\bN (az x) (ai n) 0
  (bI (az x) (ai n) 0)=bN (az x) (ai n) 0 (bI (az x) (ai n) 0)/\bg (az x) (ai n) 0 (bI (az x) (ai n) 0)=bg (az x) (ai n) 0 (bI (az x)
  (ai n) 0)/\ai n=bN (az x) (ai n) 0 g/\0=bg (az x) (ai n) 0 g/\(bI (az x) (ai n) 0).toNat=(bI (az x) (ai n) 0).toNat/\(At (az x) (ai
  n) 0)=At (az x) (ai n) 0)/\∀(g:Int),mM (az x) (ai n) 0 g->(decide (g<b6 (aq x))=true->(0<=g/\g< ↑(aq x))/\g.toNat<aq x/\true=true/\(ar (bN (az x)
  (ai n) 0 g)/\aw (ak x g.toNat cR).data/\gF (bg (az x) (ai n) 0 g))/\((!decide (eT (bg (az x) (ai n) 0 g) (ak x g.toNat cR)=0))=true->((decide (fY
  (az x) (ai n) 0=eT (bg (az x) (ai n) 0 g) (ak x g.toNat cR))&&decide (b6 (bI (az x) (ai n) 0).toNat=g))=true->true=true/\true=true/\true=true/\
  (decide (bg (az x) (ai n) 0 (bI (az x) (ai n) 0)=gA (bg (az x) (ai n) 0 g) (ak x g.toNat cR))=true->wa (bN (az x) (ai n) 0 (bI (az x)
  (ai n) 0))/\wa (eu (bN (az x) (ai n) 0 g) (bg (az x) (ai n) 0 g) (ak x g.toNat cR)))/\(decide (bg (az x) (ai n) 0 (bI (az x) (ai n) 0)=gA
  (bg (az x) (ai n) 0 g) (ak x g.toNat cR))&&fE (bN (az x) (ai n) 0 (bI (az x) (ai n) 0)) (eu (bN (az x) (ai n) 0 g) (bg (az x) (ai n) 0 g)
  (ak x g.toNat cR))&&true)=true)/\((decide (fY (az x) (ai n) 0=eT (bg (az x) (ai n) 0 g) (ak x g.toNat cR))&&decide (b6 (bI (az x) (ai n) 0).toNat=
  g))=false->false=true))/\((!decide (eT (bg (az x) (ai n) 0 g) (ak x g.toNat cR)=0))=false->((!decide (b6 (bI (az x) (ai n) 0).toNat<=g))=true->0<=g/\g<
  ↑(bI (az x) (ai n) 0).toNat)/\((!decide (b6 (bI (az x) (ai n) 0).toNat<=g))=true->g.toNat<(bI (az x) (ai n) 0).toNat)/\((decide (b6 (bI (az x) (ai n)
  0).toNat<=g)|| !(decide ((jE (az x) (ai n) 0 g.toNat).out=(aK (bN (az x) (ai n) 0 g) (bg (az x) (ai n) 0 g) (ak x g.toNat cR)).out)&&(decide ((jE (az x)
  (ai n) 0 g.toNat).proc=(aK (bN (az x) (ai n) 0 g) (bg (az x) (ai n) 0 g) (ak x g.toNat cR)).proc)&&(decide ((jE (az x) (ai n) 0 g.toNat).err=(aK
  (bN (az x) (ai n) 0 g) (bg (az x) (ai n) 0 g) (ak x g.toNat cR)).err)&&(decide ((jE (az x) (ai n) 0 g.toNat).ans.code=(aK (bN (az x) (ai n) 0 g)
  (bg (az x) (ai n) 0 g) (ak x g.toNat cR)).ans.code)&&(xB (jE (az x) (ai n) 0 g.toNat).ans.data (aK (bN (az x) (ai n) 0 g) (bg (az x) (ai n) 0 g) (ak
  x g.toNat cR)).ans.data&&(Ar (jE (az x) (ai n) 0 g.toNat).ans.k0 (aK (bN (az x) (ai n) 0 g) (bg (az x) (ai n) 0 g) (ak x g.toNat cR)).ans.k0&&(Ar (jE
  (az x) (ai n) 0 g.toNat).ans.k1 (aK (bN (az x) (ai n) 0 g) (bg (az x) (ai n) 0 g) (ak x g.toNat cR)).ans.k1&&(Ar (jE (az x) (ai n) 0 g.toNat).ans.k2
  (aK (bN (az x) (ai n) 0 g) (bg (az x) (ai n) 0 g) (ak x g.toNat cR)).ans.k2&&true))&&true))&&((jE (az x) (ai n) 0 g.toNat).wants==(aK (bN (az x)
  (ai n) 0 g) (bg (az x) (ai n) 0 g) (ak x g.toNat cR)).wants&&true))))))=true->false=true)/\((decide (b6 (bI (az x) (ai n) 0).toNat<=g)|| !(decide ((jE (az
  x) (ai n) 0 g.toNat).out=(aK (bN (az x) (ai n) 0 g) (bg (az x) (ai n) 0 g) (ak x g.toNat cR)).out)&&(decide ((jE (az x) (ai n) 0 g.toNat).proc=(aK
  (bN (az x) (ai n) 0 g) (bg (az x) (ai n) 0 g) (ak x g.toNat cR)).proc)&&(decide ((jE (az x) (ai n) 0 g.toNat).err=(aK (bN (az x) (ai n) 0 g) (bg
  (az x) (ai n) 0 g) (ak x g.toNat cR)).err)&&(decide ((jE (az x) (ai n) 0 g.toNat).ans.code=(aK (bN (az x) (ai n) 0 g) (bg (az x) (ai n) 0 g) (ak x
  g.toNat cR)).ans.code)&&(xB (jE (az x) (ai n) 0 g.toNat).ans.data (aK (bN (az x) (ai n) 0 g) (bg (az x) (ai n) 0 g) (ak x g.toNat cR)).ans.data&&(Ar (jE
  (az x) (ai n) 0 g.toNat).ans.k0 (aK (bN (az x) (ai n) 0 g) (bg (az x) (ai n) 0 g) (ak x g.toNat cR)).ans.k0&&(Ar (jE (az x) (ai n) 0 g.toNat).ans.k1
  (aK (bN (az x) (ai n) 0 g) (bg (az x) (ai n) 0 g) (ak x g.toNat cR)).ans.k1&&(Ar (jE (az x) (ai n) 0 g.toNat).ans.k2 (aK (bN (az x) (ai n) 0 g)
  (bg (az x) (ai n) 0 g) (ak x g.toNat cR)).ans.k2&&true))&&true))&&((jE (az x) (ai n) 0 g.toNat).wants==(aK (bN (az x) (ai n) 0 g) (bg (az x) (ai
  n) 0 g) (ak x g.toNat cR)).wants&&true))))))=false->aM IntKind.i64 (g+1)/\∃g',mM (az x) (ai n) 0 g'/\(1000-g').toNat<(1000-g).toNat/\fY (az x) (ai n) 0=
  fY (az x) (ai n) 0/\g+1=g'/\aq x=aq x/\(sB x=sB x)/\bN (az x) (ai n) 0 (bI (az x) (ai n) 0)=bN (az x) (ai n) 0 (bI (az x) (ai n)
  0)/\bg (az x) (ai n) 0 (bI (az x) (ai n) 0)=bg (az x) (ai n) 0 (bI (az x) (ai n) 0)/\eu (bN (az x) (ai n) 0 g) (bg (az x) (ai n) 0 g)
  (ak x g.toNat cR)=bN (az x) (ai n) 0 g'/\gA (bg (az x) (ai n) 0 g) (ak x g.toNat cR)=bg (az x) (ai n) 0 g'/\(bI (az x) (ai n) 0).toNat=(bI
  (az x) (ai n) 0).toNat/\(At (az x) (ai n) 0)=At (az x) (ai n) 0)))/\(decide (g<b6 (aq x))=false->((decide (fY (az x) (ai n) 0=0)&&decide (b6 (bI
  (az x) (ai n) 0).toNat=b6 (aq x)))=true->true=true/\true=true/\true=true/\(decide (bg (az x) (ai n) 0 (bI (az x) (ai n) 0)=bg (az x) (ai n) 0 g)
  =true->wa (bN (az x) (ai n) 0 (bI (az x) (ai n) 0))/\wa (bN (az x) (ai n) 0 g))/\(decide (bg (az x) (ai n) 0 (bI (az x) (ai n) 0)=bg
  (az x) (ai n) 0 g)&&fE (bN (az x) (ai n) 0 (bI (az x) (ai n) 0)) (bN (az x) (ai n) 0 g)&&true)=true)/\((decide (fY (az x) (ai n) 0=0)&&
  decide (b6 (bI (az x) (ai n) 0).toNat=b6 (aq x)))=false->false=true))))))):=by
 have hq:vD (az x):=⟨x,rfl,hx⟩
 have bok:dW n=true->ar (ai n)/\aM IntKind.i64 (n-1):=fun h1=>by
  refine⟨MT h1,?_⟩;unfold dW at h1;simp only[VG,VH]at h1;simp only[aM,cj];omega
 have hz:gF 0:=by unfold gF;omega
 refine⟨rfl,rfl,fun hn=>⟨hq,fun _=>rfl,fun h=>by simp at h⟩,fun hn=>⟨fun h4=>⟨hq,fun _=>rfl,fun h=>by simp at h⟩,fun h4=>?_⟩⟩
 have h4:¬n<4:=VJ h4;obtain⟨ho,hin⟩:=bok hn;refine⟨rfl,rfl,hin,rfl,rfl,rfl,hq,fun _=>rfl,fun hf=>⟨rfl,rfl,fun h=>by rw[hn]at h;simp at h,fun _=>⟨fun h=>absurd (VK h) h4,fun _=>?_⟩⟩⟩
 have hf:kX (az x)=false:=by simpa using hf
 have hlen40:¬40<(aq x:Int):=Qj hf;have hlen:(az x).len=aq x:=rfl;have hrq:vx (az x) (ai n) 0:=⟨ho,hz,x,rfl,hx,by omega⟩
 refine⟨rfl,rfl,hin,rfl,rfl,rfl,rfl,hrq,⟨0,⟨by omega,by omega,fun j hj=>by omega⟩,by(repeat' apply And.intro)<;>rfl⟩,fun g hg=>⟨fun hlt=>?_,fun hge=>?_⟩⟩
 all_goals
  obtain⟨g0,g1,g2⟩:=id hg;obtain⟨k1,k2⟩:=zY (l:=az x) ho hz g.toNat;have few:wa (bN (az x) (ai n) 0 g):=by have:=jm k1;show(Cm (az x) (ai n) 0 g.toNat).1.length<=1000;omega
  have hgn:b6 g.toNat=g:=by unfold b6;omega
 ·have hlt:g<(aq x:Int):=VK hlt;have t1:(g+1).toNat=g.toNat+1:=by omega
  have s1:bN (az x) (ai n) 0 (g+1)=eu (bN (az x) (ai n) 0 g) (bg (az x) (ai n) 0 g) (ak x g.toNat cR):=by unfold bN bg;rw[t1];rfl
  have s2:bg (az x) (ai n) 0 (g+1)=gA (bg (az x) (ai n) 0 g) (ak x g.toNat cR):=by unfold bg;rw[t1];rfl
  refine⟨⟨g0,hlt⟩,by omega,rfl,⟨k1,hx g.toNat (by omega),k2⟩,fun he=>?_,fun he=>?_⟩
  ·have he:¬eT (bg (az x) (ai n) 0 g) (ak x g.toNat cR)=0:=by simpa using he
   have hs:=zc hg (.inr he)
   have hr:dO (ak x g.toNat cR) (bg (az x) (ai n) 0 g)=false:=by
    unfold eT at he;cases h:dO (ak x g.toNat cR) (bg (az x) (ai n) 0 g)with
    |false=>rfl
    |true=>rw[h]at he;simp at he
   have z1:gA (bg (az x) (ai n) 0 g) (ak x g.toNat cR)=bg (az x) (ai n) 0 g:=by unfold gA;rw[VM (by simp[hr])]
   have z2:eu (bN (az x) (ai n) 0 g) (bg (az x) (ai n) 0 g) (ak x g.toNat cR)=bN (az x) (ai n) 0 g:=by unfold eu;rw[VM (by simp[hr])]
   have z3:eT (bg (az x) (ai n) 0 g) (ak x g.toNat cR)=2:=by unfold eT;rw[VM (by simp[hr])]
   have z4:fY (az x) (ai n) 0=2:=by unfold fY;rw[hs,VM (by rw[hlen];omega)]
   rw[z1,z2,z3,z4,hs,hgn];refine⟨fun _=>⟨rfl,rfl,rfl,fun _=>⟨few,few⟩,by rw[lD];simp⟩,fun h=>by simp at h⟩
  ·have he:eT (bg (az x) (ai n) 0 g) (ak x g.toNat cR)=0:=by simpa using he
   have hSS:g<bI (az x) (ai n) 0:=by
    obtain⟨r0,r1,r2⟩:=Tb (az x) (ai n) 0;rcases Tj (az x) (ai n) 0 with h|h
    ·rw[h,hlen];exact hlt
    ·refine Classical.byContradiction fun hc=>?_
     by_cases e:bI (az x) (ai n) 0=g
     ·rw[e]at h;exact h he
     ·exact h (g2 (bI (az x) (ai n) 0).toNat (by omega))
   have hD:jE (az x) (ai n) 0 g.toNat=aK (bN (az x) (ai n) 0 g) (bg (az x) (ai n) 0 g) (ak x g.toNat cR):=rfl;have e1:decide (b6 (bI (az x) (ai n) 0).toNat<=g)=false:=decide_eq_false (by unfold b6;omega)
   rw[hD,e1];refine⟨fun _=>⟨g0,by omega⟩,fun _=>by omega,fun h=>?_,fun _=>⟨by simp only[aM,cj];omega,g+1,⟨by omega,by rw[hlen];omega,fun j hj=>?_⟩,by omega,rfl,rfl,rfl,rfl,rfl,rfl,s1.symm,s2.symm,rfl,rfl⟩⟩
   ·simp only[decide_true,ni,oT,Bool.and_true,beq_self_eq_true,Bool.not_true,Bool.or_false,Bool.false_eq_true]at h
   ·by_cases e:(j:Int)=g
    ·have e':j=g.toNat:=by omega
     subst e';exact he
    ·exact g2 j (by omega)
 ·have hge:¬g<(aq x:Int):=VJ hge;have hgl:g=((az x).len:Int):=by rw[hlen]at g1⊢;omega
  have hs:=zc hg (.inl hgl);have z4:fY (az x) (ai n) 0=0:=by unfold fY;rw[hs,VN hgl]
  have z5:b6 (aq x)=g:=by rw[hlen]at hgl;unfold b6;omega
  rw[hs,z4,hgn,z5];exact⟨fun _=>⟨rfl,rfl,rfl,fun _=>⟨few,few⟩,by rw[lD];simp⟩,fun h=>by simp at h⟩
theorem Pr (n:Int) (x:List k7) (hx:tV x):aj Tryz.prog 5 [.it .i64 n,.sa 0] [.ro (.arr none 11 (az x))] (nI (.bo true)) (fun _ _=>False):=
 bP (inl:=(fun f=>f==32||f==21||f==12||f==29)) (ann:=(kV [(5,7,Vb [1,5,7,9,10] (fun(g:Int)=> [(11,.it .i64 g)]) (fun g=> [(16,.blk vY (oO 9 (bg (az x) (ai n) 0 g))),(9,.store tS eS (bN (az x) (ai n) 0 g)),(2,.gone),(3,.gone),(4,.gone),(5,.gone),(6,.gone),(7,.gone),(10,.gone),(11,.gone),(12,.gone),(13,.gone),(14,.gone),(15,.gone)]) (mM (az x) (ai n) 0) (fun g=>nA (rN 1000 g)))])) (ab H7 (ab P7 (ab Lg au))) (aE Ja (aE cw (aE z7 (aE Ly aA)))) (Qx n x hx) (by kernel_rfl)
end Go.Proofs.YtlblcfaclmpekaaGreat
