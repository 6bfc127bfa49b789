import Derived.Test.YtlblcfaclmpekaaGreatCtSb
import Derived.Test.YtlblcfaclmpekaaGreatSpMc
set_option linter.unusedSimpArgs false
set_option linter.unusedVariables false
namespace Go.Proofs.YtlblcfaclmpekaaGreat
open Go.Sx
set_option maxRecDepth 100000
theorem M5 (p:kh) (hs:au p.data):
 true=true/\aL IntKind.i64 (ca p.data)/\(decide (100<ca p.data)=true->true=true)/\(decide (100<ca p.data)=false->true=true/\true=true/\true=true/\true=true/\true=true
  /\true=true/\true=true/\(fH 4=false->true=true/\true=true/\true=true/\true=true/\true=true/\true=true/\true=true/\true=true/\true=true/\true=true/\true=
  true/\true=true/\true=true/\true=true/\false=true)/\(fH 4=true->true=true/\true=true/\true=true/\true=true/\true=true/\true=true/\true=true/\true=true/\true
  =true/\true=true/\true=true/\true=true/\true=true/\true=true/\true=true/\true=true/\true=true/\true=true/\true=true/\true=true)):=by
 have hin:aL IntKind.i64 (ca p.data):=by unfold au at hs;simp only[aL,b7,ca];omega
 have h4:fH 4=true:=by decide
 refine⟨rfl,hin,fun _=>rfl,fun _=>?_⟩
 simp only[h4,Bool.true_eq_false,false_implies,true_implies,and_self,true_and]
theorem NK (p:kh) (hs:au p.data):aj Tryz.prog 9 [KY p] [] (qU (.bo true)) (fun _ _=>False):=
 bL (inl:=(fun f=>f==10||f==32||f==19||f==20||f==18||f==16||f==14||f==27||f==21||f==12||f==29)) (ann:=(kW [(10,4,Oo 2)])) (ab BB (ab nV aq)) (aB Cw (aB bY (aB se ay))) (M5 p hs) (by kernel_rfl)
theorem Kv (n:Int) (x:List kh) (hx:zG x):
 Ce (nO x)/\((ou (nO x)||decide (n<0)||decide (4611686018427387904<n))=true->true=true)/\((ou (nO x)||decide (n<0)||decide (4611686018427387904<n))=false->true
  =true/\true=true/\(fH 5=false->true=true/\true=true/\true=true/\(decide (ah []=0)=true->false=true)/\(decide (ah []=0)=false->((decide (ah []<4)||
  decide (n<0)||decide (4611686018427387904<n))=true->false=true)/\((decide (ah []<4)||decide (n<0)||decide (4611686018427387904<n))=false->true=true/\(∃g,iz x g/\
  n=g.snd.fst/\0=g.fst/\ar x=ar x/\qc x=qc x)/\∀(g:Int×Int×List Sx.Obj),iz x g->(decide (g.fst<dJ (ar x))=true->(0<=g.fst/\g.fst< ↑(ar x))/\g.fst.toNat<
  ar x/\true=true/\False)/\(decide (g.fst<dJ (ar x))=false->true=true))))/\(fH 5=true->true=true/\true=true/\true=true/\true=true/\true=true/\true=true/\true=
  true/\true=true/\(ar (ew 5)).le 1000/\(bc (ew 5)=true->true=true/\(decide (ah []=0)=true->false=true)/\(decide (ah []=0)=false->((decide (ah []<4)
  ||decide (n<0)||decide (4611686018427387904<n))=true->false=true)/\((decide (ah []<4)||decide (n<0)||decide (4611686018427387904<n))=false->true=true/\(∃g,iz x g
  /\n=g.snd.fst/\0=g.fst/\ar x=ar x/\qc x=qc x)/\∀(g:Int×Int×List Sx.Obj),iz x g->(decide (g.fst<dJ (ar x))=true->(0<=g.fst/\g.fst< ↑(ar x))/\g.fst.toNat<
  ar x/\true=true/\False)/\(decide (g.fst<dJ (ar x))=false->true=true))))/\(bc (ew 5)=false->true=true/\(decide (ah (ew 5)=0)=true->false=true)/\(decide
  (ah (ew 5)=0)=false->((decide (ah (ew 5)<4)||decide (n<0)||decide (4611686018427387904<n))=true->false=true)/\((decide (ah (ew 5)<4)||decide (n<0)
  ||decide (4611686018427387904<n))=false->true=true/\(ar (ew 5)).le 1000/\(bc (ew 5)=true->(∃g,iz x g/\False)/\∀(g:Int×Int×List Sx.Obj),iz x g->
  (decide (g.fst<dJ (ar x))=true->(0<=g.fst/\g.fst< ↑(ar x))/\g.fst.toNat<ar x/\true=true/\False)/\(decide (g.fst<dJ (ar x))=false->true=true))/\(bc (ew 5)=
  false->(∃g,iz x g/\n=g.snd.fst/\0=g.fst/\ar x=ar x/\(qc x=qc x)/\ew 5=g.snd.snd/\n=g.snd.fst)/\∀(g:Int×Int×List Sx.Obj),iz x g->(decide (g.fst<
  dJ (ar x))=true->(0<=g.fst/\g.fst< ↑(ar x))/\g.fst.toNat<ar x/\true=true/\(an g.snd.snd/\au (ai x g.fst.toNat dB).data/\jf g.snd.fst)/\(0<=g.fst/\g.fst< ↑(ar
  x))/\g.fst.toNat<ar x/\(decide ((ai x g.fst.toNat dB).kind=2)=true->(0<=g.fst/\g.fst< ↑(ar x))/\g.fst.toNat<ar x/\(decide (0<=(ai x g.fst.toNat dB).val)=true->0<=
  g.fst/\g.fst< ↑(ar x))/\(decide (0<=(ai x g.fst.toNat dB).val)=true->g.fst.toNat<ar x)/\((decide (0<=(ai x g.fst.toNat dB).val)&&decide ((ai x g.fst.toNat dB).val<=
  1099511627776))=true->0<=g.fst/\g.fst< ↑(ar x))/\((decide (0<=(ai x g.fst.toNat dB).val)&&decide ((ai x g.fst.toNat dB).val<=1099511627776))=true->g.fst.toNat<ar x)/\
  ((decide (0<=(ai x g.fst.toNat dB).val)&&decide ((ai x g.fst.toNat dB).val<=1099511627776))=true->aL IntKind.i64 (4611686018427387904-(ai x g.fst.toNat dB).val))/\((!(decide (0
  <=(ai x g.fst.toNat dB).val)&&decide ((ai x g.fst.toNat dB).val<=1099511627776)&&decide (g.snd.fst<=4611686018427387904-(ai x g.fst.toNat dB).val))==decide (lF g.snd.fst (ai
  x g.fst.toNat dB)=0)||decide (0<=(ai x g.fst.toNat dB).val)&&decide ((ai x g.fst.toNat dB).val<=1099511627776)&&decide (g.snd.fst<=4611686018427387904-(ai x g.fst.toNat
  dB).val)&& !decide ((aI g.snd.snd g.snd.fst (ai x g.fst.toNat dB)).out=5))=true->false=true)/\((!(decide (0<=(ai x g.fst.toNat dB).val)&&decide ((ai x g.fst.toNat dB).val<=
  1099511627776)&&decide (g.snd.fst<=4611686018427387904-(ai x g.fst.toNat dB).val))==decide (lF g.snd.fst (ai x g.fst.toNat dB)=0)||decide (0<=(ai x g.fst.toNat dB).val)&&
  decide ((ai x g.fst.toNat dB).val<=1099511627776)&&decide (g.snd.fst<=4611686018427387904-(ai x g.fst.toNat dB).val)&& !decide ((aI g.snd.snd g.snd.fst (ai x g.fst.toNat dB)).out
  =5))=false->((decide (0<=(ai x g.fst.toNat dB).val)&&decide ((ai x g.fst.toNat dB).val<=1099511627776)&&decide (g.snd.fst<=4611686018427387904-(ai x g.fst.toNat dB).val))=
  true->(0<=g.fst/\g.fst< ↑(ar x))/\g.fst.toNat<ar x/\aL IntKind.i64 (g.snd.fst+(ai x g.fst.toNat dB).val)/\true=true/\true=true/\((!decide (fg g.snd.fst (ai x g.fst.toNat
  dB)=g.snd.fst+(ai x g.fst.toNat dB).val))=true->false=true)/\((!decide (fg g.snd.fst (ai x g.fst.toNat dB)=g.snd.fst+(ai x g.fst.toNat dB).val))=false->aL
  IntKind.i64 (g.fst+1)/\∃g',iz x g'/\mK x g'<mK x g/\g.snd.fst+(ai x g.fst.toNat dB).val=g'.snd.fst/\g.fst+1=g'.fst/\ar x=ar x/\(qc x=qc x)/\eI
  g.snd.snd g.snd.fst (ai x g.fst.toNat dB)=g'.snd.snd/\fg g.snd.fst (ai x g.fst.toNat dB)=g'.snd.fst))/\((decide (0<=(ai x g.fst.toNat dB).val)&&decide ((ai x g.fst.toNat
  dB).val<=1099511627776)&&decide (g.snd.fst<=4611686018427387904-(ai x g.fst.toNat dB).val))=false->true=true/\true=true/\((!decide (fg g.snd.fst (ai x g.fst.toNat dB)=
  g.snd.fst))=true->false=true)/\((!decide (fg g.snd.fst (ai x g.fst.toNat dB)=g.snd.fst))=false->aL IntKind.i64 (g.fst+1)/\∃g',iz x g'/\mK x g'<mK x g/\
  g.snd.fst=g'.snd.fst/\g.fst+1=g'.fst/\ar x=ar x/\(qc x=qc x)/\eI g.snd.snd g.snd.fst (ai x g.fst.toNat dB)=g'.snd.snd/\fg g.snd.fst (ai x g.fst.toNat dB)=
  g'.snd.fst))))/\(decide ((ai x g.fst.toNat dB).kind=2)=false->true=true/\true=true/\((!decide (fg g.snd.fst (ai x g.fst.toNat dB)=g.snd.fst))=true->false=true)/\((!decide
  (fg g.snd.fst (ai x g.fst.toNat dB)=g.snd.fst))=false->aL IntKind.i64 (g.fst+1)/\∃g',iz x g'/\mK x g'<mK x g/\g.snd.fst=g'.snd.fst/\g.fst+1=g'.fst/\ar x=
  ar x/\(qc x=qc x)/\eI g.snd.snd g.snd.fst (ai x g.fst.toNat dB)=g'.snd.snd/\fg g.snd.fst (ai x g.fst.toNat dB)=g'.snd.fst)))/\(decide (g.fst<dJ (ar x))=false->true
  =true))))))):=by
 have hq:Ce (nO x):=⟨x,rfl,hx⟩;have n5:fH 5=true:=by decide
 have b5:bc (ew 5)=false:=by kernel_rfl
 have s5:ah (ew 5)=5:=by kernel_rfl
 have l5:(ar (ew 5)).le 1000:=by
  have:ar (ew 5)=5:=by kernel_rfl
  rw[this];exact(by decide:(5:Nat)<=1000)
 have o5:an (ew 5):=by unfold an;kernel_rfl
 refine⟨hq,fun _=>rfl,fun hb=>⟨rfl,rfl,fun h=>by rw[n5]at h;simp at h,fun _=>⟨rfl,rfl,rfl,rfl,rfl,rfl,rfl,rfl,l5,fun h=>by rw[b5]at h;simp at h,fun _=>⟨rfl,fun h=>by rw[s5]at h;simp at h,fun _=>⟨fun h=>?_,fun _=>⟨rfl,l5,fun h=>by rw[b5]at h;simp at h,fun _=>?_⟩⟩⟩⟩⟩⟩
 all_goals
  simp only[Bool.or_eq_false_iff,decide_eq_false_iff_not]at hb;obtain⟨⟨b1,b2⟩,b3⟩:=hb
 ·rw[s5]at h;simp only[Bool.or_eq_true,UT]at h;omega
 have hlen:¬40<(ar x:Int):=QK b1;refine⟨⟨(0,n,ew 5),⟨by simp,by simp,⟨by simp only;omega,by simp only;omega⟩,o5⟩,(by(repeat' apply And.intro)<;>rfl)⟩,fun g hg=>⟨fun hlt=>?_,fun _=>rfl⟩⟩
 obtain⟨g0,g1,g2,g3⟩:=hg;have hlt:g.1<(ar x:Int):=UX hlt;have hi:aL IntKind.i64 (g.1+1):=by simp only[aL,b7];omega
 have hs:=hx g.1.toNat (by omega)
 have i1:0<=g.1/\g.1<(ar x:Int):=⟨g0,hlt⟩;have i2:g.1.toNat<ar x:=by omega
 generalize ai x g.1.toNat dB=p at *
 have hinv:∀m:Int,m=fg g.2.1 p->iz x (g.1+1,m,eI g.2.2 g.2.1 p):=fun m hm=>⟨by simp only;omega,by simp only;omega,by rw[hm];exact O3 g2,QN g3⟩
 have hmu:∀m:Int,mK x (g.1+1,m,eI g.2.2 g.2.1 p)<mK x g:=fun m=>by unfold mK;simp only;omega
 refine⟨i1,i2,rfl,⟨g3,hs,g2⟩,i1,i2,fun hk=>?_,fun hk=>?_⟩
 ·have hk:=UX hk;obtain⟨f1,f2,f3⟩:=C4 g.2.2 g.2.1 hk;refine⟨i1,i2,fun _=>i1,fun _=>i2,fun _=>i1,fun _=>i2,fun hv=>?_,fun hbad=>?_,fun _=>⟨fun hF=>?_,fun hF=>?_⟩⟩
  ·simp only[US,UT]at hv;simp only[aL,b7];omega
  ·rw[f1]at hbad;cases hF:(decide (0<=p.val)&&decide (p.val<=1099511627776)&&decide (g.2.1<=4611686018427387904-p.val))with
   |false=>rw[hF]at hbad;simp at hbad
   |true=>rw[hF,(f2 hF).1]at hbad;simp at hbad
  ·obtain⟨e1,e2⟩:=f2 hF
   have hin:aL IntKind.i64 (g.2.1+p.val):=by
    simp only[US,UT]at hF;unfold jf at g2;simp only[aL,b7];omega
   refine⟨i1,i2,hin,rfl,rfl,fun h=>?_,fun _=>⟨hi,(g.1+1,g.2.1+p.val,eI g.2.2 g.2.1 p),hinv _ e2.symm,hmu _,rfl,rfl,rfl,rfl,rfl,e2⟩⟩
   rw[e2]at h;simp at h
  ·have e2:=f3 hF;refine⟨rfl,rfl,fun h=>?_,fun _=>⟨hi,(g.1+1,g.2.1,eI g.2.2 g.2.1 p),hinv _ e2.symm,hmu _,rfl,rfl,rfl,rfl,rfl,e2⟩⟩
   rw[e2]at h;simp at h
 ·have e2:fg g.2.1 p=g.2.1:=OR (UW hk);refine⟨rfl,rfl,fun h=>?_,fun _=>⟨hi,(g.1+1,g.2.1,eI g.2.2 g.2.1 p),hinv _ e2.symm,hmu _,rfl,rfl,rfl,rfl,rfl,e2⟩⟩
  rw[e2]at h;simp at h
theorem Jw (n:Int) (x:List kh) (hx:zG x):aj Tryz.prog 4 [.it .i64 n,.sa 0] [.ro (.arr none 11 (nO x))] (qU (.bo true)) (fun _ _=>False):=
 bL (inl:=(fun f=>f==32||f==18||f==16||f==14||f==12||f==29)) (ann:=(kW [(4,8,Us [1,7] (fun(g:Int×Int×List Sx.Obj)=> [(9,.it .i64 g.1),(0,.it .i64 g.2.1)]) (fun g=> [(11,.blk ON (zw 10 g.2.1)),(10,.store tS eS g.2.2),(1,.gone),(2,.gone),(3,.gone),(4,.gone),(5,.gone),(6,.gone),(7,.gone),(8,.gone),(9,.gone)]) (iz x) (mK x))])) (ab BB (ab OT (ab aW aq))) (aB Cw (aB bY (aB se (aB Ey ay)))) (Kv n x hx) (by kernel_rfl)
end Go.Proofs.YtlblcfaclmpekaaGreat
