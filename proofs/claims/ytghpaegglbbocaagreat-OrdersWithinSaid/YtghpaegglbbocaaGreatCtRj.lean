import Derived.Test.YtghpaegglbbocaaGreatCtRf
import Derived.Test.YtghpaegglbbocaaGreatCtMr
import Derived.Test.YtghpaegglbbocaaGreatSpRn
set_option linter.unusedSimpArgs false
set_option linter.unusedVariables false
namespace Go.Proofs.YtghpaegglbbocaaGreat
open Go.Sx
set_option maxRecDepth 100000
theorem Ke (l:List Sx.Obj) (a:Av) (hs:az a.msg.data):
 true=true/\True/\(kR l=false->true=true)/\(kR l=true->true=true/\aQ IntKind.i64 (dK a.msg.data)/\(decide (100<dK a.msg.data)=true->true=true)/\(decide (100<dK
  a.msg.data)=false->true=true/\az a.msg.data/\(an l/\az a.msg.data)/\((!decide (JV l a=0)|| !decide ((ez l a).code=0))=true->(∃g,Dd (aE l) g/\false=false/\
  gP l a.now a.key a.msg=gP l a.now a.key a.msg/\JV l a=JV l a/\0=g/\l=l/\a.key=a.key/\a.msg.code=a.msg.code/\a.msg.data=a.msg.data/\a.msg.k0=a.msg.k0/\a.msg.k1=a.msg.k1
  /\a.msg.k2=a.msg.k2/\a.now=a.now/\Bx l a=Bx l a/\a.key=a.key/\a.msg.code=a.msg.code/\a.msg.data=a.msg.data/\a.msg.k0=a.msg.k0/\a.msg.k1=a.msg.k1/\a.msg.k2=a.msg.k2/\a.now=
  a.now/\(ez l a).code=(ez l a).code/\(ez l a).data=(ez l a).data/\(ez l a).k0=(ez l a).k0/\(ez l a).k1=(ez l a).k1/\(ez l a).k2=(ez l a).k2)/\∀(g:Int),Dd (aE l) g->
  (decide (g<en (aE l))=true->(0<=g/\g< ↑(aE l))/\g.toNat<aE l/\((!AE (aH (Bx l a) g) (aq l g.toNat free)&& !decide ((aH (Bx l a) g).kind=3))=true->false=true)/\
  ((!AE (aH (Bx l a) g) (aq l g.toNat free)&& !decide ((aH (Bx l a) g).kind=3))=false->aQ IntKind.i64 (g+1)/\∃g',Dd (aE l) g'/\(en (aE l)-g').toNat<(en (aE l)-
  g).toNat/\false=false/\gP l a.now a.key a.msg=gP l a.now a.key a.msg/\JV l a=JV l a/\g+1=g'/\l=l/\a.key=a.key/\a.msg.code=a.msg.code/\a.msg.data=a.msg.data/\a.msg.k0
  =a.msg.k0/\a.msg.k1=a.msg.k1/\a.msg.k2=a.msg.k2/\a.now=a.now/\Bx l a=Bx l a/\a.key=a.key/\a.msg.code=a.msg.code/\a.msg.data=a.msg.data/\a.msg.k0=a.msg.k0/\a.msg.k1=
  a.msg.k1/\a.msg.k2=a.msg.k2/\a.now=a.now/\(ez l a).code=(ez l a).code/\(ez l a).data=(ez l a).data/\(ez l a).k0=(ez l a).k0/\(ez l a).k1=(ez l a).k1/\(ez l a).k2=(ez l
  a).k2))/\(decide (g<en (aE l))=false->(tF (ez l a).k0 void&&(tF (ez l a).k1 void&&(tF (ez l a).k2 void&&true))&&yo (ez l a).data (ByteArray.mk (Array.mk []))&&true)=true))
  /\((!decide (JV l a=0)|| !decide ((ez l a).code=0))=false->((!decide (bf (ez l a).k0=0)|| !tF (ez l a).k1 void|| !decide ((ez l a).k2.kind=0)&& !decide ((ez l a).k2.kind=1))
  =true->false=true)/\((!decide (bf (ez l a).k0=0)|| !tF (ez l a).k1 void|| !decide ((ez l a).k2.kind=0)&& !decide ((ez l a).k2.kind=1))=false->((Lm l a&& !(Qd l a))=true->
  aQ IntKind.i64 (en (aE l)-1))/\((Lm l a&& !(Qd l a))=true->0<=Mm l a/\Mm l a< ↑(aE l))/\((Lm l a&& !(Qd l a))=true->(Mm l a).toNat<aE l)/\((Lm l a&& !(Qd l a))=
  true->aQ IntKind.i64 ((aq l (Mm l a).toNat free).count+1))/\(((decide (a.key.kind=2)||decide (a.key.kind=5))&&decide (0<=a.key.oid)&&decide (a.key.oid<en (aE l)))=true->(∃
  g,uD l a g/\false=false/\(JW l a)=g.snd/\0=g.fst/\l=l/\a.key=a.key/\a.msg.code=a.msg.code/\a.msg.data=a.msg.data/\a.msg.k0=a.msg.k0/\a.msg.k1=a.msg.k1/\a.msg.k2=
  a.msg.k2/\a.now=a.now/\Bx l a=Bx l a/\a.key=a.key/\a.msg.code=a.msg.code/\a.msg.data=a.msg.data/\a.msg.k0=a.msg.k0/\a.msg.k1=a.msg.k1/\a.msg.k2=a.msg.k2/\a.now=a.now/\(ez
  l a).code=(ez l a).code/\(ez l a).data=(ez l a).data/\(ez l a).k0=(ez l a).k0/\(ez l a).k1=(ez l a).k1/\(ez l a).k2=(ez l a).k2/\(ez l a).k0=(ez l a).k0)/\∀(g:Int×
  Bool),uD l a g->(decide (g.fst<16)=true->((!g.snd)=true->0<=a.key.oid/\a.key.oid< ↑(aE l))/\((!g.snd)=true->0<=g.fst/\g.fst< ↑16)/\((!g.snd)=true->a.key.oid.toNat<aE
  l)/\aQ IntKind.i64 (g.fst+1)/\∃g',uD l a g'/\yS g'<yS g/\false=false/\(g.snd||cT (ez l a).k0 ((aq l a.key.oid.toNat free).slots.at g.fst.toNat))=g'.snd/\g.fst+
  1=g'.fst/\l=l/\a.key=a.key/\a.msg.code=a.msg.code/\a.msg.data=a.msg.data/\a.msg.k0=a.msg.k0/\a.msg.k1=a.msg.k1/\a.msg.k2=a.msg.k2/\a.now=a.now/\Bx l a=Bx l a/\a.key=
  a.key/\a.msg.code=a.msg.code/\a.msg.data=a.msg.data/\a.msg.k0=a.msg.k0/\a.msg.k1=a.msg.k1/\a.msg.k2=a.msg.k2/\a.now=a.now/\(ez l a).code=(ez l a).code/\(ez l a).data=(ez l
  a).data/\(ez l a).k0=(ez l a).k0/\(ez l a).k1=(ez l a).k1/\(ez l a).k2=(ez l a).k2/\(ez l a).k0=(ez l a).k0)/\(decide (g.fst<16)=false->(g.snd&&true)=true))/\(((decide
  (a.key.kind=2)||decide (a.key.kind=5))&&decide (0<=a.key.oid)&&decide (a.key.oid<en (aE l)))=false->((JW l a)&&true)=true))))):=by
 have hin:aQ IntKind.i64 (dK a.msg.data):=by unfold az at hs;simp only[aQ,cy,dK];omega
 have hn:en (aE l)=(l.length:Int):=rfl;have hll:aE l=l.length:=rfl;refine⟨rfl,trivial,fun _=>rfl,fun hm=>?_⟩
 have hL:=(J2 hm).1;have hlen:=lE hL;refine⟨rfl,hin,fun _=>rfl,fun hv=>⟨rfl,hs,⟨hL,hs⟩,fun he=>?_,fun he=>?_⟩⟩
 ·have he:JV l a≠0\/(ez l a).code≠0:=by
   simp only[Bool.or_eq_true,Bool.not_eq_true',decide_eq_false_iff_not]at he;exact he
  obtain⟨k1,k2,k3,k4,k5⟩:=NQ hL he;refine⟨⟨0,⟨by omega,by omega⟩,(by(repeat' apply And.intro)<;>rfl)⟩,fun g hg=>⟨fun hlt=>?_,fun _=>?_⟩⟩
  ·obtain⟨g0,g1⟩:=hg;have hlt:g<en (aE l):=Tl hlt;rw[hn]at hlt⊢;rw[hll];refine⟨⟨g0,hlt⟩,by omega,fun h=>?_,fun _=>⟨by simp only[aQ,cy];omega,g+1,⟨by omega,by omega⟩,by omega,(by(repeat' apply And.intro)<;>rfl)⟩⟩
   rcases k1 g g0 hlt with e|e
   ·rw[e,HR]at h;simp at h
   ·rw[e]at h;simp at h
  ·rw[k2,k3,k4,k5,rj,E5];rfl
 simp only[Bool.or_eq_false_iff,Bool.not_eq_false',Ti]at he;obtain⟨o1,o2,o3,o4⟩:=Rj hL he.1 he.2;refine⟨fun h=>?_,fun _=>?_⟩
 ·have c1:bf (ez l a).k0=0:=by unfold bf;rw[o1];rfl
  rw[c1,o2,rj]at h;rcases o3 with e|e<;>rw[e]at h<;>simp at h
 have hI:Lm l a=true->0<=Mm l a/\Mm l a<(l.length:Int):=fun h=>by
  unfold Lm at h;simp only[Th,Ti]at h;rw[hn]at h;unfold Mm lW imax;rw[hn];omega
 have hX:(Lm l a&& !(Qd l a))=true->Lm l a=true:=fun h=>by
  simp only[Th]at h;exact h.1
 have hcnt:Lm l a=true->aQ IntKind.i64 ((aq l (Mm l a).toNat free).count+1):=fun h=>by
  obtain⟨i0,i1⟩:=hI h;obtain⟨_,_,_,_,c0,c1,_⟩:=dJ.1 (dt hL (Mm l a).toNat (by omega))
  simp only[aQ,cy];omega
 rw[hn,hll];refine⟨fun _=>by simp only[aQ,cy];omega,fun h=>hI (hX h),fun h=>by have:=hI (hX h);omega,fun h=>hcnt (hX h),fun hh=>?_,fun hh=>?_⟩
 ·simp only[Th,Bool.or_eq_true,Ti]at hh;obtain⟨⟨_,q1⟩,q2⟩:=hh;refine⟨⟨(0,JW l a),⟨by simp,by simp,?_⟩,(by(repeat' apply And.intro)<;>rfl)⟩,fun g hg=>⟨fun hlt=>?_,fun hge=>?_⟩⟩
  ·rcases o4 with o4|⟨_,_,_,j,j0,j1,o4⟩
   ·exact .inl o4
   ·exact .inr ⟨j,j0,j1,o4⟩
  ·obtain⟨g0,g1,g2⟩:=hg;have hlt:g.1<16:=Tl hlt;refine⟨fun _=>⟨q1,q2⟩,fun _=>⟨g0,by omega⟩,fun _=>by omega,by simp only[aQ,cy];omega,(g.1+1,g.2||cT (ez l a).k0 ((aq l a.key.oid.toNat free).slots.at g.1.toNat)),⟨by simp only;omega,by simp only;omega,?_⟩,by unfold yS;simp only;omega,(by(repeat' apply And.intro)<;>rfl)⟩
   rcases g2 with g2|⟨j,j0,j1,g2⟩
   ·left;simp[g2]
   ·by_cases e:j=g.1
    ·left;rw[<-e,g2];simp
    ·exact .inr ⟨j,by simp only;omega,j1,g2⟩
  ·obtain⟨g0,g1,g2⟩:=hg;have hge:¬g.1<16:=Tk hge;rcases g2 with g2|⟨j,j0,j1,g2⟩
   ·rw[g2];rfl
   ·omega
 ·rcases o4 with o4|⟨p0,p1,p2,_⟩
  ·rw[o4];rfl
  ·have:((decide (a.key.kind=2)||decide (a.key.kind=5))&&decide (0<=a.key.oid)&&decide (a.key.oid<(l.length:Int)))=true:=by
    simp only[Th,Bool.or_eq_true,Ti];exact⟨⟨p0,p1⟩,p2⟩
   rw[this]at hh;simp at hh
theorem L9 (l:List Sx.Obj) (a:Av) (hs:az a.msg.data):ai Tryz.prog 4 [.sa 0,LN a] [.ro (.arr none 163 (.ob l))] (rm (.bo true)) (fun _ _=>False):=
 cg (inl:=(fun f=>f==10)) (ann:=(me [(10,4,QB 2),(4,7,PX [0,3,4,5,6,7,8] (fun g=> [(9,.it .i64 g)]) (Dd (aE l)) (en (aE l))),(4,18,QB 4),(4,28,S2 [0,3,4,6,12] (fun(g:Int×Bool)=> [(17,.it .i64 g.1),(13,.bo g.2)]) (fun _=> []) (uD l a) yS)])) (ab IU (ab fM (ab tR (ab LF (ab xp ak))))) (aG Mq (aG M5 aA)) (Ke l a hs) (by kernel_rfl)
end Go.Proofs.YtghpaegglbbocaaGreat
