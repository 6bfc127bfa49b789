import Derived.Test.YtghpaegglbbocaaGreatCtRf
import Derived.Test.YtghpaegglbbocaaGreatCtMr
import Derived.Test.YtghpaegglbbocaaGreatSpRk
set_option linter.unusedSimpArgs false
set_option linter.unusedVariables false
namespace Go.Proofs.YtghpaegglbbocaaGreat
open Go.Sx
set_option maxRecDepth 100000
theorem OH (l:List Sx.Obj) (p:Int) (r:Key) (s:ByteArray) (x:List Int) (hs:aA s):
 true=true/\True/\(jO l=false->true=true)/\(jO l=true->((!(decide (12<cw (aj x))||decide (p<0)||decide (cw (aj l)<=p)))=true->aI IntKind.i64 (cc s))/\
  ((!(decide (12<cw (aj x))||decide (p<0)||decide (cw (aj l)<=p)||decide (32<cc s)))=true->0<=p/\p< ↑(aj l))/\((!(decide (12<cw (aj x))||decide (p<0)||decide (cw
  (aj l)<=p)||decide (32<cc s)))=true->p.toNat<aj l)/\((decide (12<cw (aj x))||decide (p<0)||decide (cw (aj l)<=p)||decide (32<cc s)|| !decide ((ah l p.toNat
  free).kind=1))=true->true=true)/\((decide (12<cw (aj x))||decide (p<0)||decide (cw (aj l)<=p)||decide (32<cc s)|| !decide ((ah l p.toNat free).kind=1))=false->E9
  (aj l) 856/\(0<=p/\p< ↑(aj l))/\p.toNat<aj l/\true=true/\True/\(jO (gL l p r)=false->true=true)/\(jO (gL l p r)=true->(0<=p/\p< ↑(aj (gL l p r)))/\
  p.toNat<aj (gL l p r)/\true=true/\True/\(jO (gL l p r)=false->(∃g,og (aj x) g/\false=false/\Value.pointer none=Value.pointer none/\0=g.fst/\l=l/\x=x/\p=
  p/\r=r/\s=s/\l=l/\gL l p r=gL l p r/\Df l p r=Df l p r/\gL l p r=g.snd)/\∀(g:Int×List Sx.Obj),og (aj x) g->(decide (g.fst<cw (aj x))=true->(∃g,
  oa g/\False)/\∀(g_1:Int×List Sx.Obj),oa g_1->(decide (g_1.fst<8)=true->(0<=g.fst/\g.fst< ↑(aj x))/\g.fst.toNat<aj x/\true=true/\False)/\(decide (g_1.fst<8)=
  false->aI IntKind.i64 (g.fst+1)/\∃g',og (aj x) g'/\uq (aj x) g'<uq (aj x) g/\false=false/\Value.pointer none=Value.pointer none/\g.fst+1=g'.fst/\l=l/\x=x
  /\p=p/\r=r/\s=s/\l=l/\gL l p r=gL l p r/\Df l p r=Df l p r/\g_1.snd=g'.snd))/\(decide (g.fst<cw (aj x))=false->true=true))/\(jO (gL l p r)=true->(∃g,
  og (aj x) g/\false=false/\0=g.fst/\l=l/\x=x/\p=p/\r=r/\s=s/\l=l/\gL l p r=gL l p r/\Df l p r=Df l p r/\gL l p r=g.snd/\gL l p r=g.snd)/\∀(g:
  Int×List Sx.Obj),og (aj x) g->(decide (g.fst<cw (aj x))=true->(∃g_1,oa g_1/\false=false/\g.fst=g.fst/\6=g_1.fst/\l=l/\x=x/\p=p/\r=r/\s=s/\l=l/\
  gL l p r=gL l p r/\Df l p r=Df l p r/\g.snd=g_1.snd/\g.snd=g_1.snd)/\∀(g_1:Int×List Sx.Obj),oa g_1->(decide (g_1.fst<8)=true->(0<=g.fst/\g.fst< ↑(aj x))/\
  g.fst.toNat<aj x/\true=true/\g_1.snd=g_1.snd/\(aq g_1.snd/\aA s)/\(uT g_1.snd (Ni l p r s x g.fst g_1.fst)=false->((!true|| !jN g_1.snd g_1.snd)=true->false=true)
  /\((!true|| !jN g_1.snd g_1.snd)=false->aI IntKind.i64 (g_1.fst+1)/\∃g',oa g'/\rC g'<rC g_1/\false=false/\g.fst=g.fst/\g_1.fst+1=g'.fst/\l=l/\x=x/\p=p
  /\r=r/\s=s/\l=l/\gL l p r=gL l p r/\Df l p r=Df l p r/\g_1.snd=g'.snd/\g_1.snd=g'.snd))/\(uT g_1.snd (Ni l p r s x g.fst g_1.fst)=true->((!true|| !jN (ly
  g_1.snd (Ni l p r s x g.fst g_1.fst)) (ly g_1.snd (Ni l p r s x g.fst g_1.fst)))=true->false=true)/\((!true|| !jN (ly g_1.snd (Ni l p r s x g.fst g_1.fst)) (ly g_1.snd (Ni l
  p r s x g.fst g_1.fst)))=false->aI IntKind.i64 (g_1.fst+1)/\∃g',oa g'/\rC g'<rC g_1/\false=false/\g.fst=g.fst/\g_1.fst+1=g'.fst/\l=l/\x=x/\p=p/\r=r/\s
  =s/\l=l/\gL l p r=gL l p r/\Df l p r=Df l p r/\ly g_1.snd (Ni l p r s x g.fst g_1.fst)=g'.snd/\ly g_1.snd (Ni l p r s x g.fst g_1.fst)=g'.snd)))/\(decide (g_1.fst<
  8)=false->aI IntKind.i64 (g.fst+1)/\∃g',og (aj x) g'/\uq (aj x) g'<uq (aj x) g/\false=false/\g.fst+1=g'.fst/\l=l/\x=x/\p=p/\r=r/\s=s/\l=l/\
  gL l p r=gL l p r/\Df l p r=Df l p r/\g_1.snd=g'.snd/\g_1.snd=g'.snd))/\(decide (g.fst<cw (aj x))=false->true=true))))):=by
 have hin:aI IntKind.i64 (cc s):=by unfold aA at hs;simp only[aI,cg,cc];omega
 have hn:cw (aj l)=(aj l:Int):=rfl;refine⟨rfl,trivial,fun _=>rfl,fun hm=>⟨fun _=>hin,fun h=>?_,fun h=>?_,fun _=>rfl,fun hb=>?_⟩⟩
 ·simp only[Bool.not_eq_true',Bool.or_eq_false_iff,decide_eq_false_iff_not]at h;obtain⟨⟨⟨b1,b2⟩,b3⟩,b4⟩:=h;rw[hn]at b3;exact⟨by omega,by omega⟩
 ·simp only[Bool.not_eq_true',Bool.or_eq_false_iff,decide_eq_false_iff_not]at h;obtain⟨⟨⟨b1,b2⟩,b3⟩,b4⟩:=h;rw[hn]at b3;omega
 simp only[Bool.or_eq_false_iff,decide_eq_false_iff_not]at hb;obtain⟨⟨⟨⟨b1,b2⟩,b3⟩,b4⟩,b5⟩:=hb;rw[hn]at b3;have hl20:l.length<=20:=(EE hm).2;have hl20:aj l<=20:=hl20;have hb1:0<=p/\p<(aj l:Int):=⟨by omega,by omega⟩
 have hb2:p.toNat<aj l:=by omega
 have hlen:aj (gL l p r)=aj l:=by simp[gL,aj,cx]
 refine⟨⟨by unfold maxLen;omega,by omega⟩,hb1,hb2,rfl,trivial,fun _=>rfl,fun hm2=>⟨by rw[hlen];exact hb1,by rw[hlen];exact hb2,rfl,trivial,fun h=>by rw[hm2]at h;simp at h,fun _=>?_⟩⟩
 have hx12:¬(12:Int)<cw (aj x):=b1;have hnx:cw (aj x)=(aj x:Int):=rfl;rw[hnx]at hx12;refine⟨⟨(0,gL l p r),⟨by simp,by simp,(EE hm2).1⟩,(by(repeat' apply And.intro)<;>rfl)⟩,fun g hg=>⟨fun hlt=>?_,fun _=>rfl⟩⟩
 obtain⟨g0,g1,g2⟩:=hg;have hlt:g.1<(aj x:Int):=XO hlt;have hi:aI IntKind.i64 (g.1+1):=by simp only[aI,cg];omega
 refine⟨⟨(6,g.2),⟨by simp,by simp,g2⟩,(by(repeat' apply And.intro)<;>rfl)⟩,fun c hc=>⟨fun hlt2=>?_,fun _=>⟨hi,(g.1+1,c.2),⟨by simp only;omega,by simp only;omega,hc.2.2⟩,by unfold uq;simp only;omega,(by(repeat' apply And.intro)<;>rfl)⟩⟩⟩
 obtain⟨c0,c1,c2⟩:=hc;have hlt2:c.1<8:=XO hlt2;have hj:aI IntKind.i64 (c.1+1):=by simp only[aI,cg];omega
 have c3:aq (ly c.2 (Ni l p r s x g.1 c.1)):=Jb c2
 refine⟨⟨g0,hlt⟩,by omega,rfl,rfl,⟨c2,hs⟩,fun _=>⟨fun h=>?_,fun _=>⟨hj,(c.1+1,c.2),⟨by simp only;omega,by simp only;omega,c2⟩,by unfold rC;simp only;omega,(by(repeat' apply And.intro)<;>rfl)⟩⟩,fun _=>⟨fun h=>?_,fun _=>⟨hj,(c.1+1,ly c.2 (Ni l p r s x g.1 c.1)),⟨by simp only;omega,by simp only;omega,c3⟩,by unfold rC;simp only;omega,(by(repeat' apply And.intro)<;>rfl)⟩⟩⟩
 ·rw[yY]at h;simp at h
 ·rw[yY]at h;simp at h
theorem PB (l:List Sx.Obj) (p:Int) (r:Key) (s:ByteArray) (x:List Int) (hs:aA s):ai Tryz.prog 9 [.sa 0,.ag [.it .i64 p,.key r,.st s],.sa 1] [.ro (.arr none 163 (.ob l)),.ro (.arr none 1 (.it .i64 x))] (nz (.bo true)) (fun _ _=>False):=
 br (inl:=bn) (ann:=(jC [(9,10,Vt [0,2,4,6,8,9] (fun(g:Int×List Sx.Obj)=> [(10,.it .i64 g.1)]) 7 163 (fun g=> .ob g.2) (fun g=> [(4,.gone),(7,.store tS eS g.2)]) (og (aj x)) (uq (aj x))),(9,13,Vt [0,2,4,6,8,9,10] (fun(g:Int×List Sx.Obj)=> [(11,.it .i64 g.1)]) 7 163 (fun g=> .ob g.2) (fun g=> [(7,.store tS eS g.2),(8,.gone)]) oa rC)])) (ae Nr (ae IG an)) (aF Q5 (aF PA aC)) (OH l p r s x hs) (by kernel_rfl)
end Go.Proofs.YtghpaegglbbocaaGreat
