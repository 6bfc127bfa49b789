import Derived.Test.YtghpaegglbbocaaGreatCtRf
import Derived.Test.YtghpaegglbbocaaGreatCtMr
import Derived.Test.YtghpaegglbbocaaGreatSpRk
set_option linter.unusedSimpArgs false
set_option linter.unusedVariables false
namespace Go.Proofs.YtghpaegglbbocaaGreat
open Go.Sx
set_option maxRecDepth 100000
theorem PM (l:List Sx.Obj) (a:uq) (hs:aw a.msg.data):
 true=true/\True/\(fC l=false->true=true)/\(fC l=true->true=true/\aG IntKind.i64 (bW a.msg.data)/\(decide (100<bW a.msg.data)=true->true=true)/\(decide (100<bW
  a.msg.data)=false->(∃g,ug g/\false=false/\ -1=g/\l=l/\a.key=a.key/\a.msg.code=x9 a.msg.code g/\a.msg.data=a.msg.data/\a.msg.k0=a.msg.k0/\a.msg.k1=a.msg.k1/\a.msg.k2
  =a.msg.k2/\a.now=a.now/\l=l/\a.key=a.key/\a.msg.code=a.msg.code/\a.msg.data=a.msg.data/\a.msg.k0=a.msg.k0/\a.msg.k1=a.msg.k1/\a.msg.k2=a.msg.k2/\a.now=a.now)/\∀(g:Int),
  ug g->(decide (g<10)=true->true=true/\True/\(fC l=false->true=true/\False)/\(fC l=true->true=true/\l=l/\(aq l/\aw a.msg.data)/\(ky l (UQ a g)=
  false->((!true|| !ev l l)=true->false=true)/\((!true|| !ev l l)=false->aG IntKind.i64 (g+1)/\∃g',ug g'/\sw g'<sw g/\false=false/\g+1=g'/\l=l/\
  a.key=a.key/\g=x9 a.msg.code g'/\a.msg.data=a.msg.data/\a.msg.k0=a.msg.k0/\a.msg.k1=a.msg.k1/\a.msg.k2=a.msg.k2/\a.now=a.now/\l=l/\a.key=a.key/\a.msg.code=a.msg.code/\
  a.msg.data=a.msg.data/\a.msg.k0=a.msg.k0/\a.msg.k1=a.msg.k1/\a.msg.k2=a.msg.k2/\a.now=a.now))/\(ky l (UQ a g)=true->((!true|| !ev (fa l (UQ a g)) (fa l (UQ a g)))
  =true->false=true)/\((!true|| !ev (fa l (UQ a g)) (fa l (UQ a g)))=false->aG IntKind.i64 (g+1)/\∃g',ug g'/\sw g'<sw g/\false=false/\g+1=g'/\l=l
  /\a.key=a.key/\g=x9 a.msg.code g'/\a.msg.data=a.msg.data/\a.msg.k0=a.msg.k0/\a.msg.k1=a.msg.k1/\a.msg.k2=a.msg.k2/\a.now=a.now/\l=l/\a.key=a.key/\a.msg.code=a.msg.code/\
  a.msg.data=a.msg.data/\a.msg.k0=a.msg.k0/\a.msg.k1=a.msg.k1/\a.msg.k2=a.msg.k2/\a.now=a.now))))/\(decide (g<10)=false->true=true))):=by
 have hin:aG IntKind.i64 (bW a.msg.data):=by unfold aw at hs;simp only[aG,bY,bW];omega
 refine⟨rfl,trivial,fun _=>rfl,fun hm=>⟨rfl,hin,fun _=>rfl,fun _=>⟨⟨-1,⟨by omega,by omega⟩,(by(repeat' apply And.intro)<;>rfl)⟩,fun g hg=>⟨fun hlt=>?_,fun _=>rfl⟩⟩⟩⟩
 obtain⟨g0,g1⟩:=hg;have hlt:g<10:=Ys hlt;have hi:aG IntKind.i64 (g+1):=by simp only[aG,bY];omega
 have hL:=(wC hm).1;have hz:g=x9 a.msg.code (g+1):=by unfold x9;rw[Yu (by omega)];omega
 have fin:false=false/\g+1=g+1/\l=l/\a.key=a.key/\g=x9 a.msg.code (g+1)/\a.msg.data=a.msg.data/\a.msg.k0=a.msg.k0/\a.msg.k1=a.msg.k1/\a.msg.k2=a.msg.k2/\a.now=a.now/\l=l/\a.key=a.key/\a.msg.code=a.msg.code/\a.msg.data=a.msg.data/\a.msg.k0=a.msg.k0/\a.msg.k1=a.msg.k1/\a.msg.k2=a.msg.k2/\a.now=a.now:=by
  (repeat' apply And.intro)<;>first|rfl|exact hz
 refine⟨rfl,trivial,fun h=>by rw[hm]at h;simp at h,fun _=>⟨rfl,rfl,⟨hL,hs⟩,fun hc=>⟨fun h=>?_,fun _=>⟨hi,g+1,⟨by omega,by omega⟩,by unfold sw;omega,fin⟩⟩,fun hc=>⟨fun h=>?_,fun _=>⟨hi,g+1,⟨by omega,by omega⟩,by unfold sw;omega,fin⟩⟩⟩⟩
 ·rw[iq]at h;simp at h
 ·rw[iq]at h;simp at h
theorem Pp (l:List Sx.Obj) (a:uq) (hs:aw a.msg.data):ai Tryz.prog 7 [.sa 0,rM a] [.ro (.arr none 163 (.ob l))] (mG (.bo true)) (fun _ _=>False):=
 bp (inl:=(fun f=>f==10)) (ann:=(iz [(10,4,Tf 2),(7,4,RK [0,3,4] (fun(g:Int)=> [(5,.it .i64 g)]) 3 (fun g=> .blk Yj (Yg a (x9 a.msg.code g))) ug sw)])) (ab wK (ab qs ak)) (aD wj (aD wa aC)) (PM l a hs) (by kernel_rfl)
theorem Rx (l:List Sx.Obj) (o:Int) (m:bm) (hs:aw m.data):
 true=true/\True/\(fC l=false->true=true)/\(fC l=true->((!(decide (8<b9 (aj l))||decide (o<0)||decide (b9 (aj l)<=o)))=true->aG IntKind.i64 (bW m.data))/\
  ((decide (8<b9 (aj l))||decide (o<0)||decide (b9 (aj l)<=o)||decide (40<bW m.data))=true->true=true)/\((decide (8<b9 (aj l))||decide (o<0)||decide (b9 (aj l)<=
  o)||decide (40<bW m.data))=false->(∃g,iH 11 g/\o=o/\false=false/\0=g.fst/\l=l/\m.code=g.snd/\m.data=m.data/\m.k0=m.k0/\m.k1=m.k1/\m.k2=m.k2/\l=l)/\∀(g:
  Int×Int),iH 11 g->(decide (g.fst<11)=true->((decide (2<=g.fst)&&decide (g.fst<=7))=true->(0<=o/\o< ↑(aj l))/\o.toNat<aj l/\(∃g_1,iH 9 g_1/\o=o/\false=false
  /\g.fst=g.fst/\0=g_1.fst/\l=l/\g.snd=mP g_1/\m.data=m.data/\m.k0=m.k0/\m.k1=m.k1/\m.k2=m.k2/\l=l/\Key.mk g.fst o (ah l o.toNat free).count void.call void.rights
  void.value=Key.mk g.fst o (ah l o.toNat free).count void.call void.rights void.value)/\∀(g_1:Int×Int),iH 9 g_1->(decide (g_1.fst<9)=true->true=true/\True/\(fC l=false->
  true=true/\False)/\(fC l=true->true=true/\l=l/\(aq l/\aw m.data)/\(ky l (GJ l o m g.fst g_1.fst)=false->((!true|| !ev l l)=true->false=true)/\((!true||
  !ev l l)=false->aG IntKind.i64 (g_1.fst+1)/\∃g',iH 9 g'/\gK 9 g'<gK 9 g_1/\o=o/\false=false/\g.fst=g.fst/\g_1.fst+1=g'.fst/\l=l/\g_1.fst=mP g'/\
  m.data=m.data/\m.k0=m.k0/\m.k1=m.k1/\m.k2=m.k2/\l=l/\Key.mk g.fst o (ah l o.toNat free).count void.call void.rights void.value=Key.mk g.fst o (ah l o.toNat free).count void.call
  void.rights void.value))/\(ky l (GJ l o m g.fst g_1.fst)=true->((!true|| !ev (fa l (GJ l o m g.fst g_1.fst)) (fa l (GJ l o m g.fst g_1.fst)))=true->false=true)/\((!true
  || !ev (fa l (GJ l o m g.fst g_1.fst)) (fa l (GJ l o m g.fst g_1.fst)))=false->aG IntKind.i64 (g_1.fst+1)/\∃g',iH 9 g'/\gK 9 g'<gK 9 g_1/\o=o/\false=
  false/\g.fst=g.fst/\g_1.fst+1=g'.fst/\l=l/\g_1.fst=mP g'/\m.data=m.data/\m.k0=m.k0/\m.k1=m.k1/\m.k2=m.k2/\l=l/\Key.mk g.fst o (ah l o.toNat free).count void.call
  void.rights void.value=Key.mk g.fst o (ah l o.toNat free).count void.call void.rights void.value))))/\(decide (g_1.fst<9)=false->aG IntKind.i64 (g.fst+1)/\∃g',iH 11 g'/\gK 11
  g'<gK 11 g/\o=o/\false=false/\g.fst+1=g'.fst/\l=l/\mP g_1=g'.snd/\m.data=m.data/\m.k0=m.k0/\m.k1=m.k1/\m.k2=m.k2/\l=l))/\((decide (2<=g.fst)&&decide (g.fst
  <=7))=false->(∃g_1,iH 9 g_1/\o=o/\false=false/\g.fst=g.fst/\0=g_1.fst/\l=l/\g.snd=mP g_1/\m.data=m.data/\m.k0=m.k0/\m.k1=m.k1/\m.k2=m.k2/\l=l/\Key.mk
  g.fst void.oid void.count void.call void.rights void.value=Key.mk g.fst void.oid void.count void.call void.rights void.value)/\∀(g_1:Int×Int),iH 9 g_1->(decide (g_1.fst<9)=true->
  true=true/\True/\(fC l=false->true=true/\False)/\(fC l=true->true=true/\l=l/\(aq l/\aw m.data)/\(ky l (GU m g.fst g_1.fst)=false->((!true|| !ev l l)
  =true->false=true)/\((!true|| !ev l l)=false->aG IntKind.i64 (g_1.fst+1)/\∃g',iH 9 g'/\gK 9 g'<gK 9 g_1/\o=o/\false=false/\g.fst=g.fst/\g_1.fst+1=
  g'.fst/\l=l/\g_1.fst=mP g'/\m.data=m.data/\m.k0=m.k0/\m.k1=m.k1/\m.k2=m.k2/\l=l/\Key.mk g.fst void.oid void.count void.call void.rights void.value=Key.mk g.fst void.oid
  void.count void.call void.rights void.value))/\(ky l (GU m g.fst g_1.fst)=true->((!true|| !ev (fa l (GU m g.fst g_1.fst)) (fa l (GU m g.fst g_1.fst)))=true->false=true)
  /\((!true|| !ev (fa l (GU m g.fst g_1.fst)) (fa l (GU m g.fst g_1.fst)))=false->aG IntKind.i64 (g_1.fst+1)/\∃g',iH 9 g'/\gK 9 g'<gK 9 g_1/\o=o/\false=
  false/\g.fst=g.fst/\g_1.fst+1=g'.fst/\l=l/\g_1.fst=mP g'/\m.data=m.data/\m.k0=m.k0/\m.k1=m.k1/\m.k2=m.k2/\l=l/\Key.mk g.fst void.oid void.count void.call void.rights
  void.value=Key.mk g.fst void.oid void.count void.call void.rights void.value))))/\(decide (g_1.fst<9)=false->aG IntKind.i64 (g.fst+1)/\∃g',iH 11 g'/\gK 11 g'<gK 11 g/\o
  =o/\false=false/\g.fst+1=g'.fst/\l=l/\mP g_1=g'.snd/\m.data=m.data/\m.k0=m.k0/\m.k1=m.k1/\m.k2=m.k2/\l=l)))/\(decide (g.fst<11)=false->true=true))):=by
 have hin:aG IntKind.i64 (bW m.data):=by unfold aw at hs;simp only[aG,bY,bW];omega
 refine⟨rfl,trivial,fun _=>rfl,fun hm=>⟨fun _=>hin,fun _=>rfl,fun hb=>⟨⟨(0,m.code),⟨by simp,by simp⟩,(by(repeat' apply And.intro)<;>rfl)⟩,fun g hg=>⟨fun hlt=>?_,fun _=>rfl⟩⟩⟩⟩
 obtain⟨g0,g1⟩:=hg;have hlt:g.1<11:=Ys hlt;have hi:aG IntKind.i64 (g.1+1):=by simp only[aG,bY];omega
 have hL:=(wC hm).1;simp only[Bool.or_eq_false_iff,decide_eq_false_iff_not]at hb;obtain⟨⟨⟨b1,b2⟩,b3⟩,b4⟩:=hb;have hn:b9 (aj l)=(aj l:Int):=rfl;rw[hn]at b1 b3;refine⟨fun _=>⟨⟨by omega,by omega⟩,by omega,?_⟩,fun _=>?_⟩
 ·refine⟨⟨(0,g.2),⟨by simp,by simp⟩,(by(repeat' apply And.intro)<;>rfl)⟩,fun c hc=>⟨fun hlt2=>?_,fun _=>⟨hi,(g.1+1,mP c),⟨by simp only;omega,by simp only;omega⟩,by unfold gK;simp only;omega,(by(repeat' apply And.intro)<;>rfl)⟩⟩⟩
  obtain⟨c0,c1⟩:=hc;have hlt2:c.1<9:=Ys hlt2;have hj:aG IntKind.i64 (c.1+1):=by simp only[aG,bY];omega
  have hz:c.1=mP (c.1+1,0):=by unfold mP;simp only;rw[Yu (by omega)];omega
  refine⟨rfl,trivial,fun h=>by rw[hm]at h;simp at h,fun _=>⟨rfl,rfl,⟨hL,hs⟩,fun hc=>⟨fun h=>by rw[iq]at h;simp at h,fun _=>⟨hj,(c.1+1,0),⟨by simp only;omega,by simp only;omega⟩,by unfold gK;simp only;omega,?_⟩⟩,fun hc=>⟨fun h=>by rw[iq]at h;simp at h,fun _=>⟨hj,(c.1+1,0),⟨by simp only;omega,by simp only;omega⟩,by unfold gK;simp only;omega,?_⟩⟩⟩⟩
  all_goals(repeat' apply And.intro)<;>first|rfl|exact hz
 ·refine⟨⟨(0,g.2),⟨by simp,by simp⟩,(by(repeat' apply And.intro)<;>rfl)⟩,fun c hc=>⟨fun hlt2=>?_,fun _=>⟨hi,(g.1+1,mP c),⟨by simp only;omega,by simp only;omega⟩,by unfold gK;simp only;omega,(by(repeat' apply And.intro)<;>rfl)⟩⟩⟩
  obtain⟨c0,c1⟩:=hc;have hlt2:c.1<9:=Ys hlt2;have hj:aG IntKind.i64 (c.1+1):=by simp only[aG,bY];omega
  have hz:c.1=mP (c.1+1,0):=by unfold mP;simp only;rw[Yu (by omega)];omega
  refine⟨rfl,trivial,fun h=>by rw[hm]at h;simp at h,fun _=>⟨rfl,rfl,⟨hL,hs⟩,fun hc=>⟨fun h=>by rw[iq]at h;simp at h,fun _=>⟨hj,(c.1+1,0),⟨by simp only;omega,by simp only;omega⟩,by unfold gK;simp only;omega,?_⟩⟩,fun hc=>⟨fun h=>by rw[iq]at h;simp at h,fun _=>⟨hj,(c.1+1,0),⟨by simp only;omega,by simp only;omega⟩,by unfold gK;simp only;omega,?_⟩⟩⟩⟩
  all_goals(repeat' apply And.intro)<;>first|rfl|exact hz
theorem Qz (l:List Sx.Obj) (o:Int) (m:bm) (hs:aw m.data):ai Tryz.prog 8 [.sa 0,.it .i64 o,jS m] [.ro (.arr none 163 (.ob l))] (mG (.bo true)) (fun _ _=>False):=
 bp (inl:=bn) (ann:=(iz [(8,4,RK [0,1,5,6] (fun(g:Int×Int)=> [(7,.it .i64 g.1)]) 5 (fun g=> .blk 28 (XO m g.2)) (iH 11) (gK 11)),(8,10,RK [0,1,5,6,7,8] (fun(g:Int×Int)=> [(9,.it .i64 g.1)]) 5 (fun g=> .blk 28 (XO m (mP g))) (iH 9) (gK 9))])) (ab wK (ab qs ak)) (aD wj (aD wa aC)) (Rx l o m hs) (by kernel_rfl)
end Go.Proofs.YtghpaegglbbocaaGreat
