import Derived.Test.YtmfbohanboiklaaCtTh
import Derived.Test.YtmfbohanboiklaaSpHx
set_option linter.unusedSimpArgs false
set_option linter.unusedVariables false
namespace Go.Proofs.Ytmfbohanboiklaa
open Go.Sx
set_option maxRecDepth 100000
theorem Dp (L:List Sx.Obj) (oid:Int) (k:Sx.Key):
 true=true/\True/\(eO L=false->true=true)/\(eO L=true->((!(decide (oid<0)||decide (aJ (aa L)<=oid)))=true->0<=oid/\oid< ↑(aa L))/\((!(decide (oid<0)||decide
  (aJ (aa L)<=oid)))=true->oid.toNat<aa L)/\((decide (oid<0)||decide (aJ (aa L)<=oid)|| !decide ((aq L oid.toNat free).kind=1))=true->true=true)/\((decide (oid<0)||
  decide (aJ (aa L)<=oid)|| !decide ((aq L oid.toNat free).kind=1))=false->true=true/\qo (some L)/\(cc L oid=false->(0<=oid/\oid< ↑(aa L))/\oid.toNat<aa L/\((∃g,
  jK L oid g/\oid=oid/\Value.slice none 0 0=Value.slice none 0 0/\az L oid=az L oid/\4=g/\L=L/\k=k/\L=L/\aq L oid.toNat free=aq L oid.toNat free)/\∀(g:Int),
  jK L oid g->(decide (g<16)=true->(0<=g/\g< ↑16)/\(tX ((aq L oid.toNat free).slots.at g.toNat) void=true->(0<=g/\g< ↑16)/\∃g_1,iV L oid g_1/\oid=oid/\Value.slice none
  0 0=Value.slice none 0 0/\az L oid=az L oid/\L=L/\L=L/\Obj.mk (aq L oid.toNat free).kind (aq L oid.toNat free).count (aq L oid.toNat free).calls ((aq L oid.toNat
  free).slots.put g.toNat k) (aq L oid.toNat free).bytes=dE L oid k g_1)/\(tX ((aq L oid.toNat free).slots.at g.toNat) void=false->aO IntKind.i64 (g+1)/\∃g',jK L oid g'/\(16-
  g').toNat<(16-g).toNat/\oid=oid/\Value.slice none 0 0=Value.slice none 0 0/\az L oid=az L oid/\g+1=g'/\L=L/\k=k/\L=L/\aq L oid.toNat free=aq L oid.toNat free))/\
  (decide (g<16)=false->∃g,iV L oid g/\oid=oid/\Value.slice none 0 0=Value.slice none 0 0/\az L oid=az L oid/\L=L/\L=L/\aq L oid.toNat free=dE L oid k g))/\∀(g
  :Int),iV L oid g->((!!decide (az L oid=0))=true->true=true/\((!decide (cq L oid (dE L oid k g)=0))=true->(decide (az L oid=0)&&true)=true)/\((!decide (cq L
  oid (dE L oid k g)=0))=false->true=true/\qo (some (kH L oid k g))/\(cc (kH L oid k g) oid=false->(∃g_1,dB g_1/\Value.slice none 0 0=Value.slice none 0 0/\Value.slice
  none 0 0=Value.slice none 0 0/\az (kH L oid k g) oid=az (kH L oid k g) oid/\0=g_1/\L=L/\kH L oid k g=kH L oid k g/\dE L oid k g=dE L oid k g)/\∀(g_1:Int),dB
  g_1->(decide (g_1<0)=true->False)/\(decide (g_1<0)=false->(decide (az (kH L oid k g) oid=0)&&true)=true))/\(cc (kH L oid k g) oid=true->(∃g_1,dB g_1/\Value.slice
  none 0 0=Value.slice none 0 0/\0=g_1/\L=L/\kH L oid k g=kH L oid k g/\dE L oid k g=dE L oid k g/\aI (kH L oid k g) oid=aI (kH L oid k g) oid)/\∀(g:Int),dB g->
  (decide (g<0)=true->False)/\(decide (g<0)=false->true=true))))/\((!!decide (az L oid=0))=false->(decide (az L oid=0)&&true)=true))/\(cc L oid=true->(0<=oid/\oid
  < ↑(aa L))/\oid.toNat<aa L/\((∃g,jK L oid g/\oid=oid/\4=g/\L=L/\k=k/\L=L/\aI L oid=aI L oid/\aq L oid.toNat free=aq L oid.toNat free)/\∀(g:Int),
  jK L oid g->(decide (g<16)=true->(0<=g/\g< ↑16)/\(tX ((aq L oid.toNat free).slots.at g.toNat) void=true->(0<=g/\g< ↑16)/\∃g_1,iV L oid g_1/\oid=oid/\L=L/\L=L/\
  aI L oid=aI L oid/\Obj.mk (aq L oid.toNat free).kind (aq L oid.toNat free).count (aq L oid.toNat free).calls ((aq L oid.toNat free).slots.put g.toNat k) (aq L oid.toNat free).bytes=
  dE L oid k g_1)/\(tX ((aq L oid.toNat free).slots.at g.toNat) void=false->aO IntKind.i64 (g+1)/\∃g',jK L oid g'/\(16-g').toNat<(16-g).toNat/\oid=oid/\g+1=g'/\L=L
  /\k=k/\L=L/\aI L oid=aI L oid/\aq L oid.toNat free=aq L oid.toNat free))/\(decide (g<16)=false->∃g,iV L oid g/\oid=oid/\L=L/\L=L/\aI L oid=aI L oid/\
  aq L oid.toNat free=dE L oid k g))/\∀(g:Int),iV L oid g->true=true/\((!decide (cq L oid (dE L oid k g)=0))=true->true=true)/\((!decide (cq L oid (dE L oid k g)
  =0))=false->true=true/\qo (some (kH L oid k g))/\(cc (kH L oid k g) oid=false->(∃g_1,dB g_1/\Value.slice none 0 0=Value.slice none 0 0/\az (kH L oid k g) oid=az
  (kH L oid k g) oid/\0=g_1/\L=L/\kH L oid k g=kH L oid k g/\aI L oid=aI L oid/\dE L oid k g=dE L oid k g)/\∀(g_1:Int),dB g_1->(decide (g_1<aJ (aa (aI L
  oid)))=true->(0<=g_1/\g_1< ↑(aa (aI L oid)))/\g_1.toNat<aa (aI L oid)/\true=true/\False)/\(decide (g_1<aJ (aa (aI L oid)))=false->(decide (az (kH L oid k g) oid=
  0)&&true)=true))/\(cc (kH L oid k g) oid=true->(∃g_1,dB g_1/\0=g_1/\L=L/\kH L oid k g=kH L oid k g/\aI L oid=aI L oid/\dE L oid k g=dE L oid k g/\aI
  (kH L oid k g) oid=aI (kH L oid k g) oid)/\∀(g_1:Int),dB g_1->(decide (g_1<aJ (aa (aI L oid)))=true->(0<=g_1/\g_1< ↑(aa (aI L oid)))/\g_1.toNat<aa (aI L
  oid)/\c9 (aI (kH L oid k g) oid)/\((!il (Key.mk (aK (aI L oid) g_1.toNat 0) (aK (aI L oid) g_1.toNat 1) (aK (aI L oid) g_1.toNat 2) (aK (aI L oid) g_1.toNat 3) (aK (aI
  L oid) g_1.toNat 4) 0) (aI (kH L oid k g) oid))=true->false=true)/\((!il (Key.mk (aK (aI L oid) g_1.toNat 0) (aK (aI L oid) g_1.toNat 1) (aK (aI L oid) g_1.toNat 2) (aK
  (aI L oid) g_1.toNat 3) (aK (aI L oid) g_1.toNat 4) 0) (aI (kH L oid k g) oid))=false->aO IntKind.i64 (g_1+1)/\∃g',dB g'/\(10000-g').toNat<(10000-g_1).toNat/\g_1+1=
  g'/\L=L/\kH L oid k g=kH L oid k g/\aI L oid=aI L oid/\dE L oid k g=dE L oid k g/\aI (kH L oid k g) oid=aI (kH L oid k g) oid))/\(decide (g_1<aJ (aa (aI L
  oid)))=false->true=true)))))):=by
 refine⟨rfl,trivial,fun _=>rfl,fun hM=>?_⟩
 have hM':=hM;unfold eO at hM';simp only[NP,NQ]at hM';obtain⟨_,hR⟩:=hM'
 have hb:∀(P:Prop),(0<=oid/\oid<(L.length:Int)->P)->((!(decide (oid<0)||decide (aJ (aa L)<=oid)))=true->P):=fun P f h=>by
  simp only[Bool.not_eq_true',Bool.or_eq_false_iff,decide_eq_false_iff_not]at h;have h2:¬(L.length:Int)<=oid:=h.2;exact f ⟨by omega,by omega⟩
 refine⟨hb _ fun h=>h,hb _ fun h=>by show oid.toNat<L.length;omega,fun _=>rfl,fun h=>?_⟩
 simp only[Bool.or_eq_false_iff,decide_eq_false_iff_not,Bool.not_eq_false',NQ]at h;obtain⟨⟨a1,a2⟩,a3⟩:=h;have a2:¬(L.length:Int)<=oid:=a2;have hh:az L oid=0:=de.2 ⟨by omega,by omega⟩
 have hB:cc L oid=true:=decide_eq_true hh;have hc:0<=oid/\oid<((aa L:Nat):Int):=⟨by omega,by show oid<(L.length:Int);omega⟩
 refine⟨rfl,hR,fun hf=>absurd (hB.symm.trans hf) (by decide),fun _=>⟨hc,by show oid.toNat<L.length;omega,⟨⟨4,⟨by omega,by omega⟩,rfl,rfl,rfl,rfl,rfl,rfl,rfl⟩,fun g hg=>⟨fun hlt=>?_,fun hge=>?_⟩⟩,fun g hg=>⟨rfl,fun _=>rfl,fun hp=>?_⟩⟩⟩
 ·have hlt:=NU hlt;obtain⟨g0,g1⟩:=hg;refine⟨⟨by omega,hlt⟩,fun hv=>⟨⟨by omega,hlt⟩,g,⟨g0,fun _=>by simpa[tX]using hv⟩,rfl,rfl,rfl,rfl,?_⟩,fun hv=>⟨by simp only[aO,bE];omega,g+1,⟨by omega,by omega⟩,by omega,rfl,rfl,rfl,rfl,rfl,rfl,rfl⟩⟩
  unfold dE;rw[NX (decide_eq_true hlt)]
 ·have hge:=NT hge;refine⟨g,⟨hg.1,fun h=>absurd h hge⟩,rfl,rfl,rfl,rfl,?_⟩
  unfold dE;rw[NW (by simpa using hge)]
 ·have hp:cq L oid (dE L oid k g)=0:=by simpa using hp
  obtain⟨w1,w2,w3⟩:=Jx hR hg hp;refine⟨rfl,w1,fun hf=>absurd (w2.symm.trans hf) (by decide),fun _=>⟨⟨0,⟨by omega,by omega⟩,rfl,rfl,rfl,rfl,rfl,rfl⟩,fun i hi=>⟨fun hlt=>?_,fun _=>rfl⟩⟩⟩
  have hlt:=NU hlt;have hlt:i<((aI L oid).length:Int):=hlt;obtain⟨i0,i1⟩:=hi;have hl:=GB hR oid;have hj:i.toNat<(aI L oid).length:=by omega
  refine⟨⟨i0,hlt⟩,hj,xt w1 oid,fun hw=>?_,fun _=>⟨by simp only[aO,bE];omega,i+1,⟨by omega,by omega⟩,by omega,rfl,rfl,rfl,rfl,rfl,rfl⟩⟩
  have hw:(!il (bP (cJ (aI L oid) i.toNat)) (aI (kH L oid k g) oid))=true:=hw;rw[HH hR w1 w3 hj]at hw;simp at hw
theorem Dd (L:List Sx.Obj) (oid:Int) (k:Sx.Key):ai Try.prog 6 [.sa 0,.it .i64 oid,.key k] [.ro (.arr none 163 (.ob L))] (nc (.bo true)) (fun _ _=>False):=
 cE (inl:=bu) (ann:=(jb [(6,7,FL [1,5,7,8,9,10] (fun g=> [(11,.it .i64 g)]) (jK L oid) 16),(6,2000011,NC [1,7,8,9,10] (fun(g:Int)=> []) (fun g=> [(10,.blk NA (.ob (dE L oid k g)))]) (fun _=> []) (iV L oid)),(6,15,FL [8,12,13] (fun g=> [(14,.it .i64 g)]) dB 10000)])) (ak oV (ak F2 aA)) (bz vL (bz zq (bz vy cH))) (Dp L oid k) (by kernel_rfl)
end Go.Proofs.Ytmfbohanboiklaa
