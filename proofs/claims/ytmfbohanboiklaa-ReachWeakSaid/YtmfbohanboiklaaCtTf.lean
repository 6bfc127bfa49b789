import Derived.Test.YtmfbohanboiklaaCtTe
import Derived.Test.YtmfbohanboiklaaSpHw
set_option linter.unusedSimpArgs false
set_option linter.unusedVariables false
namespace Go.Proofs.Ytmfbohanboiklaa
open Go.Sx
set_option maxRecDepth 100000
theorem Bw (L:List Sx.Obj) (oid:Int) (k:Sx.Key):
 true=true/\True/\(fN L=false->true=true)/\(fN L=true->((!(decide (oid<0)||decide (aK (aa L)<=oid)))=true->0<=oid/\oid< ↑(aa L))/\((!(decide (oid<0)||decide
  (aK (aa L)<=oid)))=true->oid.toNat<aa L)/\((decide (oid<0)||decide (aK (aa L)<=oid)|| !decide ((au L oid.toNat free).kind=1)|| !decide (aY k=0)|| !decide (k.kind=2))=
  true->true=true)/\((decide (oid<0)||decide (aK (aa L)<=oid)|| !decide ((au L oid.toNat free).kind=1)|| !decide (aY k=0)|| !decide (k.kind=2))=false->(0<=oid/\oid< ↑(aa
  L))/\oid.toNat<aa L/\true=true/\((!decide (cY L oid (B6 L oid k)=0))=true->true=true)/\((!decide (cY L oid (B6 L oid k)=0))=false->true=true/\xp (some (vS L oid k))
  /\(dp (vS L oid k) oid=false->(∃g,mo g/\Value.slice none 0 0=Value.slice none 0 0/\aC (vS L oid k) oid=aC (vS L oid k) oid/\0=g/\L=L/\k=k/\vS L oid k=vS L oid
  k/\B6 L oid k=B6 L oid k)/\∀(g:Int),mo g->(decide (g<0)=true->False)/\(decide (g<0)=false->(decide (aC (vS L oid k) oid=0)&&true)=true))/\(dp (vS L oid k) oid
  =true->(∃g,mo g/\0=g/\L=L/\k=k/\vS L oid k=vS L oid k/\B6 L oid k=B6 L oid k/\gk L oid k=gk L oid k)/\∀(g:Int),mo g->(decide (g<aK (aa (gk L oid k)))=
  true->(0<=g/\g< ↑(aa (gk L oid k)))/\g.toNat<aa (gk L oid k)/\(decide (aN (gk L oid k) g.toNat 0=2)=true->0<=g/\g< ↑(aa (gk L oid k)))/\(decide (aN (gk L oid k) g.toNat 0
  =2)=true->g.toNat<aa (gk L oid k))/\((!(decide (aN (gk L oid k) g.toNat 0=2)&&decide (b6 BinOp.and IntKind.i64 (aN (gk L oid k) g.toNat 4) 3=3)))=true->0<=g/\g< ↑(aa (gk
  L oid k)))/\((!(decide (aN (gk L oid k) g.toNat 0=2)&&decide (b6 BinOp.and IntKind.i64 (aN (gk L oid k) g.toNat 4) 3=3)))=true->g.toNat<aa (gk L oid k))/\((decide (aN (gk L oid
  k) g.toNat 0=3)&& !(decide (aN (gk L oid k) g.toNat 0=2)&&decide (b6 BinOp.and IntKind.i64 (aN (gk L oid k) g.toNat 4) 3=3)))=true->0<=g/\g< ↑(aa (gk L oid k)))/\((decide (aN
  (gk L oid k) g.toNat 0=3)&& !(decide (aN (gk L oid k) g.toNat 0=2)&&decide (b6 BinOp.and IntKind.i64 (aN (gk L oid k) g.toNat 4) 3=3)))=true->g.toNat<aa (gk L oid k))/\
  ((!(decide (aN (gk L oid k) g.toNat 0=2)&&decide (b6 BinOp.and IntKind.i64 (aN (gk L oid k) g.toNat 4) 3=3)||decide (aN (gk L oid k) g.toNat 0=3)&&decide (aN (gk L oid k) g.toNat
  4=1)))=true->0<=g/\g< ↑(aa (gk L oid k)))/\((!(decide (aN (gk L oid k) g.toNat 0=2)&&decide (b6 BinOp.and IntKind.i64 (aN (gk L oid k) g.toNat 4) 3=3)||decide (aN (gk L oid
  k) g.toNat 0=3)&&decide (aN (gk L oid k) g.toNat 4=1)))=true->g.toNat<aa (gk L oid k))/\((!(decide (aN (gk L oid k) g.toNat 0=2)&&decide (b6 BinOp.and IntKind.i64 (aN (gk L
  oid k) g.toNat 4) 3=3)||decide (aN (gk L oid k) g.toNat 0=3)&&decide (aN (gk L oid k) g.toNat 4=1)||decide (aN (gk L oid k) g.toNat 0=8)))=true->false=true)/\((!(decide (aN
  (gk L oid k) g.toNat 0=2)&&decide (b6 BinOp.and IntKind.i64 (aN (gk L oid k) g.toNat 4) 3=3)||decide (aN (gk L oid k) g.toNat 0=3)&&decide (aN (gk L oid k) g.toNat 4=1)||
  decide (aN (gk L oid k) g.toNat 0=8)))=false->aP IntKind.i64 (g+1)/\∃g',mo g'/\(10000-g').toNat<(10000-g).toNat/\g+1=g'/\L=L/\k=k/\vS L oid k=vS L oid k/\B6
  L oid k=B6 L oid k/\gk L oid k=gk L oid k))/\(decide (g<aK (aa (gk L oid k)))=false->true=true))))):=by
 refine⟨rfl,trivial,fun _=>rfl,fun hM=>?_⟩
 have hM':=hM;unfold fN at hM';simp only[M8,M9]at hM';obtain⟨_,hR⟩:=hM'
 have hb:∀(P:Prop),(0<=oid/\oid<(L.length:Int)->P)->((!(decide (oid<0)||decide (aK (aa L)<=oid)))=true->P):=fun P f h=>by
  simp only[Bool.not_eq_true',Bool.or_eq_false_iff,decide_eq_false_iff_not]at h;have h2:¬(L.length:Int)<=oid:=h.2;exact f ⟨by omega,by omega⟩
 refine⟨hb _ fun h=>h,hb _ fun h=>by show oid.toNat<L.length;omega,fun _=>rfl,fun h=>?_⟩
 simp only[Bool.or_eq_false_iff,decide_eq_false_iff_not,Bool.not_eq_false',M9]at h;obtain⟨⟨⟨⟨a1,a2⟩,a3⟩,a4⟩,a5⟩:=h;have a2:¬(L.length:Int)<=oid:=a2;refine⟨⟨by omega,by show oid<(L.length:Int);omega⟩,by show oid.toNat<L.length;omega,rfl,fun _=>rfl,fun hp=>?_⟩
 have hp:cY L oid (B6 L oid k)=0:=by simpa using hp
 obtain⟨b1,b2,b3,b4⟩:=It hR a5 hp;refine⟨rfl,b1,fun h=>absurd (b2.symm.trans h) (by decide),fun _=>⟨⟨0,⟨by omega,by omega⟩,rfl,rfl,rfl,rfl,rfl,rfl⟩,fun g hg=>⟨fun hlt=>?_,fun _=>rfl⟩⟩⟩
 have hlt:=Nc hlt;have hlt:g<((gk L oid k).length:Int):=hlt;obtain⟨g0,g1⟩:=hg;have hj:g.toNat<(gk L oid k).length:=by omega
 have hB:=Jv (b4 _ (at_mem hj).1);have c1:0<=g/\g<((aa (gk L oid k):Nat):Int):=⟨g0,hlt⟩;refine⟨c1,hj,fun _=>c1,fun _=>hj,fun _=>c1,fun _=>hj,fun _=>c1,fun _=>hj,fun _=>c1,fun _=>hj,fun hw=>?_,fun _=>⟨by simp only[aP,bC];omega,g+1,⟨by omega,by omega⟩,by omega,rfl,rfl,rfl,rfl,rfl,rfl⟩⟩
 have hw:(!Mq (gk L oid k) g.toNat)=true:=hw;rw[hB]at hw;simp at hw
theorem A1 (L:List Sx.Obj) (oid:Int) (k:Sx.Key):ai Try.prog 3 [.sa 0,.it .i64 oid,.key k] [.ro (.arr none 163 (.ob L))] (nz (.bo true)) (fun _ _=>False):=
 cK (inl:=bw) (ann:=(kg [(3,11,Jw [9,10] (fun g=> [(11,.it .i64 g)]) mo 10000)])) (an ru (an oy (an wJ az))) (bL zp (bL Ei (bL yM cM))) (Bw L oid k) (by kernel_rfl)
end Go.Proofs.Ytmfbohanboiklaa
