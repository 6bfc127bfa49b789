import Derived.Test.YtmfbohanboiklaaGreatCtTa
import Derived.Test.YtmfbohanboiklaaGreatCtTs
import Derived.Test.YtmfbohanboiklaaGreatSpHb
set_option linter.unusedSimpArgs false
set_option linter.unusedVariables false
namespace Go.Proofs.YtmfbohanboiklaaGreat
open Go.Sx
set_option maxRecDepth 100000
theorem FL (L:List Sx.Obj) (oid:Int) (hL:ow L):
 true=true/\jg ([],[]) 900000/\(∃g,ep L oid g/\L=L/\(eE L ([],[]) oid false 16).fst=g.fst/\(eE L ([],[]) oid false 16).snd=ay g/\([2,5]:List Int)= [2,5])/\∀(g:List
  (Cp×Int)×Nat),ep L oid g->(decide (dp (ar (ay g))=0)=true->true=true/\true=true/\true=true/\true=true/\true=true/\∀(r0:Loop),(∃g_1,gF g.fst g_1/\L=L/\
  ([2,5]:List Int)= [2,5]/\g.fst=g.fst/\ay g=ay g/\r0=r0/\ar g.fst=ar g.fst/\ []=g_1/\ []=fE g.fst g_1)/\∀(g_1:List Nat),gF g.fst g_1->Hq (ar g.fst) g.fst
  /\(∀(q:Nat),q.succ.le (ar g.fst)->Cs g_1 q=false->F2 (ar g.fst) g.fst (bf g_1 q)/\r0=r0/\r0=r0/\jt (ar (fE g.fst g_1)) 40/\r0=r0/\∃g',gF g.fst g'/\nG g'<
  nG g_1/\L=L/\([2,5]:List Int)= [2,5]/\g.fst=g.fst/\ay g=ay g/\r0=r0/\ar g.fst=ar g.fst/\bf g_1 q=g'/\bf (fE g.fst g_1) [bM g.fst (mH (bf g_1 q)) 0,
  bM g.fst (mH (bf g_1 q)) 1,bM g.fst (mH (bf g_1 q)) 2,bM g.fst (mH (bf g_1 q)) 3,bM g.fst (mH (bf g_1 q)) 4]=fE g.fst g')/\((∀(q:Nat),q.succ.le (ar g.fst)->Cs
  g_1 q=true)->true=true/\sU (fE g.fst g_1)/\∀(nid:Nat),some (V.sa nid)=some (V.sa nid)/\some [ae.arr (some qZ) 5 (TL.qs 5 (kg (fE g.fst g_1)))]=some [ae.arr (some qZ) 5
  (TL.qs 5 (eT L oid))]))/\(decide (dp (ar (ay g))=0)=false->((0:Int)<=0/\(0:Int)< ↑(ar (ay g)))/\Int.toNat 0<ar (ay g)/\HI (ay g)/\((decide (cM (ay g)
  (Int.toNat 0) 0=2)||decide (cM (ay g) (Int.toNat 0) 0=5))=true->(decide (cM (ay g) (Int.toNat 0) 0=2)=true->true=true/\(jg (g.fst,ra (ay g)) 800000/\EY (cM (ay g)
  (Int.toNat 0) 4))/\∃g',ep L oid g'/\gT g'<gT g/\L=L/\(vH L (g.fst,ra (ay g)) (Key.mk (cM (ay g) (Int.toNat 0) 0) (cM (ay g) (Int.toNat 0) 1) (cM (ay g)
  (Int.toNat 0) 2) (cM (ay g) (Int.toNat 0) 3) (cM (ay g) (Int.toNat 0) 4) 0)).fst=g'.fst/\(vH L (g.fst,ra (ay g)) (Key.mk (cM (ay g) (Int.toNat 0) 0) (cM (ay g) (Int.toNat 0) 1)
  (cM (ay g) (Int.toNat 0) 2) (cM (ay g) (Int.toNat 0) 3) (cM (ay g) (Int.toNat 0) 4) 0)).snd=ay g'/\([2,5]:List Int)= [2,5])/\(decide (cM (ay g) (Int.toNat 0) 0=2)=false
  ->(decide (cM (ay g) (Int.toNat 0) 0=5)=true->true=true/\jg (g.fst,ra (ay g)) 800000/\∃g',ep L oid g'/\gT g'<gT g/\L=L/\(Cv L (g.fst,ra (ay g)) (Key.mk
  (cM (ay g) (Int.toNat 0) 0) (cM (ay g) (Int.toNat 0) 1) (cM (ay g) (Int.toNat 0) 2) (cM (ay g) (Int.toNat 0) 3) (cM (ay g) (Int.toNat 0) 4) 0)).fst=g'.fst/\(Cv L (g.fst,ra
  (ay g)) (Key.mk (cM (ay g) (Int.toNat 0) 0) (cM (ay g) (Int.toNat 0) 1) (cM (ay g) (Int.toNat 0) 2) (cM (ay g) (Int.toNat 0) 3) (cM (ay g) (Int.toNat 0) 4) 0)).snd=ay g'/\
  ([2,5]:List Int)= [2,5])/\(decide (cM (ay g) (Int.toNat 0) 0=5)=false->False)))/\((decide (cM (ay g) (Int.toNat 0) 0=2)||decide (cM (ay g) (Int.toNat 0) 0=5))=false->∃
  g',ep L oid g'/\gT g'<gT g/\L=L/\g.fst=g'.fst/\ra (ay g)=ay g'/\([2,5]:List Int)= [2,5])):=by
 obtain⟨i1,i2⟩:=HW hL oid;refine⟨rfl,ck w8 (by omega),⟨_,i1,rfl,rfl,i2,rfl⟩,fun g hg=>?_⟩
 have hz:dp (ar (ay g))=0↔ay g= []:=by
  show(((ay g).length:Nat):Int)=0↔_
  rw[<-List.length_eq_zero_iff];omega
 obtain⟨b1,b2,b3⟩:=vR hg;refine⟨fun h0=>⟨rfl,rfl,rfl,rfl,rfl,fun r0=>⟨⟨[],⟨by simp,by simp⟩,rfl,rfl,rfl,rfl,rfl,rfl,rfl,rfl⟩,fun S hS=>⟨rfl,fun q hq hn=>?_,fun hall=>?_⟩⟩⟩,fun h0=>?_⟩
 ·obtain⟨k1,k2,k3,k4,k5⟩:=Ed hS b2 hq hn;rw[xt];exact⟨k4,rfl,rfl,k3,rfl,_,k1,k2,rfl,rfl,rfl,rfl,rfl,rfl,rfl,k5⟩
 ·obtain⟨e1,e2⟩:=Ff hg (hz.1 (JV h0)) hS hall;exact⟨rfl,e1,fun nid=>⟨rfl,by rw[e2]⟩⟩
 have hne:¬ay g= []:=fun h=>JU h0 (hz.2 h)
 obtain⟨a1,a2,a3⟩:=EI hg hne
 have hpos:0<ar (ay g):=by
  show 0<(ay g).length
  cases h:ay g with
  |nil=>exact absurd h hne
  |cons x l=>simp
 have e0:Int.toNat 0=0:=rfl
 have hkey:(Key.mk (cM (ay g) 0 0) (cM (ay g) 0 1) (cM (ay g) 0 2) (cM (ay g) 0 3) (cM (ay g) 0 4) 0:Sx.Key)=cw (jo (hX L oid g.2) g.2):=by
  simp only[a2];rfl
 have hkd:cM (ay g) 0 0=(cw (jo (hX L oid g.2) g.2)).kind:=a2 0
 have hb8:jg (g.1,ra (ay g)) 800000:=⟨by show((g.1.length:Nat):Int)<=_;omega,by
  have h1:((ay g).length:Int)<=200000:=b3.2.1;show((ra (ay g)).length:Int)<=_
  unfold ra;rw[List.length_tail];omega,fun p hp=>by have:=b3.2.2 p hp;omega⟩
 simp only[e0,hkey];rw[hkd];refine⟨⟨by omega,by omega⟩,hpos,hpos,fun hc=>⟨fun h2=>⟨trivial,⟨hb8,?_⟩,?_⟩,fun h2=>⟨fun h5=>⟨trivial,hb8,?_⟩,fun h5=>?_⟩⟩,fun hc=>?_⟩
 ·have:=Hv a3 (JV h2);have e4:cM (ay g) 0 4=(cw (jo (hX L oid g.2) g.2)).rights:=a2 4;rw[e4];exact this
 ·obtain⟨n1,n2,n3⟩:=of_next hg hne (vH L (g.1,ra (ay g)) (cw (jo (hX L oid g.2) g.2))) (by unfold zQ;rw[JY (JV h2)])
  exact⟨_,n1,n2,trivial,rfl,n3,trivial⟩
 ·obtain⟨n1,n2,n3⟩:=of_next hg hne (Cv L (g.1,ra (ay g)) (cw (jo (hX L oid g.2) g.2))) (by unfold zQ;rw[JX (JU h2),JY (JV h5)])
  exact⟨_,n1,n2,trivial,rfl,n3,trivial⟩
 ·rw[h2,h5]at hc;simp at hc
 ·have h2:¬(cw (jo (hX L oid g.2) g.2)).kind=2:=fun h=>by rw[h]at hc;simp at hc
  have h5:¬(cw (jo (hX L oid g.2) g.2)).kind=5:=fun h=>by rw[h]at hc;simp at hc
  obtain⟨n1,n2,n3⟩:=of_next hg hne (g.1,ra (ay g)) (by unfold zQ;rw[JX h2,JX h5])
  exact⟨_,n1,n2,trivial,rfl,n3,trivial⟩
theorem Az:cQ Tryz.prog 28 G1:=DX (π:=fun _=> [11]) (cF (A2 tS eS) (cF oD iC)) (fun _=>by simp) (fun _ _=>rfl) fun a hq _=>by
  obtain⟨o,oid,_⟩:=a;cases o with
  |none=>exact hq.elim
  |some L=>exact dM (inl:=(fun f=>f==52||f==73||f==98||f==53||f==1000000+75)) (ann:=(y0 [(28,4,JG [0,5,6] (fun _=> []) (fun g=> [(2,.cset Hx qZ 5 (.lp 0 0) g.1 (ay g))]) (ep L oid) gT),(28,3000003,Fe [.sht 2 qZ]),(28,4000004,Fe [.opn 2]),(28,3000009,Fe [.sht 2 qZ]),(3000+75,1,JD [0,1,5] 7 JJ 4 10)])) aS (bI nC (bI Ap (bI AP (bI DW dR)))) (FL L oid hq) (by kernel_rfl)
end Go.Proofs.YtmfbohanboiklaaGreat
