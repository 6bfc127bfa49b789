import Derived.Test.YtmfbohanboiklaaCtTa
import Derived.Test.YtmfbohanboiklaaCtTs
import Derived.Test.YtmfbohanboiklaaSpHb
set_option linter.unusedSimpArgs false
set_option linter.unusedVariables false
namespace Go.Proofs.Ytmfbohanboiklaa
open Go.Sx
set_option maxRecDepth 100000
theorem Hs (L:List Sx.Obj) (oid:Int) (hL:j5 L):
 true=true/\kc ([],[]) 900000/\(∃g,eO L oid g/\L=L/\(fa L ([],[]) oid false 16).fst=g.fst/\(fa L ([],[]) oid false 16).snd=aD g/\([2,5]:List Int)= [2,5])/\∀(g:List
  (Cp×Int)×Nat),eO L oid g->(decide (aZ (ae (aD g))=0)=true->true=true/\true=true/\true=true/\true=true/\true=true/\∀(r0:Loop),(∃g_1,iG g.fst g_1/\L=L/\
  ([2,5]:List Int)= [2,5]/\g.fst=g.fst/\aD g=aD g/\r0=r0/\ae g.fst=ae g.fst/\ []=g_1/\ []=gq g.fst g_1)/\∀(g_1:List Nat),iG g.fst g_1->JF (ae g.fst) g.fst
  /\(∀(q:Nat),q.succ.le (ae g.fst)->EB g_1 q=false->Ht (ae g.fst) g.fst (bj g_1 q)/\r0=r0/\r0=r0/\e9 (ae (gq g.fst g_1)) 40/\r0=r0/\∃g',iG g.fst g'/\oP g'<
  oP g_1/\L=L/\([2,5]:List Int)= [2,5]/\g.fst=g.fst/\aD g=aD g/\r0=r0/\ae g.fst=ae g.fst/\bj g_1 q=g'/\bj (gq g.fst g_1) [ck g.fst (oa (bj g_1 q)) 0,
  ck g.fst (oa (bj g_1 q)) 1,ck g.fst (oa (bj g_1 q)) 2,ck g.fst (oa (bj g_1 q)) 3,ck g.fst (oa (bj g_1 q)) 4]=gq g.fst g')/\((∀(q:Nat),q.succ.le (ae g.fst)->EB
  g_1 q=true)->true=true/\uA (gq g.fst g_1)/\∀(nid:Nat),some (V.sa nid)=some (V.sa nid)/\some [ah.arr (some 43) 5 (TL.qs 5 (ib (gq g.fst g_1)))]=some [ah.arr (some 43) 5
  (TL.qs 5 (dq L oid))]))/\(decide (aZ (ae (aD g))=0)=false->((0:Int)<=0/\(0:Int)< ↑(ae (aD g)))/\Int.toNat 0<ae (aD g)/\KD (aD g)/\((decide (bc (aD g)
  (Int.toNat 0) 0=2)||decide (bc (aD g) (Int.toNat 0) 0=5))=true->(decide (bc (aD g) (Int.toNat 0) 0=2)=true->true=true/\(kc (g.fst,sN (aD g)) 800000/\Ir (bc (aD g)
  (Int.toNat 0) 4))/\∃g',eO L oid g'/\iJ g'<iJ g/\L=L/\(xq L (g.fst,sN (aD g)) (Key.mk (bc (aD g) (Int.toNat 0) 0) (bc (aD g) (Int.toNat 0) 1) (bc (aD g)
  (Int.toNat 0) 2) (bc (aD g) (Int.toNat 0) 3) (bc (aD g) (Int.toNat 0) 4) 0)).fst=g'.fst/\(xq L (g.fst,sN (aD g)) (Key.mk (bc (aD g) (Int.toNat 0) 0) (bc (aD g) (Int.toNat 0) 1)
  (bc (aD g) (Int.toNat 0) 2) (bc (aD g) (Int.toNat 0) 3) (bc (aD g) (Int.toNat 0) 4) 0)).snd=aD g'/\([2,5]:List Int)= [2,5])/\(decide (bc (aD g) (Int.toNat 0) 0=2)=false
  ->(decide (bc (aD g) (Int.toNat 0) 0=5)=true->true=true/\kc (g.fst,sN (aD g)) 800000/\∃g',eO L oid g'/\iJ g'<iJ g/\L=L/\(EC L (g.fst,sN (aD g)) (Key.mk
  (bc (aD g) (Int.toNat 0) 0) (bc (aD g) (Int.toNat 0) 1) (bc (aD g) (Int.toNat 0) 2) (bc (aD g) (Int.toNat 0) 3) (bc (aD g) (Int.toNat 0) 4) 0)).fst=g'.fst/\(EC L (g.fst,sN
  (aD g)) (Key.mk (bc (aD g) (Int.toNat 0) 0) (bc (aD g) (Int.toNat 0) 1) (bc (aD g) (Int.toNat 0) 2) (bc (aD g) (Int.toNat 0) 3) (bc (aD g) (Int.toNat 0) 4) 0)).snd=aD g'/\
  ([2,5]:List Int)= [2,5])/\(decide (bc (aD g) (Int.toNat 0) 0=5)=false->False)))/\((decide (bc (aD g) (Int.toNat 0) 0=2)||decide (bc (aD g) (Int.toNat 0) 0=5))=false->∃
  g',eO L oid g'/\iJ g'<iJ g/\L=L/\g.fst=g'.fst/\sN (aD g)=aD g'/\([2,5]:List Int)= [2,5])):=by
 obtain⟨i1,i2⟩:=JQ hL oid;refine⟨rfl,cN za (by omega),⟨_,i1,rfl,rfl,i2,rfl⟩,fun g hg=>?_⟩
 have hz:aZ (ae (aD g))=0↔aD g= []:=by
  show(((aD g).length:Nat):Int)=0↔_
  rw[<-List.length_eq_zero_iff];omega
 obtain⟨b1,b2,b3⟩:=xT hg;refine⟨fun h0=>⟨rfl,rfl,rfl,rfl,rfl,fun r0=>⟨⟨[],⟨by simp,by simp⟩,rfl,rfl,rfl,rfl,rfl,rfl,rfl,rfl⟩,fun S hS=>⟨rfl,fun q hq hn=>?_,fun hall=>?_⟩⟩⟩,fun h0=>?_⟩
 ·obtain⟨k1,k2,k3,k4,k5⟩:=Gu hS b2 hq hn;rw[zx];exact⟨k4,rfl,rfl,k3,rfl,_,k1,k2,rfl,rfl,rfl,rfl,rfl,rfl,rfl,k5⟩
 ·obtain⟨e1,e2⟩:=It hg (hz.1 (My h0)) hS hall;exact⟨rfl,e1,fun nid=>⟨rfl,by rw[e2]⟩⟩
 have hne:¬aD g= []:=fun h=>Mx h0 (hz.2 h)
 obtain⟨a1,a2,a3⟩:=G0 hg hne
 have hpos:0<ae (aD g):=by
  show 0<(aD g).length
  cases h:aD g with
  |nil=>exact absurd h hne
  |cons x l=>simp
 have e0:Int.toNat 0=0:=rfl
 have hkey:(Key.mk (bc (aD g) 0 0) (bc (aD g) 0 1) (bc (aD g) 0 2) (bc (aD g) 0 3) (bc (aD g) 0 4) 0:Sx.Key)=cq (di (fF L oid g.2) g.2):=by
  simp only[a2];rfl
 have hkd:bc (aD g) 0 0=(cq (di (fF L oid g.2) g.2)).kind:=a2 0
 have hb8:kc (g.1,sN (aD g)) 800000:=⟨by show((g.1.length:Nat):Int)<=_;omega,by
  have h1:((aD g).length:Int)<=200000:=b3.2.1;show((sN (aD g)).length:Int)<=_
  unfold sN;rw[List.length_tail];omega,fun p hp=>by have:=b3.2.2 p hp;omega⟩
 simp only[e0,hkey];rw[hkd];refine⟨⟨by omega,by omega⟩,hpos,hpos,fun hc=>⟨fun h2=>⟨trivial,⟨hb8,?_⟩,?_⟩,fun h2=>⟨fun h5=>⟨trivial,hb8,?_⟩,fun h5=>?_⟩⟩,fun hc=>?_⟩
 ·have:=Jx a3 (My h2);have e4:bc (aD g) 0 4=(cq (di (fF L oid g.2) g.2)).rights:=a2 4;rw[e4];exact this
 ·obtain⟨n1,n2,n3⟩:=of_next hg hne (xq L (g.1,sN (aD g)) (cq (di (fF L oid g.2) g.2))) (by unfold Ck;rw[MB (My h2)])
  exact⟨_,n1,n2,trivial,rfl,n3,trivial⟩
 ·obtain⟨n1,n2,n3⟩:=of_next hg hne (EC L (g.1,sN (aD g)) (cq (di (fF L oid g.2) g.2))) (by unfold Ck;rw[MA (Mx h2),MB (My h5)])
  exact⟨_,n1,n2,trivial,rfl,n3,trivial⟩
 ·rw[h2,h5]at hc;simp at hc
 ·have h2:¬(cq (di (fF L oid g.2) g.2)).kind=2:=fun h=>by rw[h]at hc;simp at hc
  have h5:¬(cq (di (fF L oid g.2) g.2)).kind=5:=fun h=>by rw[h]at hc;simp at hc
  obtain⟨n1,n2,n3⟩:=of_next hg hne (g.1,sN (aD g)) (by unfold Ck;rw[MA h2,MA h5])
  exact⟨_,n1,n2,trivial,rfl,n3,trivial⟩
theorem BN:bW Try.prog 27 Kn:=uD (π:=fun _=> [11]) (bh (Em tS eS) (bh mA dJ)) (fun _=>by simp) (fun _ _=>rfl) fun a hq _=>by
  obtain⟨o,oid,_⟩:=a;cases o with
  |none=>exact hq.elim
  |some L=>exact c8 (inl:=(fun f=>f==51||f==67||f==77||f==52||f==1000000+69)) (ann:=(kQ [(27,4,Mh [0,5,6] (fun _=> []) (fun g=> [(2,.cset KB vm 5 (.lp 0 0) g.1 (aD g))]) (eO L oid) iJ),(27,3000003,HY [.sht 2 vm]),(27,4000004,HY [.opn 2]),(27,3000009,HY [.sht 2 vm]),(3000+69,1,Mi [0,1,5] 7 Me 4 10)])) az (b6 oU (b6 BB (b6 DG (b6 FO de)))) (Hs L oid hq) (by kernel_rfl)
end Go.Proofs.Ytmfbohanboiklaa
