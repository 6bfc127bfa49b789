import Derived.Test.YtmfbohanboiklaaCtTa
import Derived.Test.YtmfbohanboiklaaCtTs
import Derived.Test.YtmfbohanboiklaaSpHb
set_option linter.unusedSimpArgs false
set_option linter.unusedVariables false
namespace Go.Proofs.Ytmfbohanboiklaa
open Go.Sx
set_option maxRecDepth 100000
theorem I9 (L:List Sx.Obj) (oid:Int) (hL:dg L):
 true=true/\kN ([],[]) 900000/\(∃g,fe L oid g/\L=L/\(fB L ([],[]) oid false 16).fst=g.fst/\(fB L ([],[]) oid false 16).snd=aF g/\([2,5]:List Int)= [2,5])/\∀(g:List
  (Cp×Int)×Nat),fe L oid g->(decide (aG (aa (aF g))=0)=true->true=true/\true=true/\true=true/\true=true/\true=true/\∀(r0:Loop),(∃g_1,jc g.fst g_1/\L=L/\
  ([2,5]:List Int)= [2,5]/\g.fst=g.fst/\aF g=aF g/\r0=r0/\aa g.fst=aa g.fst/\ []=g_1/\ []=gN g.fst g_1)/\∀(g_1:List Nat),jc g.fst g_1->LY (aa g.fst) g.fst
  /\(∀(q:Nat),q.succ.le (aa g.fst)->FI g_1 q=false->Kl (aa g.fst) g.fst (bg g_1 q)/\r0=r0/\r0=r0/\eC (aa (gN g.fst g_1)) 40/\r0=r0/\∃g',jc g.fst g'/\pS g'<
  pS g_1/\L=L/\([2,5]:List Int)= [2,5]/\g.fst=g.fst/\aF g=aF g/\r0=r0/\aa g.fst=aa g.fst/\bg g_1 q=g'/\bg (gN g.fst g_1) [cA g.fst (oQ (bg g_1 q)) 0,
  cA g.fst (oQ (bg g_1 q)) 1,cA g.fst (oQ (bg g_1 q)) 2,cA g.fst (oQ (bg g_1 q)) 3,cA g.fst (oQ (bg g_1 q)) 4]=gN g.fst g')/\((∀(q:Nat),q.succ.le (aa g.fst)->FI
  g_1 q=true)->true=true/\vP (gN g.fst g_1)/\∀(nid:Nat),some (V.sa nid)=some (V.sa nid)/\some [ai.arr (some 43) 5 (TL.qs 5 (ia (gN g.fst g_1)))]=some [ai.arr (some 43) 5
  (TL.qs 5 (ah L oid))]))/\(decide (aG (aa (aF g))=0)=false->((0:Int)<=0/\(0:Int)< ↑(aa (aF g)))/\Int.toNat 0<aa (aF g)/\Lc (aF g)/\((decide (aT (aF g)
  (Int.toNat 0) 0=2)||decide (aT (aF g) (Int.toNat 0) 0=5))=true->(decide (aT (aF g) (Int.toNat 0) 0=2)=true->true=true/\(kN (g.fst,tE (aF g)) 800000/\Ju (aT (aF g)
  (Int.toNat 0) 4))/\∃g',fe L oid g'/\jt g'<jt g/\L=L/\(yk L (g.fst,tE (aF g)) (Key.mk (aT (aF g) (Int.toNat 0) 0) (aT (aF g) (Int.toNat 0) 1) (aT (aF g)
  (Int.toNat 0) 2) (aT (aF g) (Int.toNat 0) 3) (aT (aF g) (Int.toNat 0) 4) 0)).fst=g'.fst/\(yk L (g.fst,tE (aF g)) (Key.mk (aT (aF g) (Int.toNat 0) 0) (aT (aF g) (Int.toNat 0) 1)
  (aT (aF g) (Int.toNat 0) 2) (aT (aF g) (Int.toNat 0) 3) (aT (aF g) (Int.toNat 0) 4) 0)).snd=aF g'/\([2,5]:List Int)= [2,5])/\(decide (aT (aF g) (Int.toNat 0) 0=2)=false
  ->(decide (aT (aF g) (Int.toNat 0) 0=5)=true->true=true/\kN (g.fst,tE (aF g)) 800000/\∃g',fe L oid g'/\jt g'<jt g/\L=L/\(FJ L (g.fst,tE (aF g)) (Key.mk
  (aT (aF g) (Int.toNat 0) 0) (aT (aF g) (Int.toNat 0) 1) (aT (aF g) (Int.toNat 0) 2) (aT (aF g) (Int.toNat 0) 3) (aT (aF g) (Int.toNat 0) 4) 0)).fst=g'.fst/\(FJ L (g.fst,tE
  (aF g)) (Key.mk (aT (aF g) (Int.toNat 0) 0) (aT (aF g) (Int.toNat 0) 1) (aT (aF g) (Int.toNat 0) 2) (aT (aF g) (Int.toNat 0) 3) (aT (aF g) (Int.toNat 0) 4) 0)).snd=aF g'/\
  ([2,5]:List Int)= [2,5])/\(decide (aT (aF g) (Int.toNat 0) 0=5)=false->False)))/\((decide (aT (aF g) (Int.toNat 0) 0=2)||decide (aT (aF g) (Int.toNat 0) 0=5))=false->∃
  g',fe L oid g'/\jt g'<jt g/\L=L/\g.fst=g'.fst/\tE (aF g)=aF g'/\([2,5]:List Int)= [2,5])):=by
 obtain⟨i1,i2⟩:=Ma hL oid;refine⟨rfl,c8 Am (by omega),⟨_,i1,rfl,rfl,i2,rfl⟩,fun g hg=>?_⟩
 have hz:aG (aa (aF g))=0↔aF g= []:=by
  show(((aF g).length:Nat):Int)=0↔_
  rw[<-List.length_eq_zero_iff];omega
 obtain⟨b1,b2,b3⟩:=yS hg;refine⟨fun h0=>⟨rfl,rfl,rfl,rfl,rfl,fun r0=>⟨⟨[],⟨by simp,by simp⟩,rfl,rfl,rfl,rfl,rfl,rfl,rfl,rfl⟩,fun S hS=>⟨rfl,fun q hq hn=>?_,fun hall=>?_⟩⟩⟩,fun h0=>?_⟩
 ·obtain⟨k1,k2,k3,k4,k5⟩:=F7 hS b2 hq hn;rw[Az];exact⟨k4,rfl,rfl,k3,rfl,_,k1,k2,rfl,rfl,rfl,rfl,rfl,rfl,rfl,k5⟩
 ·obtain⟨e1,e2⟩:=KC hg (hz.1 (N7 h0)) hS hall;exact⟨rfl,e1,fun nid=>⟨rfl,by rw[e2]⟩⟩
 have hne:¬aF g= []:=fun h=>N6 h0 (hz.2 h)
 obtain⟨a1,a2,a3⟩:=Io hg hne
 have hpos:0<aa (aF g):=by
  show 0<(aF g).length
  cases h:aF g with
  |nil=>exact absurd h hne
  |cons x l=>simp
 have e0:Int.toNat 0=0:=rfl
 have hkey:(Key.mk (aT (aF g) 0 0) (aT (aF g) 0 1) (aT (aF g) 0 2) (aT (aF g) 0 3) (aT (aF g) 0 4) 0:Sx.Key)=bc (cw (fc L oid g.2) g.2):=by
  simp only[a2];rfl
 have hkd:aT (aF g) 0 0=(bc (cw (fc L oid g.2) g.2)).kind:=a2 0
 have hb8:kN (g.1,tE (aF g)) 800000:=⟨by show((g.1.length:Nat):Int)<=_;omega,by
  have h1:((aF g).length:Int)<=200000:=b3.2.1;show((tE (aF g)).length:Int)<=_
  unfold tE;rw[List.length_tail];omega,fun p hp=>by have:=b3.2.2 p hp;omega⟩
 simp only[e0,hkey];rw[hkd];refine⟨⟨by omega,by omega⟩,hpos,hpos,fun hc=>⟨fun h2=>⟨trivial,⟨hb8,?_⟩,?_⟩,fun h2=>⟨fun h5=>⟨trivial,hb8,?_⟩,fun h5=>?_⟩⟩,fun hc=>?_⟩
 ·have:=Mb a3 (N7 h2);have e4:aT (aF g) 0 4=(bc (cw (fc L oid g.2) g.2)).rights:=a2 4;rw[e4];exact this
 ·obtain⟨n1,n2,n3⟩:=of_next hg hne (yk L (g.1,tE (aF g)) (bc (cw (fc L oid g.2) g.2))) (by unfold C4;rw[Oa (N7 h2)])
  exact⟨_,n1,n2,trivial,rfl,n3,trivial⟩
 ·obtain⟨n1,n2,n3⟩:=of_next hg hne (FJ L (g.1,tE (aF g)) (bc (cw (fc L oid g.2) g.2))) (by unfold C4;rw[N9 (N6 h2),Oa (N7 h5)])
  exact⟨_,n1,n2,trivial,rfl,n3,trivial⟩
 ·rw[h2,h5]at hc;simp at hc
 ·have h2:¬(bc (cw (fc L oid g.2) g.2)).kind=2:=fun h=>by rw[h]at hc;simp at hc
  have h5:¬(bc (cw (fc L oid g.2) g.2)).kind=5:=fun h=>by rw[h]at hc;simp at hc
  obtain⟨n1,n2,n3⟩:=of_next hg hne (g.1,tE (aF g)) (by unfold C4;rw[N9 h2,N9 h5])
  exact⟨_,n1,n2,trivial,rfl,n3,trivial⟩
theorem y9:bV Try.prog 27 K2:=qX (π:=fun _=> [11]) (aI (vX tS eS) (aI jP cM)) (fun _=>by simp) (fun _ _=>rfl) fun a hq _=>by
  obtain⟨o,oid,_⟩:=a;cases o with
  |none=>exact hq.elim
  |some L=>exact cT (inl:=(fun f=>f==51||f==67||f==77||f==52||f==1000000+69)) (ann:=(jM [(27,4,NN [0,5,6] (fun _=> []) (fun g=> [(2,.cset Lj qH 5 (.lp 0 0) g.1 (aF g))]) (fe L oid) jt),(27,3000003,Kw [.sht 2 qH]),(27,4000004,Kw [.opn 2]),(27,3000009,Kw [.sht 2 qH]),(3000+69,1,NZ [0,1,5] 7 NB 4 10)])) aB (cg pq (cg Et (cg DV (cg Hh cP)))) (I9 L oid hq) (by kernel_rfl)
end Go.Proofs.Ytmfbohanboiklaa
