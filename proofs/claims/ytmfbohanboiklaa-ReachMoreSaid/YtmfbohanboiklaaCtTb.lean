import Derived.Test.YtmfbohanboiklaaCtTa
import Derived.Test.YtmfbohanboiklaaCtTs
import Derived.Test.YtmfbohanboiklaaSpHb
set_option linter.unusedSimpArgs false
set_option linter.unusedVariables false
namespace Go.Proofs.Ytmfbohanboiklaa
open Go.Sx
set_option maxRecDepth 100000
theorem Ix (L:List Sx.Obj) (oid:Int) (hL:dW L):
 true=true/\kG ([],[]) 900000/\(∃g,fa L oid g/\L=L/\(fo L ([],[]) oid false 16).fst=g.fst/\(fo L ([],[]) oid false 16).snd=aE g/\([2,5]:List Int)= [2,5])/\∀(g:List
  (Cp×Int)×Nat),fa L oid g->(decide (aJ (aa (aE g))=0)=true->true=true/\true=true/\true=true/\true=true/\true=true/\∀(r0:Loop),(∃g_1,iQ g.fst g_1/\L=L/\
  ([2,5]:List Int)= [2,5]/\g.fst=g.fst/\aE g=aE g/\r0=r0/\aa g.fst=aa g.fst/\ []=g_1/\ []=gE g.fst g_1)/\∀(g_1:List Nat),iQ g.fst g_1->LL (aa g.fst) g.fst
  /\(∀(q:Nat),q.succ.le (aa g.fst)->FE g_1 q=false->Ja (aa g.fst) g.fst (bg g_1 q)/\r0=r0/\r0=r0/\ep (aa (gE g.fst g_1)) 40/\r0=r0/\∃g',iQ g.fst g'/\pY g'<
  pY g_1/\L=L/\([2,5]:List Int)= [2,5]/\g.fst=g.fst/\aE g=aE g/\r0=r0/\aa g.fst=aa g.fst/\bg g_1 q=g'/\bg (gE g.fst g_1) [cx g.fst (oU (bg g_1 q)) 0,
  cx g.fst (oU (bg g_1 q)) 1,cx g.fst (oU (bg g_1 q)) 2,cx g.fst (oU (bg g_1 q)) 3,cx g.fst (oU (bg g_1 q)) 4]=gE g.fst g')/\((∀(q:Nat),q.succ.le (aa g.fst)->FE
  g_1 q=true)->true=true/\vB (gE g.fst g_1)/\∀(nid:Nat),some (V.sa nid)=some (V.sa nid)/\some [ah.arr (some 43) 5 (TL.qs 5 (gJ (gE g.fst g_1)))]=some [ah.arr (some 43) 5
  (TL.qs 5 (aI L oid))]))/\(decide (aJ (aa (aE g))=0)=false->((0:Int)<=0/\(0:Int)< ↑(aa (aE g)))/\Int.toNat 0<aa (aE g)/\K9 (aE g)/\((decide (aK (aE g)
  (Int.toNat 0) 0=2)||decide (aK (aE g) (Int.toNat 0) 0=5))=true->(decide (aK (aE g) (Int.toNat 0) 0=2)=true->true=true/\(kG (g.fst,tB (aE g)) 800000/\Jg (aK (aE g)
  (Int.toNat 0) 4))/\∃g',fa L oid g'/\ji g'<ji g/\L=L/\(yn L (g.fst,tB (aE g)) (Key.mk (aK (aE g) (Int.toNat 0) 0) (aK (aE g) (Int.toNat 0) 1) (aK (aE g)
  (Int.toNat 0) 2) (aK (aE g) (Int.toNat 0) 3) (aK (aE g) (Int.toNat 0) 4) 0)).fst=g'.fst/\(yn L (g.fst,tB (aE g)) (Key.mk (aK (aE g) (Int.toNat 0) 0) (aK (aE g) (Int.toNat 0) 1)
  (aK (aE g) (Int.toNat 0) 2) (aK (aE g) (Int.toNat 0) 3) (aK (aE g) (Int.toNat 0) 4) 0)).snd=aE g'/\([2,5]:List Int)= [2,5])/\(decide (aK (aE g) (Int.toNat 0) 0=2)=false
  ->(decide (aK (aE g) (Int.toNat 0) 0=5)=true->true=true/\kG (g.fst,tB (aE g)) 800000/\∃g',fa L oid g'/\ji g'<ji g/\L=L/\(FI L (g.fst,tB (aE g)) (Key.mk
  (aK (aE g) (Int.toNat 0) 0) (aK (aE g) (Int.toNat 0) 1) (aK (aE g) (Int.toNat 0) 2) (aK (aE g) (Int.toNat 0) 3) (aK (aE g) (Int.toNat 0) 4) 0)).fst=g'.fst/\(FI L (g.fst,tB
  (aE g)) (Key.mk (aK (aE g) (Int.toNat 0) 0) (aK (aE g) (Int.toNat 0) 1) (aK (aE g) (Int.toNat 0) 2) (aK (aE g) (Int.toNat 0) 3) (aK (aE g) (Int.toNat 0) 4) 0)).snd=aE g'/\
  ([2,5]:List Int)= [2,5])/\(decide (aK (aE g) (Int.toNat 0) 0=5)=false->False)))/\((decide (aK (aE g) (Int.toNat 0) 0=2)||decide (aK (aE g) (Int.toNat 0) 0=5))=false->∃
  g',fa L oid g'/\ji g'<ji g/\L=L/\g.fst=g'.fst/\tB (aE g)=aE g'/\([2,5]:List Int)= [2,5])):=by
 obtain⟨i1,i2⟩:=Ll hL oid;refine⟨rfl,c8 Ay (by omega),⟨_,i1,rfl,rfl,i2,rfl⟩,fun g hg=>?_⟩
 have hz:aJ (aa (aE g))=0↔aE g= []:=by
  show(((aE g).length:Nat):Int)=0↔_
  rw[<-List.length_eq_zero_iff];omega
 obtain⟨b1,b2,b3⟩:=yD hg;refine⟨fun h0=>⟨rfl,rfl,rfl,rfl,rfl,fun r0=>⟨⟨[],⟨by simp,by simp⟩,rfl,rfl,rfl,rfl,rfl,rfl,rfl,rfl⟩,fun S hS=>⟨rfl,fun q hq hn=>?_,fun hall=>?_⟩⟩⟩,fun h0=>?_⟩
 ·obtain⟨k1,k2,k3,k4,k5⟩:=Hf hS b2 hq hn;rw[AN];exact⟨k4,rfl,rfl,k3,rfl,_,k1,k2,rfl,rfl,rfl,rfl,rfl,rfl,rfl,k5⟩
 ·obtain⟨e1,e2⟩:=JR hg (hz.1 (NU h0)) hS hall;exact⟨rfl,e1,fun nid=>⟨rfl,by rw[e2]⟩⟩
 have hne:¬aE g= []:=fun h=>NT h0 (hz.2 h)
 obtain⟨a1,a2,a3⟩:=Im hg hne
 have hpos:0<aa (aE g):=by
  show 0<(aE g).length
  cases h:aE g with
  |nil=>exact absurd h hne
  |cons x l=>simp
 have e0:Int.toNat 0=0:=rfl
 have hkey:(Key.mk (aK (aE g) 0 0) (aK (aE g) 0 1) (aK (aE g) 0 2) (aK (aE g) 0 3) (aK (aE g) 0 4) 0:Sx.Key)=bP (cJ (fc L oid g.2) g.2):=by
  simp only[a2];rfl
 have hkd:aK (aE g) 0 0=(bP (cJ (fc L oid g.2) g.2)).kind:=a2 0
 have hb8:kG (g.1,tB (aE g)) 800000:=⟨by show((g.1.length:Nat):Int)<=_;omega,by
  have h1:((aE g).length:Int)<=200000:=b3.2.1;show((tB (aE g)).length:Int)<=_
  unfold tB;rw[List.length_tail];omega,fun p hp=>by have:=b3.2.2 p hp;omega⟩
 simp only[e0,hkey];rw[hkd];refine⟨⟨by omega,by omega⟩,hpos,hpos,fun hc=>⟨fun h2=>⟨trivial,⟨hb8,?_⟩,?_⟩,fun h2=>⟨fun h5=>⟨trivial,hb8,?_⟩,fun h5=>?_⟩⟩,fun hc=>?_⟩
 ·have:=KE a3 (NU h2);have e4:aK (aE g) 0 4=(bP (cJ (fc L oid g.2) g.2)).rights:=a2 4;rw[e4];exact this
 ·obtain⟨n1,n2,n3⟩:=of_next hg hne (yn L (g.1,tB (aE g)) (bP (cJ (fc L oid g.2) g.2))) (by unfold EI;rw[NX (NU h2)])
  exact⟨_,n1,n2,trivial,rfl,n3,trivial⟩
 ·obtain⟨n1,n2,n3⟩:=of_next hg hne (FI L (g.1,tB (aE g)) (bP (cJ (fc L oid g.2) g.2))) (by unfold EI;rw[NW (NT h2),NX (NU h5)])
  exact⟨_,n1,n2,trivial,rfl,n3,trivial⟩
 ·rw[h2,h5]at hc;simp at hc
 ·have h2:¬(bP (cJ (fc L oid g.2) g.2)).kind=2:=fun h=>by rw[h]at hc;simp at hc
  have h5:¬(bP (cJ (fc L oid g.2) g.2)).kind=5:=fun h=>by rw[h]at hc;simp at hc
  obtain⟨n1,n2,n3⟩:=of_next hg hne (g.1,tB (aE g)) (by unfold EI;rw[NW h2,NW h5])
  exact⟨_,n1,n2,trivial,rfl,n3,trivial⟩
theorem EC:bW Try.prog 27 LK:=vr (π:=fun _=> [11]) (a8 (ER tS eS) (a8 mX dn)) (fun _=>by simp) (fun _ _=>rfl) fun a hq _=>by
  obtain⟨o,oid,_⟩:=a;cases o with
  |none=>exact hq.elim
  |some L=>exact cE (inl:=(fun f=>f==51||f==67||f==77||f==52||f==1000000+69)) (ann:=(jb [(27,4,NJ [0,5,6] (fun _=> []) (fun g=> [(2,.cset LB vq 5 (.lp 0 0) g.1 (aE g))]) (fa L oid) ji),(27,3000003,Kq [.sht 2 vq]),(27,4000004,Kq [.opn 2]),(27,3000009,Kq [.sht 2 vq]),(3000+69,1,ND [0,1,5] 7 NM 4 10)])) aA (bz pz (bz Dj (bz CT (bz HL cH)))) (Ix L oid hq) (by kernel_rfl)
end Go.Proofs.Ytmfbohanboiklaa
