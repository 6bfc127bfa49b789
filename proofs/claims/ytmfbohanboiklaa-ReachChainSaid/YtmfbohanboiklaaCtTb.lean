import Derived.Test.YtmfbohanboiklaaCtTa
import Derived.Test.YtmfbohanboiklaaCtTs
import Derived.Test.YtmfbohanboiklaaSpHb
set_option linter.unusedSimpArgs false
set_option linter.unusedVariables false
namespace Go.Proofs.Ytmfbohanboiklaa
open Go.Sx
set_option maxRecDepth 100000
theorem Jr (L:List Sx.Obj) (oid:Int) (hL:fC L):
 true=true/\kp ([],[]) 900000/\(∃g,eU L oid g/\L=L/\(fi L ([],[]) oid false 16).fst=g.fst/\(fi L ([],[]) oid false 16).snd=aE g/\([2,5]:List Int)= [2,5])/\∀(g:List
  (Cp×Int)×Nat),eU L oid g->(decide (aK (aa (aE g))=0)=true->true=true/\true=true/\true=true/\true=true/\true=true/\∀(r0:Loop),(∃g_1,iP g.fst g_1/\L=L/\
  ([2,5]:List Int)= [2,5]/\g.fst=g.fst/\aE g=aE g/\r0=r0/\aa g.fst=aa g.fst/\ []=g_1/\ []=gz g.fst g_1)/\∀(g_1:List Nat),iP g.fst g_1->Lb (aa g.fst) g.fst
  /\(∀(q:Nat),q.succ.le (aa g.fst)->Fe g_1 q=false->IK (aa g.fst) g.fst (ba g_1 q)/\r0=r0/\r0=r0/\eh (aa (gz g.fst g_1)) 40/\r0=r0/\∃g',iP g.fst g'/\pf g'<
  pf g_1/\L=L/\([2,5]:List Int)= [2,5]/\g.fst=g.fst/\aE g=aE g/\r0=r0/\aa g.fst=aa g.fst/\ba g_1 q=g'/\ba (gz g.fst g_1) [cm g.fst (nr (ba g_1 q)) 0,
  cm g.fst (nr (ba g_1 q)) 1,cm g.fst (nr (ba g_1 q)) 2,cm g.fst (nr (ba g_1 q)) 3,cm g.fst (nr (ba g_1 q)) 4]=gz g.fst g')/\((∀(q:Nat),q.succ.le (aa g.fst)->Fe
  g_1 q=true)->true=true/\vM (gz g.fst g_1)/\∀(nid:Nat),some (V.sa nid)=some (V.sa nid)/\some [ah.arr (some 43) 5 (TL.qs 5 (gX (gz g.fst g_1)))]=some [ah.arr (some 43) 5
  (TL.qs 5 (dt L oid))]))/\(decide (aK (aa (aE g))=0)=false->((0:Int)<=0/\(0:Int)< ↑(aa (aE g)))/\Int.toNat 0<aa (aE g)/\K4 (aE g)/\((decide (aN (aE g)
  (Int.toNat 0) 0=2)||decide (aN (aE g) (Int.toNat 0) 0=5))=true->(decide (aN (aE g) (Int.toNat 0) 0=2)=true->true=true/\(kp (g.fst,s6 (aE g)) 800000/\I8 (aN (aE g)
  (Int.toNat 0) 4))/\∃g',eU L oid g'/\iW g'<iW g/\L=L/\(xY L (g.fst,s6 (aE g)) (Key.mk (aN (aE g) (Int.toNat 0) 0) (aN (aE g) (Int.toNat 0) 1) (aN (aE g)
  (Int.toNat 0) 2) (aN (aE g) (Int.toNat 0) 3) (aN (aE g) (Int.toNat 0) 4) 0)).fst=g'.fst/\(xY L (g.fst,s6 (aE g)) (Key.mk (aN (aE g) (Int.toNat 0) 0) (aN (aE g) (Int.toNat 0) 1)
  (aN (aE g) (Int.toNat 0) 2) (aN (aE g) (Int.toNat 0) 3) (aN (aE g) (Int.toNat 0) 4) 0)).snd=aE g'/\([2,5]:List Int)= [2,5])/\(decide (aN (aE g) (Int.toNat 0) 0=2)=false
  ->(decide (aN (aE g) (Int.toNat 0) 0=5)=true->true=true/\kp (g.fst,s6 (aE g)) 800000/\∃g',eU L oid g'/\iW g'<iW g/\L=L/\(Fc L (g.fst,s6 (aE g)) (Key.mk
  (aN (aE g) (Int.toNat 0) 0) (aN (aE g) (Int.toNat 0) 1) (aN (aE g) (Int.toNat 0) 2) (aN (aE g) (Int.toNat 0) 3) (aN (aE g) (Int.toNat 0) 4) 0)).fst=g'.fst/\(Fc L (g.fst,s6
  (aE g)) (Key.mk (aN (aE g) (Int.toNat 0) 0) (aN (aE g) (Int.toNat 0) 1) (aN (aE g) (Int.toNat 0) 2) (aN (aE g) (Int.toNat 0) 3) (aN (aE g) (Int.toNat 0) 4) 0)).snd=aE g'/\
  ([2,5]:List Int)= [2,5])/\(decide (aN (aE g) (Int.toNat 0) 0=5)=false->False)))/\((decide (aN (aE g) (Int.toNat 0) 0=2)||decide (aN (aE g) (Int.toNat 0) 0=5))=false->∃
  g',eU L oid g'/\iW g'<iW g/\L=L/\g.fst=g'.fst/\s6 (aE g)=aE g'/\([2,5]:List Int)= [2,5])):=by
 obtain⟨i1,i2⟩:=K7 hL oid;refine⟨rfl,cX Az (by omega),⟨_,i1,rfl,rfl,i2,rfl⟩,fun g hg=>?_⟩
 have hz:aK (aa (aE g))=0↔aE g= []:=by
  show(((aE g).length:Nat):Int)=0↔_
  rw[<-List.length_eq_zero_iff];omega
 obtain⟨b1,b2,b3⟩:=x9 hg;refine⟨fun h0=>⟨rfl,rfl,rfl,rfl,rfl,fun r0=>⟨⟨[],⟨by simp,by simp⟩,rfl,rfl,rfl,rfl,rfl,rfl,rfl,rfl⟩,fun S hS=>⟨rfl,fun q hq hn=>?_,fun hall=>?_⟩⟩⟩,fun h0=>?_⟩
 ·obtain⟨k1,k2,k3,k4,k5⟩:=Gv hS b2 hq hn;rw[Ar];exact⟨k4,rfl,rfl,k3,rfl,_,k1,k2,rfl,rfl,rfl,rfl,rfl,rfl,rfl,k5⟩
 ·obtain⟨e1,e2⟩:=H5 hg (hz.1 (Nc h0)) hS hall;exact⟨rfl,e1,fun nid=>⟨rfl,by rw[e2]⟩⟩
 have hne:¬aE g= []:=fun h=>Nb h0 (hz.2 h)
 obtain⟨a1,a2,a3⟩:=HQ hg hne
 have hpos:0<aa (aE g):=by
  show 0<(aE g).length
  cases h:aE g with
  |nil=>exact absurd h hne
  |cons x l=>simp
 have e0:Int.toNat 0=0:=rfl
 have hkey:(Key.mk (aN (aE g) 0 0) (aN (aE g) 0 1) (aN (aE g) 0 2) (aN (aE g) 0 3) (aN (aE g) 0 4) 0:Sx.Key)=bX (cT (eV L oid g.2) g.2):=by
  simp only[a2];rfl
 have hkd:aN (aE g) 0 0=(bX (cT (eV L oid g.2) g.2)).kind:=a2 0
 have hb8:kp (g.1,s6 (aE g)) 800000:=⟨by show((g.1.length:Nat):Int)<=_;omega,by
  have h1:((aE g).length:Int)<=200000:=b3.2.1;show((s6 (aE g)).length:Int)<=_
  unfold s6;rw[List.length_tail];omega,fun p hp=>by have:=b3.2.2 p hp;omega⟩
 simp only[e0,hkey];rw[hkd];refine⟨⟨by omega,by omega⟩,hpos,hpos,fun hc=>⟨fun h2=>⟨trivial,⟨hb8,?_⟩,?_⟩,fun h2=>⟨fun h5=>⟨trivial,hb8,?_⟩,fun h5=>?_⟩⟩,fun hc=>?_⟩
 ·have:=Ll a3 (Nc h2);have e4:aN (aE g) 0 4=(bX (cT (eV L oid g.2) g.2)).rights:=a2 4;rw[e4];exact this
 ·obtain⟨n1,n2,n3⟩:=of_next hg hne (xY L (g.1,s6 (aE g)) (bX (cT (eV L oid g.2) g.2))) (by unfold Dz;rw[Ng (Nc h2)])
  exact⟨_,n1,n2,trivial,rfl,n3,trivial⟩
 ·obtain⟨n1,n2,n3⟩:=of_next hg hne (Fc L (g.1,s6 (aE g)) (bX (cT (eV L oid g.2) g.2))) (by unfold Dz;rw[Nf (Nb h2),Ng (Nc h5)])
  exact⟨_,n1,n2,trivial,rfl,n3,trivial⟩
 ·rw[h2,h5]at hc;simp at hc
 ·have h2:¬(bX (cT (eV L oid g.2) g.2)).kind=2:=fun h=>by rw[h]at hc;simp at hc
  have h5:¬(bX (cT (eV L oid g.2) g.2)).kind=5:=fun h=>by rw[h]at hc;simp at hc
  obtain⟨n1,n2,n3⟩:=of_next hg hne (g.1,s6 (aE g)) (by unfold Dz;rw[Nf h2,Nf h5])
  exact⟨_,n1,n2,trivial,rfl,n3,trivial⟩
theorem E9:bW Try.prog 27 Ln:=vh (π:=fun _=> [11]) (bj (E0 tS eS) (bj mJ dv)) (fun _=>by simp) (fun _ _=>rfl) fun a hq _=>by
  obtain⟨o,oid,_⟩:=a;cases o with
  |none=>exact hq.elim
  |some L=>exact cK (inl:=(fun f=>f==51||f==67||f==77||f==52||f==1000000+69)) (ann:=(kg [(27,4,MQ [0,5,6] (fun _=> []) (fun g=> [(2,.cset K2 u7 5 (.lp 0 0) g.1 (aE g))]) (eU L oid) iW),(27,3000003,Is [.sht 2 u7]),(27,4000004,Is [.opn 2]),(27,3000009,Is [.sht 2 u7]),(3000+69,1,M4 [0,1,5] 7 MW 4 10)])) az (bL o0 (bL Dy (bL DS (bL Hj cM)))) (Jr L oid hq) (by kernel_rfl)
end Go.Proofs.Ytmfbohanboiklaa
