import Derived.Test.YtmfbohanboiklaaGreatDoorCtTa
import Derived.Test.YtmfbohanboiklaaGreatDoorCtTs
import Derived.Test.YtmfbohanboiklaaGreatDoorSpHb
set_option linter.unusedSimpArgs false
set_option linter.unusedVariables false
namespace Go.Proofs.YtmfbohanboiklaaGreatDoor
open Go.Sx
set_option maxRecDepth 100000
theorem IA(L:List Sx.Obj)(oid:Int)(hL:pH L):
 true=true/\kc ([],[]) 900000/\(∃g,fb L oid g/\L=L/\(ft L ([],[]) oid false 16).fst=g.fst/\(ft L ([],[]) oid false 16).snd=aW g/\([2,5]:List Int)= [2,5])/\∀(g:List
  (Cp×Int)×Nat),fb L oid g->(decide (cW (aN (aW g))=0)=true->true=true/\true=true/\true=true/\true=true/\true=true/\∀(r0:Loop),(∃g_1,iP g.fst g_1/\L=L/\
  ([2,5]:List Int)= [2,5]/\g.fst=g.fst/\aW g=aW g/\r0=r0/\aN g.fst=aN g.fst/\ []=g_1/\ []=gu g.fst g_1)/\∀(g_1:List Nat),iP g.fst g_1->Kb (aN g.fst) g.fst
  /\(∀(q:Nat),q.succ.le (aN g.fst)->Eo g_1 q=false->Ii (aN g.fst) g.fst (bN g_1 q)/\r0=r0/\r0=r0/\cV (aN (gu g.fst g_1)) 40/\r0=r0/\∃g',iP g.fst g'/\oX g'<
  oX g_1/\L=L/\([2,5]:List Int)= [2,5]/\g.fst=g.fst/\aW g=aW g/\r0=r0/\aN g.fst=aN g.fst/\bN g_1 q=g'/\bN (gu g.fst g_1) [cC g.fst (nL (bN g_1 q)) 0,
  cC g.fst (nL (bN g_1 q)) 1,cC g.fst (nL (bN g_1 q)) 2,cC g.fst (nL (bN g_1 q)) 3,cC g.fst (nL (bN g_1 q)) 4]=gu g.fst g')/\((∀(q:Nat),q.succ.le (aN g.fst)->Eo
  g_1 q=true)->true=true/\uN (gu g.fst g_1)/\∀(nid:Nat),some (V.sa nid)=some (V.sa nid)/\some [aI.arr (some sL) 5 (TL.qs 5 (kr (gu g.fst g_1)))]=some [aI.arr (some sL) 5
  (TL.qs 5 (ka L oid))]))/\(decide (cW (aN (aW g))=0)=false->((0:Int)<=0/\(0:Int)< ↑(aN (aW g)))/\Int.toNat 0<aN (aW g)/\JX (aW g)/\((decide (cr (aW g)
  (Int.toNat 0) 0=2)||decide (cr (aW g) (Int.toNat 0) 0=5))=true->(decide (cr (aW g) (Int.toNat 0) 0=2)=true->true=true/\(kc (g.fst,sM (aW g)) 800000/\I8 (cr (aW g)
  (Int.toNat 0) 4))/\∃g',fb L oid g'/\jb g'<jb g/\L=L/\(xz L (g.fst,sM (aW g)) (Key.mk (cr (aW g) (Int.toNat 0) 0) (cr (aW g) (Int.toNat 0) 1) (cr (aW g)
  (Int.toNat 0) 2) (cr (aW g) (Int.toNat 0) 3) (cr (aW g) (Int.toNat 0) 4) 0)).fst=g'.fst/\(xz L (g.fst,sM (aW g)) (Key.mk (cr (aW g) (Int.toNat 0) 0) (cr (aW g) (Int.toNat 0) 1)
  (cr (aW g) (Int.toNat 0) 2) (cr (aW g) (Int.toNat 0) 3) (cr (aW g) (Int.toNat 0) 4) 0)).snd=aW g'/\([2,5]:List Int)= [2,5])/\(decide (cr (aW g) (Int.toNat 0) 0=2)=false
  ->(decide (cr (aW g) (Int.toNat 0) 0=5)=true->true=true/\kc (g.fst,sM (aW g)) 800000/\∃g',fb L oid g'/\jb g'<jb g/\L=L/\(Er L (g.fst,sM (aW g)) (Key.mk
  (cr (aW g) (Int.toNat 0) 0) (cr (aW g) (Int.toNat 0) 1) (cr (aW g) (Int.toNat 0) 2) (cr (aW g) (Int.toNat 0) 3) (cr (aW g) (Int.toNat 0) 4) 0)).fst=g'.fst/\(Er L (g.fst,sM
  (aW g)) (Key.mk (cr (aW g) (Int.toNat 0) 0) (cr (aW g) (Int.toNat 0) 1) (cr (aW g) (Int.toNat 0) 2) (cr (aW g) (Int.toNat 0) 3) (cr (aW g) (Int.toNat 0) 4) 0)).snd=aW g'/\
  ([2,5]:List Int)= [2,5])/\(decide (cr (aW g) (Int.toNat 0) 0=5)=false->False)))/\((decide (cr (aW g) (Int.toNat 0) 0=2)||decide (cr (aW g) (Int.toNat 0) 0=5))=false->∃
  g',fb L oid g'/\jb g'<jb g/\L=L/\g.fst=g'.fst/\sM (aW g)=aW g'/\([2,5]:List Int)= [2,5])):=by
 obtain⟨i1,i2⟩:=J8 hL oid;refine⟨rfl,df zH (by omega),⟨_,i1,rfl,rfl,i2,rfl⟩,fun g hg=>?_⟩
 have hz:cW (aN (aW g))=0↔aW g= []:=by
  show(((aW g).length:Nat):Int)=0↔_
  rw[<-List.length_eq_zero_iff];omega
 obtain⟨b1,b2,b3⟩:=yI hg;refine⟨fun h0=>⟨rfl,rfl,rfl,rfl,rfl,fun r0=>⟨⟨[],⟨by simp,by simp⟩,rfl,rfl,rfl,rfl,rfl,rfl,rfl,rfl⟩,fun S hS=>⟨rfl,fun q hq hn=>?_,fun hall=>?_⟩⟩⟩,fun h0=>?_⟩
 ·obtain⟨k1,k2,k3,k4,k5⟩:=FQ hS b2 hq hn;rw[zi];exact⟨k4,rfl,rfl,k3,rfl,_,k1,k2,rfl,rfl,rfl,rfl,rfl,rfl,rfl,k5⟩
 ·obtain⟨e1,e2⟩:=Hn hg (hz.1 (an h0)) hS hall;exact⟨rfl,e1,fun nid=>⟨rfl,by rw[e2]⟩⟩
 have hne:¬aW g= []:=fun h=>ak h0 (hz.2 h)
 obtain⟨a1,a2,a3⟩:=GZ hg hne
 have hpos:0<aN (aW g):=by
  show 0<(aW g).length
  cases h:aW g with
  |nil=>exact absurd h hne
  |cons x l=>simp
 have e0:Int.toNat 0=0:=rfl
 have hkey:(Key.mk (cr (aW g) 0 0) (cr (aW g) 0 1) (cr (aW g) 0 2) (cr (aW g) 0 3) (cr (aW g) 0 4) 0:Sx.Key)=cT (gI (jf L oid g.2) g.2):=by
  simp only[a2];rfl
 have hkd:cr (aW g) 0 0=(cT (gI (jf L oid g.2) g.2)).kind:=a2 0
 have hb8:kc (g.1,sM (aW g)) 800000:=⟨by show((g.1.length:Nat):Int)<=_;omega,by
  have h1:((aW g).length:Int)<=200000:=b3.2.1;show((sM (aW g)).length:Int)<=_
  unfold sM;rw[List.length_tail];omega,fun p hp=>by have:=b3.2.2 p hp;omega⟩
 simp only[e0,hkey];rw[hkd];refine⟨⟨by omega,by omega⟩,hpos,hpos,fun hc=>⟨fun h2=>⟨trivial,⟨hb8,?_⟩,?_⟩,fun h2=>⟨fun h5=>⟨trivial,hb8,?_⟩,fun h5=>?_⟩⟩,fun hc=>?_⟩
 ·have:=J1 a3 (an h2);have e4:cr (aW g) 0 4=(cT (gI (jf L oid g.2) g.2)).rights:=a2 4;rw[e4];exact this
 ·obtain⟨n1,n2,n3⟩:=of_next hg hne (xz L (g.1,sM (aW g)) (cT (gI (jf L oid g.2) g.2))) (by unfold De;rw[au (an h2)])
  exact⟨_,n1,n2,trivial,rfl,n3,trivial⟩
 ·obtain⟨n1,n2,n3⟩:=of_next hg hne (Er L (g.1,sM (aW g)) (cT (gI (jf L oid g.2) g.2))) (by unfold De;rw[ar (ak h2),au (an h5)])
  exact⟨_,n1,n2,trivial,rfl,n3,trivial⟩
 ·rw[h2,h5]at hc;simp at hc
 ·have h2:¬(cT (gI (jf L oid g.2) g.2)).kind=2:=fun h=>by rw[h]at hc;simp at hc
  have h5:¬(cT (gI (jf L oid g.2) g.2)).kind=5:=fun h=>by rw[h]at hc;simp at hc
  obtain⟨n1,n2,n3⟩:=of_next hg hne (g.1,sM (aW g)) (by unfold De;rw[ar h2,ar h5])
  exact⟨_,n1,n2,trivial,rfl,n3,trivial⟩
theorem BS:cI Tryz.prog 27 JN:=Fs (π:=fun _=> [11]) (bL (C8 tS eS) (bL mD ea)) (fun _=>by simp) (fun _ _=>rfl) fun a hq _=>by
  obtain⟨o,oid,_⟩:=a;cases o with
  |none=>exact hq.elim
  |some L=>exact eH (inl:=(fun f=>f==40||f==59||f==72||f==41||f==1000000+61)) (ann:=(qJ [(27,4,L9 [0,5,6] (fun _=> []) (fun g=> [(2,.cset Ky sL 5 (.lp 0 0) g.1 (aW g))]) (fb L oid) jb),(27,3000003,EJ [.sht 2 sL]),(27,4000004,EJ [.opn 2]),(27,3000009,EJ [.sht 2 sL]),(3000+61,1,Mj [0,1,5] 7 Mb 4 10)])) bf (cP oJ (cP BT (cP Eb (cP Gf eF)))) (IA L oid hq) (by kernel_rfl)
end Go.Proofs.YtmfbohanboiklaaGreatDoor
