import Derived.Test.YtmfbohanboiklaaCtTd
import Derived.Test.YtmfbohanboiklaaCtMu
set_option linter.unusedSimpArgs false
set_option linter.unusedVariables false
namespace Go.Proofs.Ytmfbohanboiklaa
open Go.Sx
set_option maxRecDepth 100000
theorem IV:sF Try.prog 21 (Is I3):=FB GY
theorem EM (l:List Sx.Obj):
 ((decide (20<aZ (ae l))|| !bT l)=true->iU l=false/\Value.pointer none=Value.pointer none)/\((decide (20<aZ (ae l))|| !bT l)=false->true=true/\(bT l=false
   ->iU l=false/\Value.pointer none=Value.pointer none)/\(bT l=true->iU l=true/\∀(nid:Nat),some (V.lp nid 0)=some (V.lp nid 0)/\some [ah.store 65 66 l]=some [ah.store
   65 66 l])):=by
 refine⟨fun h=>⟨?_,rfl⟩,fun h=>⟨rfl,fun hr=>⟨?_,rfl⟩,fun hr=>⟨?_,fun nid=>⟨rfl,rfl⟩⟩⟩⟩
 ·unfold iU;unfold aZ at h;rw[Bool.or_eq_true,Mv,Bool.not_eq_true']at h;rcases h with h|h
  ·rw[decide_eq_false (by omega)];rfl
  ·rw[h];simp
 ·unfold iU;rw[hr];simp
 ·unfold iU;unfold aZ at h;rw[hr]at h⊢;rw[Bool.and_true,Mv];simp at h;omega
theorem F8:sF Try.prog 8 HN:=
 Ca (bh yt dJ) (fun _=>rfl) (fun _=>by simp) fun a _ hok=>by
  obtain⟨l,_⟩:=a;exact c8 (inl:=bx) (ann:=bV) (an Ee az) (b6 GY de) (EM l) (by kernel_rfl)
theorem Dh (R:List Sx.Obj->Int->List Cp) (hR:R mW 0= [[2,1,0,0,2],[3,2,0,0,1]]):
 true=true/\(bT mW=false->true=true/\zu none/\(dX [] 0=false->((!decide (aE [] 0=0)&&false)=true->False)/\((!decide (aE [] 0=0)&&false)=false->false=
  true))/\(dX [] 0=true->(decide (aZ (ae (R [] 0))=2)=true->(0:Int)<=0/\(0:Int)< ↑(ae (R [] 0)))/\(decide (aZ (ae (R [] 0))=2)=true->Int.toNat 0<ae (R [] 0))/\
  ((decide (aZ (ae (R [] 0))=2)&&decide (bc (R [] 0) (Int.toNat 0) 0=2))=true->(0:Int)<=1/\(1:Int)< ↑(ae (R [] 0)))/\((decide (aZ (ae (R [] 0))=2)&&decide (bc (R [] 0)
  (Int.toNat 0) 0=2))=true->Int.toNat 1<ae (R [] 0))/\(decide (aZ (ae (R [] 0))=2)&&decide (bc (R [] 0) (Int.toNat 0) 0=2)&&(decide (bc (R [] 0) (Int.toNat 1) 0=3)&&(decide
  (bc (R [] 0) (Int.toNat 1) 1=2)&&(decide (bc (R [] 0) (Int.toNat 1) 2=0)&&(decide (bc (R [] 0) (Int.toNat 1) 3=0)&&(decide (bc (R [] 0) (Int.toNat 1) 4=1)&&true))))))=true))/\
  (bT mW=true->true=true/\zu (some mW)/\(dX mW 0=false->((!decide (aE mW 0=0)&&false)=true->False)/\((!decide (aE mW 0=0)&&false)=false->false=true))/\
  (dX mW 0=true->(decide (aZ (ae (R mW 0))=2)=true->(0:Int)<=0/\(0:Int)< ↑(ae (R mW 0)))/\(decide (aZ (ae (R mW 0))=2)=true->Int.toNat 0<ae (R mW 0))/\((decide
  (aZ (ae (R mW 0))=2)&&decide (bc (R mW 0) (Int.toNat 0) 0=2))=true->(0:Int)<=1/\(1:Int)< ↑(ae (R mW 0)))/\((decide (aZ (ae (R mW 0))=2)&&decide (bc (R mW 0)
  (Int.toNat 0) 0=2))=true->Int.toNat 1<ae (R mW 0))/\(decide (aZ (ae (R mW 0))=2)&&decide (bc (R mW 0) (Int.toNat 0) 0=2)&&(decide (bc (R mW 0) (Int.toNat 1) 0=3)&&(decide
  (bc (R mW 0) (Int.toNat 1) 1=2)&&(decide (bc (R mW 0) (Int.toNat 1) 2=0)&&(decide (bc (R mW 0) (Int.toNat 1) 3=0)&&(decide (bc (R mW 0) (Int.toNat 1) 4=1)&&true))))))=true)):=by
 refine⟨rfl,fun h=>absurd (h.symm.trans s7) (by decide),fun _=>⟨rfl,s7,fun h=>absurd (h.symm.trans (by kernel_rfl:dX mW 0=true)) (by decide),fun _=>?_⟩⟩
 rw[hR];decide
theorem A8 (R:List Sx.Obj->Int->List Cp) (hR:R mW 0= [[2,1,0,0,2],[3,2,0,0,1]]) (hc_wofR:sF Try.prog 13 (xw R)):ai Try.prog 10 [] [] (oB (.bo true)) (fun _ _=>False):=c8 (inl:=bx) (ann:=bV) az (b6 IV (b6 hc_wofR de)) (Dh R hR) (by kernel_rfl)
theorem DN:bW Try.prog 10 Gj:=IF rfl (A8 dq GK C6)
theorem FA (L:List Sx.Obj):
 true=true/\True/\(iU L=false->true=true)/\(iU L=true->(∃g,lF L g/\ -1=g/\L=L/\L=L)/\∀(g:Int),lF L g->(decide (g<=aZ (ae L))=true->true=true/\
  zu (some L)/\(dX L g=false->((decide (g<0)||decide (aZ (ae L)<=g))=true->((!decide (aE L g=4))=true->false=true)/\((!decide (aE L g=4))=false->br IntKind.i64
  (g+1)/\∃g',lF L g'/\(aZ (ae L)+2-g').toNat<(aZ (ae L)+2-g).toNat/\g+1=g'/\L=L/\L=L))/\((decide (g<0)||decide (aZ (ae L)<=g))=false->((!!decide (aE L
  g=0))=true->u5 L g/\((!!decide (aE L g=0))=true->true=true/\False)/\((!!decide (aE L g=0))=false->false=true))/\((!!decide (aE L g=0))=false->((!!decide (aE
  L g=0))=true->False)/\((!!decide (aE L g=0))=false->false=true))))/\(dX L g=true->((decide (g<0)||decide (aZ (ae L)<=g))=true->((!decide (aZ (ae (dq L g))=0)
  ||true)=true->false=true)/\((!decide (aZ (ae (dq L g))=0)||true)=false->br IntKind.i64 (g+1)/\∃g',lF L g'/\(aZ (ae L)+2-g').toNat<(aZ (ae L)+2-g).toNat
  /\g+1=g'/\L=L/\L=L))/\((decide (g<0)||decide (aZ (ae L)<=g))=false->u5 L g/\(dI (dq L g)/\dI (dq L g))/\((!jH (dq L g) (dq L g))=true->false=
  true)/\((!jH (dq L g) (dq L g))=false->br IntKind.i64 (g+1)/\∃g',lF L g'/\(aZ (ae L)+2-g').toNat<(aZ (ae L)+2-g).toNat/\g+1=g'/\L=L/\L=L))))/\
  (decide (g<=aZ (ae L))=false->(gO L L&&true)=true)):=by
 refine⟨rfl,trivial,fun _=>rfl,fun hM=>?_⟩
 have hM':=hM;unfold iU at hM';simp only[Mu,Mv]at hM';obtain⟨h20,hR⟩:=hM';have h20:(L.length:Int)<=20:=h20;obtain⟨l1,l2⟩:=p8 hR;have e1:aZ (ae L)=(L.length:Int):=rfl
 have h4:∀g:Int,¬(0<=g/\g<(L.length:Int))->aE L g=4:=fun g h=>by
  rw[xp (by unfold bQ ae;simp;intro e;rw[e]at l1;simp at l1),MB (by omega)]
 rw[e1];refine⟨⟨-1,⟨by omega,by show(-1:Int)<=(L.length:Int)+1;omega,h20⟩,rfl,rfl,rfl⟩,fun g hg=>⟨fun hle=>⟨rfl,hR,fun hb=>⟨fun hc=>⟨fun h=>?_,fun h=>?_⟩,fun hc=>?_⟩,fun hb=>⟨fun hc=>?_,fun hc=>?_⟩⟩,fun hgt=>?_⟩⟩
 ·unfold dX at hb;have hb:=Mx hb;rw[h4 g fun hh=>hb (ff.2 hh)]at h
  simp at h
 ·obtain⟨a,b,c⟩:=hg;have hle:=My hle;exact⟨by simp only[br,bJ];omega,g+1,⟨by omega,by show g+1<=(L.length:Int)+1;omega,c⟩,by omega,rfl,rfl,rfl⟩
 ·unfold dX at hb;have hb:=Mx hb;simp only[Bool.or_eq_false_iff,decide_eq_false_iff_not]at hc;exact absurd (ff.2 ⟨by omega,by omega⟩) hb
 ·unfold dX at hb;obtain⟨x,y⟩:=ff.1 (My hb);simp only[Bool.or_eq_true,Mv]at hc;omega
 ·unfold dX at hb;have hb:=My hb;obtain⟨x,y⟩:=ff.1 hb;have h5:=BG (L:=L) hR g;have hs:jH (dq L g) (dq L g)=true:=decide_eq_true rfl;rw[hs];exact⟨⟨hR,hb⟩,⟨h5,h5⟩,fun h=>by simp at h,fun _=>⟨by simp only[br,bJ];omega,g+1,⟨by omega,by show g+1<=(L.length:Int)+1;omega,h20⟩,by omega,rfl,rfl,rfl⟩⟩
 ·have:gO L L=true:=decide_eq_true rfl;rw[this];rfl
theorem Fs (L:List Sx.Obj):ai Try.prog 4 [.sa 0] [.ro (.arr none 163 (.ob L))] (oB (.bo true)) (fun _ _=>False):=
 c8 (inl:=bx) (ann:=(kQ [(4,5,Ji [0,3] (fun g=> [(4,.it .i64 g)]) (lF L) (FC (aZ (ae L)) 2))])) (an DN (an Ga (an HW (an BI az)))) (b6 F8 (b6 C6 de)) (FA L) (by kernel_rfl)
end Go.Proofs.Ytmfbohanboiklaa
