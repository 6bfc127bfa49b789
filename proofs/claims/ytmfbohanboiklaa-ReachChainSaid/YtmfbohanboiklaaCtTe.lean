import Derived.Test.YtmfbohanboiklaaCtTd
import Derived.Test.YtmfbohanboiklaaCtMu
set_option linter.unusedSimpArgs false
set_option linter.unusedVariables false
namespace Go.Proofs.Ytmfbohanboiklaa
open Go.Sx
set_option maxRecDepth 100000
theorem IG:sY Try.prog 21 (I3 Jc):=Fu HM
theorem Hb (l:List Sx.Obj):
 ((decide (20<aK (aa l))|| !bV l)=true->fN l=false/\Value.pointer none=Value.pointer none)/\((decide (20<aK (aa l))|| !bV l)=false->true=true/\(bV l=false
   ->fN l=false/\Value.pointer none=Value.pointer none)/\(bV l=true->fN l=true/\∀(nid:Nat),some (V.lp nid 0)=some (V.lp nid 0)/\some [ah.store 65 66 l]=some [ah.store
   65 66 l])):=by
 refine⟨fun h=>⟨?_,rfl⟩,fun h=>⟨rfl,fun hr=>⟨?_,rfl⟩,fun hr=>⟨?_,fun nid=>⟨rfl,rfl⟩⟩⟩⟩
 ·unfold fN;unfold aK at h;rw[Bool.or_eq_true,M9,Bool.not_eq_true']at h;rcases h with h|h
  ·rw[decide_eq_false (by omega)];rfl
  ·rw[h];simp
 ·unfold fN;rw[hr];simp
 ·unfold fN;unfold aK at h;rw[hr]at h⊢;rw[Bool.and_true,M9];simp at h;omega
theorem zp:sY Try.prog 8 Jb:=
 EP (bj vi dv) (fun _=>rfl) (fun _=>by simp) fun a _ hok=>by
  obtain⟨l,_⟩:=a;exact cK (inl:=bw) (ann:=bY) (an EY az) (bL HM cM) (Hb l) (by kernel_rfl)
theorem Dx (R:List Sx.Obj->Int->List Cp) (hR:R nm 0= [[2,1,0,0,2],[3,2,0,0,1]]):
 true=true/\(bV nm=false->true=true/\xp none/\(dp [] 0=false->((!decide (aC [] 0=0)&&false)=true->False)/\((!decide (aC [] 0=0)&&false)=false->false=
  true))/\(dp [] 0=true->(decide (aK (aa (R [] 0))=2)=true->(0:Int)<=0/\(0:Int)< ↑(aa (R [] 0)))/\(decide (aK (aa (R [] 0))=2)=true->Int.toNat 0<aa (R [] 0))/\
  ((decide (aK (aa (R [] 0))=2)&&decide (aN (R [] 0) (Int.toNat 0) 0=2))=true->(0:Int)<=1/\(1:Int)< ↑(aa (R [] 0)))/\((decide (aK (aa (R [] 0))=2)&&decide (aN (R [] 0)
  (Int.toNat 0) 0=2))=true->Int.toNat 1<aa (R [] 0))/\(decide (aK (aa (R [] 0))=2)&&decide (aN (R [] 0) (Int.toNat 0) 0=2)&&(decide (aN (R [] 0) (Int.toNat 1) 0=3)&&(decide
  (aN (R [] 0) (Int.toNat 1) 1=2)&&(decide (aN (R [] 0) (Int.toNat 1) 2=0)&&(decide (aN (R [] 0) (Int.toNat 1) 3=0)&&(decide (aN (R [] 0) (Int.toNat 1) 4=1)&&true))))))=true))/\
  (bV nm=true->true=true/\xp (some nm)/\(dp nm 0=false->((!decide (aC nm 0=0)&&false)=true->False)/\((!decide (aC nm 0=0)&&false)=false->false=true))/\
  (dp nm 0=true->(decide (aK (aa (R nm 0))=2)=true->(0:Int)<=0/\(0:Int)< ↑(aa (R nm 0)))/\(decide (aK (aa (R nm 0))=2)=true->Int.toNat 0<aa (R nm 0))/\((decide
  (aK (aa (R nm 0))=2)&&decide (aN (R nm 0) (Int.toNat 0) 0=2))=true->(0:Int)<=1/\(1:Int)< ↑(aa (R nm 0)))/\((decide (aK (aa (R nm 0))=2)&&decide (aN (R nm 0)
  (Int.toNat 0) 0=2))=true->Int.toNat 1<aa (R nm 0))/\(decide (aK (aa (R nm 0))=2)&&decide (aN (R nm 0) (Int.toNat 0) 0=2)&&(decide (aN (R nm 0) (Int.toNat 1) 0=3)&&(decide
  (aN (R nm 0) (Int.toNat 1) 1=2)&&(decide (aN (R nm 0) (Int.toNat 1) 2=0)&&(decide (aN (R nm 0) (Int.toNat 1) 3=0)&&(decide (aN (R nm 0) (Int.toNat 1) 4=1)&&true))))))=true)):=by
 refine⟨rfl,fun h=>absurd (h.symm.trans tF) (by decide),fun _=>⟨rfl,tF,fun h=>absurd (h.symm.trans (by kernel_rfl:dp nm 0=true)) (by decide),fun _=>?_⟩⟩
 rw[hR];decide
theorem A0 (R:List Sx.Obj->Int->List Cp) (hR:R nm 0= [[2,1,0,0,2],[3,2,0,0,1]]) (hc_wofR:sY Try.prog 13 (yT R)):ai Try.prog 10 [] [] (nz (.bo true)) (fun _ _=>False):=cK (inl:=bw) (ann:=bY) az (bL IG (bL hc_wofR cM)) (Dx R hR) (by kernel_rfl)
theorem ru:bW Try.prog 10 Hs:=Jq rfl (A0 dt FK yM)
theorem Hh (L:List Sx.Obj):
 true=true/\True/\(fN L=false->true=true)/\(fN L=true->(∃g,lN L g/\ -1=g/\L=L/\L=L)/\∀(g:Int),lN L g->(decide (g<=aK (aa L))=true->true=true/\
  xp (some L)/\(dp L g=false->((decide (g<0)||decide (aK (aa L)<=g))=true->((!decide (aC L g=4))=true->false=true)/\((!decide (aC L g=4))=false->aP IntKind.i64
  (g+1)/\∃g',lN L g'/\(aK (aa L)+2-g').toNat<(aK (aa L)+2-g).toNat/\g+1=g'/\L=L/\L=L))/\((decide (g<0)||decide (aK (aa L)<=g))=false->((!!decide (aC L
  g=0))=true->uQ L g/\((!!decide (aC L g=0))=true->true=true/\False)/\((!!decide (aC L g=0))=false->false=true))/\((!!decide (aC L g=0))=false->((!!decide (aC
  L g=0))=true->False)/\((!!decide (aC L g=0))=false->false=true))))/\(dp L g=true->((decide (g<0)||decide (aK (aa L)<=g))=true->((!decide (aK (aa (dt L g))=0)
  ||true)=true->false=true)/\((!decide (aK (aa (dt L g))=0)||true)=false->aP IntKind.i64 (g+1)/\∃g',lN L g'/\(aK (aa L)+2-g').toNat<(aK (aa L)+2-g).toNat
  /\g+1=g'/\L=L/\L=L))/\((decide (g<0)||decide (aK (aa L)<=g))=false->uQ L g/\(dF (dt L g)/\dF (dt L g))/\((!kb (dt L g) (dt L g))=true->false=
  true)/\((!kb (dt L g) (dt L g))=false->aP IntKind.i64 (g+1)/\∃g',lN L g'/\(aK (aa L)+2-g').toNat<(aK (aa L)+2-g).toNat/\g+1=g'/\L=L/\L=L))))/\
  (decide (g<=aK (aa L))=false->(hJ L L&&true)=true)):=by
 refine⟨rfl,trivial,fun _=>rfl,fun hM=>?_⟩
 have hM':=hM;unfold fN at hM';simp only[M8,M9]at hM';obtain⟨h20,hR⟩:=hM';have h20:(L.length:Int)<=20:=h20;obtain⟨l1,l2⟩:=mr hR;have e1:aK (aa L)=(L.length:Int):=rfl
 have h4:∀g:Int,¬(0<=g/\g<(L.length:Int))->aC L g=4:=fun g h=>by
  rw[wB (by unfold bQ aa;simp;intro e;rw[e]at l1;simp at l1),Ng (by omega)]
 rw[e1];refine⟨⟨-1,⟨by omega,by show(-1:Int)<=(L.length:Int)+1;omega,h20⟩,rfl,rfl,rfl⟩,fun g hg=>⟨fun hle=>⟨rfl,hR,fun hb=>⟨fun hc=>⟨fun h=>?_,fun h=>?_⟩,fun hc=>?_⟩,fun hb=>⟨fun hc=>?_,fun hc=>?_⟩⟩,fun hgt=>?_⟩⟩
 ·unfold dp at hb;have hb:=Nb hb;rw[h4 g fun hh=>hb (ec.2 hh)]at h
  simp at h
 ·obtain⟨a,b,c⟩:=hg;have hle:=Nc hle;exact⟨by simp only[aP,bC];omega,g+1,⟨by omega,by show g+1<=(L.length:Int)+1;omega,c⟩,by omega,rfl,rfl,rfl⟩
 ·unfold dp at hb;have hb:=Nb hb;simp only[Bool.or_eq_false_iff,decide_eq_false_iff_not]at hc;exact absurd (ec.2 ⟨by omega,by omega⟩) hb
 ·unfold dp at hb;obtain⟨x,y⟩:=ec.1 (Nc hb);simp only[Bool.or_eq_true,M9]at hc;omega
 ·unfold dp at hb;have hb:=Nc hb;obtain⟨x,y⟩:=ec.1 hb;have h5:=D4 (L:=L) hR g;have hs:kb (dt L g) (dt L g)=true:=decide_eq_true rfl;rw[hs];exact⟨⟨hR,hb⟩,⟨h5,h5⟩,fun h=>by simp at h,fun _=>⟨by simp only[aP,bC];omega,g+1,⟨by omega,by show g+1<=(L.length:Int)+1;omega,h20⟩,by omega,rfl,rfl,rfl⟩⟩
 ·have:hJ L L=true:=decide_eq_true rfl;rw[this];rfl
theorem zr (L:List Sx.Obj):ai Try.prog 4 [.sa 0] [.ro (.arr none 163 (.ob L))] (nz (.bo true)) (fun _ _=>False):=
 cK (inl:=bw) (ann:=(kg [(4,5,Jw [0,3] (fun g=> [(4,.it .i64 g)]) (lN L) (Gf (aK (aa L)) 2))])) (an ru (an GJ (an I7 (an DA az)))) (bL zp (bL yM cM)) (Hh L) (by kernel_rfl)
end Go.Proofs.Ytmfbohanboiklaa
