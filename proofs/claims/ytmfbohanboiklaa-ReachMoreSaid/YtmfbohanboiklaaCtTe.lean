import Derived.Test.YtmfbohanboiklaaCtTd
import Derived.Test.YtmfbohanboiklaaCtMu
set_option linter.unusedSimpArgs false
set_option linter.unusedVariables false
namespace Go.Proofs.Ytmfbohanboiklaa
open Go.Sx
set_option maxRecDepth 100000
theorem J8:tr Try.prog 21 (Ki Jh):=Hp Is
theorem Hu (l:List Sx.Obj):
 ((decide (20<aJ (aa l))|| !bX l)=true->eO l=false/\Value.pointer none=Value.pointer none)/\((decide (20<aJ (aa l))|| !bX l)=false->true=true/\(bX l=false
   ->eO l=false/\Value.pointer none=Value.pointer none)/\(bX l=true->eO l=true/\∀(nid:Nat),some (V.lp nid 0)=some (V.lp nid 0)/\some [ah.store 65 66 l]=some [ah.store
   65 66 l])):=by
 refine⟨fun h=>⟨?_,rfl⟩,fun h=>⟨rfl,fun hr=>⟨?_,rfl⟩,fun hr=>⟨?_,fun nid=>⟨rfl,rfl⟩⟩⟩⟩
 ·unfold eO;unfold aJ at h;rw[Bool.or_eq_true,NQ,Bool.not_eq_true']at h;rcases h with h|h
  ·rw[decide_eq_false (by omega)];rfl
  ·rw[h];simp
 ·unfold eO;rw[hr];simp
 ·unfold eO;unfold aJ at h;rw[hr]at h⊢;rw[Bool.and_true,NQ];simp at h;omega
theorem vL:tr Try.prog 8 Kc:=
 ET (a8 ve dn) (fun _=>rfl) (fun _=>by simp) fun a _ hok=>by
  obtain⟨l,_⟩:=a;exact cE (inl:=bu) (ann:=bZ) (ak Fv aA) (bz Is cH) (Hu l) (by kernel_rfl)
theorem E5 (R:List Sx.Obj->Int->List Cp) (hR:R nG 0= [[2,1,0,0,2],[3,2,0,0,1]]):
 true=true/\(bX nG=false->true=true/\qo none/\(cc [] 0=false->((!decide (az [] 0=0)&&false)=true->False)/\((!decide (az [] 0=0)&&false)=false->false=
  true))/\(cc [] 0=true->(decide (aJ (aa (R [] 0))=2)=true->(0:Int)<=0/\(0:Int)< ↑(aa (R [] 0)))/\(decide (aJ (aa (R [] 0))=2)=true->Int.toNat 0<aa (R [] 0))/\
  ((decide (aJ (aa (R [] 0))=2)&&decide (aK (R [] 0) (Int.toNat 0) 0=2))=true->(0:Int)<=1/\(1:Int)< ↑(aa (R [] 0)))/\((decide (aJ (aa (R [] 0))=2)&&decide (aK (R [] 0)
  (Int.toNat 0) 0=2))=true->Int.toNat 1<aa (R [] 0))/\(decide (aJ (aa (R [] 0))=2)&&decide (aK (R [] 0) (Int.toNat 0) 0=2)&&(decide (aK (R [] 0) (Int.toNat 1) 0=3)&&(decide
  (aK (R [] 0) (Int.toNat 1) 1=2)&&(decide (aK (R [] 0) (Int.toNat 1) 2=0)&&(decide (aK (R [] 0) (Int.toNat 1) 3=0)&&(decide (aK (R [] 0) (Int.toNat 1) 4=1)&&true))))))=true))/\
  (bX nG=true->true=true/\qo (some nG)/\(cc nG 0=false->((!decide (az nG 0=0)&&false)=true->False)/\((!decide (az nG 0=0)&&false)=false->false=true))/\
  (cc nG 0=true->(decide (aJ (aa (R nG 0))=2)=true->(0:Int)<=0/\(0:Int)< ↑(aa (R nG 0)))/\(decide (aJ (aa (R nG 0))=2)=true->Int.toNat 0<aa (R nG 0))/\((decide
  (aJ (aa (R nG 0))=2)&&decide (aK (R nG 0) (Int.toNat 0) 0=2))=true->(0:Int)<=1/\(1:Int)< ↑(aa (R nG 0)))/\((decide (aJ (aa (R nG 0))=2)&&decide (aK (R nG 0)
  (Int.toNat 0) 0=2))=true->Int.toNat 1<aa (R nG 0))/\(decide (aJ (aa (R nG 0))=2)&&decide (aK (R nG 0) (Int.toNat 0) 0=2)&&(decide (aK (R nG 0) (Int.toNat 1) 0=3)&&(decide
  (aK (R nG 0) (Int.toNat 1) 1=2)&&(decide (aK (R nG 0) (Int.toNat 1) 2=0)&&(decide (aK (R nG 0) (Int.toNat 1) 3=0)&&(decide (aK (R nG 0) (Int.toNat 1) 4=1)&&true))))))=true)):=by
 refine⟨rfl,fun h=>absurd (h.symm.trans uq) (by decide),fun _=>⟨rfl,uq,fun h=>absurd (h.symm.trans (by kernel_rfl:cc nG 0=true)) (by decide),fun _=>?_⟩⟩
 rw[hR];decide
theorem A5 (R:List Sx.Obj->Int->List Cp) (hR:R nG 0= [[2,1,0,0,2],[3,2,0,0,1]]) (hc_wofR:tr Try.prog 13 (yE R)):ai Try.prog 10 [] [] (nc (.bo true)) (fun _ _=>False):=cE (inl:=bu) (ann:=bZ) aA (bz J8 (bz hc_wofR cH)) (E5 R hR) (by kernel_rfl)
theorem oV:bW Try.prog 10 GD:=I6 rfl (A5 aI FW vy)
theorem GA (L:List Sx.Obj):
 true=true/\True/\(eO L=false->true=true)/\(eO L=true->(∃g,mM L g/\ -1=g/\L=L/\L=L)/\∀(g:Int),mM L g->(decide (g<=aJ (aa L))=true->true=true/\
  qo (some L)/\(cc L g=false->((decide (g<0)||decide (aJ (aa L)<=g))=true->((!decide (az L g=4))=true->false=true)/\((!decide (az L g=4))=false->aO IntKind.i64
  (g+1)/\∃g',mM L g'/\(aJ (aa L)+2-g').toNat<(aJ (aa L)+2-g).toNat/\g+1=g'/\L=L/\L=L))/\((decide (g<0)||decide (aJ (aa L)<=g))=false->((!!decide (az L
  g=0))=true->wc L g/\((!!decide (az L g=0))=true->true=true/\False)/\((!!decide (az L g=0))=false->false=true))/\((!!decide (az L g=0))=false->((!!decide (az
  L g=0))=true->False)/\((!!decide (az L g=0))=false->false=true))))/\(cc L g=true->((decide (g<0)||decide (aJ (aa L)<=g))=true->((!decide (aJ (aa (aI L g))=0)
  ||true)=true->false=true)/\((!decide (aJ (aa (aI L g))=0)||true)=false->aO IntKind.i64 (g+1)/\∃g',mM L g'/\(aJ (aa L)+2-g').toNat<(aJ (aa L)+2-g).toNat
  /\g+1=g'/\L=L/\L=L))/\((decide (g<0)||decide (aJ (aa L)<=g))=false->wc L g/\(c9 (aI L g)/\c9 (aI L g))/\((!ku (aI L g) (aI L g))=true->false=
  true)/\((!ku (aI L g) (aI L g))=false->aO IntKind.i64 (g+1)/\∃g',mM L g'/\(aJ (aa L)+2-g').toNat<(aJ (aa L)+2-g).toNat/\g+1=g'/\L=L/\L=L))))/\
  (decide (g<=aJ (aa L))=false->(hJ L L&&true)=true)):=by
 refine⟨rfl,trivial,fun _=>rfl,fun hM=>?_⟩
 have hM':=hM;unfold eO at hM';simp only[NP,NQ]at hM';obtain⟨h20,hR⟩:=hM';have h20:(L.length:Int)<=20:=h20;obtain⟨l1,l2⟩:=iM hR;have e1:aJ (aa L)=(L.length:Int):=rfl
 have h4:∀g:Int,¬(0<=g/\g<(L.length:Int))->az L g=4:=fun g h=>by
  rw[xI (by unfold bH aa;simp;intro e;rw[e]at l1;simp at l1),NX (by omega)]
 rw[e1];refine⟨⟨-1,⟨by omega,by show(-1:Int)<=(L.length:Int)+1;omega,h20⟩,rfl,rfl,rfl⟩,fun g hg=>⟨fun hle=>⟨rfl,hR,fun hb=>⟨fun hc=>⟨fun h=>?_,fun h=>?_⟩,fun hc=>?_⟩,fun hb=>⟨fun hc=>?_,fun hc=>?_⟩⟩,fun hgt=>?_⟩⟩
 ·unfold cc at hb;have hb:=NT hb;rw[h4 g fun hh=>hb (de.2 hh)]at h
  simp at h
 ·obtain⟨a,b,c⟩:=hg;have hle:=NU hle;exact⟨by simp only[aO,bE];omega,g+1,⟨by omega,by show g+1<=(L.length:Int)+1;omega,c⟩,by omega,rfl,rfl,rfl⟩
 ·unfold cc at hb;have hb:=NT hb;simp only[Bool.or_eq_false_iff,decide_eq_false_iff_not]at hc;exact absurd (de.2 ⟨by omega,by omega⟩) hb
 ·unfold cc at hb;obtain⟨x,y⟩:=de.1 (NU hb);simp only[Bool.or_eq_true,NQ]at hc;omega
 ·unfold cc at hb;have hb:=NU hb;obtain⟨x,y⟩:=de.1 hb;have h5:=xt (L:=L) hR g;have hs:ku (aI L g) (aI L g)=true:=decide_eq_true rfl;rw[hs];exact⟨⟨hR,hb⟩,⟨h5,h5⟩,fun h=>by simp at h,fun _=>⟨by simp only[aO,bE];omega,g+1,⟨by omega,by show g+1<=(L.length:Int)+1;omega,h20⟩,by omega,rfl,rfl,rfl⟩⟩
 ·have:hJ L L=true:=decide_eq_true rfl;rw[this];rfl
theorem Aq (L:List Sx.Obj):ai Try.prog 4 [.sa 0] [.ro (.arr none 163 (.ob L))] (nc (.bo true)) (fun _ _=>False):=
 cE (inl:=bu) (ann:=(jb [(4,5,FL [0,3] (fun g=> [(4,.it .i64 g)]) (mM L) (HO (aJ (aa L)) 2))])) (ak oV (ak Gu (ak Ka (ak Fx aA)))) (bz vL (bz vy cH)) (GA L) (by kernel_rfl)
end Go.Proofs.Ytmfbohanboiklaa
