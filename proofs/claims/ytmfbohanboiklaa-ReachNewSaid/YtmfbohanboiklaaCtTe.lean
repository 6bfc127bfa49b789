import Derived.Test.YtmfbohanboiklaaCtTd
import Derived.Test.YtmfbohanboiklaaCtMu
set_option linter.unusedSimpArgs false
set_option linter.unusedVariables false
namespace Go.Proofs.Ytmfbohanboiklaa
open Go.Sx
set_option maxRecDepth 100000
theorem KE:si Try.prog 21 (Kg JZ):=Hj Ix
theorem GV (l:List Sx.Obj):
 ((decide (20<aG (aa l))|| !bZ l)=true->fj l=false/\Value.pointer none=Value.pointer none)/\((decide (20<aG (aa l))|| !bZ l)=false->true=true/\(bZ l=false
   ->fj l=false/\Value.pointer none=Value.pointer none)/\(bZ l=true->fj l=true/\∀(nid:Nat),some (V.lp nid 0)=some (V.lp nid 0)/\some [ai.store 65 66 l]=some [ai.store
   65 66 l])):=by
 refine⟨fun h=>⟨?_,rfl⟩,fun h=>⟨rfl,fun hr=>⟨?_,rfl⟩,fun hr=>⟨?_,fun nid=>⟨rfl,rfl⟩⟩⟩⟩
 ·unfold fj;unfold aG at h;rw[Bool.or_eq_true,N4,Bool.not_eq_true']at h;rcases h with h|h
  ·rw[decide_eq_false (by omega)];rfl
  ·rw[h];simp
 ·unfold fj;rw[hr];simp
 ·unfold fj;unfold aG at h;rw[hr]at h⊢;rw[Bool.and_true,N4];simp at h;omega
theorem HD:si Try.prog 8 JK:=
 yn (aI sZ cM) (fun _=>rfl) (fun _=>by simp) fun a _ hok=>by
  obtain⟨l,_⟩:=a;exact cT (inl:=bz) (ann:=bW) (an C2 aB) (cg Ix cP) (GV l) (by kernel_rfl)
theorem Dh (R:List Sx.Obj->Int->List Cp) (hR:R nG 0= [[2,1,0,0,2],[3,2,0,0,1]]):
 true=true/\(bZ nG=false->true=true/\Ev none/\(gB [] 0=false->((!decide (aC [] 0=0)&&false)=true->False)/\((!decide (aC [] 0=0)&&false)=false->false=
  true))/\(gB [] 0=true->(decide (aG (aa (R [] 0))=2)=true->(0:Int)<=0/\(0:Int)< ↑(aa (R [] 0)))/\(decide (aG (aa (R [] 0))=2)=true->Int.toNat 0<aa (R [] 0))/\
  ((decide (aG (aa (R [] 0))=2)&&decide (aT (R [] 0) (Int.toNat 0) 0=2))=true->(0:Int)<=1/\(1:Int)< ↑(aa (R [] 0)))/\((decide (aG (aa (R [] 0))=2)&&decide (aT (R [] 0)
  (Int.toNat 0) 0=2))=true->Int.toNat 1<aa (R [] 0))/\(decide (aG (aa (R [] 0))=2)&&decide (aT (R [] 0) (Int.toNat 0) 0=2)&&(decide (aT (R [] 0) (Int.toNat 1) 0=3)&&(decide
  (aT (R [] 0) (Int.toNat 1) 1=2)&&(decide (aT (R [] 0) (Int.toNat 1) 2=0)&&(decide (aT (R [] 0) (Int.toNat 1) 3=0)&&(decide (aT (R [] 0) (Int.toNat 1) 4=1)&&true))))))=true))/\
  (bZ nG=true->true=true/\Ev (some nG)/\(gB nG 0=false->((!decide (aC nG 0=0)&&false)=true->False)/\((!decide (aC nG 0=0)&&false)=false->false=true))/\
  (gB nG 0=true->(decide (aG (aa (R nG 0))=2)=true->(0:Int)<=0/\(0:Int)< ↑(aa (R nG 0)))/\(decide (aG (aa (R nG 0))=2)=true->Int.toNat 0<aa (R nG 0))/\((decide
  (aG (aa (R nG 0))=2)&&decide (aT (R nG 0) (Int.toNat 0) 0=2))=true->(0:Int)<=1/\(1:Int)< ↑(aa (R nG 0)))/\((decide (aG (aa (R nG 0))=2)&&decide (aT (R nG 0)
  (Int.toNat 0) 0=2))=true->Int.toNat 1<aa (R nG 0))/\(decide (aG (aa (R nG 0))=2)&&decide (aT (R nG 0) (Int.toNat 0) 0=2)&&(decide (aT (R nG 0) (Int.toNat 1) 0=3)&&(decide
  (aT (R nG 0) (Int.toNat 1) 1=2)&&(decide (aT (R nG 0) (Int.toNat 1) 2=0)&&(decide (aT (R nG 0) (Int.toNat 1) 3=0)&&(decide (aT (R nG 0) (Int.toNat 1) 4=1)&&true))))))=true)):=by
 refine⟨rfl,fun h=>absurd (h.symm.trans uw) (by decide),fun _=>⟨rfl,uw,fun h=>absurd (h.symm.trans (by kernel_rfl:gB nG 0=true)) (by decide),fun _=>?_⟩⟩
 rw[hR];decide
theorem B0 (R:List Sx.Obj->Int->List Cp) (hR:R nG 0= [[2,1,0,0,2],[3,2,0,0,1]]) (hc_wofR:si Try.prog 13 (yH R)):aj Try.prog 10 [] [] (pW (.bo true)) (fun _ _=>False):=cT (inl:=bz) (ann:=bW) aB (cg KE (cg hc_wofR cP)) (Dh R hR) (by kernel_rfl)
theorem FC:bV Try.prog 10 Gi:=Jh rfl (B0 ah HO IQ)
end Go.Proofs.Ytmfbohanboiklaa
