import Derived.Test.YtmfbohanboiklaaGreatCtTd
import Derived.Test.YtmfbohanboiklaaGreatCtMu
set_option linter.unusedSimpArgs false
set_option linter.unusedVariables false
namespace Go.Proofs.YtmfbohanboiklaaGreat
open Go.Sx
set_option maxRecDepth 100000
theorem E1:qX Tryz.prog 20 (FX Gp):=DA G4
theorem Cb (R:List Sx.Obj->Int->List Cp) (hR:R lM 0= [[2,1,0,0,2],[3,2,0,0,1]]):
 true=true/\(cS lM=false->true=true/\xW none/\(ef [] 0=false->((!decide (aF [] 0=0)&&false)=true->False)/\((!decide (aF [] 0=0)&&false)=false->false=
  true))/\(ef [] 0=true->(decide (dp (ar (R [] 0))=2)=true->(0:Int)<=0/\(0:Int)< ↑(ar (R [] 0)))/\(decide (dp (ar (R [] 0))=2)=true->Int.toNat 0<ar (R [] 0))/\
  ((decide (dp (ar (R [] 0))=2)&&decide (cM (R [] 0) (Int.toNat 0) 0=2))=true->(0:Int)<=1/\(1:Int)< ↑(ar (R [] 0)))/\((decide (dp (ar (R [] 0))=2)&&decide (cM (R [] 0)
  (Int.toNat 0) 0=2))=true->Int.toNat 1<ar (R [] 0))/\(decide (dp (ar (R [] 0))=2)&&decide (cM (R [] 0) (Int.toNat 0) 0=2)&&(decide (cM (R [] 0) (Int.toNat 1) 0=3)&&(decide
  (cM (R [] 0) (Int.toNat 1) 1=2)&&(decide (cM (R [] 0) (Int.toNat 1) 2=0)&&(decide (cM (R [] 0) (Int.toNat 1) 3=0)&&(decide (cM (R [] 0) (Int.toNat 1) 4=1)&&true))))))=true))/\
  (cS lM=true->true=true/\xW (some lM)/\(ef lM 0=false->((!decide (aF lM 0=0)&&false)=true->False)/\((!decide (aF lM 0=0)&&false)=false->false=true))/\
  (ef lM 0=true->(decide (dp (ar (R lM 0))=2)=true->(0:Int)<=0/\(0:Int)< ↑(ar (R lM 0)))/\(decide (dp (ar (R lM 0))=2)=true->Int.toNat 0<ar (R lM 0))/\((decide
  (dp (ar (R lM 0))=2)&&decide (cM (R lM 0) (Int.toNat 0) 0=2))=true->(0:Int)<=1/\(1:Int)< ↑(ar (R lM 0)))/\((decide (dp (ar (R lM 0))=2)&&decide (cM (R lM 0)
  (Int.toNat 0) 0=2))=true->Int.toNat 1<ar (R lM 0))/\(decide (dp (ar (R lM 0))=2)&&decide (cM (R lM 0) (Int.toNat 0) 0=2)&&(decide (cM (R lM 0) (Int.toNat 1) 0=3)&&(decide
  (cM (R lM 0) (Int.toNat 1) 1=2)&&(decide (cM (R lM 0) (Int.toNat 1) 2=0)&&(decide (cM (R lM 0) (Int.toNat 1) 3=0)&&(decide (cM (R lM 0) (Int.toNat 1) 4=1)&&true))))))=true)):=by
 refine⟨rfl,fun h=>absurd (h.symm.trans rT) (by decide),fun _=>⟨rfl,rT,fun h=>absurd (h.symm.trans (by kernel_rfl:ef lM 0=true)) (by decide),fun _=>?_⟩⟩
 rw[hR];decide
theorem yz (R:List Sx.Obj->Int->List Cp) (hR:R lM 0= [[2,1,0,0,2],[3,2,0,0,1]]) (hc_wofR:qX Tryz.prog 13 (wu R)):ah Tryz.prog 7 [] [] (sq (.bo true)) (fun _ _=>False):=dM (inl:=cg) (ann:=cm) aS (bI E1 (bI hc_wofR dR)) (Cb R hR) (by kernel_rfl)
theorem BE:cQ Tryz.prog 7 DB:=Ge rfl (yz eT Dy zS)
end Go.Proofs.YtmfbohanboiklaaGreat
