import Derived.Test.YtmfbohanboiklaaGreatDoorCtTd
import Derived.Test.YtmfbohanboiklaaGreatDoorCtMu
set_option linter.unusedSimpArgs false
set_option linter.unusedVariables false
namespace Go.Proofs.YtmfbohanboiklaaGreatDoor
open Go.Sx
set_option maxRecDepth 100000
theorem Hj:p7 Tryz.prog 11 (Ie Hh):=Fg Kn
theorem Dc(R:List Sx.Obj->Int->List Cp)(hR:R na 0= [[2,1,0,0,2],[3,2,0,0,1]]):
 true=true/\(dK na=false->true=true/\DO none/\(gn [] 0=false->((!decide (bm [] 0=0)&&false)=true->False)/\((!decide (bm [] 0=0)&&false)=false->false=
  true))/\(gn [] 0=true->(decide (cW (aN (R [] 0))=2)=true->(0:Int)<=0/\(0:Int)< ↑(aN (R [] 0)))/\(decide (cW (aN (R [] 0))=2)=true->Int.toNat 0<aN (R [] 0))/\
  ((decide (cW (aN (R [] 0))=2)&&decide (cr (R [] 0) (Int.toNat 0) 0=2))=true->(0:Int)<=1/\(1:Int)< ↑(aN (R [] 0)))/\((decide (cW (aN (R [] 0))=2)&&decide (cr (R [] 0)
  (Int.toNat 0) 0=2))=true->Int.toNat 1<aN (R [] 0))/\(decide (cW (aN (R [] 0))=2)&&decide (cr (R [] 0) (Int.toNat 0) 0=2)&&(decide (cr (R [] 0) (Int.toNat 1) 0=3)&&(decide
  (cr (R [] 0) (Int.toNat 1) 1=2)&&(decide (cr (R [] 0) (Int.toNat 1) 2=0)&&(decide (cr (R [] 0) (Int.toNat 1) 3=0)&&(decide (cr (R [] 0) (Int.toNat 1) 4=1)&&true))))))=true))/\
  (dK na=true->true=true/\DO (some na)/\(gn na 0=false->((!decide (bm na 0=0)&&false)=true->False)/\((!decide (bm na 0=0)&&false)=false->false=true))/\
  (gn na 0=true->(decide (cW (aN (R na 0))=2)=true->(0:Int)<=0/\(0:Int)< ↑(aN (R na 0)))/\(decide (cW (aN (R na 0))=2)=true->Int.toNat 0<aN (R na 0))/\((decide
  (cW (aN (R na 0))=2)&&decide (cr (R na 0) (Int.toNat 0) 0=2))=true->(0:Int)<=1/\(1:Int)< ↑(aN (R na 0)))/\((decide (cW (aN (R na 0))=2)&&decide (cr (R na 0)
  (Int.toNat 0) 0=2))=true->Int.toNat 1<aN (R na 0))/\(decide (cW (aN (R na 0))=2)&&decide (cr (R na 0) (Int.toNat 0) 0=2)&&(decide (cr (R na 0) (Int.toNat 1) 0=3)&&(decide
  (cr (R na 0) (Int.toNat 1) 1=2)&&(decide (cr (R na 0) (Int.toNat 1) 2=0)&&(decide (cr (R na 0) (Int.toNat 1) 3=0)&&(decide (cr (R na 0) (Int.toNat 1) 4=1)&&true))))))=true)):=by
 refine⟨rfl,fun h=>absurd (h.symm.trans tv) (by decide),fun _=>⟨rfl,tv,fun h=>absurd (h.symm.trans (by kernel_rfl:gn na 0=true)) (by decide),fun _=>?_⟩⟩
 rw[hR];decide
theorem AR(R:List Sx.Obj->Int->List Cp)(hR:R na 0= [[2,1,0,0,2],[3,2,0,0,1]])(hc_wofR:p7 Tryz.prog 12 (xC R)):aJ Tryz.prog 4 [] [] (pz (.bo true)) (fun _ _=>False):=eH (inl:=cq) (ann:=cH) bf (cP Hj (cP hc_wofR eF)) (Dc R hR) (by kernel_rfl)
theorem CO:cI Tryz.prog 4 Ev:=H3 rfl (AR ka Gd IC)
end Go.Proofs.YtmfbohanboiklaaGreatDoor
