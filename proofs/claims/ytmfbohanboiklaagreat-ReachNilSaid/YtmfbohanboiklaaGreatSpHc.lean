import Derived.Test.YtmfbohanboiklaaGreatSpHb
set_option linter.unusedSimpArgs false
set_option linter.unusedVariables false
set_option maxRecDepth 100000
namespace Go.Sx
def ef (L:List Obj) (oid:Int):Bool:=decide (aF L oid=0)
def wu (R:List Obj->Int->List Cp):oR:=Ix (eH (Hk tS eS) (eH iA tF)) (fun x=>xW x.1) (fun x=>ef (Ib x.1) x.2.1) (fun x=> .tp [JF,.it .i64 (aF (Ib x.1) x.2.1)]) (fun _ n=> .tp [.sa n,.ci .i64 0]) fun x=> .arr (some qZ) 5 (.qs 5 (R (Ib x.1) x.2.1))
def EA:oR:=wu eT
end Go.Sx
