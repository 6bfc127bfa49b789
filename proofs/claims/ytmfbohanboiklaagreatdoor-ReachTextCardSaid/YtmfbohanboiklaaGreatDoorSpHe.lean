import Derived.Test.YtmfbohanboiklaaGreatDoorSpHd
import Derived.KernelRfl
set_option linter.unusedSimpArgs false
set_option linter.unusedVariables false
set_option maxRecDepth 100000
namespace Go.Sx
abbrev na:List Obj:= [Obj.mk 1 free.count free.calls (free.slots.put 4 (Key.mk 2 1 void.count void.call 2 void.value)) free.bytes,Obj.mk 1 free.count free.calls ((free.slots.put 0 (Key.mk 3 2 void.count void.call void.rights void.value)).put 1 (Key.mk 9 void.oid void.count void.call void.rights void.value)) free.bytes,Obj.mk 2 free.count free.calls free.slots free.bytes,free]
theorem tv:dK na=true:=by kernel_rfl
theorem Gd:ka na 0= [[2,1,0,0,2],[3,2,0,0,1]]:=by
 have e:jf na 0 2= [[2,1,0,0,2],[3,2,0,0,1]]:=by kernel_rfl
 unfold ka;rw[zP (n:=2) (by omega) (by rw[e];decide),e]
 decide
end Go.Sx
