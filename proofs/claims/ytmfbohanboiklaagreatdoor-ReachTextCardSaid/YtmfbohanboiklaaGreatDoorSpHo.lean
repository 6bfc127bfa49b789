import Derived.Test.YtmfbohanboiklaaGreatDoorSpHe
import Derived.Test.YtmfbohanboiklaaGreatDoorSpHn
set_option linter.unusedSimpArgs false
set_option linter.unusedVariables false
set_option maxRecDepth 100000
namespace Go.Sx
theorem AU{a b:Key}(ha:aP a=true)(hb:aP b=true):decide (cG .andNot .i64 b.rights a.rights=0)=decide (il a.rights b.rights=a.rights):=by
 have f8:∀{a:Int},(0<=a/\a<=7)->∃x:Fin 8,a=(x.val:Int):=fun{a} h=>⟨⟨a.toNat,by omega⟩,(Int.toNat_of_nonneg h.1).symm⟩
 have key:∀x y:Fin 8,decide (cG .andNot .i64 (y.val:Int) (x.val:Int)=0)=decide (il (x.val:Int) (y.val:Int)=(x.val:Int)):=by decide+kernel
 obtain⟨x,hx⟩:=f8 (vx ha);obtain⟨y,hy⟩:=f8 (vx hb);rw[hx,hy];exact key x y
end Go.Sx
