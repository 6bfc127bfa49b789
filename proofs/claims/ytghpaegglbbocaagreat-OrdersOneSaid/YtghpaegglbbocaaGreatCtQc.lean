import Derived.Test.YtghpaegglbbocaaGreatCtQa
import Derived.Test.YtghpaegglbbocaaGreatSQ
import Derived.Test.YtghpaegglbbocaaGreatCN
set_option linter.unusedSimpArgs false
set_option linter.unusedVariables false
namespace Go.Proofs.YtghpaegglbbocaaGreat
open Go.Sx
set_option maxRecDepth 100000
theorem Pm (L:List Sx.Obj) (m:bm) (hs:aw m.data):
 aG IntKind.i64 (bW m.data)/\(decide (bW m.data<=32)&&cZ L m.k0&&cZ L m.k1&&cZ L m.k2)=rH L m:=by
 have hsz:aG IntKind.i64 (bW m.data):=by unfold aw at hs;simp only[aG,bY,bW];omega
 exact⟨hsz,rfl⟩
theorem Py:ck Tryz.prog 43 UB:=
 eO (aJ ju (aJ Ff cF)) (fun _=>rfl) fun a hq hok=>by
  obtain⟨L,m,_⟩:=a;exact aV (inl:=bn) (ann:=(iz [(43,3,Tf 4)])) (ab BT ak) (Pm L m hq) (by kernel_rfl)
theorem O2 (L:List Sx.Obj) (m:bm):
 m.code=(aL L m).code/\m.data=(aL L m).data/\ae L m.k0=(aL L m).k0/\ae L m.k1=(aL L m).k1/\ae L m.k2=(aL L m).k2:=by
 exact⟨rfl,rfl,rfl,rfl,rfl⟩
theorem OJ:ck Tryz.prog 44 T8:=
 eO (aJ ju (aJ Ff cF)) (fun _=>rfl) fun a hq hok=>by
  obtain⟨L,m,_⟩:=a;exact aV (inl:=bn) (ann:=(iz [(44,2,Tf 4)])) (ab pC ak) (O2 L m) (by kernel_rfl)
end Go.Proofs.YtghpaegglbbocaaGreat
