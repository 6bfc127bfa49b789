import Derived.Test.YtghpaegglbbocaaGreatCtQa
import Derived.Test.YtghpaegglbbocaaGreatSQ
import Derived.Test.YtghpaegglbbocaaGreatCN
set_option linter.unusedSimpArgs false
set_option linter.unusedVariables false
namespace Go.Proofs.YtghpaegglbbocaaGreat
open Go.Sx
set_option maxRecDepth 100000
theorem QY (L:List Sx.Obj) (m:bm) (hs:aA m.data):
 aI IntKind.i64 (cc m.data)/\(decide (cc m.data<=32)&&cZ L m.k0&&cZ L m.k1&&cZ L m.k2)=qZ L m:=by
 have hsz:aI IntKind.i64 (cc m.data):=by unfold aA at hs;simp only[aI,cg,cc];omega
 exact⟨hsz,rfl⟩
theorem Oa:cj Tryz.prog 43 SB:=
 eY (aJ jo (aJ FT cK)) (fun _=>rfl) fun a hq hok=>by
  obtain⟨L,m,_⟩:=a;exact aW (inl:=bn) (ann:=(jC [(43,3,Ve 4)])) (ae AW an) (QY L m hq) (by kernel_rfl)
theorem PN (L:List Sx.Obj) (m:bm):
 m.code=(aL L m).code/\m.data=(aL L m).data/\ab L m.k0=(aL L m).k0/\ab L m.k1=(aL L m).k1/\ab L m.k2=(aL L m).k2:=by
 exact⟨rfl,rfl,rfl,rfl,rfl⟩
theorem Pt:cj Tryz.prog 44 T8:=
 eY (aJ jo (aJ FT cK)) (fun _=>rfl) fun a hq hok=>by
  obtain⟨L,m,_⟩:=a;exact aW (inl:=bn) (ann:=(jC [(44,2,Ve 4)])) (ae pH an) (PN L m) (by kernel_rfl)
end Go.Proofs.YtghpaegglbbocaaGreat
