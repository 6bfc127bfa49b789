import Derived.Test.YtghpaegglbbocaaGreatCtQa
import Derived.Test.YtghpaegglbbocaaGreatSQ
import Derived.Test.YtghpaegglbbocaaGreatCN
namespace Go.Proofs.YtghpaegglbbocaaGreat
open Go.Sx
set_option maxRecDepth 100000
theorem P7 (L:List Sx.Obj) (m:bm) (hs:aw m.data):
 aG IntKind.i64 (bW m.data)/\(decide (bW m.data<=32)&&cZ L m.k0&&cZ L m.k1&&cZ L m.k2)=rE L m:=by
 have hsz:aG IntKind.i64 (bW m.data):=by unfold aw at hs;simp only[aG,bY,bW];omega
 exact⟨hsz,rfl⟩
theorem Q5:ck Tryz.prog 43 T4:=
 eW (aJ js (aJ E5 cF)) (fun _=>rfl) fun a hq hok=>by
  obtain⟨L,m,_⟩:=a;exact aV (inl:=bp) (ann:=(iB [(43,3,Tu 4)])) (ab A5 ak) (P7 L m hq) (by kernel_rfl)
theorem N1 (L:List Sx.Obj) (m:bm):
 m.code=(aL L m).code/\m.data=(aL L m).data/\ae L m.k0=(aL L m).k0/\ae L m.k1=(aL L m).k1/\ae L m.k2=(aL L m).k2:=by
 exact⟨rfl,rfl,rfl,rfl,rfl⟩
theorem QG:ck Tryz.prog 44 Uc:=
 eW (aJ js (aJ E5 cF)) (fun _=>rfl) fun a hq hok=>by
  obtain⟨L,m,_⟩:=a;exact aV (inl:=bp) (ann:=(iB [(44,2,Tu 4)])) (ab qo ak) (N1 L m) (by kernel_rfl)
end Go.Proofs.YtghpaegglbbocaaGreat
