import Derived.Test.YtghpaegglbbocaaGreatRows
import Derived.Test.YtghpaegglbbocaaGreatCtRg
import Derived.Test.YtghpaegglbbocaaGreatGlR
import Derived.WalkKit
import Derived.OpenShut
import Derived.JoinedOf
set_option linter.unusedSimpArgs false
set_option linter.unusedVariables false
set_option maxRecDepth 100000
namespace Go.Proofs.YtghpaegglbbocaaGreat.ordersNil
open Go.Sx Go.ChangeShapes Go.WideShapes Go.RowKit
theorem contract (H:Type) (enc:TypeId×Value->H) (W:World) (base:Nat) (args:Array Value) (ds gs:List (DataW H)) (before:List MemPlace)
  (hval:∀(j:Nat) t v,Tryz.f3.params[j]? =some t->args[j]? =some v->Value.okWide Tryz.prog W .any base t v)
  (hW:DataW.Whole enc Tryz.prog Tryz.f3.params.toList Rows.ordersNilSpec.vars false W args.toList ds gs before):
  Calls Tryz.prog 3 args W fun e W'=>∃v,e= .returned v/\Rows.ordersNilSpec.post enc Tryz.prog Tryz.f3 false true false false W args v W':=by
 have hW':=hW;obtain⟨p,q,hA0,hV,rfl,hfz,hnd⟩:=hW;have hA:DataW.TrodAll enc Tryz.prog W 0 (fun _=>true) true Tryz.f3.params.toList args.toList ds p:=hA0
 rw[Tryz.params3]at hA hval;obtain⟨v0,vs0,d0,ds0,p0,q0,hargs,rfl,rfl,h0,r0⟩:=trodAll_cons hA;obtain⟨rfl,rfl,rfl⟩:=trodAll_nil r0;obtain rfl:args= #[v0]:=by cases args;simp_all
 obtain⟨rfl,rfl⟩:=trodVars_none hV;obtain⟨a0,w0,e0⟩:=yo Tryz.underlying30 (by kernel_rfl:dE Tryz.prog 8 30=some JS) uP (fun _=>rfl) (hval 0 30 v0 rfl rfl) h0
 have hs:∀a∈([]:List (Value×Nat×TL)),lJ W a.1 a.2.1 a.2.2:=by
  simp
 have hc:=nR (O6 a0 w0.2.1.2.1) (tF (pY hs) ou) ⟨eW (uP.2 _ w0).1,trivial⟩
 have e:(bq (mK []) [rM a0]).toArray= #[v0]:=by
  simp only[bq,<-e0]
 rw[e]at hc;exact hc.mono fun e W' ⟨he,hB⟩=>⟨_,he,pS hW' rfl hB Cx (by rw[Tryz.params3];simp only[List.mem_cons,List.not_mem_nil,or_false,forall_eq_or_imp,forall_eq];exact⟨by kernel_rfl,by decide+kernel⟩) (by kernel_rfl) Tryz.underlying4 ⟨rfl,rfl,rfl⟩⟩
set_option maxRecDepth 100000 in
theorem lifted (os:Os) (started:os.Started) (H:Type) (enc:TypeId×Value->H):
  ReturnsInHanded {} Tryz.checked os 3 .any (Rows.ordersNilSpec.pre6 enc Tryz.prog Tryz.f3 Rows.ordersNilRow.domain false) (Rows.ordersNilSpec.post enc Tryz.prog Tryz.f3 false true false false):=by
 refine returnsInHanded_of_change (C:=Tryz.checked) Ll started (by kernel_rfl) Tryz.func3
  (ChangeSpec.witness6 (enc:=enc) (C:=Tryz.checked) false ⟨#[], #[den Env.zero (rM gY)],[]⟩ 8 (by kernel_rfl) (by kernel_rfl) (by kernel_rfl) (by kernel_rfl)) ?_
 intro W base args ds gs before hval hW _ _;exact contract H enc W base args ds gs before hval hW
theorem over:Rows.ordersNilRow.holds Tryz.pinned (OpenSpec.ofChange Rows.ordersNilSpec):=
 OpenClaim.holds_of_wide 3 Tryz.f3 rfl rfl rfl rfl rfl rfl rfl ⟨rfl,rfl,rfl,rfl,rfl⟩ rfl rfl rfl rfl rfl (by kernel_rfl) Tryz.func3 (by kernel_rfl)
  (Ys (by kernel_rfl)) (by unfold Func.isWrapper;first| (rw[Yv (by decide+kernel)];kernel_rfl)| (rw[Yu (by decide+kernel)];exact⟨rfl,rfl⟩))
  (fun os started H enc _=>lifted os started H enc)
theorem proved:Rows.OrdersNilSaid:=
 over
#print axioms proved
end Go.Proofs.YtghpaegglbbocaaGreat.ordersNil
