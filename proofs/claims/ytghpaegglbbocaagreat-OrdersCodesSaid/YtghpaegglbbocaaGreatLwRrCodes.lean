import Derived.Test.YtghpaegglbbocaaGreatRows
import Derived.Test.YtghpaegglbbocaaGreatCtRh
import Derived.Test.YtghpaegglbbocaaGreatGlR
import Derived.WalkKit
import Derived.OpenShut
import Derived.JoinedOf
set_option linter.unusedSimpArgs false
set_option linter.unusedVariables false
set_option maxRecDepth 100000
namespace Go.Proofs.YtghpaegglbbocaaGreat.ordersCodes
open Go.Sx Go.ChangeShapes Go.WideShapes Go.RowKit
theorem contract (H:Type) (enc:TypeId×Value->H) (W:World) (base:Nat) (args:Array Value) (ds gs:List (DataW H)) (before:List MemPlace)
  (hval:∀(j:Nat) t v,Tryz.f7.params[j]? =some t->args[j]? =some v->Value.okWide Tryz.prog W .any base t v)
  (hW:DataW.Whole enc Tryz.prog Tryz.f7.params.toList Rows.ordersCodesSpec.vars false W args.toList ds gs before):
  Calls Tryz.prog 7 args W fun e W'=>∃v,e= .returned v/\Rows.ordersCodesSpec.post enc Tryz.prog Tryz.f7 false true false false W args v W':=by
 have hW':=hW;obtain⟨p,q,hA0,hV,rfl,hfz,hnd⟩:=hW;have hA:DataW.TrodAll enc Tryz.prog W 0 (fun _=>true) true Tryz.f7.params.toList args.toList ds p:=hA0
 rw[Tryz.params7]at hA hval;obtain⟨v0,vs0,d0,ds0,p0,q0,hargs,rfl,rfl,h0,r0⟩:=trodAll_cons hA;obtain⟨v1,vs1,d1,ds1,p1,q1,rfl,rfl,rfl,h1,r1⟩:=trodAll_cons r0;obtain⟨rfl,rfl,rfl⟩:=trodAll_nil r1;obtain rfl:args= #[v0,v1]:=by cases args;simp_all
 obtain⟨rfl,rfl⟩:=trodVars_none hV;obtain⟨a0,w0,s0⟩:=lY TL.ob free Tryz.underlying42 (by kernel_rfl:dE Tryz.prog 8 48=some HD) (by kernel_rfl) (by decide) A5 (fun l=>⟨rfl,fun i=>rfl⟩) (hval 0 42 v0 rfl rfl) h0
 have s0:lJ W v0 163 (.ob a0):=s0;obtain⟨a1,w1,e1⟩:=yo Tryz.underlying30 (by kernel_rfl:dE Tryz.prog 8 30=some JS) uP (fun _=>rfl) (hval 1 30 v1 rfl rfl) h1
 have hs:∀a∈([(v0,163,.ob a0)]:List (Value×Nat×TL)),lJ W a.1 a.2.1 a.2.2:=by
  simp only[List.mem_cons,List.not_mem_nil,or_false,forall_eq_or_imp,forall_eq];exact s0
 have k0:=ri hs (i:=0) (a:=(v0,163,.ob a0)) rfl;have hc:=nR (Pp a0 a1 w1.2.1.2.1) (tF (pY hs) ou) ⟨nX rfl,eW (uP.2 _ w1).1,trivial⟩
 have e:(bq (mK [(v0,163,.ob a0)]) [.sa 0,rM a1]).toArray= #[v0,v1]:=by
  simp only[bq,k0.1,<-e1]
 rw[e]at hc;exact hc.mono fun e W' ⟨he,hB⟩=>⟨_,he,pS hW' rfl hB Cx (by rw[Tryz.params7];simp only[List.mem_cons,List.not_mem_nil,or_false,forall_eq_or_imp,forall_eq];exact⟨⟨by kernel_rfl,by decide+kernel⟩,⟨by kernel_rfl,by decide+kernel⟩⟩) (by kernel_rfl) Tryz.underlying4 ⟨rfl,rfl,rfl⟩⟩
set_option maxRecDepth 100000 in
theorem lifted (os:Os) (started:os.Started) (H:Type) (enc:TypeId×Value->H):
  ReturnsInHanded {} Tryz.checked os 7 .any (Rows.ordersCodesSpec.pre6 enc Tryz.prog Tryz.f7 Rows.ordersCodesRow.domain false) (Rows.ordersCodesSpec.post enc Tryz.prog Tryz.f7 false true false false):=by
 refine returnsInHanded_of_change (C:=Tryz.checked) Ll started (by kernel_rfl) Tryz.func7
  (ChangeSpec.witness6 (enc:=enc) (C:=Tryz.checked) false ⟨#[], #[.slice none 0 0,den Env.zero (rM gY)],[]⟩ 8 (by kernel_rfl) (by kernel_rfl) (by kernel_rfl) (by kernel_rfl)) ?_
 intro W base args ds gs before hval hW _ _;exact contract H enc W base args ds gs before hval hW
theorem over:Rows.ordersCodesRow.holds Tryz.pinned (OpenSpec.ofChange Rows.ordersCodesSpec):=
 OpenClaim.holds_of_wide 7 Tryz.f7 rfl rfl rfl rfl rfl rfl rfl ⟨rfl,rfl,rfl,rfl,rfl⟩ rfl rfl rfl rfl rfl (by kernel_rfl) Tryz.func7 (by kernel_rfl)
  (Ys (by kernel_rfl)) (by unfold Func.isWrapper;first| (rw[Yv (by decide+kernel)];kernel_rfl)| (rw[Yu (by decide+kernel)];exact⟨rfl,rfl⟩))
  (fun os started H enc _=>lifted os started H enc)
theorem proved:Rows.OrdersCodesSaid:=
 over
#print axioms proved
end Go.Proofs.YtghpaegglbbocaaGreat.ordersCodes
