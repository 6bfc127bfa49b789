import Derived.Test.YtghpaegglbbocaaGreatRows
import Derived.Test.YtghpaegglbbocaaGreatCtRg
import Derived.Test.YtghpaegglbbocaaGreatGlR
import Derived.WalkKit
import Derived.OpenShut
import Derived.JoinedOf
set_option linter.unusedSimpArgs false
set_option linter.unusedVariables false
set_option maxRecDepth 100000
namespace Go.Proofs.YtghpaegglbbocaaGreat.ordersOne
open Go.Sx Go.ChangeShapes Go.WideShapes Go.RowKit
theorem contract (H:Type) (enc:TypeId×Value->H) (W:World) (base:Nat) (args:Array Value) (ds gs:List (DataW H)) (before:List MemPlace)
  (hval:∀(j:Nat) t v,Tryz.f6.params[j]? =some t->args[j]? =some v->Value.okWide Tryz.prog W .any base t v)
  (hW:DataW.Whole enc Tryz.prog Tryz.f6.params.toList Rows.ordersOneSpec.vars false W args.toList ds gs before):
  Calls Tryz.prog 6 args W fun e W'=>∃v,e= .returned v/\Rows.ordersOneSpec.post enc Tryz.prog Tryz.f6 false true false false W args v W':=by
 have hW':=hW;obtain⟨p,q,hA0,hV,rfl,hfz,hnd⟩:=hW;have hA:DataW.TrodAll enc Tryz.prog W 0 (fun _=>true) true Tryz.f6.params.toList args.toList ds p:=hA0
 rw[Tryz.params6]at hA hval;obtain⟨v0,vs0,d0,ds0,p0,q0,hargs,rfl,rfl,h0,r0⟩:=trodAll_cons hA;obtain⟨v1,vs1,d1,ds1,p1,q1,rfl,rfl,rfl,h1,r1⟩:=trodAll_cons r0;obtain⟨rfl,rfl,rfl⟩:=trodAll_nil r1;obtain rfl:args= #[v0,v1]:=by cases args;simp_all
 obtain⟨rfl,rfl⟩:=trodVars_none hV;obtain⟨a0,w0,s0⟩:=lY TL.ob free Tryz.underlying42 (by kernel_rfl:dE Tryz.prog 8 48=some HD) (by kernel_rfl) (by decide) A5 (fun l=>⟨rfl,fun i=>rfl⟩) (hval 0 42 v0 rfl rfl) h0
 have s0:lJ W v0 163 (.ob a0):=s0;obtain⟨a1,w1,s1⟩:=lY asks gY Tryz.underlying32 (by kernel_rfl:dE Tryz.prog 8 30=some JS) (by kernel_rfl) (by decide) uP (fun l=>⟨rfl,fun i=>rfl⟩) (hval 1 32 v1 rfl rfl) h1
 have s1:lJ W v1 27 (asks a1):=s1
 have hs:∀a∈([(v0,163,.ob a0),(v1,27,asks a1)]:List (Value×Nat×TL)),lJ W a.1 a.2.1 a.2.2:=by
  simp only[List.mem_cons,List.not_mem_nil,or_false,forall_eq_or_imp,forall_eq];exact⟨s0,s1⟩
 have k0:=ri hs (i:=0) (a:=(v0,163,.ob a0)) rfl;have k1:=ri hs (i:=1) (a:=(v1,27,asks a1)) rfl;have hc:=nR (PJ a0 a1 fun i hi=>(Fx w1 gY i hi).2.1.2.1) (tF (pY hs) ou) ⟨nX rfl,nX rfl,trivial⟩
 have e:(bq (mK [(v0,163,.ob a0),(v1,27,asks a1)]) [.sa 0,.sa 1]).toArray= #[v0,v1]:=by
  simp only[bq,k0.1,k1.1]
 rw[e]at hc;exact hc.mono fun e W' ⟨he,hB⟩=>⟨_,he,pS hW' rfl hB Cx (by rw[Tryz.params6];simp only[List.mem_cons,List.not_mem_nil,or_false,forall_eq_or_imp,forall_eq];exact⟨⟨by kernel_rfl,by decide+kernel⟩,⟨by kernel_rfl,by decide+kernel⟩⟩) (by kernel_rfl) Tryz.underlying4 ⟨rfl,rfl,rfl⟩⟩
set_option maxRecDepth 100000 in
theorem lifted (os:Os) (started:os.Started) (H:Type) (enc:TypeId×Value->H):
  ReturnsInHanded {} Tryz.checked os 6 .any (Rows.ordersOneSpec.pre6 enc Tryz.prog Tryz.f6 Rows.ordersOneRow.domain false) (Rows.ordersOneSpec.post enc Tryz.prog Tryz.f6 false true false false):=by
 refine returnsInHanded_of_change (C:=Tryz.checked) Ll started (by kernel_rfl) Tryz.func6
  (ChangeSpec.witness6 (enc:=enc) (C:=Tryz.checked) false ⟨#[], #[.slice none 0 0,.slice none 0 0],[]⟩ 8 (by kernel_rfl) (by kernel_rfl) (by kernel_rfl) (by kernel_rfl)) ?_
 intro W base args ds gs before hval hW _ _;exact contract H enc W base args ds gs before hval hW
theorem over:Rows.ordersOneRow.holds Tryz.pinned (OpenSpec.ofChange Rows.ordersOneSpec):=
 OpenClaim.holds_of_wide 6 Tryz.f6 rfl rfl rfl rfl rfl rfl rfl ⟨rfl,rfl,rfl,rfl,rfl⟩ rfl rfl rfl rfl rfl (by kernel_rfl) Tryz.func6 (by kernel_rfl)
  (Ys (by kernel_rfl)) (by unfold Func.isWrapper;first| (rw[Yv (by decide+kernel)];kernel_rfl)| (rw[Yu (by decide+kernel)];exact⟨rfl,rfl⟩))
  (fun os started H enc _=>lifted os started H enc)
theorem proved:Rows.OrdersOneSaid:=
 over
#print axioms proved
end Go.Proofs.YtghpaegglbbocaaGreat.ordersOne
