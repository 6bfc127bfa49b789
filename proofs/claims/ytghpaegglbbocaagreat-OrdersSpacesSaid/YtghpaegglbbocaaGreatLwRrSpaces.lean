import Derived.Test.YtghpaegglbbocaaGreatRows
import Derived.Test.YtghpaegglbbocaaGreatCtRi
import Derived.Test.YtghpaegglbbocaaGreatGlR
import Derived.WalkKit
import Derived.OpenShut
import Derived.JoinedOf
set_option linter.unusedSimpArgs false
set_option linter.unusedVariables false
set_option maxRecDepth 100000
namespace Go.Proofs.YtghpaegglbbocaaGreat.ordersSpaces
open Go.Sx Go.ChangeShapes Go.WideShapes Go.RowKit
theorem contract (H:Type) (enc:TypeId×Value->H) (W:World) (base:Nat) (args:Array Value) (ds gs:List (DataW H)) (before:List MemPlace)
  (hval:∀(j:Nat) t v,Tryz.f9.params[j]? =some t->args[j]? =some v->Value.okWide Tryz.prog W .any base t v)
  (hW:DataW.Whole enc Tryz.prog Tryz.f9.params.toList Rows.ordersSpacesSpec.vars false W args.toList ds gs before):
  Calls Tryz.prog 9 args W fun e W'=>∃v,e= .returned v/\Rows.ordersSpacesSpec.post enc Tryz.prog Tryz.f9 false true false false W args v W':=by
 have hW':=hW;obtain⟨p,q,hA0,hV,rfl,hfz,hnd⟩:=hW;have hA:DataW.TrodAll enc Tryz.prog W 0 (fun _=>true) true Tryz.f9.params.toList args.toList ds p:=hA0
 rw[Tryz.params9]at hA hval;obtain⟨v0,vs0,d0,ds0,p0,q0,hargs,rfl,rfl,h0,r0⟩:=trodAll_cons hA;obtain⟨v1,vs1,d1,ds1,p1,q1,rfl,rfl,rfl,h1,r1⟩:=trodAll_cons r0;obtain⟨v2,vs2,d2,ds2,p2,q2,rfl,rfl,rfl,h2,r2⟩:=trodAll_cons r1;obtain⟨rfl,rfl,rfl⟩:=trodAll_nil r2;obtain rfl:args= #[v0,v1,v2]:=by cases args;simp_all
 obtain⟨rfl,rfl⟩:=trodVars_none hV;obtain⟨a0,w0,s0⟩:=zO TL.ob free Tryz.underlying42 (by kernel_rfl:ep Tryz.prog 8 48=some Nm) (by kernel_rfl) (by decide) TN (fun l=>⟨rfl,fun i=>rfl⟩) (hval 0 42 v0 rfl rfl) h0
 have s0:vh W v0 163 (.ob a0):=s0;obtain⟨a1,w1,e1⟩:=KC Tryz.underlying60 (by kernel_rfl:ep Tryz.prog 8 60=some V3) HJ (fun _=>rfl) (hval 1 60 v1 rfl rfl) h1
 obtain⟨a2,w2,s2⟩:=zO (TL.it .i64) 0 Tryz.underlying61 (by kernel_rfl:ep Tryz.prog 8 2=some [Kd.i .i64]) (by kernel_rfl) (by decide) (Rh .i64) (fun l=>⟨rfl,fun i=>rfl⟩) (hval 2 61 v2 rfl rfl) h2
 have s2:vh W v2 1 (.it .i64 a2):=s2
 have hs:∀a∈([(v0,163,.ob a0),(v2,1,.it .i64 a2)]:List (Value×Nat×TL)),vh W a.1 a.2.1 a.2.2:=by
  simp only[List.mem_cons,List.not_mem_nil,or_false,forall_eq_or_imp,forall_eq];exact⟨s0,s2⟩
 have k0:=Fs hs (i:=0) (a:=(v0,163,.ob a0)) rfl;have k2:=Fs hs (i:=1) (a:=(v2,1,.it .i64 a2)) rfl;have hc:=Hb (PB a0 a1.1 a1.2.1 a1.2.2.1 a2 w1.2.2.1) (O1 (Je hs) Gl) ⟨Cb rfl,fm (HJ.2 _ w1).1,Cb rfl,trivial⟩
 have e:(bu (ry [(v0,163,.ob a0),(v2,1,.it .i64 a2)]) [.sa 0,.ag [.it .i64 a1.1,.key a1.2.1,.st a1.2.2.1],.sa 1]).toArray= #[v0,v1,v2]:=by
  simp only[bu,k0.1,<-e1,k2.1]
 rw[e]at hc;exact hc.mono fun e W' ⟨he,hB⟩=>⟨_,he,Mo hW' rfl hB US (by rw[Tryz.params9];simp only[List.mem_cons,List.not_mem_nil,or_false,forall_eq_or_imp,forall_eq];exact⟨⟨by kernel_rfl,by decide+kernel⟩,⟨by kernel_rfl,by decide+kernel⟩,⟨by kernel_rfl,by decide+kernel⟩⟩) (by kernel_rfl) Tryz.underlying4 ⟨rfl,rfl,rfl⟩⟩
set_option maxRecDepth 100000 in
theorem lifted (os:Os) (started:os.Started) (H:Type) (enc:TypeId×Value->H):
  ReturnsInHanded {} Tryz.checked os 9 .any (Rows.ordersSpacesSpec.pre6 enc Tryz.prog Tryz.f9 Rows.ordersSpacesRow.domain false) (Rows.ordersSpacesSpec.post enc Tryz.prog Tryz.f9 false true false false):=by
 refine returnsInHanded_of_change (C:=Tryz.checked) WA started (by kernel_rfl) Tryz.func9
  (ChangeSpec.witness6 (enc:=enc) (C:=Tryz.checked) false ⟨#[], #[.slice none 0 0,den Env.zero (.ag [.it .i64 0,.key void,.st ⟨#[]⟩]),.slice none 0 0],[]⟩ 8 (by kernel_rfl) (by kernel_rfl) (by kernel_rfl) (by kernel_rfl)) ?_
 intro W base args ds gs before hval hW _ _;exact contract H enc W base args ds gs before hval hW
theorem over:Rows.ordersSpacesRow.holds Tryz.pinned (OpenSpec.ofChange Rows.ordersSpacesSpec):=
 OpenClaim.holds_of_wide 9 Tryz.f9 rfl rfl rfl rfl rfl rfl rfl ⟨rfl,rfl,rfl,rfl,rfl⟩ rfl rfl rfl rfl rfl (by kernel_rfl) Tryz.func9 (by kernel_rfl)
  (XO (by kernel_rfl)) (by unfold Func.isWrapper;first| (rw[XR (by decide+kernel)];kernel_rfl)| (rw[XQ (by decide+kernel)];exact⟨rfl,rfl⟩))
  (fun os started H enc _=>lifted os started H enc)
theorem proved:Rows.OrdersSpacesSaid:=
 over
#print axioms proved
end Go.Proofs.YtghpaegglbbocaaGreat.ordersSpaces
