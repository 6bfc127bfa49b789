import Derived.Test.YtlblcfaclmpekaaGreatRows
import Derived.Test.YtlblcfaclmpekaaGreatCtSc
import Derived.Test.YtlblcfaclmpekaaGreatGlM
import Derived.WalkKit
import Derived.OpenShut
import Derived.JoinedOf
set_option linter.unusedSimpArgs false
set_option linter.unusedVariables false
set_option maxRecDepth 100000
namespace Go.Proofs.YtlblcfaclmpekaaGreat.machineNil
open Go.Sx Go.ChangeShapes Go.WideShapes Go.RowKit
theorem contract (H:Type) (enc:TypeId×Value->H) (W:World) (base:Nat) (args:Array Value) (ds gs:List (DataW H)) (before:List MemPlace)
  (hval:∀(j:Nat) t v,Tryz.f9.params[j]? =some t->args[j]? =some v->Value.okWide Tryz.prog W .any base t v)
  (hW:DataW.Whole enc Tryz.prog Tryz.f9.params.toList Rows.machineNilSpec.vars false W args.toList ds gs before):
  Calls Tryz.prog 9 args W fun e W'=>∃v,e= .returned v/\Rows.machineNilSpec.post enc Tryz.prog Tryz.f9 false true false false W args v W':=by
 have hW':=hW;obtain⟨p,q,hA0,hV,rfl,hfz,hnd⟩:=hW;have hA:DataW.TrodAll enc Tryz.prog W 0 (fun _=>true) true Tryz.f9.params.toList args.toList ds p:=hA0
 rw[Tryz.params9]at hA hval;obtain⟨v0,vs0,d0,ds0,p0,q0,hargs,rfl,rfl,h0,r0⟩:=trodAll_cons hA;obtain⟨rfl,rfl,rfl⟩:=trodAll_nil r0;obtain rfl:args= #[v0]:=by cases args;simp_all
 obtain⟨rfl,rfl⟩:=trodVars_none hV;obtain⟨a0,w0,e0⟩:=KS Tryz.underlying56 (by kernel_rfl:dL Tryz.prog 8 56=some Tn) H3 (fun _=>rfl) (hval 0 56 v0 rfl rfl) h0
 have hs:∀a∈([]:List (Value×Nat×TL)),uf W a.1 a.2.1 a.2.2:=by
  simp
 have hc:=yw (NK a0 w0.2.2.2.2.2.1) (DY (Ad hs) xy) ⟨ey (H3.2 _ w0).1,trivial⟩
 have e:(ba (ow []) [KY a0]).toArray= #[v0]:=by
  simp only[ba,<-e0]
 rw[e]at hc;exact hc.mono fun e W' ⟨he,hB⟩=>⟨_,he,Bn hW' rfl hB Ot (by rw[Tryz.params9];simp only[List.mem_cons,List.not_mem_nil,or_false,forall_eq_or_imp,forall_eq];exact⟨by kernel_rfl,by decide+kernel⟩) (by kernel_rfl) Tryz.underlying4 ⟨rfl,rfl,rfl⟩⟩
set_option maxRecDepth 100000 in
theorem lifted (os:Os) (started:os.Started) (H:Type) (enc:TypeId×Value->H):
  ReturnsInHanded {} Tryz.checked os 9 .any (Rows.machineNilSpec.pre6 enc Tryz.prog Tryz.f9 Rows.machineNilRow.domain false) (Rows.machineNilSpec.post enc Tryz.prog Tryz.f9 false true false false):=by
 refine returnsInHanded_of_change (C:=Tryz.checked) SE started (by kernel_rfl) Tryz.func9
  (ChangeSpec.witness6 (enc:=enc) (C:=Tryz.checked) false ⟨#[], #[den Env.zero (KY dB)],[]⟩ 8 (by kernel_rfl) (by kernel_rfl) (by kernel_rfl) (by kernel_rfl)) ?_
 intro W base args ds gs before hval hW _ _;exact contract H enc W base args ds gs before hval hW
theorem over:Rows.machineNilRow.holds Tryz.pinned (OpenSpec.ofChange Rows.machineNilSpec):=
 OpenClaim.holds_of_wide 9 Tryz.f9 rfl rfl rfl rfl rfl rfl rfl ⟨rfl,rfl,rfl,rfl,rfl⟩ rfl rfl rfl rfl rfl (by kernel_rfl) Tryz.func9 (by kernel_rfl)
  (UX (by kernel_rfl)) (by unfold Func.isWrapper;first| (rw[U0 (by decide+kernel)];kernel_rfl)| (rw[UZ (by decide+kernel)];exact⟨rfl,rfl⟩))
  (fun os started H enc _=>lifted os started H enc)
theorem proved:Rows.MachineNilSaid:=
 over
#print axioms proved
end Go.Proofs.YtlblcfaclmpekaaGreat.machineNil
