import Derived.Test.YtlblcfaclmpekaaGreatRows
import Derived.Test.YtlblcfaclmpekaaGreatCtSc
import Derived.Test.YtlblcfaclmpekaaGreatGlM
import Derived.WalkKit
import Derived.OpenShut
import Derived.JoinedOf
set_option linter.unusedSimpArgs false
set_option linter.unusedVariables false
set_option maxRecDepth 100000
namespace Go.Proofs.YtlblcfaclmpekaaGreat.machineTicks
open Go.Sx Go.ChangeShapes Go.WideShapes Go.RowKit
theorem contract (H:Type) (enc:TypeId×Value->H) (W:World) (base:Nat) (args:Array Value) (ds gs:List (DataW H)) (before:List MemPlace)
  (hval:∀(j:Nat) t v,Tryz.f4.params[j]? =some t->args[j]? =some v->Value.okWide Tryz.prog W .any base t v)
  (hW:DataW.Whole enc Tryz.prog Tryz.f4.params.toList Rows.machineTicksSpec.vars false W args.toList ds gs before):
  Calls Tryz.prog 4 args W fun e W'=>∃v,e= .returned v/\Rows.machineTicksSpec.post enc Tryz.prog Tryz.f4 false true false false W args v W':=by
 have hW':=hW;obtain⟨p,q,hA0,hV,rfl,hfz,hnd⟩:=hW;have hA:DataW.TrodAll enc Tryz.prog W 0 (fun _=>true) true Tryz.f4.params.toList args.toList ds p:=hA0
 rw[Tryz.params4]at hA hval;obtain⟨v0,vs0,d0,ds0,p0,q0,hargs,rfl,rfl,h0,r0⟩:=trodAll_cons hA;obtain⟨v1,vs1,d1,ds1,p1,q1,rfl,rfl,rfl,h1,r1⟩:=trodAll_cons r0;obtain⟨rfl,rfl,rfl⟩:=trodAll_nil r1;obtain rfl:args= #[v0,v1]:=by cases args;simp_all
 obtain⟨rfl,rfl⟩:=trodVars_none hV;obtain⟨a0,w0,rfl⟩:=MM Tryz.underlying2 (hval 0 2 v0 rfl rfl) h0;obtain⟨a1,w1,s1⟩:=E9 nO dB Tryz.underlying22 (by kernel_rfl:dL Tryz.prog 8 56=some Tn) (by kernel_rfl) (by decide) H3 (fun l=>⟨rfl,fun i=>rfl⟩) (hval 1 22 v1 rfl rfl) h1
 have s1:uf W v1 11 (nO a1):=s1
 have hs:∀a∈([(v1,11,nO a1)]:List (Value×Nat×TL)),uf W a.1 a.2.1 a.2.2:=by
  simp only[List.mem_cons,List.not_mem_nil,or_false,forall_eq_or_imp,forall_eq];exact s1
 have k1:=K6 hs (i:=0) (a:=(v1,11,nO a1)) rfl;have hc:=yw (Jw a0 a1 (fun i hi=>(MY w1 dB i hi).2.2.2.2.2.1)) (DY (Ad hs) xy) ⟨w0,IQ rfl,trivial⟩
 have e:(ba (ow [(v1,11,nO a1)]) [.it .i64 a0,.sa 0]).toArray= #[.int .i64 a0,v1]:=by
  simp only[ba,k1.1];rfl
 rw[e]at hc;exact hc.mono fun e W' ⟨he,hB⟩=>⟨_,he,Bn hW' rfl hB Ot (by rw[Tryz.params4];simp only[List.mem_cons,List.not_mem_nil,or_false,forall_eq_or_imp,forall_eq];exact⟨⟨by kernel_rfl,by decide+kernel⟩,⟨by kernel_rfl,by decide+kernel⟩⟩) (by kernel_rfl) Tryz.underlying4 ⟨rfl,rfl,rfl⟩⟩
set_option maxRecDepth 100000 in
theorem lifted (os:Os) (started:os.Started) (H:Type) (enc:TypeId×Value->H):
  ReturnsInHanded {} Tryz.checked os 4 .any (Rows.machineTicksSpec.pre6 enc Tryz.prog Tryz.f4 Rows.machineTicksRow.domain false) (Rows.machineTicksSpec.post enc Tryz.prog Tryz.f4 false true false false):=by
 refine returnsInHanded_of_change (C:=Tryz.checked) SE started (by kernel_rfl) Tryz.func4
  (ChangeSpec.witness6 (enc:=enc) (C:=Tryz.checked) false ⟨#[], #[.int .i64 0,.slice none 0 0],[]⟩ 8 (by kernel_rfl) (by kernel_rfl) (by kernel_rfl) (by kernel_rfl)) ?_
 intro W base args ds gs before hval hW _ _;exact contract H enc W base args ds gs before hval hW
theorem over:Rows.machineTicksRow.holds Tryz.pinned (OpenSpec.ofChange Rows.machineTicksSpec):=
 OpenClaim.holds_of_wide 4 Tryz.f4 rfl rfl rfl rfl rfl rfl rfl ⟨rfl,rfl,rfl,rfl,rfl⟩ rfl rfl rfl rfl rfl (by kernel_rfl) Tryz.func4 (by kernel_rfl)
  (UX (by kernel_rfl)) (by unfold Func.isWrapper;first| (rw[U0 (by decide+kernel)];kernel_rfl)| (rw[UZ (by decide+kernel)];exact⟨rfl,rfl⟩))
  (fun os started H enc _=>lifted os started H enc)
theorem proved:Rows.MachineTicksSaid:=
 over
#print axioms proved
end Go.Proofs.YtlblcfaclmpekaaGreat.machineTicks
