import Derived.Test.YtlblcfaclmpekaaGreatMa18
import Derived.Test.YtlblcfaclmpekaaGreatRows
import Derived.WalkKit
import Derived.OpenShut
import Derived.JoinedOf
set_option linter.unusedSimpArgs false
set_option linter.unusedVariables false
set_option maxRecDepth 100000
namespace Go.Proofs.YtlblcfaclmpekaaGreat.machinePlay
open Go.Sx Go.ChangeShapes Go.WideShapes Go.RowKit
theorem contract (H:Type) (enc:TypeId×Value->H) (W:World) (base:Nat) (args:Array Value) (ds gs:List (DataW H)) (before:List MemPlace)
  (hval:∀(j:Nat) t v,Tryz.f3.params[j]? =some t->args[j]? =some v->Value.okWide Tryz.prog W .any base t v)
  (hW:DataW.Whole enc Tryz.prog Tryz.f3.params.toList Rows.machinePlaySpec.vars false W args.toList ds gs before):
  Calls Tryz.prog 3 args W fun e W'=>∃v,e= .returned v/\Rows.machinePlaySpec.post enc Tryz.prog Tryz.f3 false true false false W args v W':=by
 have hW':=hW;obtain⟨p,q,hA0,hV,rfl,hfz,hnd⟩:=hW;have hA:DataW.TrodAll enc Tryz.prog W 0 (fun _=>true) true Tryz.f3.params.toList args.toList ds p:=hA0
 rw[Tryz.params3]at hA hval;obtain⟨v0,vs0,d0,ds0,p0,q0,hargs,rfl,rfl,h0,r0⟩:=trodAll_cons hA;obtain⟨v1,vs1,d1,ds1,p1,q1,rfl,rfl,rfl,h1,r1⟩:=trodAll_cons r0;obtain⟨rfl,rfl,rfl⟩:=trodAll_nil r1;obtain rfl:args= #[v0,v1]:=by cases args;simp_all
 obtain⟨rfl,rfl⟩:=trodVars_none hV;obtain⟨a0,w0,rfl⟩:=Rc Tryz.underlying3 (hval 0 3 v0 rfl rfl) h0;obtain⟨a1,w1,s1⟩:=JJ lX jk Tryz.underlying22 (by kernel_rfl:fK Tryz.prog 8 56=some kOp) (by kernel_rfl) (by decide) YU (fun l=>⟨rfl,fun i=>rfl⟩) (hval 1 22 v1 rfl rfl) h1
 have s1:yI W v1 11 (lX a1):=s1
 have hs:∀a∈([(v1,11,lX a1)]:List (Value×Nat×TL)),yI W a.1 a.2.1 a.2.2:=by
  simp only[List.mem_cons,List.not_mem_nil,or_false,forall_eq_or_imp,forall_eq];exact s1
 have k1:=TJ hs (i:=0) (a:=(v1,11,lX a1)) rfl;have hc:=I7 (OI a0 a1 (fun i hi=>(RE w1 jk i hi).2.2.2.2.2.1)) (Rv (L3 hs) Jc) ⟨w0,La rfl,trivial⟩
 have e:(bz (tR [(v1,11,lX a1)]) [.it .i64 a0,.sa 0]).toArray= #[.int .i64 a0,v1]:=by
  simp only[bz,k1.1];rfl
 rw[e]at hc;exact hc.mono fun e W' ⟨he,hB⟩=>⟨_,he,Nr hW' rfl hB aav (by rw[Tryz.params3];simp only[List.mem_cons,List.not_mem_nil,or_false,forall_eq_or_imp,forall_eq];exact⟨⟨by kernel_rfl,by decide+kernel⟩,⟨by kernel_rfl,by decide+kernel⟩⟩) (by kernel_rfl) Tryz.underlying4 ⟨rfl,rfl,rfl⟩⟩
set_option maxRecDepth 100000 in
theorem lifted (os:Os) (started:os.Started) (H:Type) (enc:TypeId×Value->H):
  ReturnsInHanded {} Tryz.checked os 3 .any (Rows.machinePlaySpec.pre6 enc Tryz.prog Tryz.f3 Rows.machinePlayRow.domain false) (Rows.machinePlaySpec.post enc Tryz.prog Tryz.f3 false true false false):=by
 refine returnsInHanded_of_change (C:=Tryz.checked) aaA started (by kernel_rfl) Tryz.func3
  (ChangeSpec.witness6 (enc:=enc) (C:=Tryz.checked) false ⟨#[], #[.int .i64 0,.slice none 0 0],[]⟩ 8 (by kernel_rfl) (by kernel_rfl) (by kernel_rfl) (by kernel_rfl)) ?_
 intro W base args ds gs before hval hW _ _;exact contract H enc W base args ds gs before hval hW
theorem over:Rows.machinePlayRow.holds Tryz.pinned (OpenSpec.ofChange Rows.machinePlaySpec):=
 OpenClaim.holds_of_wide 3 Tryz.f3 rfl rfl rfl rfl rfl rfl rfl ⟨rfl,rfl,rfl,rfl,rfl⟩ rfl rfl rfl rfl rfl (by kernel_rfl) Tryz.func3 (by kernel_rfl)
  (aaZ (by kernel_rfl)) (by unfold Func.isWrapper;first| (rw[aa2 (by decide+kernel)];kernel_rfl)| (rw[aa1 (by decide+kernel)];exact⟨rfl,rfl⟩))
  (fun os started H enc _=>lifted os started H enc)
theorem proved:Rows.MachinePlaySaid:=
 over
#print axioms proved
end Go.Proofs.YtlblcfaclmpekaaGreat.machinePlay
