import Derived.Test.YtlblcfaclmpekaaGreatMa18
import Derived.Test.YtlblcfaclmpekaaGreatRows
import Derived.WalkKit
import Derived.OpenShut
import Derived.JoinedOf
set_option linter.unusedSimpArgs false
set_option linter.unusedVariables false
set_option maxRecDepth 100000
namespace Go.Proofs.YtlblcfaclmpekaaGreat.machineOf
open Go.Sx Go.ChangeShapes Go.WideShapes Go.RowKit
theorem contract (H:Type) (enc:TypeId×Value->H) (W:World) (base:Nat) (args:Array Value) (ds gs:List (DataW H)) (before:List MemPlace)
  (hval:∀(j:Nat) t v,Tryz.f6.params[j]? =some t->args[j]? =some v->Value.okWide Tryz.prog W .any base t v)
  (hW:DataW.Whole enc Tryz.prog Tryz.f6.params.toList Rows.machineOfSpec.vars false W args.toList ds gs before):
  Calls Tryz.prog 6 args W fun e W'=>∃v,e= .returned v/\Rows.machineOfSpec.post enc Tryz.prog Tryz.f6 false true false false W args v W':=by
 have hW':=hW;obtain⟨p,q,hA0,hV,rfl,hfz,hnd⟩:=hW;have hA:DataW.TrodAll enc Tryz.prog W 0 (fun _=>true) true Tryz.f6.params.toList args.toList ds p:=hA0
 rw[Tryz.params6]at hA hval;obtain⟨v0,vs0,d0,ds0,p0,q0,hargs,rfl,rfl,h0,r0⟩:=trodAll_cons hA;obtain⟨v1,vs1,d1,ds1,p1,q1,rfl,rfl,rfl,h1,r1⟩:=trodAll_cons r0;obtain⟨v2,vs2,d2,ds2,p2,q2,rfl,rfl,rfl,h2,r2⟩:=trodAll_cons r1;obtain⟨rfl,rfl,rfl⟩:=trodAll_nil r2;obtain rfl:args= #[v0,v1,v2]:=by cases args;simp_all
 obtain⟨rfl,rfl⟩:=trodVars_none hV;obtain⟨a0,w0,s0⟩:=Bn TL.ob free Tryz.underlying29 (by kernel_rfl:fw Tryz.prog 8 74=some QH) (by kernel_rfl) (by decide) Xr (fun l=>⟨rfl,fun i=>rfl⟩) (hval 0 29 v0 rfl rfl) h0
 have s0:xr W v0 163 (.ob a0):=s0;obtain⟨a1,w1,rfl⟩:=Ui Tryz.underlying2 (hval 1 2 v1 rfl rfl) h1;obtain⟨a2,w2,s2⟩:=Bn ly m5 Tryz.underlying22 (by kernel_rfl:fw Tryz.prog 8 56=some kOp) (by kernel_rfl) (by decide) aat (fun l=>⟨rfl,fun i=>rfl⟩) (hval 2 22 v2 rfl rfl) h2
 have s2:xr W v2 11 (ly a2):=s2
 have hs:∀a∈([(v0,163,.ob a0),(v2,11,ly a2)]:List (Value×Nat×TL)),xr W a.1 a.2.1 a.2.2:=by
  simp only[List.mem_cons,List.not_mem_nil,or_false,forall_eq_or_imp,forall_eq];exact⟨s0,s2⟩
 have k0:=Hn hs (i:=0) (a:=(v0,163,.ob a0)) rfl;have k2:=Hn hs (i:=1) (a:=(v2,11,ly a2)) rfl;have hc:=Jh (Xz a0 a1 a2 (fun i hi=>(SC w2 m5 i hi).2.2.2.2.2.1)) (Tn (Ob hs) JF) ⟨DH rfl,w1,DH rfl,trivial⟩
 have e:(bB (tk [(v0,163,.ob a0),(v2,11,ly a2)]) [.sa 0,.it .i64 a1,.sa 1]).toArray= #[v0,.int .i64 a1,v2]:=by
  simp only[bB,k0.1,k2.1];rfl
 rw[e]at hc;exact hc.mono fun e W' ⟨he,hB⟩=>⟨_,he,O6 hW' rfl hB aaf (by rw[Tryz.params6];simp only[List.mem_cons,List.not_mem_nil,or_false,forall_eq_or_imp,forall_eq];exact⟨⟨by kernel_rfl,by decide+kernel⟩,⟨by kernel_rfl,by decide+kernel⟩,⟨by kernel_rfl,by decide+kernel⟩⟩) (by kernel_rfl) Tryz.underlying4 ⟨rfl,rfl,rfl⟩⟩
set_option maxRecDepth 100000 in
theorem lifted (os:Os) (started:os.Started) (H:Type) (enc:TypeId×Value->H):
  ReturnsInHanded {} Tryz.checked os 6 .any (Rows.machineOfSpec.pre6 enc Tryz.prog Tryz.f6 Rows.machineOfRow.domain false) (Rows.machineOfSpec.post enc Tryz.prog Tryz.f6 false true false false):=by
 refine returnsInHanded_of_change (C:=Tryz.checked) aaM started (by kernel_rfl) Tryz.func6
  (ChangeSpec.witness6 (enc:=enc) (C:=Tryz.checked) false ⟨#[], #[.slice none 0 0,.int .i64 0,.slice none 0 0],[]⟩ 8 (by kernel_rfl) (by kernel_rfl) (by kernel_rfl) (by kernel_rfl)) ?_
 intro W base args ds gs before hval hW _ _;exact contract H enc W base args ds gs before hval hW
theorem over:Rows.machineOfRow.holds Tryz.pinned (OpenSpec.ofChange Rows.machineOfSpec):=
 OpenClaim.holds_of_wide 6 Tryz.f6 rfl rfl rfl rfl rfl rfl rfl ⟨rfl,rfl,rfl,rfl,rfl⟩ rfl rfl rfl rfl rfl (by kernel_rfl) Tryz.func6 (by kernel_rfl)
  (aa6 (by kernel_rfl)) (by unfold Func.isWrapper;first| (rw[aa9 (by decide+kernel)];kernel_rfl)| (rw[aa8 (by decide+kernel)];exact⟨rfl,rfl⟩))
  (fun os started H enc _=>lifted os started H enc)
theorem proved:Rows.MachineOfSaid:=
 over
#print axioms proved
end Go.Proofs.YtlblcfaclmpekaaGreat.machineOf
