import Derived.Test.YtlblcfaclmpekaaGreatRows
import Derived.Test.YtlblcfaclmpekaaGreatCtSf
import Derived.Test.YtlblcfaclmpekaaGreatGlM
import Derived.WalkKit
import Derived.OpenShut
import Derived.JoinedOf
set_option linter.unusedSimpArgs false
set_option linter.unusedVariables false
set_option maxRecDepth 100000
namespace Go.Proofs.YtlblcfaclmpekaaGreat.machineNever
open Go.Sx Go.ChangeShapes Go.WideShapes Go.RowKit
theorem contract (H:Type) (enc:TypeId×Value->H) (W:World) (base:Nat) (args:Array Value) (ds gs:List (DataW H)) (before:List MemPlace)
  (hval:∀(j:Nat) t v,Tryz.f7.params[j]? =some t->args[j]? =some v->Value.okWide Tryz.prog W .any base t v)
  (hW:DataW.Whole enc Tryz.prog Tryz.f7.params.toList Rows.machineNeverSpec.vars false W args.toList ds gs before):
  Calls Tryz.prog 7 args W fun e W'=>∃v,e= .returned v/\Rows.machineNeverSpec.post enc Tryz.prog Tryz.f7 false true false false W args v W':=by
 have hW':=hW;obtain⟨p,q,hA0,hV,rfl,hfz,hnd⟩:=hW;have hA:DataW.TrodAll enc Tryz.prog W 0 (fun _=>true) true Tryz.f7.params.toList args.toList ds p:=hA0
 rw[Tryz.params7]at hA hval;obtain⟨v0,vs0,d0,ds0,p0,q0,hargs,rfl,rfl,h0,r0⟩:=trodAll_cons hA;obtain⟨v1,vs1,d1,ds1,p1,q1,rfl,rfl,rfl,h1,r1⟩:=trodAll_cons r0;obtain⟨v2,vs2,d2,ds2,p2,q2,rfl,rfl,rfl,h2,r2⟩:=trodAll_cons r1;obtain⟨rfl,rfl,rfl⟩:=trodAll_nil r2;obtain rfl:args= #[v0,v1,v2]:=by cases args;simp_all
 obtain⟨rfl,rfl⟩:=trodVars_none hV;obtain⟨a0,w0,s0⟩:=tH TL.ob free Tryz.underlying29 (by kernel_rfl:dT Tryz.prog 8 74=some MD) (by kernel_rfl) (by decide) S4 (fun l=>⟨rfl,fun i=>rfl⟩) (hval 0 29 v0 rfl rfl) h0
 have s0:sZ W v0 163 (.ob a0):=s0;obtain⟨a1,w1,s1⟩:=tH oD nL Tryz.underlying22 (by kernel_rfl:dT Tryz.prog 8 56=some WT) (by kernel_rfl) (by decide) TY (fun l=>⟨rfl,fun i=>rfl⟩) (hval 1 22 v1 rfl rfl) h1
 have s1:sZ W v1 11 (oD a1):=s1;obtain⟨a2,w2,s2⟩:=tH TL.key void Tryz.underlying64 (by kernel_rfl:dT Tryz.prog 8 44=some Eg) (by kernel_rfl) (by decide) Pa (fun l=>⟨rfl,fun i=>rfl⟩) (hval 2 64 v2 rfl rfl) h2
 have s2:sZ W v2 6 (.key a2):=s2
 have hs:∀a∈([(v0,163,.ob a0),(v1,11,oD a1),(v2,6,.key a2)]:List (Value×Nat×TL)),sZ W a.1 a.2.1 a.2.2:=by
  simp only[List.mem_cons,List.not_mem_nil,or_false,forall_eq_or_imp,forall_eq];exact⟨s0,s1,s2⟩
 have k0:=Ar hs (i:=0) (a:=(v0,163,.ob a0)) rfl;have k1:=Ar hs (i:=1) (a:=(v1,11,oD a1)) rfl;have k2:=Ar hs (i:=2) (a:=(v2,6,.key a2)) rfl;have hc:=Gz (MQ a0 a1 a2 (fun i hi=>(NL w1 nL i hi).2.2.2.2.2.1)) (Pg (JQ hs) GS) ⟨xO rfl,xO rfl,xO rfl,trivial⟩
 have e:(bc (ri [(v0,163,.ob a0),(v1,11,oD a1),(v2,6,.key a2)]) [.sa 0,.sa 1,.sa 2]).toArray= #[v0,v1,v2]:=by
  simp only[bc,k0.1,k1.1,k2.1]
 rw[e]at hc;exact hc.mono fun e W' ⟨he,hB⟩=>⟨_,he,Lj hW' rfl hB UM (by rw[Tryz.params7];simp only[List.mem_cons,List.not_mem_nil,or_false,forall_eq_or_imp,forall_eq];exact⟨⟨by kernel_rfl,by decide+kernel⟩,⟨by kernel_rfl,by decide+kernel⟩,⟨by kernel_rfl,by decide+kernel⟩⟩) (by kernel_rfl) Tryz.underlying4 ⟨rfl,rfl,rfl⟩⟩
set_option maxRecDepth 100000 in
theorem lifted (os:Os) (started:os.Started) (H:Type) (enc:TypeId×Value->H):
  ReturnsInHanded {} Tryz.checked os 7 .any (Rows.machineNeverSpec.pre6 enc Tryz.prog Tryz.f7 Rows.machineNeverRow.domain false) (Rows.machineNeverSpec.post enc Tryz.prog Tryz.f7 false true false false):=by
 refine returnsInHanded_of_change (C:=Tryz.checked) V4 started (by kernel_rfl) Tryz.func7
  (ChangeSpec.witness6 (enc:=enc) (C:=Tryz.checked) false ⟨#[], #[.slice none 0 0,.slice none 0 0,.slice none 0 0],[]⟩ 8 (by kernel_rfl) (by kernel_rfl) (by kernel_rfl) (by kernel_rfl)) ?_
 intro W base args ds gs before hval hW _ _;exact contract H enc W base args ds gs before hval hW
theorem over:Rows.machineNeverRow.holds Tryz.pinned (OpenSpec.ofChange Rows.machineNeverSpec):=
 OpenClaim.holds_of_wide 7 Tryz.f7 rfl rfl rfl rfl rfl rfl rfl ⟨rfl,rfl,rfl,rfl,rfl⟩ rfl rfl rfl rfl rfl (by kernel_rfl) Tryz.func7 (by kernel_rfl)
  (Xs (by kernel_rfl)) (by unfold Func.isWrapper;first| (rw[Xv (by decide+kernel)];kernel_rfl)| (rw[Xu (by decide+kernel)];exact⟨rfl,rfl⟩))
  (fun os started H enc _=>lifted os started H enc)
theorem proved:Rows.MachineNeverSaid:=
 over
#print axioms proved
end Go.Proofs.YtlblcfaclmpekaaGreat.machineNever
