import Derived.Test.YtlblcfaclmpekaaGreatRows
import Derived.Test.YtlblcfaclmpekaaGreatCtSe
import Derived.Test.YtlblcfaclmpekaaGreatGlM
import Derived.WalkKit
import Derived.OpenShut
import Derived.JoinedOf
set_option linter.unusedSimpArgs false
set_option linter.unusedVariables false
set_option maxRecDepth 100000
namespace Go.Proofs.YtlblcfaclmpekaaGreat.machineCopies
open Go.Sx Go.ChangeShapes Go.WideShapes Go.RowKit
theorem contract (H:Type) (enc:TypeId×Value->H) (W:World) (base:Nat) (args:Array Value) (ds gs:List (DataW H)) (before:List MemPlace)
  (hval:∀(j:Nat) t v,Tryz.f8.params[j]? =some t->args[j]? =some v->Value.okWide Tryz.prog W .any base t v)
  (hW:DataW.Whole enc Tryz.prog Tryz.f8.params.toList Rows.machineCopiesSpec.vars false W args.toList ds gs before)
  (hsz:(DataW.weightsEach Tryz.prog (Tryz.f8.params.toList++Rows.machineCopiesSpec.plain.varTypes Tryz.prog) (ds++gs)).all (· <=reachBytes)=true):
  Calls Tryz.prog 8 args W fun e W'=>∃v,e= .returned v/\Rows.machineCopiesSpec.post enc Tryz.prog Tryz.f8 false true false false W args v W':=by
 have hW':=hW;obtain⟨p,q,hA0,hV,rfl,hfz,hnd⟩:=hW;have hA:DataW.TrodAll enc Tryz.prog W 0 (fun _=>true) true Tryz.f8.params.toList args.toList ds p:=hA0
 rw[Tryz.params8]at hA hval hsz;obtain⟨v0,vs0,d0,ds0,p0,q0,hargs,rfl,rfl,h0,r0⟩:=trodAll_cons hA;obtain⟨v1,vs1,d1,ds1,p1,q1,rfl,rfl,rfl,h1,r1⟩:=trodAll_cons r0;obtain⟨v2,vs2,d2,ds2,p2,q2,rfl,rfl,rfl,h2,r2⟩:=trodAll_cons r1;obtain⟨rfl,rfl,rfl⟩:=trodAll_nil r2;obtain rfl:args= #[v0,v1,v2]:=by cases args;simp_all
 obtain⟨rfl,rfl⟩:=trodVars_none hV;obtain⟨a0,w0,rfl⟩:=Nk Tryz.underlying3 (hval 0 3 v0 rfl rfl) h0;obtain⟨a1,w1,s1⟩:=ye ai gN Tryz.underlying22 (by kernel_rfl:dZ Tryz.prog 8 56=some Uq) (by kernel_rfl) (by decide) Pa (fun l=>⟨rfl,fun i=>rfl⟩) (hval 1 22 v1 rfl rfl) h1
 have s1:rW W v1 11 (ai a1):=s1;obtain⟨a2,w2,s2⟩:=ye ai gN Tryz.underlying22 (by kernel_rfl:dZ Tryz.prog 8 56=some Uq) (by kernel_rfl) (by decide) Pa (fun l=>⟨rfl,fun i=>rfl⟩) (hval 2 22 v2 rfl rfl) h2
 have s2:rW W v2 11 (ai a2):=s2
 have hs:∀a∈([(v1,11,ai a1),(v2,11,ai a2)]:List (Value×Nat×TL)),rW W a.1 a.2.1 a.2.2:=by
  simp only[List.mem_cons,List.not_mem_nil,or_false,forall_eq_or_imp,forall_eq];exact⟨s1,s2⟩
 have k1:=Ef hs (i:=0) (a:=(v1,11,ai a1)) rfl;have k2:=Ef hs (i:=1) (a:=(v2,11,ai a2)) rfl
 have hlx:an a1<=140737488355328:=by
  rcases Er Tryz.underlying22 s1 h1 with h|⟨el,sp,hd,he⟩
  ·have h:an a1=0:=h;omega
  ·subst hd;have:=sized_slice hsz (j:=1) (t:=22) (e:=56) rfl rfl Tryz.underlying22;have hb:Tryz.prog.bytesOf 56=96:=by kernel_rfl
   have hr:reachBytes<2^47:=reachBytes_lt;have he:el.length=an a1:=he;rw[hb]at this;omega
 have hly:an a2<=140737488355328:=by
  rcases Er Tryz.underlying22 s2 h2 with h|⟨el,sp,hd,he⟩
  ·have h:an a2=0:=h;omega
  ·subst hd;have:=sized_slice hsz (j:=2) (t:=22) (e:=56) rfl rfl Tryz.underlying22;have hb:Tryz.prog.bytesOf 56=96:=by kernel_rfl
   have hr:reachBytes<2^47:=reachBytes_lt;have he:el.length=an a2:=he;rw[hb]at this;omega
 have hc:=FO (LX a0 a1 a2 (fun i hi=>(E4 w1 gN i hi).2.2.2.2.2.1) (fun i hi=>(E4 w2 gN i hi).2.2.2.2.2.1) hlx hly) (Np (IK hs) Gu) ⟨w0,A0 rfl,A0 rfl,trivial⟩
 have e:(bj (rj [(v1,11,ai a1),(v2,11,ai a2)]) [.it .i64 a0,.sa 0,.sa 1]).toArray= #[.int .i64 a0,v1,v2]:=by
  simp only[bj,k1.1,k2.1];rfl
 rw[e]at hc;exact hc.mono fun e W' ⟨he,hB⟩=>⟨_,he,G0 hW' rfl hB Sl (by rw[Tryz.params8];simp only[List.mem_cons,List.not_mem_nil,or_false,forall_eq_or_imp,forall_eq];exact⟨⟨by kernel_rfl,by decide+kernel⟩,⟨by kernel_rfl,by decide+kernel⟩,⟨by kernel_rfl,by decide+kernel⟩⟩) (by kernel_rfl) Tryz.underlying4 ⟨rfl,rfl,rfl⟩⟩
set_option maxRecDepth 100000 in
theorem lifted (os:Os) (started:os.Started) (H:Type) (enc:TypeId×Value->H):
  ReturnsInHanded {} Tryz.checked os 8 .any (Rows.machineCopiesSpec.pre6 enc Tryz.prog Tryz.f8 Rows.machineCopiesRow.domain false) (Rows.machineCopiesSpec.post enc Tryz.prog Tryz.f8 false true false false):=by
 refine zN (C:=Tryz.checked) Uo started (by kernel_rfl) Tryz.func8
  (ChangeSpec.witness6 (enc:=enc) (C:=Tryz.checked) false ⟨#[], #[.int .i64 0,.slice none 0 0,.slice none 0 0],[]⟩ 8 (by kernel_rfl) (by kernel_rfl) (by kernel_rfl) (by kernel_rfl)) ?_
 intro W base args ds gs before hval hW hsz;exact contract H enc W base args ds gs before hval hW hsz
theorem over:Rows.machineCopiesRow.holds Tryz.pinned (OpenSpec.ofChange Rows.machineCopiesSpec):=
 OpenClaim.holds_of_wide 8 Tryz.f8 rfl rfl rfl rfl rfl rfl rfl ⟨rfl,rfl,rfl,rfl,rfl⟩ rfl rfl rfl rfl rfl (by kernel_rfl) Tryz.func8 (by kernel_rfl)
  (VO (by kernel_rfl)) (by unfold Func.isWrapper;first| (rw[VR (by decide+kernel)];kernel_rfl)| (rw[VQ (by decide+kernel)];exact⟨rfl,rfl⟩))
  (fun os started H enc _=>lifted os started H enc)
theorem proved:Rows.MachineCopiesSaid:=
 over
#print axioms proved
end Go.Proofs.YtlblcfaclmpekaaGreat.machineCopies
