import Derived.Test.YtmfbohanboiklaaGreatRows
import Derived.Test.YtmfbohanboiklaaGreatCtTk
import Derived.Test.YtmfbohanboiklaaGreatGlM
import Derived.WalkKit
import Derived.OpenShut
import Derived.JoinedOf
set_option linter.unusedSimpArgs false
set_option linter.unusedVariables false
set_option maxRecDepth 100000
namespace Go.Proofs.YtmfbohanboiklaaGreat.reachNil
open Go.Sx Go.ChangeShapes Go.WideShapes Go.RowKit
theorem contract (H:Type) (enc:TypeId×Value->H) (W:World) (base:Nat) (args:Array Value) (ds gs:List (DataW H)) (before:List MemPlace)
  (hval:∀(j:Nat) t v,Tryz.f4.params[j]? =some t->args[j]? =some v->Value.okWide Tryz.prog W .any base t v)
  (hW:DataW.Whole enc Tryz.prog Tryz.f4.params.toList Rows.reachNilSpec.vars false W args.toList ds gs before):
  Calls Tryz.prog 4 args W fun e W'=>∃v,e= .returned v/\Rows.reachNilSpec.post enc Tryz.prog Tryz.f4 false true false false W args v W':=by
 have hW':=hW;obtain⟨p,q,hA0,hV,rfl,hfz,hnd⟩:=hW;have hA:DataW.TrodAll enc Tryz.prog W 0 (fun _=>true) true Tryz.f4.params.toList args.toList ds p:=hA0
 rw[Tryz.params4]at hA hval;obtain⟨v0,vs0,d0,ds0,p0,q0,hargs,rfl,rfl,h0,r0⟩:=trodAll_cons hA;obtain⟨v1,vs1,d1,ds1,p1,q1,rfl,rfl,rfl,h1,r1⟩:=trodAll_cons r0;obtain⟨rfl,rfl,rfl⟩:=trodAll_nil r1;obtain rfl:args= #[v0,v1]:=by cases args;simp_all
 obtain⟨rfl,rfl⟩:=trodVars_none hV;obtain⟨a0,w0,rfl⟩:=Ee Tryz.underlying3 (hval 0 3 v0 rfl rfl) h0;obtain⟨a1,w1,e1⟩:=Bj Tryz.underlying31 (by kernel_rfl:flatK Tryz.prog 8 31=some Jm) Ey (fun _=>rfl) (hval 1 31 v1 rfl rfl) h1
 have hs:∀a∈([]:List (Value×Nat×TL)),ED W a.1 a.2.1 a.2.2:=by
  simp
 have hc:=zx (CG a0 a1 w1.2.2.2.2.2.1) (CD (AG hs) zt) ⟨w0,ca (Ey.2 _ w1).1,trivial⟩
 have e:(aw (nH []) [.it .i64 a0,HY a1]).toArray= #[.int .i64 a0,v1]:=by
  simp only[aw,<-e1];rfl
 rw[e]at hc;exact hc.mono fun e W' ⟨he,hB⟩=>⟨_,he,AR hW' rfl hB G8 (by rw[Tryz.params4];simp only[List.mem_cons,List.not_mem_nil,or_false,forall_eq_or_imp,forall_eq];exact⟨⟨by kernel_rfl,by decide+kernel⟩,⟨by kernel_rfl,by decide+kernel⟩⟩) (by kernel_rfl) Tryz.underlying4 ⟨rfl,rfl,rfl⟩⟩
set_option maxRecDepth 100000 in
theorem lifted (os:Os) (started:os.Started) (H:Type) (enc:TypeId×Value->H):
  ReturnsInHanded {} Tryz.checked os 4 .any (Rows.reachNilSpec.pre6 enc Tryz.prog Tryz.f4 Rows.reachNilRow.domain false) (Rows.reachNilSpec.post enc Tryz.prog Tryz.f4 false true false false):=by
 refine returnsInHanded_of_change (C:=Tryz.checked) Ir started (by kernel_rfl) Tryz.func4
  (ChangeSpec.witness6 (enc:=enc) (C:=Tryz.checked) false ⟨#[], #[.int .i64 0,den Env.zero (HY Jc)],[]⟩ 8 (by kernel_rfl) (by kernel_rfl) (by kernel_rfl) (by kernel_rfl)) ?_
 intro W base args ds gs before hval hW _ _;exact contract H enc W base args ds gs before hval hW
theorem over:Rows.reachNilRow.holds Tryz.pinned (OpenSpec.ofChange Rows.reachNilSpec):=
 OpenClaim.holds_of_wide 4 Tryz.f4 rfl rfl rfl rfl rfl rfl rfl ⟨rfl,rfl,rfl,rfl,rfl⟩ rfl rfl rfl rfl rfl (by kernel_rfl) Tryz.func4 (by kernel_rfl)
  (JV (by kernel_rfl)) (by unfold Func.isWrapper;first| (rw[JY (by decide+kernel)];kernel_rfl)| (rw[JX (by decide+kernel)];exact⟨rfl,rfl⟩))
  (fun os started H enc _=>lifted os started H enc)
theorem proved:Rows.ReachNilSaid:=
 over
#print axioms proved
end Go.Proofs.YtmfbohanboiklaaGreat.reachNil
