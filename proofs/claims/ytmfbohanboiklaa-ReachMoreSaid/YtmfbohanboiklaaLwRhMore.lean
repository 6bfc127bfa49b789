import Derived.Test.YtmfbohanboiklaaRows
import Derived.Test.YtmfbohanboiklaaCtTi
import Derived.Test.YtmfbohanboiklaaGlA
import Derived.WalkKit
import Derived.OpenShut
import Derived.JoinedOf
set_option linter.unusedSimpArgs false
set_option linter.unusedVariables false
set_option maxRecDepth 100000
namespace Go.Proofs.Ytmfbohanboiklaa.reachMore
open Go.Sx Go.ChangeShapes Go.WideShapes Go.RowKit
theorem contract (H:Type) (enc:TypeId×Value->H) (W:World) (base:Nat) (args:Array Value) (ds gs:List (DataW H)) (before:List MemPlace)
  (hval:∀(j:Nat) t v,Try.f6.params[j]? =some t->args[j]? =some v->Value.okWide Try.prog W .any base t v)
  (hW:DataW.Whole enc Try.prog Try.f6.params.toList Rows.reachMoreSpec.vars false W args.toList ds gs before):
  Calls Try.prog 6 args W fun e W'=>∃v,e= .returned v/\Rows.reachMoreSpec.post enc Try.prog Try.f6 false true false false W args v W':=by
 have hW':=hW;obtain⟨p,q,hA0,hV,rfl,hfz,hnd⟩:=hW;have hA:DataW.TrodAll enc Try.prog W 0 (fun _=>true) true Try.f6.params.toList args.toList ds p:=hA0
 rw[Try.params6]at hA hval;obtain⟨v0,vs0,d0,ds0,p0,q0,hargs,rfl,rfl,h0,r0⟩:=trodAll_cons hA;obtain⟨v1,vs1,d1,ds1,p1,q1,rfl,rfl,rfl,h1,r1⟩:=trodAll_cons r0;obtain⟨v2,vs2,d2,ds2,p2,q2,rfl,rfl,rfl,h2,r2⟩:=trodAll_cons r1;obtain⟨rfl,rfl,rfl⟩:=trodAll_nil r2;obtain rfl:args= #[v0,v1,v2]:=by cases args;simp_all
 obtain⟨rfl,rfl⟩:=trodVars_none hV;obtain⟨a0,w0,s0⟩:=mc TL.ob free Try.underlying22 (by kernel_rfl:flatK Try.prog 8 33=some Cw) (by kernel_rfl) (by decide) yu (fun l=>⟨rfl,fun i=>rfl⟩) (hval 0 22 v0 rfl rfl) h0
 have s0:jv W v0 163 (.ob a0):=s0;obtain⟨a1,w1,rfl⟩:=Al Try.underlying3 (hval 1 3 v1 rfl rfl) h1;obtain⟨a2,w2,e2⟩:=rC Try.underlying26 (by kernel_rfl:flatK Try.prog 8 26=some v8) mK (fun _=>rfl) (hval 2 26 v2 rfl rfl) h2
 have hs:∀a∈([(v0,163,.ob a0)]:List (Value×Nat×TL)),jv W a.1 a.2.1 a.2.2:=by
  simp only[List.mem_cons,List.not_mem_nil,or_false,forall_eq_or_imp,forall_eq];exact s0
 have k0:=qQ hs (i:=0) (a:=(v0,163,.ob a0)) rfl;have hc:=mj (Dd a0 a1 a2) (qN (oN hs) mA) ⟨oc rfl,w1,cm (mK.2 _ w2).1,trivial⟩
 have e:(aC (jf [(v0,163,.ob a0)]) [.sa 0,.it .i64 a1,.key a2]).toArray= #[v0,.int .i64 a1,v2]:=by
  simp only[aC,k0.1,<-e2];rfl
 rw[e]at hc;exact hc.mono fun e W' ⟨he,hB⟩=>⟨_,he,oG hW' rfl hB AL (by rw[Try.params6];simp only[List.mem_cons,List.not_mem_nil,or_false,forall_eq_or_imp,forall_eq];exact⟨⟨by kernel_rfl,by decide+kernel⟩,⟨by kernel_rfl,by decide+kernel⟩,⟨by kernel_rfl,by decide+kernel⟩⟩) (by kernel_rfl) Try.underlying4 ⟨rfl,rfl,rfl⟩⟩
set_option maxRecDepth 100000 in
theorem lifted (os:Os) (started:os.Started) (H:Type) (enc:TypeId×Value->H):
  ReturnsInHanded {} Try.checked os 6 .any (Rows.reachMoreSpec.pre6 enc Try.prog Try.f6 Rows.reachMoreRow.domain false) (Rows.reachMoreSpec.post enc Try.prog Try.f6 false true false false):=by
 refine returnsInHanded_of_change (C:=Try.checked) GG started (by kernel_rfl) Try.func6
  (ChangeSpec.witness6 (enc:=enc) (C:=Try.checked) false ⟨#[], #[.slice none 0 0,.int .i64 0,den Env.zero (.key void)],[]⟩ 8 (by kernel_rfl) (by kernel_rfl) (by kernel_rfl) (by kernel_rfl)) ?_
 intro W base args ds gs before hval hW _ _;exact contract H enc W base args ds gs before hval hW
theorem over:Rows.reachMoreRow.holds Try.pinned (OpenSpec.ofChange Rows.reachMoreSpec):=
 OpenClaim.holds_of_wide 6 Try.f6 rfl rfl rfl rfl rfl rfl rfl ⟨rfl,rfl,rfl,rfl,rfl⟩ rfl rfl rfl rfl rfl (by kernel_rfl) Try.func6 (by kernel_rfl)
  (NU (by kernel_rfl)) (by unfold Func.isWrapper;first| (rw[NX (by decide+kernel)];kernel_rfl)| (rw[NW (by decide+kernel)];exact⟨rfl,rfl⟩))
  (fun os started H enc _=>lifted os started H enc)
theorem proved:Rows.ReachMoreSaid:=
 over
#print axioms proved
end Go.Proofs.Ytmfbohanboiklaa.reachMore
