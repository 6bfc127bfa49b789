import Derived.Test.YtmfbohanboiklaaGreatDoorRows
import Derived.Test.YtmfbohanboiklaaGreatDoorTie
import Derived.Test.YtmfbohanboiklaaGreatDoorCards
import Derived.Test.YtmfbohanboiklaaGreatDoorCtTx
import Derived.Test.YtmfbohanboiklaaGreatDoorGlT
import Derived.WalkKit
import Derived.OpenShut
import Derived.JoinedOf
import Derived.ProofKit
import Derived.Stop.Joined
import Derived.SevenTiedAt
set_option linter.unusedSimpArgs false
set_option linter.unusedVariables false
set_option maxRecDepth 100000
namespace Go.Proofs.YtmfbohanboiklaaGreatDoor.reachText
open Go.Sx Go.ChangeShapes Go.WideShapes Go.RowKit
def tZ:List (String×DataW Unit):=Rows.reachTextRow.laid
theorem CU{W:World}(h:laidMetH Tryz.prog tZ W):Lib.TabIs Tryz.prog W A6 .u64 Lib.pow10Tab:=by
 rw[MakeChecks.laidMetH_plain _ _ _ (by kernel_rfl)]at h
 have h2:laidMet Tryz.prog [(A6,Lib.tabData .u64 Lib.pow10Tab)] W:=h.tail.tail;exact Lib.tabIs_of_head (g:=0) (t:=126) (e:=107) (n:=20) (by kernel_rfl) (by kernel_rfl) Tryz.underlying126 Tryz.underlying107 (by kernel_rfl) (by kernel_rfl) h2
theorem Ck(os:Os)(args:Array Value):laidMetH Tryz.prog tZ ((World.doorLaid Tryz.prog 24 os).forCall (fun _ _=>0) ⟨#[],args,[]⟩).memory:=
 laidMetH_of_parts3 (fuel:=8) (laidMet_of_run' 8 (by kernel_rfl) (by kernel_rfl)) (by kernel_rfl) (by kernel_rfl)
theorem contract(H:Type)(enc:TypeId×Value->H)(W:World)(base:Nat)(args:Array Value)(ds gs:List (DataW H))(before:List MemPlace)
  (hval:∀(j:Nat) t v,Tryz.f3.params[j]? =some t->args[j]? =some v->Value.okWide Tryz.prog W .any base t v)
  (hW:DataW.Whole enc Tryz.prog Tryz.f3.params.toList Rows.reachTextSpec.vars false W args.toList ds gs before) (hL:laidMetH Tryz.prog tZ W):
  Calls Tryz.prog 3 args W fun e W'=>∃v,e= .returned v/\Rows.reachTextSpec.post enc Tryz.prog Tryz.f3 false true false false W args v W':=by
 have hW':=hW;obtain⟨p,q,hA0,hV,rfl,hfz,hnd⟩:=hW;have hA:DataW.TrodAll enc Tryz.prog W 0 (fun _=>true) true Tryz.f3.params.toList args.toList ds p:=hA0
 rw[Tryz.params3]at hA hval;obtain⟨v0,vs0,d0,ds0,p0,q0,hargs,rfl,rfl,h0,r0⟩:=trodAll_cons hA;obtain⟨v1,vs1,d1,ds1,p1,q1,rfl,rfl,rfl,h1,r1⟩:=trodAll_cons r0;obtain⟨rfl,rfl,rfl⟩:=trodAll_nil r1;obtain rfl:args= #[v0,v1]:=by cases args;simp_all
 obtain⟨rfl,rfl⟩:=trodVars_none hV;obtain⟨a0,w0,s0⟩:=Au (TL.qs 5) [] Tryz.underlying22 (by kernel_rfl:flatK Tryz.prog 8 26=some Kq) (by kernel_rfl) (by decide) Fv (fun l=>⟨rfl,fun i=>rfl⟩) (hval 0 22 v0 rfl rfl) h0
 have s0:sw W v0 5 (.qs 5 a0):=s0;obtain⟨a1,w1,e1⟩:=Dl Tryz.underlying26 (by kernel_rfl:flatK Tryz.prog 8 26=some Kq) vQ (fun _=>rfl) (hval 1 26 v1 rfl rfl) h1
 have hs:∀a∈([(v0,5,.qs 5 a0)]:List (Value×Nat×TL)),sw W a.1 a.2.1 a.2.2:=by
  simp only[List.mem_cons,List.not_mem_nil,or_false,forall_eq_or_imp,forall_eq];exact s0
 have k0:=Fk hs (i:=0) (a:=(v0,5,.qs 5 a0)) rfl;have hc:=AB (Iv a0 a1 fun x hx=>(w0 x hx).1) (CZ (FO (Di hs) AW) (CI (CU hL))) ⟨C4 rfl,de (vQ.2 _ w1).1,trivial⟩
 have e:(aV (mS [(v0,5,.qs 5 a0)]) [.sa 0,ye a1]).toArray= #[v0,v1]:=by
  simp only[aV,k0.1,<-e1]
 rw[e]at hc;exact hc.mono fun e W' ⟨he,hB⟩=>⟨_,he,Cg hW' rfl hB Jp (by rw[Tryz.params3];simp only[List.mem_cons,List.not_mem_nil,or_false,forall_eq_or_imp,forall_eq];exact⟨⟨by kernel_rfl,by decide+kernel⟩,⟨by kernel_rfl,by decide+kernel⟩⟩) (by kernel_rfl) Tryz.underlying4 ⟨rfl,rfl,rfl⟩⟩
set_option maxRecDepth 100000 in
theorem lifted(os:Os)(started:os.Started)(H:Type)(enc:TypeId×Value->H):
  ReturnsInHanded {} Tryz.checked os 3 .any (fun w args=>(Rows.reachTextSpec.pre enc Tryz.prog Tryz.f3 [] false w args/\laidMetH Tryz.prog tZ w)/\sizedMet enc Tryz.prog Tryz.f3 (OpenSpec.ofChange Rows.reachTextSpec) false w args)
   (Rows.reachTextSpec.post enc Tryz.prog Tryz.f3 false true false false):=by
 refine returnsInHanded_of_change_and (C:=Tryz.checked) (X:=fun w _=>laidMetH Tryz.prog tZ w) (fun _ _ _ hh h=>h.of_heap hh) Lc started (by kernel_rfl) Tryz.func3
  (ChangeSpec.witness_shaped (enc:=enc) (C:=Tryz.checked) (os:=os) (X:=fun w _=>laidMetH Tryz.prog tZ w) false (World.doorLaid Tryz.prog 24 os) #[.slice none 0 0,den Env.zero (ye void)] 8 rfl (World.shaped_of_RefB (by kernel_rfl) (by kernel_rfl)) (by kernel_rfl) (by kernel_rfl) (by kernel_rfl) (Ck os _)) ?_
 intro W base args ds gs before hval hW _ _ hL _;exact contract H enc W base args ds gs before hval hW hL
theorem over:Rows.reachTextRow.holds Tryz.pinned (OpenSpec.ofChange Rows.reachTextSpec):=
 OpenClaim.holds_of_wide 3 Tryz.f3 rfl rfl rfl rfl rfl rfl rfl ⟨rfl,rfl,rfl,rfl,rfl⟩ rfl rfl rfl rfl rfl (by kernel_rfl) Tryz.func3 (by kernel_rfl)
  (an (by kernel_rfl)) (by unfold Func.isWrapper;first| (rw[au (by decide+kernel)];kernel_rfl)| (rw[ar (by decide+kernel)];exact⟨rfl,rfl⟩))
  (fun os started H enc _=>lifted os started H enc)
theorem proved:Rows.ReachTextCardSaid:=
 Claim7.holds_tied_plain_at .later [] [.data,.data,.data] true Rows.reachTextCard.stood.harness false
  over (fun _ h=>by cases h) (by kernel_rfl) (fun _ h=>by cases h) reachText_row_tie rfl ⟨rfl,rfl⟩ (by kernel_rfl) rfl
  (fun f fn hf hfn=>by
   obtain rfl:f=3:=Option.some.inj ((show Tryz.prog.funcNamed Rows.reachTextRow.func=some 3 by kernel_rfl).symm.trans hf) |>.symm
   obtain rfl:fn=Tryz.f3:=(Option.some.inj (Tryz.func3.symm.trans hfn)).symm
   exact⟨by kernel_rfl,fun j t ht=>by
    rw[Tryz.params3]at ht;have hm:t∈ [22,26]:=by simpa using Array.mem_of_getElem? ht
    have hall:([22,26].all fun u=> !Tryz.prog.wantsStandIn u)=true:=by kernel_rfl
    exact(show Tryz.prog.wantsStandIn t=false by simpa using List.all_eq_true.1 hall t hm)⟩)
  (by kernel_rfl)
#print axioms proved
end Go.Proofs.YtmfbohanboiklaaGreatDoor.reachText
