import Derived.Test.YtlblcfaclmpekaaGreatGlA
import Derived.Test.YtlblcfaclmpekaaGreatSpMb
import Derived.SizedLaws
import Derived.Handed
set_option linter.unusedSimpArgs false
set_option linter.unusedVariables false
set_option maxRecDepth 100000
namespace Go.Proofs.YtlblcfaclmpekaaGreat
open Go.Sx Go.ChangeShapes Go.WideShapes
def kI:List Kd:= [.i .i64]
def Up:List Kd:=kI++(kI++(kI++ []))
def Uq:List Kd:=kI++(kI++(kI++(kI++(kI++([.s]++(Up++([.b]++(kI++ []))))))))
def UI (x:k9):Prop:=cj .i64 x.kind/\cj .i64 x.proc/\cj .i64 x.reg/\cj .i64 x.mode/\cj .i64 x.code/\az x.data/\(cj .i64 x.s0/\cj .i64 x.s1/\cj .i64 x.s2/\True)/\True/\cj .i64 x.val/\True
theorem Pa:NL Uq UI Lz:=
 MM (Jp (fG (rP .i64) (fG (rP .i64) (fG (rP .i64) (fG (rP .i64) (fG (rP .i64) (fG SZ (fG (Jp (fG (rP .i64) (fG (rP .i64) (fG (rP .i64) BD)))) (fG SI (fG (rP .i64) BD))))))))))
  (fun x=>(⟨x.1,x.2.1,x.2.2.1,x.2.2.2.1,x.2.2.2.2.1,x.2.2.2.2.2.1,x.2.2.2.2.2.2.1.1,x.2.2.2.2.2.2.1.2.1,x.2.2.2.2.2.2.1.2.2.1,x.2.2.2.2.2.2.2.1,x.2.2.2.2.2.2.2.2.1⟩:k9))
  (fun y:k9=>(y.kind,y.proc,y.reg,y.mode,y.code,y.data,(y.s0,y.s1,y.s2,()),y.num,y.val,())) (fun _=>rfl) (fun _=>rfl)
theorem Er {H:Type} {enc:TypeId×Value->H} {W:World} {t e:TypeId} {esz:Nat} {v:Value} {d:DataW H} {ps:List MemPlace} {tl:TL} (ht:Tryz.prog.underlying t=some (.slice e)) (hA:rW W v esz tl)
  (hd:DataW.Trod enc Tryz.prog W 0 (fun _=>true) true t v d ps):tl.len=0\/∃el sp,d= .slice el sp/\el.length=tl.len:=by
 obtain⟨_,_,sa,cap,rfl,_⟩:=hA;obtain⟨fuel,hf⟩:=hd;rcases Go.Deep.open_slice ht hf with⟨hcs,hx⟩|⟨a,len,cap',m,n,D,Pl,hcs,_,_,_,_,hx,_⟩
 ·simp[Value.cells]at hcs;exact .inl hcs.2.1
 ·simp[Value.cells]at hcs;obtain⟨_,h2,_⟩:=hcs;have hx:=congrArg Prod.fst hx;exact .inr ⟨_,_,hx,by simp[h2]⟩
theorem zN {H:Type} {enc:TypeId×Value->H} {a:Assume} {C:Checked} {os:Os} {f:FuncId} {fn:Func} {s:ChangeSpec} {conds:List PathCond} {apart fresh handsOn again:Bool}
  (own:ownKnob C.prog.godebug=none) (started:os.Started) (noInit:C.prog.inits.idxOf? f=none) (hfn:C.prog.funcs[f]? =some fn)
  (witness:∃(w:World) (tape:Tape) (i:Input),w.os=os/\(w.forCall tape i).Shaped C.prog/\i.vars= []/\Input.okWide C.prog (w.forCall tape i) .any w.heap.size f i/\
   s.pre6 enc C.prog fn conds apart (w.forCall tape i).memory i.args/\a.holds C.prog (lone (Frame.enter C.prog f i.args .normal) [] (w.forCall tape i)))
  (contract:∀(W:World) (base:Nat) (args:Array Value) (ds gs:List (DataW H)) (before:List MemPlace),
   (∀(j:Nat) t v,fn.params[j]? =some t->args[j]? =some v->Value.okWide C.prog W .any base t v)->
   DataW.Whole enc C.prog fn.params.toList s.vars apart W args.toList ds gs before->
   (DataW.weightsEach C.prog (fn.params.toList++s.plain.varTypes C.prog) (ds++gs)).all (· <=reachBytes)=true->
   Calls C.prog f args W fun e W'=>∃v,e= .returned v/\s.post enc C.prog fn apart fresh handsOn again W args v W'):
  ReturnsInHanded a C os f .any (s.pre6 enc C.prog fn conds apart) (s.post enc C.prog fn apart fresh handsOn again):=by
 refine returnsInHanded_of_calls own started noInit witness ?_;intro w tape i _ _ _ hok hpre hholds;obtain⟨_,_,_,fn',hfn',_,_,_,_,hval⟩:=hok;have e:fn'=fn:=Option.some.inj (hfn'.symm.trans hfn);subst e;obtain⟨⟨ds,gs,before,hw,hc⟩,hz⟩:=hpre;have hw':=DataW.Whole.of_heap (w':=w.forCall tape i) (by rfl) hw
 refine(contract (w.forCall tape i) w.heap.size i.args ds gs before hval hw' (hz.weights hw)).mono fun e W' ⟨v,he,hp⟩=>?_
 subst he;exact ChangeSpec.post_blind hp
end Go.Proofs.YtlblcfaclmpekaaGreat
