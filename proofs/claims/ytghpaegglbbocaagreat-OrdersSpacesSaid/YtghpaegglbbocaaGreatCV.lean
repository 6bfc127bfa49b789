import Derived.Test.YtghpaegglbbocaaGreatSxF
import Derived.RecoverIn
set_option linter.unusedSimpArgs false
set_option linter.unusedVariables false
set_option maxRecDepth 100000
namespace Go.Proofs.YtghpaegglbbocaaGreat
open Go.Sx
open Go.RowKit (Below)
theorem fS {P:Program} {ro:Option Nat}:(FF P ro).round=ro:=rfl
theorem cq {P:Program} {ops:Array Oper} {Q:Exit->Act->World->Prop} {i:Nat} {rest:List Nat} {a:Act} {w w':World} {o:Oper} {v:Value} (ho:ops[i]? =some o) (hg:o.guard=none)
  (hr:(execOp a.eval o).run P w= .ok (.value v) w') (hc:∀c,o.op≠ .call c) (h:wpOpsIn (FF P none) 0 P ops Q rest (a.put o.dst v) w'):wpOpsIn (FF P none) 0 P ops Q (i::rest) a w:=by
 simp only[wpOpsIn,ho];rw[XR (by simp[Region.wanted,hg])]
 refine dX (ro:=none) (by simp) (fun f hf=>by
  unfold Oper.about at hf;split at hf
  ·rename_i c hc';exact absurd hc' (hc c)
  ·simp at hf) ?_
 rw[hr];exact h
theorem jq {P:Program} {ops:Array Oper} {Q:Exit->Act->World->Prop} {i:Nat} {rest:List Nat} {a:Act} {w w':World} {o:Oper} (ho:ops[i]? =some o) (hg:o.guard=none)
  (hr:(execOp a.eval o).run P w= .ok .skip w') (hc:∀c,o.op≠ .call c) (h:wpOpsIn (FF P none) 0 P ops Q rest (a.put o.dst undef) w'):wpOpsIn (FF P none) 0 P ops Q (i::rest) a w:=by
 simp only[wpOpsIn,ho];rw[XR (by simp[Region.wanted,hg])]
 refine dX (ro:=none) (by simp) (fun f hf=>by
  unfold Oper.about at hf;split at hf
  ·rename_i c hc';exact absurd hc' (hc c)
  ·simp at hf) ?_
 rw[hr];exact h
theorem bM (a:Act) (d:Option Nat) (v:Value):(a.put d v).tmps.size=a.tmps.size:=by cases d<;>simp[Act.put]
theorem cr (a:Act) (v:Value) (o:Operand):(a.put none v).eval o=a.eval o:=rfl
theorem bO (a:Act) (i j:Nat) (v:Value) (h:i<a.tmps.size):(a.put (some i) v).eval (.tmp j)=if i=j then v else a.eval (.tmp j):=by
 simp only[Act.put,Act.eval];by_cases e:i=j
 ·subst e;simp[h]
 ·simp[e]
theorem eD {P:Program} {f a b:Nat} (h:tF P f a b) (hb:b<1000000:=by decide):∀p∈ [(f,a,b)],ur P p.1 p.2.1 p.2.2:=fun p hp=>by
 simp only[List.mem_singleton]at hp;subst hp;refine⟨h.1,fun b off ty cs cs' k n w _ _ h1 h2=>h.2 b off ty cs cs' k n w h1 fun w1 hw1=>?_⟩
 have:=h2 w1 hw1;simp only[A7,Q6,XR hb]at this;exact this
theorem dT {P:Program} {f a b:Nat} (h:IJ P f a b):∀p∈ [(f,a,b+1000000)],ur P p.1 p.2.1 p.2.2:=fun p hp=>by
 simp only[List.mem_singleton]at hp;subst hp;refine⟨h.1,fun c off ty cs cs' k n w hk hn h1 h2=>?_⟩
 obtain rfl:k= .i64:=hk.resolve_left (by simp)
 refine h.2 c off ty cs cs' n w hn h1 fun w1 hw1=>?_
 have:=h2 w1 hw1;simp only[A7,Q6,XQ (show¬b+1000000<1000000 by omega),Nat.add_sub_cancel]at this
 exact this
end Go.Proofs.YtghpaegglbbocaaGreat
set_option maxRecDepth 100000
namespace Go.Proofs.YtghpaegglbbocaaGreat
open Go.Sx
open Go.RowKit (Below)
theorem uO (k:IntKind) (n:Int) (w:World) (t:Nat):(Instr.typeAssert (.iface 223 (.agg #[.int k n])) t 223 true).run Tryz.prog w= .ok (.tuple #[.agg #[.int k n],.bool true]) w:=by
 simp[Instr.typeAssert,go_sem]
theorem gI:tF Tryz.prog 132 223 34:=by
 refine⟨fun p w=>?_,fun b off ty cs₁ cs' k n w hb hs=>?_⟩
 ·refine callsDIn_of_wpSIn Go.Proofs.Tryz.func132 rfl (by show(Tryz.prog.funcs[132]?).isSome=true;kernel_rfl) fun c₀ cs hu=>?_
  apply wpSIn_seq
  apply wpSIn_region
  simp[wpOpsSIn,go_sem,recoverD,hu,Exit.thenS];refine wpSIn_of_wpIn rfl (wpIn_block (wpIn_seq (wpIn_region ?_)));simp[wpOpsIn,go_sem,Exit.then,fS];refine wpIn_cond_true (by simp[Act.eval,Array.replicate]) (wpIn_region ?_)
  simp[wpOpsIn,go_sem,Exit.inBlock,fS];cases c₀;simp_all[bodyPostS,results,Go.Proofs.Tryz.f132]
 ·refine callsDIn_of_wpSIn Go.Proofs.Tryz.func132 rfl (by show(Tryz.prog.funcs[132]?).isSome=true;kernel_rfl) fun c₀ cs hu=>?_
  apply wpSIn_seq
  apply wpSIn_region
  simp[wpOpsSIn,go_sem,recoverD,hu,Exit.thenS];refine wpSIn_of_wpIn rfl (wpIn_block (wpIn_seq (wpIn_region ?_)));simp[wpOpsIn,go_sem,Exit.then,fS];refine wpIn_cond_false (by simp[Act.eval,Array.replicate]) ?_
  refine wpIn_seq (wpIn_region ?_);generalize hA:({tmps:=_,defers:= []}:Act)=A
  have hz:A.tmps.size=15:=by subst hA;simp
  have hdf:A.defers= []:=by subst hA;rfl
  have h0:A.eval (.tmp 0)= .pointer (some ⟨b,off,none⟩):=by subst hA;simp[Act.eval]
  have h5:A.eval (.tmp 5)= .iface 223 (.agg #[.int k n]):=by subst hA;simp[Act.eval]
  clear hA;have hbl:b<w.heap.size:=(Array.getElem?_eq_some_iff.1 hb).1
  have hb1:(w.alloc (.cells #[.int k n] 223)).heap[b]? =some (.cells cs₁ ty (0,0)):=
   (((Below.refl _ w).alloc (Nat.le_refl _) _).block b hbl).trans hb
  refine cq (P:=Tryz.prog) rfl rfl (v:= .tuple #[.agg #[.int k n],.bool true]) (w':=w) (by simp[execOp,h5,uO]) (by intro c;simp) ?_
  refine cq (P:=Tryz.prog) rfl rfl (v:= .bool true) (w':=w) (by simp[execOp,bO,cr,bM,hz,Instr.extract]) (by intro c;simp) ?_
  refine cq (P:=Tryz.prog) rfl rfl (v:= .agg #[.int k n]) (w':=w) (by simp[execOp,bO,cr,bM,hz,Instr.extract]) (by intro c;simp) ?_
  show Code.wpIn _ _ _ _ _ _ _
  refine wpIn_cond_true (by simp[bO,bM,hz]) ?_
  refine wpIn_seq (wpIn_region ?_);refine cq (P:=Tryz.prog) rfl rfl (v:= .pointer (some ⟨w.heap.size,0,none⟩)) (w':=w.alloc (.cells #[.int .i64 0] 223)) (by simp[execOp,Instr.alloc,go_sem]) (by intro c;simp) ?_
  refine jq (P:=Tryz.prog) rfl rfl (w':=w.alloc (.cells #[.int k n] 223)) (by simp[execOp,bO,cr,bM,hz,go_sem]) (by intro c;simp) ?_
  show Code.wpIn _ _ _ _ _ _ _
  refine wpIn_region ?_;refine cq (P:=Tryz.prog) rfl rfl (v:= .pointer (some ⟨b,off,none⟩)) (w':=w.alloc (.cells #[.int k n] 223)) (by simp[execOp,bO,cr,bM,hz,h0]) (by intro c;simp) ?_
  refine cq (P:=Tryz.prog) rfl rfl (v:= .pointer (some ⟨w.heap.size,0,none⟩)) (w':=w.alloc (.cells #[.int k n] 223)) (by simp[execOp,bO,cr,bM,hz,go_sem]) (by intro c;simp) ?_
  refine cq (P:=Tryz.prog) rfl rfl (v:= .int k n) (w':=w.alloc (.cells #[.int k n] 223)) (by simp[execOp,bO,cr,bM,hz,go_sem]) (by intro c;simp) ?_
  refine cq (P:=Tryz.prog) rfl rfl (v:= .pointer (some ⟨b,off,none⟩)) (w':=w.alloc (.cells #[.int k n] 223)) (by simp[execOp,bO,cr,bM,hz]) (by intro c;simp) ?_
  refine jq (P:=Tryz.prog) rfl rfl (w':=(w.alloc (.cells #[.int k n] 223)).setRow b cs') (by simp[execOp,bO,cr,bM,hz,hs _ hb1]) (by intro c;simp) ?_
  have hbe:Below w.heap.size (w.setRow b cs') ((w.alloc (.cells #[.int k n] 223)).setRow b cs'):=by
   have hs1:∀(v:World) (c:Array Value),(v.setRow b c).heap.size=v.heap.size:=fun v c=>by simp[World.setRow]
   refine⟨rfl,rfl,rfl,by rw[hs1,hs1];exact((Below.refl _ w).alloc (Nat.le_refl _) _).size,fun j hj=>?_⟩
   by_cases e:j=b
   ·subst e;rw[gB _ _ _ _ _ hb1,gB _ _ _ _ _ hb]
   ·rw[setRow_other _ _ _ _ e,setRow_other _ _ _ _ e];exact((Below.refl _ w).alloc (Nat.le_refl _) _).block j hj
  refine⟨by simp only[put_defers];exact hdf,_,rfl,.tuple #[],by simp[results,Go.Proofs.Tryz.f132],⟨_,rfl⟩,rfl,hbe⟩
end Go.Proofs.YtghpaegglbbocaaGreat
set_option maxRecDepth 100000
namespace Go.Proofs.YtghpaegglbbocaaGreat
open Go.Sx
open Go.RowKit (Below)
theorem uy (k:IntKind) (n:Int) (w:World) (t:Nat):(Instr.typeAssert (.iface 226 (.agg #[.int k n])) t 226 true).run Tryz.prog w= .ok (.tuple #[.agg #[.int k n],.bool true]) w:=by
 simp[Instr.typeAssert,go_sem]
theorem gp:tF Tryz.prog 151 226 34:=by
 refine⟨fun p w=>?_,fun b off ty cs₁ cs' k n w hb hs=>?_⟩
 ·refine callsDIn_of_wpSIn Go.Proofs.Tryz.func151 rfl (by show(Tryz.prog.funcs[151]?).isSome=true;kernel_rfl) fun c₀ cs hu=>?_
  apply wpSIn_seq
  apply wpSIn_region
  simp[wpOpsSIn,go_sem,recoverD,hu,Exit.thenS];refine wpSIn_of_wpIn rfl (wpIn_block (wpIn_seq (wpIn_region ?_)));simp[wpOpsIn,go_sem,Exit.then,fS];refine wpIn_cond_true (by simp[Act.eval,Array.replicate]) (wpIn_region ?_)
  simp[wpOpsIn,go_sem,Exit.inBlock,fS];cases c₀;simp_all[bodyPostS,results,Go.Proofs.Tryz.f151]
 ·refine callsDIn_of_wpSIn Go.Proofs.Tryz.func151 rfl (by show(Tryz.prog.funcs[151]?).isSome=true;kernel_rfl) fun c₀ cs hu=>?_
  apply wpSIn_seq
  apply wpSIn_region
  simp[wpOpsSIn,go_sem,recoverD,hu,Exit.thenS];refine wpSIn_of_wpIn rfl (wpIn_block (wpIn_seq (wpIn_region ?_)));simp[wpOpsIn,go_sem,Exit.then,fS];refine wpIn_cond_false (by simp[Act.eval,Array.replicate]) ?_
  refine wpIn_seq (wpIn_region ?_);generalize hA:({tmps:=_,defers:= []}:Act)=A
  have hz:A.tmps.size=15:=by subst hA;simp
  have hdf:A.defers= []:=by subst hA;rfl
  have h0:A.eval (.tmp 0)= .pointer (some ⟨b,off,none⟩):=by subst hA;simp[Act.eval]
  have h5:A.eval (.tmp 5)= .iface 226 (.agg #[.int k n]):=by subst hA;simp[Act.eval]
  clear hA;have hbl:b<w.heap.size:=(Array.getElem?_eq_some_iff.1 hb).1
  have hb1:(w.alloc (.cells #[.int k n] 226)).heap[b]? =some (.cells cs₁ ty (0,0)):=
   (((Below.refl _ w).alloc (Nat.le_refl _) _).block b hbl).trans hb
  refine cq (P:=Tryz.prog) rfl rfl (v:= .tuple #[.agg #[.int k n],.bool true]) (w':=w) (by simp[execOp,h5,uy]) (by intro c;simp) ?_
  refine cq (P:=Tryz.prog) rfl rfl (v:= .bool true) (w':=w) (by simp[execOp,bO,cr,bM,hz,Instr.extract]) (by intro c;simp) ?_
  refine cq (P:=Tryz.prog) rfl rfl (v:= .agg #[.int k n]) (w':=w) (by simp[execOp,bO,cr,bM,hz,Instr.extract]) (by intro c;simp) ?_
  show Code.wpIn _ _ _ _ _ _ _
  refine wpIn_cond_true (by simp[bO,bM,hz]) ?_
  refine wpIn_seq (wpIn_region ?_);refine cq (P:=Tryz.prog) rfl rfl (v:= .pointer (some ⟨w.heap.size,0,none⟩)) (w':=w.alloc (.cells #[.int .i64 0] 226)) (by simp[execOp,Instr.alloc,go_sem]) (by intro c;simp) ?_
  refine jq (P:=Tryz.prog) rfl rfl (w':=w.alloc (.cells #[.int k n] 226)) (by simp[execOp,bO,cr,bM,hz,go_sem]) (by intro c;simp) ?_
  show Code.wpIn _ _ _ _ _ _ _
  refine wpIn_region ?_;refine cq (P:=Tryz.prog) rfl rfl (v:= .pointer (some ⟨b,off,none⟩)) (w':=w.alloc (.cells #[.int k n] 226)) (by simp[execOp,bO,cr,bM,hz,h0]) (by intro c;simp) ?_
  refine cq (P:=Tryz.prog) rfl rfl (v:= .pointer (some ⟨w.heap.size,0,none⟩)) (w':=w.alloc (.cells #[.int k n] 226)) (by simp[execOp,bO,cr,bM,hz,go_sem]) (by intro c;simp) ?_
  refine cq (P:=Tryz.prog) rfl rfl (v:= .int k n) (w':=w.alloc (.cells #[.int k n] 226)) (by simp[execOp,bO,cr,bM,hz,go_sem]) (by intro c;simp) ?_
  refine cq (P:=Tryz.prog) rfl rfl (v:= .pointer (some ⟨b,off,none⟩)) (w':=w.alloc (.cells #[.int k n] 226)) (by simp[execOp,bO,cr,bM,hz]) (by intro c;simp) ?_
  refine jq (P:=Tryz.prog) rfl rfl (w':=(w.alloc (.cells #[.int k n] 226)).setRow b cs') (by simp[execOp,bO,cr,bM,hz,hs _ hb1]) (by intro c;simp) ?_
  have hbe:Below w.heap.size (w.setRow b cs') ((w.alloc (.cells #[.int k n] 226)).setRow b cs'):=by
   have hs1:∀(v:World) (c:Array Value),(v.setRow b c).heap.size=v.heap.size:=fun v c=>by simp[World.setRow]
   refine⟨rfl,rfl,rfl,by rw[hs1,hs1];exact((Below.refl _ w).alloc (Nat.le_refl _) _).size,fun j hj=>?_⟩
   by_cases e:j=b
   ·subst e;rw[gB _ _ _ _ _ hb1,gB _ _ _ _ _ hb]
   ·rw[setRow_other _ _ _ _ e,setRow_other _ _ _ _ e];exact((Below.refl _ w).alloc (Nat.le_refl _) _).block j hj
  refine⟨by simp only[put_defers];exact hdf,_,rfl,.tuple #[],by simp[results,Go.Proofs.Tryz.f151],⟨_,rfl⟩,rfl,hbe⟩
end Go.Proofs.YtghpaegglbbocaaGreat
set_option maxRecDepth 100000
namespace Go.Proofs.YtghpaegglbbocaaGreat
open Go.Sx
open Go.RowKit (Below)
theorem vH (k:IntKind) (n:Int) (w:World) (t:Nat):(Instr.typeAssert (.iface 249 (.agg #[.int k n])) t 249 true).run Tryz.prog w= .ok (.tuple #[.agg #[.int k n],.bool true]) w:=by
 simp[Instr.typeAssert,go_sem]
theorem E2:tF Tryz.prog 203 249 153:=by
 refine⟨fun p w=>?_,fun b off ty cs₁ cs' k n w hb hs=>?_⟩
 ·refine callsDIn_of_wpSIn Go.Proofs.Tryz.func203 rfl (by show(Tryz.prog.funcs[203]?).isSome=true;kernel_rfl) fun c₀ cs hu=>?_
  apply wpSIn_seq
  apply wpSIn_region
  simp[wpOpsSIn,go_sem,recoverD,hu,Exit.thenS];refine wpSIn_of_wpIn rfl (wpIn_block (wpIn_seq (wpIn_region ?_)));simp[wpOpsIn,go_sem,Exit.then,fS];refine wpIn_cond_true (by simp[Act.eval,Array.replicate]) (wpIn_region ?_)
  simp[wpOpsIn,go_sem,Exit.inBlock,fS];cases c₀;simp_all[bodyPostS,results,Go.Proofs.Tryz.f203]
 ·refine callsDIn_of_wpSIn Go.Proofs.Tryz.func203 rfl (by show(Tryz.prog.funcs[203]?).isSome=true;kernel_rfl) fun c₀ cs hu=>?_
  apply wpSIn_seq
  apply wpSIn_region
  simp[wpOpsSIn,go_sem,recoverD,hu,Exit.thenS];refine wpSIn_of_wpIn rfl (wpIn_block (wpIn_seq (wpIn_region ?_)));simp[wpOpsIn,go_sem,Exit.then,fS];refine wpIn_cond_false (by simp[Act.eval,Array.replicate]) ?_
  refine wpIn_seq (wpIn_region ?_);generalize hA:({tmps:=_,defers:= []}:Act)=A
  have hz:A.tmps.size=12:=by subst hA;simp
  have hdf:A.defers= []:=by subst hA;rfl
  have h0:A.eval (.tmp 0)= .pointer (some ⟨b,off,none⟩):=by subst hA;simp[Act.eval]
  have h5:A.eval (.tmp 4)= .iface 249 (.agg #[.int k n]):=by subst hA;simp[Act.eval]
  clear hA;have hbl:b<w.heap.size:=(Array.getElem?_eq_some_iff.1 hb).1
  have hb1:(w.alloc (.cells #[.int k n] 249)).heap[b]? =some (.cells cs₁ ty (0,0)):=
   (((Below.refl _ w).alloc (Nat.le_refl _) _).block b hbl).trans hb
  refine cq (P:=Tryz.prog) rfl rfl (v:= .tuple #[.agg #[.int k n],.bool true]) (w':=w) (by simp[execOp,h5,vH]) (by intro c;simp) ?_
  refine cq (P:=Tryz.prog) rfl rfl (v:= .bool true) (w':=w) (by simp[execOp,bO,cr,bM,hz,Instr.extract]) (by intro c;simp) ?_
  refine cq (P:=Tryz.prog) rfl rfl (v:= .agg #[.int k n]) (w':=w) (by simp[execOp,bO,cr,bM,hz,Instr.extract]) (by intro c;simp) ?_
  show Code.wpIn _ _ _ _ _ _ _
  refine wpIn_cond_true (by simp[bO,bM,hz]) ?_
  refine wpIn_seq (wpIn_region ?_);refine cq (P:=Tryz.prog) rfl rfl (v:= .pointer (some ⟨w.heap.size,0,none⟩)) (w':=w.alloc (.cells #[.int .i64 0] 249)) (by simp[execOp,Instr.alloc,go_sem]) (by intro c;simp) ?_
  refine jq (P:=Tryz.prog) rfl rfl (w':=w.alloc (.cells #[.int k n] 249)) (by simp[execOp,bO,cr,bM,hz,go_sem]) (by intro c;simp) ?_
  show Code.wpIn _ _ _ _ _ _ _
  refine wpIn_region ?_;refine cq (P:=Tryz.prog) rfl rfl (v:= .pointer (some ⟨w.heap.size,0,none⟩)) (w':=w.alloc (.cells #[.int k n] 249)) (by simp[execOp,bO,cr,bM,hz,go_sem]) (by intro c;simp) ?_
  refine cq (P:=Tryz.prog) rfl rfl (v:= .int k n) (w':=w.alloc (.cells #[.int k n] 249)) (by simp[execOp,bO,cr,bM,hz,go_sem]) (by intro c;simp) ?_
  refine jq (P:=Tryz.prog) rfl rfl (w':=(w.alloc (.cells #[.int k n] 249)).setRow b cs') (by simp[execOp,bO,cr,bM,hz,h0,hs _ hb1]) (by intro c;simp) ?_
  have hbe:Below w.heap.size (w.setRow b cs') ((w.alloc (.cells #[.int k n] 249)).setRow b cs'):=by
   have hs1:∀(v:World) (c:Array Value),(v.setRow b c).heap.size=v.heap.size:=fun v c=>by simp[World.setRow]
   refine⟨rfl,rfl,rfl,by rw[hs1,hs1];exact((Below.refl _ w).alloc (Nat.le_refl _) _).size,fun j hj=>?_⟩
   by_cases e:j=b
   ·subst e;rw[gB _ _ _ _ _ hb1,gB _ _ _ _ _ hb]
   ·rw[setRow_other _ _ _ _ e,setRow_other _ _ _ _ e];exact((Below.refl _ w).alloc (Nat.le_refl _) _).block j hj
  refine⟨by simp only[put_defers];exact hdf,_,rfl,.tuple #[],by simp[results,Go.Proofs.Tryz.f203],⟨_,rfl⟩,rfl,hbe⟩
end Go.Proofs.YtghpaegglbbocaaGreat
set_option maxRecDepth 100000
namespace Go.Proofs.YtghpaegglbbocaaGreat
open Go.Sx
open Go.RowKit (Below)
theorem uE (k:IntKind) (n:Int) (w:World) (t:Nat):(Instr.typeAssert (.iface 233 (.agg #[.int k n])) t 233 true).run Tryz.prog w= .ok (.tuple #[.agg #[.int k n],.bool true]) w:=by
 simp[Instr.typeAssert,go_sem]
theorem yj:tF Tryz.prog 168 233 34:=by
 refine⟨fun p w=>?_,fun b off ty cs₁ cs' k n w hb hs=>?_⟩
 ·refine callsDIn_of_wpSIn Go.Proofs.Tryz.func168 rfl (by show(Tryz.prog.funcs[168]?).isSome=true;kernel_rfl) fun c₀ cs hu=>?_
  apply wpSIn_seq
  apply wpSIn_region
  simp[wpOpsSIn,go_sem,recoverD,hu,Exit.thenS];refine wpSIn_of_wpIn rfl (wpIn_block (wpIn_seq (wpIn_region ?_)));simp[wpOpsIn,go_sem,Exit.then,fS];refine wpIn_cond_true (by simp[Act.eval,Array.replicate]) (wpIn_region ?_)
  simp[wpOpsIn,go_sem,Exit.inBlock,fS];cases c₀;simp_all[bodyPostS,results,Go.Proofs.Tryz.f168]
 ·refine callsDIn_of_wpSIn Go.Proofs.Tryz.func168 rfl (by show(Tryz.prog.funcs[168]?).isSome=true;kernel_rfl) fun c₀ cs hu=>?_
  apply wpSIn_seq
  apply wpSIn_region
  simp[wpOpsSIn,go_sem,recoverD,hu,Exit.thenS];refine wpSIn_of_wpIn rfl (wpIn_block (wpIn_seq (wpIn_region ?_)));simp[wpOpsIn,go_sem,Exit.then,fS];refine wpIn_cond_false (by simp[Act.eval,Array.replicate]) ?_
  refine wpIn_seq (wpIn_region ?_);generalize hA:({tmps:=_,defers:= []}:Act)=A
  have hz:A.tmps.size=15:=by subst hA;simp
  have hdf:A.defers= []:=by subst hA;rfl
  have h0:A.eval (.tmp 0)= .pointer (some ⟨b,off,none⟩):=by subst hA;simp[Act.eval]
  have h5:A.eval (.tmp 5)= .iface 233 (.agg #[.int k n]):=by subst hA;simp[Act.eval]
  clear hA;have hbl:b<w.heap.size:=(Array.getElem?_eq_some_iff.1 hb).1
  have hb1:(w.alloc (.cells #[.int k n] 233)).heap[b]? =some (.cells cs₁ ty (0,0)):=
   (((Below.refl _ w).alloc (Nat.le_refl _) _).block b hbl).trans hb
  refine cq (P:=Tryz.prog) rfl rfl (v:= .tuple #[.agg #[.int k n],.bool true]) (w':=w) (by simp[execOp,h5,uE]) (by intro c;simp) ?_
  refine cq (P:=Tryz.prog) rfl rfl (v:= .bool true) (w':=w) (by simp[execOp,bO,cr,bM,hz,Instr.extract]) (by intro c;simp) ?_
  refine cq (P:=Tryz.prog) rfl rfl (v:= .agg #[.int k n]) (w':=w) (by simp[execOp,bO,cr,bM,hz,Instr.extract]) (by intro c;simp) ?_
  show Code.wpIn _ _ _ _ _ _ _
  refine wpIn_cond_true (by simp[bO,bM,hz]) ?_
  refine wpIn_seq (wpIn_region ?_);refine cq (P:=Tryz.prog) rfl rfl (v:= .pointer (some ⟨w.heap.size,0,none⟩)) (w':=w.alloc (.cells #[.int .i64 0] 233)) (by simp[execOp,Instr.alloc,go_sem]) (by intro c;simp) ?_
  refine jq (P:=Tryz.prog) rfl rfl (w':=w.alloc (.cells #[.int k n] 233)) (by simp[execOp,bO,cr,bM,hz,go_sem]) (by intro c;simp) ?_
  show Code.wpIn _ _ _ _ _ _ _
  refine wpIn_region ?_;refine cq (P:=Tryz.prog) rfl rfl (v:= .pointer (some ⟨b,off,none⟩)) (w':=w.alloc (.cells #[.int k n] 233)) (by simp[execOp,bO,cr,bM,hz,h0]) (by intro c;simp) ?_
  refine cq (P:=Tryz.prog) rfl rfl (v:= .pointer (some ⟨w.heap.size,0,none⟩)) (w':=w.alloc (.cells #[.int k n] 233)) (by simp[execOp,bO,cr,bM,hz,go_sem]) (by intro c;simp) ?_
  refine cq (P:=Tryz.prog) rfl rfl (v:= .int k n) (w':=w.alloc (.cells #[.int k n] 233)) (by simp[execOp,bO,cr,bM,hz,go_sem]) (by intro c;simp) ?_
  refine cq (P:=Tryz.prog) rfl rfl (v:= .pointer (some ⟨b,off,none⟩)) (w':=w.alloc (.cells #[.int k n] 233)) (by simp[execOp,bO,cr,bM,hz]) (by intro c;simp) ?_
  refine jq (P:=Tryz.prog) rfl rfl (w':=(w.alloc (.cells #[.int k n] 233)).setRow b cs') (by simp[execOp,bO,cr,bM,hz,hs _ hb1]) (by intro c;simp) ?_
  have hbe:Below w.heap.size (w.setRow b cs') ((w.alloc (.cells #[.int k n] 233)).setRow b cs'):=by
   have hs1:∀(v:World) (c:Array Value),(v.setRow b c).heap.size=v.heap.size:=fun v c=>by simp[World.setRow]
   refine⟨rfl,rfl,rfl,by rw[hs1,hs1];exact((Below.refl _ w).alloc (Nat.le_refl _) _).size,fun j hj=>?_⟩
   by_cases e:j=b
   ·subst e;rw[gB _ _ _ _ _ hb1,gB _ _ _ _ _ hb]
   ·rw[setRow_other _ _ _ _ e,setRow_other _ _ _ _ e];exact((Below.refl _ w).alloc (Nat.le_refl _) _).block j hj
  refine⟨by simp only[put_defers];exact hdf,_,rfl,.tuple #[],by simp[results,Go.Proofs.Tryz.f168],⟨_,rfl⟩,rfl,hbe⟩
end Go.Proofs.YtghpaegglbbocaaGreat
set_option maxRecDepth 100000
namespace Go.Proofs.YtghpaegglbbocaaGreat
open Go.Sx
open Go.RowKit (Below)
theorem uA (n:Int) (w:World) (t:Nat):(Instr.typeAssert (.iface 90 (.agg #[.int .i64 n])) t 90 true).run Tryz.prog w= .ok (.tuple #[.agg #[.int .i64 n],.bool true]) w:=by
 simp[Instr.typeAssert,go_sem]
theorem yx {n:Int} (hn:cg .i64 n) (w:World):(Instr.build 28 #[(0,.int .i64 n)]).run Tryz.prog w= .ok (den Env.zero (Rj n)) w:=
 (pL (J:=Env.zero) (w:=w) (K:=fun _=>True) (C:=(Uo [] [] [] bn aP).toCtx) (t:=28) (parts:= [(0,.it .i64 n)]) (r:=Rj n) (yh nO) (by kernel_rfl) (by simp;exact hn)).1
theorem bJ:IJ Tryz.prog 36 90 28:=by
 refine⟨fun p w=>?_,fun b off ty cs₁ cs' n w hn hb hs=>?_⟩
 ·refine callsDIn_of_wpSIn Go.Proofs.Tryz.func36 rfl (by show(Tryz.prog.funcs[36]?).isSome=true;kernel_rfl) fun c₀ cs hu=>?_
  apply wpSIn_seq
  apply wpSIn_region
  simp[wpOpsSIn,go_sem,recoverD,hu,Exit.thenS];refine wpSIn_of_wpIn rfl (wpIn_block (wpIn_seq (wpIn_region ?_)));simp[wpOpsIn,go_sem,Exit.then,fS];refine wpIn_cond_true (by simp[Act.eval,Array.replicate]) (wpIn_region ?_)
  simp[wpOpsIn,go_sem,Exit.inBlock,fS];cases c₀;simp_all[bodyPostS,results,Go.Proofs.Tryz.f36]
 ·refine callsDIn_of_wpSIn Go.Proofs.Tryz.func36 rfl (by show(Tryz.prog.funcs[36]?).isSome=true;kernel_rfl) fun c₀ cs hu=>?_
  apply wpSIn_seq
  apply wpSIn_region
  simp[wpOpsSIn,go_sem,recoverD,hu,Exit.thenS];refine wpSIn_of_wpIn rfl (wpIn_block (wpIn_seq (wpIn_region ?_)));simp[wpOpsIn,go_sem,Exit.then,fS];refine wpIn_cond_false (by simp[Act.eval,Array.replicate]) ?_
  refine wpIn_seq (wpIn_region ?_);generalize hA:({tmps:=_,defers:= []}:Act)=A
  have hz:A.tmps.size=13:=by subst hA;simp
  have hdf:A.defers= []:=by subst hA;rfl
  have h0:A.eval (.tmp 0)= .pointer (some ⟨b,off,none⟩):=by subst hA;simp[Act.eval]
  have h5:A.eval (.tmp 4)= .iface 90 (.agg #[.int .i64 n]):=by subst hA;simp[Act.eval]
  clear hA;have hbl:b<w.heap.size:=(Array.getElem?_eq_some_iff.1 hb).1
  have hb1:(w.alloc (.cells #[.int .i64 n] 90)).heap[b]? =some (.cells cs₁ ty (0,0)):=
   (((Below.refl _ w).alloc (Nat.le_refl _) _).block b hbl).trans hb
  refine cq (P:=Tryz.prog) rfl rfl (v:= .tuple #[.agg #[.int .i64 n],.bool true]) (w':=w) (by simp[execOp,h5,uA]) (by intro c;simp) ?_
  refine cq (P:=Tryz.prog) rfl rfl (v:= .bool true) (w':=w) (by simp[execOp,bO,cr,bM,hz,Instr.extract]) (by intro c;simp) ?_
  refine cq (P:=Tryz.prog) rfl rfl (v:= .agg #[.int .i64 n]) (w':=w) (by simp[execOp,bO,cr,bM,hz,Instr.extract]) (by intro c;simp) ?_
  show Code.wpIn _ _ _ _ _ _ _
  refine wpIn_cond_true (by simp[bO,bM,hz]) ?_
  refine wpIn_seq (wpIn_region ?_);refine cq (P:=Tryz.prog) rfl rfl (v:= .pointer (some ⟨w.heap.size,0,none⟩)) (w':=w.alloc (.cells #[.int .i64 0] 90)) (by simp[execOp,Instr.alloc,go_sem]) (by intro c;simp) ?_
  refine jq (P:=Tryz.prog) rfl rfl (w':=w.alloc (.cells #[.int .i64 n] 90)) (by simp[execOp,bO,cr,bM,hz,go_sem]) (by intro c;simp) ?_
  show Code.wpIn _ _ _ _ _ _ _
  refine wpIn_region ?_;refine cq (P:=Tryz.prog) rfl rfl (v:= .pointer (some ⟨w.heap.size,0,none⟩)) (w':=w.alloc (.cells #[.int .i64 n] 90)) (by simp[execOp,bO,cr,bM,hz,go_sem]) (by intro c;simp) ?_
  refine cq (P:=Tryz.prog) rfl rfl (v:= .int .i64 n) (w':=w.alloc (.cells #[.int .i64 n] 90)) (by simp[execOp,bO,cr,bM,hz,go_sem]) (by intro c;simp) ?_
  refine cq (P:=Tryz.prog) rfl rfl (v:=den Env.zero (Rj n)) (w':=w.alloc (.cells #[.int .i64 n] 90)) (by simp only[execOp,Array.map,bO,cr,bM,hz];first|rfl| (simp[bO,cr,bM,hz,yx hn])) (by intro c;simp) ?_
  refine jq (P:=Tryz.prog) rfl rfl (w':=(w.alloc (.cells #[.int .i64 n] 90)).setRow b cs') (by simp[execOp,bO,cr,bM,hz,h0,hs _ hb1]) (by intro c;simp) ?_
  have hbe:Below w.heap.size (w.setRow b cs') ((w.alloc (.cells #[.int .i64 n] 90)).setRow b cs'):=by
   have hs1:∀(v:World) (c:Array Value),(v.setRow b c).heap.size=v.heap.size:=fun v c=>by simp[World.setRow]
   refine⟨rfl,rfl,rfl,by rw[hs1,hs1];exact((Below.refl _ w).alloc (Nat.le_refl _) _).size,fun j hj=>?_⟩
   by_cases e:j=b
   ·subst e;rw[gB _ _ _ _ _ hb1,gB _ _ _ _ _ hb]
   ·rw[setRow_other _ _ _ _ e,setRow_other _ _ _ _ e];exact((Below.refl _ w).alloc (Nat.le_refl _) _).block j hj
  refine⟨by simp only[put_defers];exact hdf,_,rfl,.tuple #[],by simp[results,Go.Proofs.Tryz.f36],⟨_,rfl⟩,rfl,hbe⟩
end Go.Proofs.YtghpaegglbbocaaGreat
