import Derived.Test.YtmfbohanboiklaaGreatMa9
import Derived.RecoverIn
set_option linter.unusedSimpArgs false
set_option linter.unusedVariables false
set_option maxRecDepth 100000
namespace Go.Proofs.YtmfbohanboiklaaGreat
open Go.Sx
open Go.RowKit (Below)
theorem gT[Fen]{P:Program}{ro:Option Nat}:(FF P ro).round=ro:=rfl
theorem cN[Fen]{P:Program}{ops:Array Oper}{Q:Exit->Act->World->Prop}{i:Nat}{rest:List Nat}{a:Act}{w w':World}{o:Oper}{v:Value}(ho:ops[i]? =some o)(hg:o.guard=none)
  (hr:(execOp a.eval o).run P w= .ok (.value v) w') (hc:∀c,o.op≠ .call c) (h:wpOpsIn (FF P none) 0 P ops Q rest (a.put o.dst v) w'):wpOpsIn (FF P none) 0 P ops Q (i::rest) a w:=by
 simp only[wpOpsIn,ho];rw[ar (by simp[Region.wanted,hg])]
 refine eW (ro:=none) (by simp) (fun f hf=>by
  unfold Oper.about at hf;split at hf
  ·rename_i c hc';exact absurd hc' (hc c)
  ·simp at hf) ?_
 rw[hr];exact h
theorem kC[Fen]{P:Program}{ops:Array Oper}{Q:Exit->Act->World->Prop}{i:Nat}{rest:List Nat}{a:Act}{w w':World}{o:Oper}(ho:ops[i]? =some o)(hg:o.guard=none)
  (hr:(execOp a.eval o).run P w= .ok .skip w') (hc:∀c,o.op≠ .call c) (h:wpOpsIn (FF P none) 0 P ops Q rest (a.put o.dst undef) w'):wpOpsIn (FF P none) 0 P ops Q (i::rest) a w:=by
 simp only[wpOpsIn,ho];rw[ar (by simp[Region.wanted,hg])]
 refine eW (ro:=none) (by simp) (fun f hf=>by
  unfold Oper.about at hf;split at hf
  ·rename_i c hc';exact absurd hc' (hc c)
  ·simp at hf) ?_
 rw[hr];exact h
theorem cg(a:Act)(d:Option Nat)(v:Value):(a.put d v).tmps.size=a.tmps.size:=by cases d<;>simp[Act.put]
theorem cQ(a:Act)(v:Value)(o:Operand):(a.put none v).eval o=a.eval o:=rfl
theorem cj(a:Act)(i j:Nat)(v:Value)(h:i<a.tmps.size):(a.put (some i) v).eval (.tmp j)=if i=j then v else a.eval (.tmp j):=by
 simp only[Act.put,Act.eval];by_cases e:i=j
 ·subst e;simp[h]
 ·simp[e]
theorem ek[Fen]{P:Program}{f a b:Nat}(h:uM P f a b)(hb:b<1000000:=by decide):∀p∈ [(f,a,b)],tV P p.1 p.2.1 p.2.2:=fun p hp=>by
 simp only[List.mem_singleton]at hp;subst hp;refine⟨h.1,fun b off ty cs cs' k n w _ _ h1 h2=>h.2 b off ty cs cs' k n w h1 fun w1 hw1=>?_⟩
 have:=h2 w1 hw1;simp only[DB,Ub,ar hb]at this;exact this
theorem eO[Fen]{P:Program}{f a b:Nat}(h:PS P f a b):∀p∈ [(f,a,b+1000000)],tV P p.1 p.2.1 p.2.2:=fun p hp=>by
 simp only[List.mem_singleton]at hp;subst hp;refine⟨h.1,fun c off ty cs cs' k n w hk hn h1 h2=>?_⟩
 obtain rfl:k= .i64:=hk.resolve_left (by simp)
 refine h.2 c off ty cs cs' n w hn h1 fun w1 hw1=>?_
 have:=h2 w1 hw1;simp only[DB,Ub,aq (show¬b+1000000<1000000 by omega),Nat.add_sub_cancel]at this
 exact this
theorem wa(k:IntKind)(n:Int)(w:World)(t:Nat):(Instr.typeAssert (.iface 280 (.agg #[.int k n])) t 280 true).run Tryz.prog w= .ok (.tuple #[.agg #[.int k n],.bool true]) w:=by
 simp[Instr.typeAssert,go_sem]
theorem iL[Fen]:uM Tryz.prog 184 280 49:=by
 refine⟨fun p w=>?_,fun b off ty cs₁ cs' k n w hb hs=>?_⟩
 ·refine callsDIn_of_wpSIn Go.Proofs.Tryz.func184 rfl (fun _=>by show(Tryz.prog.funcs[184]?).isSome=true;kernel_rfl) fun c₀ cs hu=>?_
  apply wpSIn_seq
  apply wpSIn_region
  simp[wpOpsSIn,go_sem,recoverD,hu,Exit.thenS];refine wpSIn_of_wpIn rfl (wpIn_block (wpIn_seq (wpIn_region ?_)));simp[wpOpsIn,go_sem,Exit.then,gT];refine wpIn_cond_true (by simp[Act.eval,Array.replicate]) (wpIn_region ?_)
  simp[wpOpsIn,go_sem,Exit.inBlock,gT];cases c₀;simp_all[bodyPostS,results,Go.Proofs.Tryz.f184]
 ·refine callsDIn_of_wpSIn Go.Proofs.Tryz.func184 rfl (fun _=>by show(Tryz.prog.funcs[184]?).isSome=true;kernel_rfl) fun c₀ cs hu=>?_
  apply wpSIn_seq
  apply wpSIn_region
  simp[wpOpsSIn,go_sem,recoverD,hu,Exit.thenS];refine wpSIn_of_wpIn rfl (wpIn_block (wpIn_seq (wpIn_region ?_)));simp[wpOpsIn,go_sem,Exit.then,gT];refine wpIn_cond_false (by simp[Act.eval,Array.replicate]) ?_
  refine wpIn_seq (wpIn_region ?_);generalize hA:({tmps:=_,defers:= []}:Act)=A
  have hz:A.tmps.size=15:=by subst hA;simp
  have hdf:A.defers= []:=by subst hA;rfl
  have h0:A.eval (.tmp 0)= .pointer (some ⟨b,off,none⟩):=by subst hA;simp[Act.eval]
  have h5:A.eval (.tmp 5)= .iface 280 (.agg #[.int k n]):=by subst hA;simp[Act.eval]
  clear hA;have hbl:b<w.heap.size:=(Array.getElem?_eq_some_iff.1 hb).1
  have hb1:(w.alloc (.cells #[.int k n] 280)).heap[b]? =some (.cells cs₁ ty (0,0)):=
   (((Below.refl _ w).alloc (Nat.le_refl _) _).block b hbl).trans hb
  refine cN (P:=Tryz.prog) rfl rfl (v:= .tuple #[.agg #[.int k n],.bool true]) (w':=w) (by simp[execOp,h5,wa]) (by intro c;simp) ?_
  refine cN (P:=Tryz.prog) rfl rfl (v:= .bool true) (w':=w) (by simp[execOp,cj,cQ,cg,hz,Instr.extract]) (by intro c;simp) ?_
  refine cN (P:=Tryz.prog) rfl rfl (v:= .agg #[.int k n]) (w':=w) (by simp[execOp,cj,cQ,cg,hz,Instr.extract]) (by intro c;simp) ?_
  show Code.wpIn _ _ _ _ _ _ _
  refine wpIn_cond_true (by simp[cj,cg,hz]) ?_
  refine wpIn_seq (wpIn_region ?_);refine cN (P:=Tryz.prog) rfl rfl (v:= .pointer (some ⟨w.heap.size,0,none⟩)) (w':=w.alloc (.cells #[.int .i64 0] 280)) (by simp[execOp,Instr.alloc,go_sem]) (by intro c;simp) ?_
  refine kC (P:=Tryz.prog) rfl rfl (w':=w.alloc (.cells #[.int k n] 280)) (by simp[execOp,cj,cQ,cg,hz,go_sem]) (by intro c;simp) ?_
  show Code.wpIn _ _ _ _ _ _ _
  refine wpIn_region ?_;refine cN (P:=Tryz.prog) rfl rfl (v:= .pointer (some ⟨b,off,none⟩)) (w':=w.alloc (.cells #[.int k n] 280)) (by simp[execOp,cj,cQ,cg,hz,h0]) (by intro c;simp) ?_
  refine cN (P:=Tryz.prog) rfl rfl (v:= .pointer (some ⟨w.heap.size,0,none⟩)) (w':=w.alloc (.cells #[.int k n] 280)) (by simp[execOp,cj,cQ,cg,hz,go_sem]) (by intro c;simp) ?_
  refine cN (P:=Tryz.prog) rfl rfl (v:= .int k n) (w':=w.alloc (.cells #[.int k n] 280)) (by simp[execOp,cj,cQ,cg,hz,go_sem]) (by intro c;simp) ?_
  refine cN (P:=Tryz.prog) rfl rfl (v:= .pointer (some ⟨b,off,none⟩)) (w':=w.alloc (.cells #[.int k n] 280)) (by simp[execOp,cj,cQ,cg,hz]) (by intro c;simp) ?_
  refine kC (P:=Tryz.prog) rfl rfl (w':=(w.alloc (.cells #[.int k n] 280)).setRow b cs') (by simp[execOp,cj,cQ,cg,hz,hs _ hb1]) (by intro c;simp) ?_
  have hbe:Below w.heap.size (w.setRow b cs') ((w.alloc (.cells #[.int k n] 280)).setRow b cs'):=by
   have hs1:∀(v:World) (c:Array Value),(v.setRow b c).heap.size=v.heap.size:=fun v c=>by simp[World.setRow]
   refine⟨rfl,rfl,rfl,by rw[hs1,hs1];exact((Below.refl _ w).alloc (Nat.le_refl _) _).size,fun j hj=>?_⟩
   by_cases e:j=b
   ·subst e;rw[iV _ _ _ _ _ hb1,iV _ _ _ _ _ hb]
   ·rw[setRow_other _ _ _ _ e,setRow_other _ _ _ _ e];exact((Below.refl _ w).alloc (Nat.le_refl _) _).block j hj
  refine⟨by simp only[put_defers];exact hdf,_,rfl,.tuple #[],by simp[results,Go.Proofs.Tryz.f184],⟨_,rfl⟩,rfl,hbe⟩
theorem v8(k:IntKind)(n:Int)(w:World)(t:Nat):(Instr.typeAssert (.iface 282 (.agg #[.int k n])) t 282 true).run Tryz.prog w= .ok (.tuple #[.agg #[.int k n],.bool true]) w:=by
 simp[Instr.typeAssert,go_sem]
theorem iq[Fen]:uM Tryz.prog 203 282 49:=by
 refine⟨fun p w=>?_,fun b off ty cs₁ cs' k n w hb hs=>?_⟩
 ·refine callsDIn_of_wpSIn Go.Proofs.Tryz.func203 rfl (fun _=>by show(Tryz.prog.funcs[203]?).isSome=true;kernel_rfl) fun c₀ cs hu=>?_
  apply wpSIn_seq
  apply wpSIn_region
  simp[wpOpsSIn,go_sem,recoverD,hu,Exit.thenS];refine wpSIn_of_wpIn rfl (wpIn_block (wpIn_seq (wpIn_region ?_)));simp[wpOpsIn,go_sem,Exit.then,gT];refine wpIn_cond_true (by simp[Act.eval,Array.replicate]) (wpIn_region ?_)
  simp[wpOpsIn,go_sem,Exit.inBlock,gT];cases c₀;simp_all[bodyPostS,results,Go.Proofs.Tryz.f203]
 ·refine callsDIn_of_wpSIn Go.Proofs.Tryz.func203 rfl (fun _=>by show(Tryz.prog.funcs[203]?).isSome=true;kernel_rfl) fun c₀ cs hu=>?_
  apply wpSIn_seq
  apply wpSIn_region
  simp[wpOpsSIn,go_sem,recoverD,hu,Exit.thenS];refine wpSIn_of_wpIn rfl (wpIn_block (wpIn_seq (wpIn_region ?_)));simp[wpOpsIn,go_sem,Exit.then,gT];refine wpIn_cond_false (by simp[Act.eval,Array.replicate]) ?_
  refine wpIn_seq (wpIn_region ?_);generalize hA:({tmps:=_,defers:= []}:Act)=A
  have hz:A.tmps.size=15:=by subst hA;simp
  have hdf:A.defers= []:=by subst hA;rfl
  have h0:A.eval (.tmp 0)= .pointer (some ⟨b,off,none⟩):=by subst hA;simp[Act.eval]
  have h5:A.eval (.tmp 5)= .iface 282 (.agg #[.int k n]):=by subst hA;simp[Act.eval]
  clear hA;have hbl:b<w.heap.size:=(Array.getElem?_eq_some_iff.1 hb).1
  have hb1:(w.alloc (.cells #[.int k n] 282)).heap[b]? =some (.cells cs₁ ty (0,0)):=
   (((Below.refl _ w).alloc (Nat.le_refl _) _).block b hbl).trans hb
  refine cN (P:=Tryz.prog) rfl rfl (v:= .tuple #[.agg #[.int k n],.bool true]) (w':=w) (by simp[execOp,h5,v8]) (by intro c;simp) ?_
  refine cN (P:=Tryz.prog) rfl rfl (v:= .bool true) (w':=w) (by simp[execOp,cj,cQ,cg,hz,Instr.extract]) (by intro c;simp) ?_
  refine cN (P:=Tryz.prog) rfl rfl (v:= .agg #[.int k n]) (w':=w) (by simp[execOp,cj,cQ,cg,hz,Instr.extract]) (by intro c;simp) ?_
  show Code.wpIn _ _ _ _ _ _ _
  refine wpIn_cond_true (by simp[cj,cg,hz]) ?_
  refine wpIn_seq (wpIn_region ?_);refine cN (P:=Tryz.prog) rfl rfl (v:= .pointer (some ⟨w.heap.size,0,none⟩)) (w':=w.alloc (.cells #[.int .i64 0] 282)) (by simp[execOp,Instr.alloc,go_sem]) (by intro c;simp) ?_
  refine kC (P:=Tryz.prog) rfl rfl (w':=w.alloc (.cells #[.int k n] 282)) (by simp[execOp,cj,cQ,cg,hz,go_sem]) (by intro c;simp) ?_
  show Code.wpIn _ _ _ _ _ _ _
  refine wpIn_region ?_;refine cN (P:=Tryz.prog) rfl rfl (v:= .pointer (some ⟨b,off,none⟩)) (w':=w.alloc (.cells #[.int k n] 282)) (by simp[execOp,cj,cQ,cg,hz,h0]) (by intro c;simp) ?_
  refine cN (P:=Tryz.prog) rfl rfl (v:= .pointer (some ⟨w.heap.size,0,none⟩)) (w':=w.alloc (.cells #[.int k n] 282)) (by simp[execOp,cj,cQ,cg,hz,go_sem]) (by intro c;simp) ?_
  refine cN (P:=Tryz.prog) rfl rfl (v:= .int k n) (w':=w.alloc (.cells #[.int k n] 282)) (by simp[execOp,cj,cQ,cg,hz,go_sem]) (by intro c;simp) ?_
  refine cN (P:=Tryz.prog) rfl rfl (v:= .pointer (some ⟨b,off,none⟩)) (w':=w.alloc (.cells #[.int k n] 282)) (by simp[execOp,cj,cQ,cg,hz]) (by intro c;simp) ?_
  refine kC (P:=Tryz.prog) rfl rfl (w':=(w.alloc (.cells #[.int k n] 282)).setRow b cs') (by simp[execOp,cj,cQ,cg,hz,hs _ hb1]) (by intro c;simp) ?_
  have hbe:Below w.heap.size (w.setRow b cs') ((w.alloc (.cells #[.int k n] 282)).setRow b cs'):=by
   have hs1:∀(v:World) (c:Array Value),(v.setRow b c).heap.size=v.heap.size:=fun v c=>by simp[World.setRow]
   refine⟨rfl,rfl,rfl,by rw[hs1,hs1];exact((Below.refl _ w).alloc (Nat.le_refl _) _).size,fun j hj=>?_⟩
   by_cases e:j=b
   ·subst e;rw[iV _ _ _ _ _ hb1,iV _ _ _ _ _ hb]
   ·rw[setRow_other _ _ _ _ e,setRow_other _ _ _ _ e];exact((Below.refl _ w).alloc (Nat.le_refl _) _).block j hj
  refine⟨by simp only[put_defers];exact hdf,_,rfl,.tuple #[],by simp[results,Go.Proofs.Tryz.f203],⟨_,rfl⟩,rfl,hbe⟩
theorem xV(k:IntKind)(n:Int)(w:World)(t:Nat):(Instr.typeAssert (.iface 299 (.agg #[.int k n])) t 299 true).run Tryz.prog w= .ok (.tuple #[.agg #[.int k n],.bool true]) w:=by
 simp[Instr.typeAssert,go_sem]
theorem Jl[Fen]:uM Tryz.prog 231 299 268:=by
 refine⟨fun p w=>?_,fun b off ty cs₁ cs' k n w hb hs=>?_⟩
 ·refine callsDIn_of_wpSIn Go.Proofs.Tryz.func231 rfl (fun _=>by show(Tryz.prog.funcs[231]?).isSome=true;kernel_rfl) fun c₀ cs hu=>?_
  apply wpSIn_seq
  apply wpSIn_region
  simp[wpOpsSIn,go_sem,recoverD,hu,Exit.thenS];refine wpSIn_of_wpIn rfl (wpIn_block (wpIn_seq (wpIn_region ?_)));simp[wpOpsIn,go_sem,Exit.then,gT];refine wpIn_cond_true (by simp[Act.eval,Array.replicate]) (wpIn_region ?_)
  simp[wpOpsIn,go_sem,Exit.inBlock,gT];cases c₀;simp_all[bodyPostS,results,Go.Proofs.Tryz.f231]
 ·refine callsDIn_of_wpSIn Go.Proofs.Tryz.func231 rfl (fun _=>by show(Tryz.prog.funcs[231]?).isSome=true;kernel_rfl) fun c₀ cs hu=>?_
  apply wpSIn_seq
  apply wpSIn_region
  simp[wpOpsSIn,go_sem,recoverD,hu,Exit.thenS];refine wpSIn_of_wpIn rfl (wpIn_block (wpIn_seq (wpIn_region ?_)));simp[wpOpsIn,go_sem,Exit.then,gT];refine wpIn_cond_false (by simp[Act.eval,Array.replicate]) ?_
  refine wpIn_seq (wpIn_region ?_);generalize hA:({tmps:=_,defers:= []}:Act)=A
  have hz:A.tmps.size=12:=by subst hA;simp
  have hdf:A.defers= []:=by subst hA;rfl
  have h0:A.eval (.tmp 0)= .pointer (some ⟨b,off,none⟩):=by subst hA;simp[Act.eval]
  have h5:A.eval (.tmp 4)= .iface 299 (.agg #[.int k n]):=by subst hA;simp[Act.eval]
  clear hA;have hbl:b<w.heap.size:=(Array.getElem?_eq_some_iff.1 hb).1
  have hb1:(w.alloc (.cells #[.int k n] 299)).heap[b]? =some (.cells cs₁ ty (0,0)):=
   (((Below.refl _ w).alloc (Nat.le_refl _) _).block b hbl).trans hb
  refine cN (P:=Tryz.prog) rfl rfl (v:= .tuple #[.agg #[.int k n],.bool true]) (w':=w) (by simp[execOp,h5,xV]) (by intro c;simp) ?_
  refine cN (P:=Tryz.prog) rfl rfl (v:= .bool true) (w':=w) (by simp[execOp,cj,cQ,cg,hz,Instr.extract]) (by intro c;simp) ?_
  refine cN (P:=Tryz.prog) rfl rfl (v:= .agg #[.int k n]) (w':=w) (by simp[execOp,cj,cQ,cg,hz,Instr.extract]) (by intro c;simp) ?_
  show Code.wpIn _ _ _ _ _ _ _
  refine wpIn_cond_true (by simp[cj,cg,hz]) ?_
  refine wpIn_seq (wpIn_region ?_);refine cN (P:=Tryz.prog) rfl rfl (v:= .pointer (some ⟨w.heap.size,0,none⟩)) (w':=w.alloc (.cells #[.int .i64 0] 299)) (by simp[execOp,Instr.alloc,go_sem]) (by intro c;simp) ?_
  refine kC (P:=Tryz.prog) rfl rfl (w':=w.alloc (.cells #[.int k n] 299)) (by simp[execOp,cj,cQ,cg,hz,go_sem]) (by intro c;simp) ?_
  show Code.wpIn _ _ _ _ _ _ _
  refine wpIn_region ?_;refine cN (P:=Tryz.prog) rfl rfl (v:= .pointer (some ⟨w.heap.size,0,none⟩)) (w':=w.alloc (.cells #[.int k n] 299)) (by simp[execOp,cj,cQ,cg,hz,go_sem]) (by intro c;simp) ?_
  refine cN (P:=Tryz.prog) rfl rfl (v:= .int k n) (w':=w.alloc (.cells #[.int k n] 299)) (by simp[execOp,cj,cQ,cg,hz,go_sem]) (by intro c;simp) ?_
  refine kC (P:=Tryz.prog) rfl rfl (w':=(w.alloc (.cells #[.int k n] 299)).setRow b cs') (by simp[execOp,cj,cQ,cg,hz,h0,hs _ hb1]) (by intro c;simp) ?_
  have hbe:Below w.heap.size (w.setRow b cs') ((w.alloc (.cells #[.int k n] 299)).setRow b cs'):=by
   have hs1:∀(v:World) (c:Array Value),(v.setRow b c).heap.size=v.heap.size:=fun v c=>by simp[World.setRow]
   refine⟨rfl,rfl,rfl,by rw[hs1,hs1];exact((Below.refl _ w).alloc (Nat.le_refl _) _).size,fun j hj=>?_⟩
   by_cases e:j=b
   ·subst e;rw[iV _ _ _ _ _ hb1,iV _ _ _ _ _ hb]
   ·rw[setRow_other _ _ _ _ e,setRow_other _ _ _ _ e];exact((Below.refl _ w).alloc (Nat.le_refl _) _).block j hj
  refine⟨by simp only[put_defers];exact hdf,_,rfl,.tuple #[],by simp[results,Go.Proofs.Tryz.f231],⟨_,rfl⟩,rfl,hbe⟩
theorem wQ(k:IntKind)(n:Int)(w:World)(t:Nat):(Instr.typeAssert (.iface 191 (.agg #[.int k n])) t 191 true).run Tryz.prog w= .ok (.tuple #[.agg #[.int k n],.bool true]) w:=by
 simp[Instr.typeAssert,go_sem]
theorem lB[Fen]:uM Tryz.prog 82 191 49:=by
 refine⟨fun p w=>?_,fun b off ty cs₁ cs' k n w hb hs=>?_⟩
 ·refine callsDIn_of_wpSIn Go.Proofs.Tryz.func82 rfl (fun _=>by show(Tryz.prog.funcs[82]?).isSome=true;kernel_rfl) fun c₀ cs hu=>?_
  apply wpSIn_seq
  apply wpSIn_region
  simp[wpOpsSIn,go_sem,recoverD,hu,Exit.thenS];refine wpSIn_of_wpIn rfl (wpIn_block (wpIn_seq (wpIn_region ?_)));simp[wpOpsIn,go_sem,Exit.then,gT];refine wpIn_cond_true (by simp[Act.eval,Array.replicate]) (wpIn_region ?_)
  simp[wpOpsIn,go_sem,Exit.inBlock,gT];cases c₀;simp_all[bodyPostS,results,Go.Proofs.Tryz.f82]
 ·refine callsDIn_of_wpSIn Go.Proofs.Tryz.func82 rfl (fun _=>by show(Tryz.prog.funcs[82]?).isSome=true;kernel_rfl) fun c₀ cs hu=>?_
  apply wpSIn_seq
  apply wpSIn_region
  simp[wpOpsSIn,go_sem,recoverD,hu,Exit.thenS];refine wpSIn_of_wpIn rfl (wpIn_block (wpIn_seq (wpIn_region ?_)));simp[wpOpsIn,go_sem,Exit.then,gT];refine wpIn_cond_false (by simp[Act.eval,Array.replicate]) ?_
  refine wpIn_seq (wpIn_region ?_);generalize hA:({tmps:=_,defers:= []}:Act)=A
  have hz:A.tmps.size=15:=by subst hA;simp
  have hdf:A.defers= []:=by subst hA;rfl
  have h0:A.eval (.tmp 0)= .pointer (some ⟨b,off,none⟩):=by subst hA;simp[Act.eval]
  have h5:A.eval (.tmp 5)= .iface 191 (.agg #[.int k n]):=by subst hA;simp[Act.eval]
  clear hA;have hbl:b<w.heap.size:=(Array.getElem?_eq_some_iff.1 hb).1
  have hb1:(w.alloc (.cells #[.int k n] 191)).heap[b]? =some (.cells cs₁ ty (0,0)):=
   (((Below.refl _ w).alloc (Nat.le_refl _) _).block b hbl).trans hb
  refine cN (P:=Tryz.prog) rfl rfl (v:= .tuple #[.agg #[.int k n],.bool true]) (w':=w) (by simp[execOp,h5,wQ]) (by intro c;simp) ?_
  refine cN (P:=Tryz.prog) rfl rfl (v:= .bool true) (w':=w) (by simp[execOp,cj,cQ,cg,hz,Instr.extract]) (by intro c;simp) ?_
  refine cN (P:=Tryz.prog) rfl rfl (v:= .agg #[.int k n]) (w':=w) (by simp[execOp,cj,cQ,cg,hz,Instr.extract]) (by intro c;simp) ?_
  show Code.wpIn _ _ _ _ _ _ _
  refine wpIn_cond_true (by simp[cj,cg,hz]) ?_
  refine wpIn_seq (wpIn_region ?_);refine cN (P:=Tryz.prog) rfl rfl (v:= .pointer (some ⟨w.heap.size,0,none⟩)) (w':=w.alloc (.cells #[.int .i64 0] 191)) (by simp[execOp,Instr.alloc,go_sem]) (by intro c;simp) ?_
  refine kC (P:=Tryz.prog) rfl rfl (w':=w.alloc (.cells #[.int k n] 191)) (by simp[execOp,cj,cQ,cg,hz,go_sem]) (by intro c;simp) ?_
  show Code.wpIn _ _ _ _ _ _ _
  refine wpIn_region ?_;refine cN (P:=Tryz.prog) rfl rfl (v:= .pointer (some ⟨b,off,none⟩)) (w':=w.alloc (.cells #[.int k n] 191)) (by simp[execOp,cj,cQ,cg,hz,h0]) (by intro c;simp) ?_
  refine cN (P:=Tryz.prog) rfl rfl (v:= .pointer (some ⟨w.heap.size,0,none⟩)) (w':=w.alloc (.cells #[.int k n] 191)) (by simp[execOp,cj,cQ,cg,hz,go_sem]) (by intro c;simp) ?_
  refine cN (P:=Tryz.prog) rfl rfl (v:= .int k n) (w':=w.alloc (.cells #[.int k n] 191)) (by simp[execOp,cj,cQ,cg,hz,go_sem]) (by intro c;simp) ?_
  refine cN (P:=Tryz.prog) rfl rfl (v:= .pointer (some ⟨b,off,none⟩)) (w':=w.alloc (.cells #[.int k n] 191)) (by simp[execOp,cj,cQ,cg,hz]) (by intro c;simp) ?_
  refine kC (P:=Tryz.prog) rfl rfl (w':=(w.alloc (.cells #[.int k n] 191)).setRow b cs') (by simp[execOp,cj,cQ,cg,hz,hs _ hb1]) (by intro c;simp) ?_
  have hbe:Below w.heap.size (w.setRow b cs') ((w.alloc (.cells #[.int k n] 191)).setRow b cs'):=by
   have hs1:∀(v:World) (c:Array Value),(v.setRow b c).heap.size=v.heap.size:=fun v c=>by simp[World.setRow]
   refine⟨rfl,rfl,rfl,by rw[hs1,hs1];exact((Below.refl _ w).alloc (Nat.le_refl _) _).size,fun j hj=>?_⟩
   by_cases e:j=b
   ·subst e;rw[iV _ _ _ _ _ hb1,iV _ _ _ _ _ hb]
   ·rw[setRow_other _ _ _ _ e,setRow_other _ _ _ _ e];exact((Below.refl _ w).alloc (Nat.le_refl _) _).block j hj
  refine⟨by simp only[put_defers];exact hdf,_,rfl,.tuple #[],by simp[results,Go.Proofs.Tryz.f82],⟨_,rfl⟩,rfl,hbe⟩
theorem wu(n:Int)(w:World)(t:Nat):(Instr.typeAssert (.iface 195 (.agg #[.int .i64 n])) t 195 true).run Tryz.prog w= .ok (.tuple #[.agg #[.int .i64 n],.bool true]) w:=by
 simp[Instr.typeAssert,go_sem]
theorem A8{n:Int}(hn:cB .i64 n)(w:World):(Instr.build 66 #[(0,.int .i64 n)]).run Tryz.prog w= .ok (den Env.zero (Xl n)) w:=
 (sd (J:=Env.zero) (w:=w) (K:=fun _=>True) (C:=(cfd [] [] [] cH bn).toCtx) (t:=66) (parts:= [(0,.it .i64 n)]) (r:=Xl n) (wP nE) (by kernel_rfl) (by simp;exact hn)).1
theorem bZ[Fen]:PS Tryz.prog 110 195 66:=by
 refine⟨fun p w=>?_,fun b off ty cs₁ cs' n w hn hb hs=>?_⟩
 ·refine callsDIn_of_wpSIn Go.Proofs.Tryz.func110 rfl (fun _=>by show(Tryz.prog.funcs[110]?).isSome=true;kernel_rfl) fun c₀ cs hu=>?_
  apply wpSIn_seq
  apply wpSIn_region
  simp[wpOpsSIn,go_sem,recoverD,hu,Exit.thenS];refine wpSIn_of_wpIn rfl (wpIn_block (wpIn_seq (wpIn_region ?_)));simp[wpOpsIn,go_sem,Exit.then,gT];refine wpIn_cond_true (by simp[Act.eval,Array.replicate]) (wpIn_region ?_)
  simp[wpOpsIn,go_sem,Exit.inBlock,gT];cases c₀;simp_all[bodyPostS,results,Go.Proofs.Tryz.f110]
 ·refine callsDIn_of_wpSIn Go.Proofs.Tryz.func110 rfl (fun _=>by show(Tryz.prog.funcs[110]?).isSome=true;kernel_rfl) fun c₀ cs hu=>?_
  apply wpSIn_seq
  apply wpSIn_region
  simp[wpOpsSIn,go_sem,recoverD,hu,Exit.thenS];refine wpSIn_of_wpIn rfl (wpIn_block (wpIn_seq (wpIn_region ?_)));simp[wpOpsIn,go_sem,Exit.then,gT];refine wpIn_cond_false (by simp[Act.eval,Array.replicate]) ?_
  refine wpIn_seq (wpIn_region ?_);generalize hA:({tmps:=_,defers:= []}:Act)=A
  have hz:A.tmps.size=13:=by subst hA;simp
  have hdf:A.defers= []:=by subst hA;rfl
  have h0:A.eval (.tmp 0)= .pointer (some ⟨b,off,none⟩):=by subst hA;simp[Act.eval]
  have h5:A.eval (.tmp 4)= .iface 195 (.agg #[.int .i64 n]):=by subst hA;simp[Act.eval]
  clear hA;have hbl:b<w.heap.size:=(Array.getElem?_eq_some_iff.1 hb).1
  have hb1:(w.alloc (.cells #[.int .i64 n] 195)).heap[b]? =some (.cells cs₁ ty (0,0)):=
   (((Below.refl _ w).alloc (Nat.le_refl _) _).block b hbl).trans hb
  refine cN (P:=Tryz.prog) rfl rfl (v:= .tuple #[.agg #[.int .i64 n],.bool true]) (w':=w) (by simp[execOp,h5,wu]) (by intro c;simp) ?_
  refine cN (P:=Tryz.prog) rfl rfl (v:= .bool true) (w':=w) (by simp[execOp,cj,cQ,cg,hz,Instr.extract]) (by intro c;simp) ?_
  refine cN (P:=Tryz.prog) rfl rfl (v:= .agg #[.int .i64 n]) (w':=w) (by simp[execOp,cj,cQ,cg,hz,Instr.extract]) (by intro c;simp) ?_
  show Code.wpIn _ _ _ _ _ _ _
  refine wpIn_cond_true (by simp[cj,cg,hz]) ?_
  refine wpIn_seq (wpIn_region ?_);refine cN (P:=Tryz.prog) rfl rfl (v:= .pointer (some ⟨w.heap.size,0,none⟩)) (w':=w.alloc (.cells #[.int .i64 0] 195)) (by simp[execOp,Instr.alloc,go_sem]) (by intro c;simp) ?_
  refine kC (P:=Tryz.prog) rfl rfl (w':=w.alloc (.cells #[.int .i64 n] 195)) (by simp[execOp,cj,cQ,cg,hz,go_sem]) (by intro c;simp) ?_
  show Code.wpIn _ _ _ _ _ _ _
  refine wpIn_region ?_;refine cN (P:=Tryz.prog) rfl rfl (v:= .pointer (some ⟨w.heap.size,0,none⟩)) (w':=w.alloc (.cells #[.int .i64 n] 195)) (by simp[execOp,cj,cQ,cg,hz,go_sem]) (by intro c;simp) ?_
  refine cN (P:=Tryz.prog) rfl rfl (v:= .int .i64 n) (w':=w.alloc (.cells #[.int .i64 n] 195)) (by simp[execOp,cj,cQ,cg,hz,go_sem]) (by intro c;simp) ?_
  refine cN (P:=Tryz.prog) rfl rfl (v:=den Env.zero (Xl n)) (w':=w.alloc (.cells #[.int .i64 n] 195)) (by simp only[execOp,Array.map,cj,cQ,cg,hz];first|rfl| (simp[cj,cQ,cg,hz,A8 hn])) (by intro c;simp) ?_
  refine kC (P:=Tryz.prog) rfl rfl (w':=(w.alloc (.cells #[.int .i64 n] 195)).setRow b cs') (by simp[execOp,cj,cQ,cg,hz,h0,hs _ hb1]) (by intro c;simp) ?_
  have hbe:Below w.heap.size (w.setRow b cs') ((w.alloc (.cells #[.int .i64 n] 195)).setRow b cs'):=by
   have hs1:∀(v:World) (c:Array Value),(v.setRow b c).heap.size=v.heap.size:=fun v c=>by simp[World.setRow]
   refine⟨rfl,rfl,rfl,by rw[hs1,hs1];exact((Below.refl _ w).alloc (Nat.le_refl _) _).size,fun j hj=>?_⟩
   by_cases e:j=b
   ·subst e;rw[iV _ _ _ _ _ hb1,iV _ _ _ _ _ hb]
   ·rw[setRow_other _ _ _ _ e,setRow_other _ _ _ _ e];exact((Below.refl _ w).alloc (Nat.le_refl _) _).block j hj
  refine⟨by simp only[put_defers];exact hdf,_,rfl,.tuple #[],by simp[results,Go.Proofs.Tryz.f110],⟨_,rfl⟩,rfl,hbe⟩
theorem N1(k:Key):
 ((bD []|| !decide (bO k=0))=true->void=aI [] k)/\
   ((bD []|| !decide (bO k=0))=false->
     ((bc k&& !bk [] k)=true->void=aI [] k)/\((bc k&& !bk [] k)=false->k=aI [] k)):=by
 exact FE [] k
theorem Nt(L:List Sx.Obj)(k:Key):
 ((bD L|| !decide (bO k=0))=true->void=aI L k)/\
   ((bD L|| !decide (bO k=0))=false->
     ((bc k&& !bk L k)=true->void=aI L k)/\((bc k&& !bk L k)=false->k=aI L k)):=by
 exact FE L k
theorem gI[Fen]:dO Tryz.prog 26 X5:=
 yj iF (fun _ _=>rfl) (fun x _=>bP (inl:=cH) (ann:=bn) (aH qt (aH gK (aH dC (aH bT aP)))) (N1 x) (by kernel_rfl)) (fun L x _ _ _=>bP (inl:=cH) (ann:=bn) (aH qt (aH gK (aH dC (aH bT aP)))) (Nt L x) (by kernel_rfl)) fun _=>rfl
end Go.Proofs.YtmfbohanboiklaaGreat
namespace Go.Sx
def wkX(nid:Nat):V:= .mp nid
def wkN(nid:Nat):List aS:= [.mp .i64 [2,3,1,8] [.fn 116 [.lp (nid+1) 0],.fn 116 [.lp (nid+1+1) 0],.fn 114 [],.fn 114 []],
 .blk 36 (.ci .i64 3),.blk 36 (.ci .i64 1)]
def tN:Nat:=238
def clR(L:List Obj)(t f:Key)(g:Int):aS:= .blk tN (.ag [.ob (gY (aG L t) (gG L t f g)),.lp 0 0,.key t])
end Go.Sx
namespace Go.Proofs.YtmfbohanboiklaaGreat
open Go.Sx
theorem Tx:
 true=true/\
 true=true/\
  ∀(nid:Nat),some (wkX nid)=some (wkX nid)/\some (wkN nid)=some (wkN nid):=by
 exact⟨rfl,rfl,fun nid=>⟨rfl,rfl⟩⟩
theorem UI[Fen]:dO Tryz.prog 97 (BR wkX wkN):=vB (π:= [0,1,2]) (by decide) (fun _=>rfl) (bU (inl:=(aeq [115])) (ann:=bn) aP aT Tx (by kernel_rfl))
theorem LG(k:Key):
 au (!decide (bO k=0)) (void=ea k/\2=bO k) (au (decide (k.kind=2)||(decide (k.kind=3)||(decide (k.kind=1)||decide (k.kind=8)))) (au (decide (k.kind=2)) (aw ({kind:=k.kind,oid:=k.oid,count:=k.count,call:=k.call,rights:=bu BinOp.or IntKind.i64 k.rights 3,value:=k.value}=ea k/\0=bO k)) (au (decide (k.kind=3)) (aw ({kind:=k.kind,oid:=k.oid,count:=k.count,call:=k.call,rights:=bu BinOp.or IntKind.i64 k.rights 1,value:=k.value}=ea k/\0=bO k)) (au (decide (k.kind=1)) (aw (k=ea k/\0=bO k)) (au (decide (k.kind=8)) (aw (k=ea k/\0=bO k)) False)))) (void=ea k/\0=bO k)):=by
 delta au aw
 unfold ea bO;cases hok:aR k
 ·simp
 have hr:=ga hok;have o3:k.kind=2->bu BinOp.or IntKind.i64 k.rights 3=bM k.rights 3:=fun e=>OB hr.1 (by rw[e]at hr;exact hr.2)
 have o1:k.kind=3->bu BinOp.or IntKind.i64 k.rights 1=1:=fun e=>EV hr.1 (by rw[e]at hr;exact hr.2)
 unfold gH cU;grind
theorem wH[Fen]:dO Tryz.prog 72 MQ:=
 tE iF (fun _=>rfl) fun k hk=>bU (inl:=(aeq [116,114])) (ann:=bn) (aH gK (aH UI aP)) aT (LG k) (by kernel_rfl)
theorem ML(o:Sx.Obj)(k:Key)(i:Int)(hq:pd k i):
 (0<=i/\i< ↑16)/\
  ((!decide (bu BinOp.and IntKind.i64 k.rights 2=0))=true->
    ea (aI [] (o.slots.at i.toNat))=jV [] o k i)/\
    ((!decide (bu BinOp.and IntKind.i64 k.rights 2=0))=false->
      aI [] (o.slots.at i.toNat)=jV [] o k i):=by
 exact Kt hq
theorem Up(o:Sx.Obj)(L:List Sx.Obj)(k:Key)(i:Int)(hq:pd k i):
 (0<=i/\i< ↑16)/\
  ((!decide (bu BinOp.and IntKind.i64 k.rights 2=0))=true->
    ea (aI L (o.slots.at i.toNat))=jV L o k i)/\
    ((!decide (bu BinOp.and IntKind.i64 k.rights 2=0))=false->aI L (o.slots.at i.toNat)=jV L o k i):=by
 exact Kt hq
theorem oT[Fen]:dO Tryz.prog 187 Zc:=
 kW (ba (D3 acJ) (ba fx dq)) (fun _=>rfl) fun a hq hok=>by
  obtain⟨⟨o,S,k,_⟩,i,_⟩:=a;cases S with
  |none=>exact bP (inl:=cH) (ann:=bn) (aH gI (aH wH aP)) (ML o k i hq) (by kernel_rfl)
  |some L=>exact bP (inl:=cH) (ann:=bn) (aH gI (aH wH aP)) (Up o L k i hq) (by kernel_rfl)
theorem O9(k:Key)(i:Int):
 aw (aw (au (!decide (0<aJ [])) (void=bf [] k i/\1=dB [] k i) (aw (au (!(bk [] k&&decide (k.kind=2))) (void=bf [] k i/\190=dB [] k i) (aw (aw (au (!(decide (0<=i)&&decide (i<16))) (void=bf [] k i/\4=dB [] k i) (pd k i/\jV [] (aG [] k) k i=bf [] k i/\0=dB [] k i)))))))):=by
 delta au aw
 have hE:∀e,bq [] k 2 false=e->e≠0->void=bf [] k i/\e=dB [] k i:=fun e h h0=>by
  unfold bf dB;rw[h,aq h0,aq h0];exact⟨rfl,rfl⟩
 refine⟨rfl,rfl,fun h=>hE _ ?_ (by omega),fun h=>⟨rfl,fun h2=>hE _ ?_ (by omega),fun h2=>⟨rfl,rfl,fun h3=>?_,fun h3=>?_⟩⟩⟩
 ·unfold bq;unfold aJ at h;rw[ar (by simp at h;omega)]
 ·unfold bq;unfold aJ at h;rw[aq (by simp at h;omega),ar (by simpa using h2)]
 ·have hA:bq [] k 2 false=0:=by
   unfold bq;unfold aJ at h;rw[aq (by simp at h;omega),aq (by simpa using h2),aq (by simp)]
  rw[Bool.not_eq_true']at h3;unfold bf dB lh;rw[hA,ar rfl,h3];exact⟨rfl,rfl⟩
 ·have hA:bq [] k 2 false=0:=by
   unfold bq;unfold aJ at h;rw[aq (by simp at h;omega),aq (by simpa using h2),aq (by simp)]
  obtain⟨a1,_,_⟩:=jv hA;obtain⟨b1,b2,b3,b4,_⟩:=eT a1;rw[Bool.not_eq_false']at h3;have h3':0<=i/\i<16:=by simpa using h3
  unfold bf dB lh;rw[hA,ar rfl,h3,ar rfl,ar rfl,b4];exact⟨⟨h3'.1,h3'.2,b1⟩,rfl,rfl⟩
theorem VS(L:List Sx.Obj)(k:Key)(i:Int):
 aw (aw (au (!decide (0<aJ L)) (void=bf L k i/\1=dB L k i) (aw (au (!(bk L k&&decide (k.kind=2))) (void=bf L k i/\190=dB L k i) (aw (aw (au (!(decide (0<=i)&&decide (i<16))) (void=bf L k i/\4=dB L k i) (pd k i/\jV L (aG L k) k i=bf L k i/\0=dB L k i)))))))):=by
 delta au aw
 have hE:∀e,bq L k 2 false=e->e≠0->void=bf L k i/\e=dB L k i:=fun e h h0=>by
  unfold bf dB;rw[h,aq h0,aq h0];exact⟨rfl,rfl⟩
 refine⟨rfl,rfl,fun h=>hE _ ?_ (by omega),fun h=>⟨rfl,fun h2=>hE _ ?_ (by omega),fun h2=>⟨rfl,rfl,fun h3=>?_,fun h3=>?_⟩⟩⟩
 ·unfold bq;unfold aJ at h;rw[ar (by simp at h;omega)]
 ·unfold bq;unfold aJ at h;rw[aq (by simp at h;omega),ar (by simpa using h2)]
 ·have hA:bq L k 2 false=0:=by
   unfold bq;unfold aJ at h;rw[aq (by simp at h;omega),aq (by simpa using h2),aq (by simp)]
  rw[Bool.not_eq_true']at h3;unfold bf dB lh;rw[hA,ar rfl,h3];exact⟨rfl,rfl⟩
 ·have hA:bq L k 2 false=0:=by
   unfold bq;unfold aJ at h;rw[aq (by simp at h;omega),aq (by simpa using h2),aq (by simp)]
  obtain⟨a1,_,_⟩:=jv hA;obtain⟨b1,b2,b3,b4,_⟩:=eT a1;rw[Bool.not_eq_false']at h3;have h3':0<=i/\i<16:=by simpa using h3
  unfold bf dB lh;rw[hA,ar rfl,h3,ar rfl,ar rfl,b4];exact⟨⟨h3'.1,h3'.2,b1⟩,rfl,rfl⟩
theorem sM[Fen]:dO Tryz.prog 136 aaI:=
 kW (ba tq (ba nX (ba fx dq))) (fun _=>rfl) fun a hq hok=>by
  obtain⟨S,k,i,_⟩:=a;cases S with
  |none=>exact bm (inl:=(aeq [186,185])) (ann:=bn) (aH bF (aH bT (aH oT aP))) aT (ek iL) (O9 k i) (by kernel_rfl)
  |some L=>exact bm (inl:=(aeq [186,185])) (ann:=bn) (aH bF (aH bT (aH oT aP))) aT (ek iL) (VS L k i) (by kernel_rfl)
theorem Py(k:Key)(i:Int)(v:Key):
 aw (aw (au (!decide (0<aJ [])) (void=fa [] k i v/\1=bY [] k i v) (aw (au (!(bk [] k&&decide (k.kind=2))) (void=fa [] k i v/\190=bY [] k i v) (aw (au (!decide (bu BinOp.and IntKind.i64 k.rights 3=0)) (void=fa [] k i v/\191=bY [] k i v) (aw (au (!(decide (0<=i)&&decide (i<16))) (void=fa [] k i v/\4=bY [] k i v) (aw (au (!(decide (bO v=0)&&(!bc v||decide (cz v<aJ [])))) (void=fa [] k i v/\2=bY [] k i v) (pd k i/\aw (aw ((0<=i/\i< ↑16)/\aw (jV [] (aG [] k) k i=fa [] k i v/\0=bY [] k i v)))))))))))))):=by
 delta au aw
 refine⟨rfl,rfl,fun _=>⟨rfl,rfl⟩,fun h=>absurd h (by decide)⟩
theorem Nq(k:Key)(i:Int)(v:Key):
 aw (aw (au (!decide (0<aJ [])) (void=fa [] k i v/\1=bY [] k i v) (aw (au (!(bk [] k&&decide (k.kind=2))) (void=fa [] k i v/\190=bY [] k i v) (aw (au (!decide (bu BinOp.and IntKind.i64 k.rights 3=0)) (void=fa [] k i v/\191=bY [] k i v) (aw (au (!(decide (0<=i)&&decide (i<16))) (void=fa [] k i v/\4=bY [] k i v) (aw (au (!(decide (bO v=0)&&(!bc v||decide (cz v<aJ [])))) (void=fa [] k i v/\2=bY [] k i v) (pd k i/\aw (aw ((0<=i/\i< ↑16)/\aw False))))))))))))):=by
 delta au aw
 refine⟨rfl,rfl,fun _=>⟨rfl,rfl⟩,fun h=>absurd h (by decide)⟩
theorem Wt(L:List Sx.Obj)(k:Key)(i:Int)(v:Key)(hL:aO L):
 aw (aw (au (!decide (0<aJ L)) ((void=fa L k i v/\1=bY L k i v)/\L=dL L k i v) (aw (au (!(bk L k&&decide (k.kind=2))) ((void=fa L k i v/\190=bY L k i v)/\L=dL L k i v) (aw (au (!decide (bu BinOp.and IntKind.i64 k.rights 3=0)) ((void=fa L k i v/\191=bY L k i v)/\L=dL L k i v) (aw (au (!(decide (0<=i)&&decide (i<16))) ((void=fa L k i v/\4=bY L k i v)/\L=dL L k i v) (aw (au (!(decide (bO v=0)&&(!bc v||decide (cz v<aJ L)))) ((void=fa L k i v/\2=bY L k i v)/\L=dL L k i v) (pd k i/\aw (aw ((0<=i/\i< ↑16)/\aw ((jV L (aG L k) k i=fa L k i v/\0=bY L k i v)/\cV L k.oid {kind:=(aG L k).kind,count:=(aG L k).count,calls:=(aG L k).calls,slots:=(aG L k).slots.put i.toNat (aI L v),bytes:=(aG L k).bytes}=dL L k i v)))))))))))))):=by
 delta au aw
 have fin:∀e,bY L k i v=e->e≠0->(void=fa L k i v/\e=bY L k i v)/\L=dL L k i v:=fun e h h0=>by
  unfold fa dL;rw[h,aq h0,aq h0];exact⟨⟨rfl,rfl⟩,rfl⟩
 have bad:∀e,bq L k 2 true=e->e≠0->bY L k i v=e:=fun e h h0=>by unfold bY;rw[h,aq h0]
 refine⟨rfl,rfl,fun h=>fin _ (bad _ (Pn h) (by omega)) (by omega),fun h=>⟨rfl,fun h2=>fin _ (bad _ (L3 h h2) (by omega)) (by omega),fun h2=>⟨rfl,fun h3=>fin _ (bad _ (aaa h h2 h3) (by omega)) (by omega),fun h3=>⟨rfl,fun h4=>fin 4 ?_ (by omega),fun h4=>⟨rfl,fun h5=>fin 2 ?_ (by omega),fun h5=>?_⟩⟩⟩⟩⟩
 ·rw[Bool.not_eq_true']at h4;unfold bY lh;rw[Lq h h2 h3,ar rfl,h4];rfl
 ·rw[Bool.not_eq_false']at h4;have hm:cS L v=false:=by rw[<-vq];rw[Bool.not_eq_true']at h5;exact h5
  unfold bY lh;rw[Lq h h2 h3,ar rfl,h4,hm];rfl
 ·rw[Bool.not_eq_false']at h4;have h4':0<=i/\i<16:=by simpa using h4
  have hm:cS L v=true:=by rw[<-vq];rw[Bool.not_eq_false']at h5;exact h5
  have hE:bY L k i v=0:=by
   unfold bY lh;rw[Lq h h2 h3,ar rfl,h4,hm];rfl
  obtain⟨a1,a2⟩:=nO h2;obtain⟨b1,b2,b3,b4,_⟩:=eT a1;have hp:=(pJ hL a1 a2 (Fq (v:=v) hL a1 a2 h4'.1 h4'.2)).1;unfold fa dL;rw[hE,ar rfl,ar rfl,<-hp,b4];exact⟨⟨h4'.1,h4'.2,b1⟩,rfl,rfl,⟨h4'.1,by omega⟩,rfl,⟨rfl,rfl⟩,rfl⟩
theorem Ws[Fen](L:List Sx.Obj)(k:Key)(i:Int)(v:Key)(hL:aO L):aM Tryz.prog 139 [.lp 0 0,.key k,.it .i64 i,.key v] [.store tS eS L] (Bb (.tp [.key (fa L k i v),.it .i64 (bY L k i v)]) (dL L k i v)) (fun _ _=>False):=
 bm (inl:=(aeq [186,185,188,189])) (ann:=bn) (aH bF (aH bT (aH oT (aH dC (aH gK (aH gI aP)))))) (aW dI aT) (ek iL) (Wt L k i v hL) (by kernel_rfl)
theorem IC[Fen]:l5 Tryz.prog 139 ZZ:=
 nZ (m:=fun x=> [.key x.1,.it .i64 x.2.1,.key x.2.2]) RP (fun _=>rfl) (fun _ _=>rfl) (fun x=>bm (inl:=(aeq [186,185,188,189])) (ann:=bn) (aH bF (aH bT (aH oT (aH dC (aH gK (aH gI aP)))))) (aW dI aT) (ek iL) (Py x.1 x.2.1 x.2.2) (by kernel_rfl)) (fun x=>bm (inl:=(aeq [186,185,188,189])) (ann:=bn) (aH bF (aH bT (aH oT (aH dC (aH gK (aH gI aP)))))) (aW dI aT) (ek iL) (Nq x.1 x.2.1 x.2.2) (by kernel_rfl)) fun L x hL _ _=>Ws L x.1 x.2.1 x.2.2 hL
theorem PT(k:Key):
 aw (aw (au (!decide (0<aJ [])) (1=bq [] k 2 true) (aw (au (!(bk [] k&&decide (k.kind=2))) (190=bq [] k 2 true) (aw (au (!decide (bu BinOp.and IntKind.i64 k.rights 3=0)) (191=bq [] k 2 true) (aw (aw (aw (0=bq [] k 2 true)))))))))):=by
 delta au aw
 refine⟨rfl,rfl,fun _=>rfl,fun h=>absurd h (by decide)⟩
theorem N8(k:Key):
 aw (aw (au (!decide (0<aJ [])) (1=bq [] k 2 true) (aw (au (!(bk [] k&&decide (k.kind=2))) (190=bq [] k 2 true) (aw (au (!decide (bu BinOp.and IntKind.i64 k.rights 3=0)) (191=bq [] k 2 true) (aw (aw (aw False))))))))):=by
 delta au aw
 refine⟨rfl,rfl,fun _=>rfl,fun h=>absurd h (by decide)⟩
theorem UK(L:List Sx.Obj)(k:Key)(hL:aO L):
 aw (aw (au (!decide (0<aJ L)) (1=bq L k 2 true/\L=gu L k) (aw (au (!(bk L k&&decide (k.kind=2))) (190=bq L k 2 true/\L=gu L k) (aw (au (!decide (bu BinOp.and IntKind.i64 k.rights 3=0)) (191=bq L k 2 true/\L=gu L k) (aw (aw (aw (0=bq L k 2 true/\cV L k.oid {kind:=(aG L k).kind,count:=(aG L k).count,calls:=(aG L k).calls,slots:=ib,bytes:=(aG L k).bytes}=gu L k)))))))))):=by
 delta au aw
 have fin:∀e,bq L k 2 true=e->e≠0->e=bq L k 2 true/\L=gu L k:=fun e h h0=>by
  unfold gu;rw[h,aq h0];exact⟨rfl,rfl⟩
 refine⟨rfl,rfl,fun h=>fin _ (Pn h) (by omega),fun h=>⟨rfl,fun h2=>fin _ (L3 h h2) (by omega),fun h2=>⟨rfl,fun h3=>fin _ (aaa h h2 h3) (by omega),fun h3=>⟨rfl,rfl,rfl,?_⟩⟩⟩⟩
 obtain⟨a1,a2⟩:=nO h2;have hp:=(pJ hL a1 a2 (Jv (by omega))).1
 unfold gu;rw[Lq h h2 h3,ar rfl,<-hp];exact⟨rfl,rfl⟩
theorem Vx[Fen](L:List Sx.Obj)(k:Key)(hL:aO L):aM Tryz.prog 142 [.lp 0 0,.key k] [.store tS eS L] (Bb (.it .i64 (bq L k 2 true)) (gu L k)) (fun _ _=>False):=
 bm (inl:=(aeq [186,185,188,190])) (ann:=bn) (aH bF (aH bT aP)) (aW dI aT) (ek iL) (UK L k hL) (by kernel_rfl)
theorem Tv[Fen]:l5 Tryz.prog 142 X8:=
 nZ (m:=fun x=> [.key x]) Ra (fun _=>rfl) (fun _ _=>rfl) (fun x=>bm (inl:=(aeq [186,185,188,190])) (ann:=bn) (aH bF (aH bT aP)) (aW dI aT) (ek iL) (PT x) (by kernel_rfl)) (fun x=>bm (inl:=(aeq [186,185,188,190])) (ann:=bn) (aH bF (aH bT aP)) (aW dI aT) (ek iL) (N8 x) (by kernel_rfl)) fun L x hL _ _=>Vx L x hL
theorem MZ(t f:Key):
 aw (aw (au (!decide (0<aJ [])) (1=dr [] t f) (aw (au (!(bk [] t&&decide (t.kind=2))) (190=dr [] t f) (aw (au (!decide (bu BinOp.and IntKind.i64 t.rights 3=0)) (191=dr [] t f) (aw (aw (au (!decide (0<aJ [])) (1=dr [] t f) (aw (au (!(bk [] f&&decide (f.kind=2))) (190=dr [] t f) (aw (aw (aw False)))))))))))))):=by
 delta au aw
 refine⟨rfl,rfl,fun _=>rfl,fun h=>absurd h (by decide)⟩
theorem Oz(t f:Key):
 aw (aw (au (!decide (0<aJ [])) (1=dr [] t f) (aw (au (!(bk [] t&&decide (t.kind=2))) (190=dr [] t f) (aw (au (!decide (bu BinOp.and IntKind.i64 t.rights 3=0)) (191=dr [] t f) (aw (aw (au (!decide (0<aJ [])) (1=dr [] t f) (aw (au (!(bk [] f&&decide (f.kind=2))) (190=dr [] t f) (aw (aw (aw False)))))))))))))):=by
 delta au aw
 refine⟨rfl,rfl,fun _=>rfl,fun h=>absurd h (by decide)⟩
theorem Tu(L:List Sx.Obj)(t f:Key)(hL:aO L):
 aw (aw (au (!decide (0<aJ L)) (1=dr L t f/\L=fL L t f) (aw (au (!(bk L t&&decide (t.kind=2))) (190=dr L t f/\L=fL L t f) (aw (au (!decide (bu BinOp.and IntKind.i64 t.rights 3=0)) (191=dr L t f/\L=fL L t f) (aw (aw (au (!decide (0<aJ L)) (1=dr L t f/\L=fL L t f) (aw (au (!(bk L f&&decide (f.kind=2))) (190=dr L t f/\L=fL L t f) (aw (aw (aw ((∃g,mz g/\0=g/\L=L/\t=t/\f=f/\t=t/\aG L t=aG L t/\t=t/\aG L t=aG L t/\aG L t=aG L t/\t=t/\f=f/\aG L f=aG L f/\f=f/\aG L f=aG L f/\aG L f=aG L f/\f=f/\aG L t=gY (aG L t) (gG L t f g)/\t=t)/\∀(g:Int),mz g->au (decide (g<16)) (pd f g/\(0<=g/\g< ↑16)/\bh IntKind.i64 (g+1)/\∃g',mz g'/\Db g'<Db g/\g+1=g'/\L=L/\t=t/\f=f/\t=t/\aG L t=aG L t/\t=t/\aG L t=aG L t/\aG L t=aG L t/\t=t/\f=f/\aG L f=aG L f/\f=f/\aG L f=aG L f/\aG L f=aG L f/\f=f/\{kind:=(gY (aG L t) (gG L t f g)).kind,count:=(gY (aG L t) (gG L t f g)).count,calls:=(gY (aG L t) (gG L t f g)).calls,slots:=(gY (aG L t) (gG L t f g)).slots.put g.toNat (jV L (aG L f) f g),bytes:=(gY (aG L t) (gG L t f g)).bytes}=gY (aG L t) (gG L t f g')/\t=t) (aw (0=dr L t f/\cV L t.oid (gY (aG L t) (gG L t f g))=fL L t f))))))))))))))))):=by
 delta au aw
 have fin:∀e,dr L t f=e->e≠0->e=dr L t f/\L=fL L t f:=fun e h h0=>by
  unfold fL;rw[h,aq h0];exact⟨rfl,rfl⟩
 have bad:∀e,bq L t 2 true=e->e≠0->dr L t f=e:=fun e h h0=>by unfold dr;rw[h,aq h0]
 refine⟨rfl,rfl,fun h=>fin _ (bad _ (Pn h) (by omega)) (by omega),fun h=>⟨rfl,fun h2=>fin _ (bad _ (L3 h h2) (by omega)) (by omega),fun h2=>⟨rfl,fun h3=>fin _ (bad _ (aaa h h2 h3) (by omega)) (by omega),fun h3=>⟨rfl,rfl,fun h4=>?_,fun h4=>⟨rfl,fun h5=>fin 190 ?_ (by omega),fun h5=>⟨rfl,rfl,rfl,?_,fun g hg=>⟨fun hlt=>?_,fun hge=>?_⟩⟩⟩⟩⟩⟩⟩
 ·rw[h]at h4;simp at h4
 ·unfold dr;rw[Lq h h2 h3,ar rfl,L3 h h5]
 ·obtain⟨a1,a2⟩:=nO h2;refine⟨0,⟨by omega,by omega⟩,?_⟩
  have:=QJ (f:=f) (eT a1).2.2.2.1;repeat' apply And.intro
  all_goals first|rfl|exact this
 ·obtain⟨g0,g1⟩:=hg;have hlt:=ak hlt;obtain⟨a1,a2⟩:=nO h5;have hs:=PY (t:=t) g0 (eT a1).2.2.2.1 (aG L t) ib;refine⟨⟨g0,by omega,(eT a1).1⟩,⟨g0,by omega⟩,by simp only[bh,cB];omega,g+1,⟨by omega,by omega⟩,by unfold Db;omega,?_⟩
  repeat' apply And.intro
  all_goals first|rfl|exact hs
 ·obtain⟨g0,g1⟩:=hg;have hge:=aj hge;have:g=16:=by omega
  subst this;obtain⟨a1,a2⟩:=nO h2;have hE:dr L t f=0:=by unfold dr;rw[Lq h h2 h3,ar rfl,Kb h h5]
  have hp:=(pJ hL a1 a2 (y9 (f:=f) hL a1 a2 16 (by omega))).1
  unfold fL;rw[hE,ar rfl];exact⟨rfl,rfl,hp⟩
theorem Wy[Fen](L:List Sx.Obj)(t f:Key)(hL:aO L):aM Tryz.prog 144 [.lp 0 0,.key t,.key f] [.store tS eS L] (Bb (.it .i64 (dr L t f)) (fL L t f)) (fun _ _=>False):=
 bm (inl:=(aeq [186,185,188,191])) (ann:=(lf [(191,1,lpP [0,1,2] (fun g=> [(4,.it .i64 g)]) 0 (clR L t f) mz Db)])) (aH bF (aH bT (aH oT aP))) (aW dI aT) (ek iL) (Tu L t f hL) (by kernel_rfl)
theorem UP[Fen]:l5 Tryz.prog 144 YQ:=
 nZ (m:=fun x=> [.key x.1,.key x.2]) JT (fun _=>rfl) (fun _ _=>rfl) (fun x=>bm (inl:=(aeq [186,185,188,191])) (ann:=bn) (aH bF (aH bT (aH oT aP))) (aW dI aT) (ek iL) (MZ x.1 x.2) (by kernel_rfl)) (fun x=>bm (inl:=(aeq [186,185,188,191])) (ann:=bn) (aH bF (aH bT (aH oT aP))) (aW dI aT) (ek iL) (Oz x.1 x.2) (by kernel_rfl)) fun L x hL _ _=>Wy L x.1 x.2 hL
end Go.Proofs.YtmfbohanboiklaaGreat
namespace Go.Sx
def cc(L:List Obj)(k:Key)(c:Bool):Int:=if bq L k 3 false=0 then(if(c&& !decide (k.rights=0))=true then 191 else 0)else bq L k 3 false
def eG(i n:Int):Bool:=decide (0<=i)&&decide (0<=n)&&decide (i<=64)&&decide (n<=64-i)
def de(L:List Obj)(k:Key)(i n:Int):Int:=if cc L k false=0 then(if eG i n then 0 else 4)else cc L k false
def fk(L:List Obj)(k:Key)(i n:Int):ByteArray:=if de L k i n=0 then A2 (aL L k.oid.toNat free).bytes i.toNat (i+n).toNat else⟨#[]⟩
def lC(o:Obj)(b:Bytes):Obj:= {o with bytes:=b}
def pV(L:List Obj)(k:Key)(b:Bytes):List Obj:=eQ L k.oid.toNat (lC (aL L k.oid.toNat free) b)
def eh(L:List Obj)(k:Key)(i:Int)(s:ByteArray):Int:=if cc L k true=0 then(if eG i (dJ s)then 0 else 4)else cc L k true
def fE(L:List Obj)(k:Key)(i:Int)(s:ByteArray):List Obj:=if eh L k i s=0 then pV L k (xT (aL L k.oid.toNat free).bytes i.toNat s.size s)else L
def fZ(L:List Obj)(k:Key):List Obj:=if cc L k true=0 then pV L k fK else L
def ei(L:List Obj)(t f:Key):Int:=if cc L t true=0 then cc L f false else cc L t true
def gw(L:List Obj)(t f:Key):List Obj:=if ei L t f=0 then pV L t (aL L f.oid.toNat free).bytes else L
def aU(s:ByteArray):Prop:=(s.size:Int)<=9223372036854775807
def Ga(v:V):Option ByteArray:=match v with
 | .st s=>some s
 |_=>none
theorem yf:tG Ga V.st:=fun v x h=>by
 cases v<;>simp only[Ga,aa,reduceCtorEq]at h
 subst h;exact⟨fun _=>rfl,fun _=>id⟩
def zA:Arg ByteArray:=EX Ga V.st
theorem ab8:lU zA:=sH yf (fun _=>rfl) fun v x h=>by cases v<;>simp[Ga]at h;rfl
def IM(l:List V):Option (Key×Int×ByteArray):=match l with
 | [a,b,c]=>match rK a with
   |some k=>match rI .i64 b with
    |some i=>match Ga c with
     |some s=>some (k,i,s)
     |none=>none
    |none=>none
   |none=>none
 |_=>none
theorem FI:∀l x,IM l=some x->fw l [.key x.1,.it .i64 x.2.1,.st x.2.2]:=fun l x h=>by
 unfold IM at h;split at h
 ·split at h
  ·rename_i h1;split at h
   ·rename_i h2;split at h<;>simp only[aa,reduceCtorEq]at h
    rename_i h3;subst h;exact fw.rd iF h1 (fw.rd (iO .i64) h2 (fw.rd yf h3 fw.nil))
   ·simp at h
  ·simp at h
 ·simp at h
def PU:Ct:=Xm (rI .i64) (rI .i64) fun i n=> .bo (eG i n)
def Uw:Ct:=FN (bJ sA (bJ kA (bJ iA (bJ iA jP)))) (fun _=>none) fun x=> .tp [.st (fk (vP x.1) x.2.1 x.2.2.1 x.2.2.2.1),.it .i64 (de (vP x.1) x.2.1 x.2.2.1 x.2.2.2.1)]
def aa7:lg:=LC IM (fun L x=>aO L/\aU x.2.2) (fun L x=> .it .i64 (eh L x.1 x.2.1 x.2.2)) fun L x=>fE L x.1 x.2.1 x.2.2
def Yk:lg:=LC rdK (fun L _=>aO L) (fun L x=> .it .i64 (cc L x true)) fun L x=>fZ L x
def abb:lg:=LC U9 (fun L _=>aO L) (fun L x=> .it .i64 (ei L x.1 x.2)) fun L x=>gw L x.1 x.2
theorem Oe{o:Obj}{n:Int}{b:Bytes}(h:bS o n=true)(hk:o.kind=1\/o.kind=2):bS (lC o b) n=true:=by
 rw[dK]at h⊢;simp only[lC];obtain⟨a1,a2,a3,a4,a5,a6,a7,a8,a9,a10,a11⟩:=h;exact⟨a1,a2,a3,a4,a5,a6,a7,a8,a9,a10,fun i hi=> .inl hk⟩
theorem Le{L:List Obj}{k:Key}(h:bk L k=true)(h2:k.kind=3):(aL L k.oid.toNat free).kind=2:=by
 rw[(eT h).2.2.2.2];unfold jo;rw[aq (by have:=(AH h).1;omega),ar h2]
theorem si{L:List Obj}{k:Key}{b:Bytes}(hL:aO L)(h:bk L k=true)(h2:k.kind=3):fC L k.oid (lC (aG L k) b)=0/\cV L k.oid (lC (aG L k) b)=pV L k b/\aO (pV L k b):=by
 obtain⟨b1,b2,b3,b4,_⟩:=eT h;have hr:=gq.1 hL;have ho:=Oe (b:=b) (hr.2.2 k.oid.toNat (by omega)) (.inr (Le h h2))
 obtain⟨p1,p2⟩:=vM (L:=L) (o:=lC (aL L k.oid.toNat free) b) (jr.2 ⟨b2,b3⟩) (rY ho).symm;rw[b4];refine⟨p1,p2,?_⟩;refine gq.2 ?_;unfold pV;have hl:(eQ L k.oid.toNat (lC (aL L k.oid.toNat free) b)).length=L.length:=by simp[eQ]
 rw[hl];refine⟨hr.1,hr.2.1,fun i hi=>?_⟩
 by_cases e:i=k.oid.toNat
 ·subst e;rw[show aL (eQ L k.oid.toNat (lC (aL L k.oid.toNat free) b)) k.oid.toNat free=lC (aL L k.oid.toNat free) b by simp[aL,eQ,an,hi]]
  exact ho
 ·rw[show aL (eQ L k.oid.toNat (lC (aL L k.oid.toNat free) b)) i free=aL L i free by simp[aL,eQ,an,List.getElem?_set,Ne.symm e]]
  exact hr.2.2 i hi
theorem Dk{L:List Obj}{k:Key}(h:bk L k=true)(h2:k.kind=3):0<=k.rights/\k.rights<=1:=by
 have:=ga (eT h).1;rw[h2]at this;exact this
theorem aaE{r:Int}(h0:0<=r)(h1:r<=1):bu .and .i64 r 1=r:=by
 have:r=0\/r=1:=by omega
 rcases this with rfl|rfl<;>decide
theorem tO{i n:Int}:eG i n=true↔0<=i/\0<=n/\i<=64/\n<=64-i:=by
 simp only[eG,af,ah,and_assoc]
theorem Rh(b:Bytes)(i:Int)(s:ByteArray)(h:eG i (dJ s)=true):My b i.toNat 64 s=xT b i.toNat s.size s:=by
 unfold My LS
 have hle:s.size<=64-i.toNat:=by
  obtain⟨h0,h1,h2,h3⟩:=tO.1 h;have h3:(s.size:Int)<=64-i:=h3;omega
 rw[show Nat.min s.size (64-i.toNat)=s.size from Nat.min_eq_left hle]
theorem NB(b:Bytes):EA b 0 64=fK:=by
 unfold EA xT fK;ext i hi
 simp[sat_empty,hi]
theorem x9{L:List Obj}{k:Key}{c:Bool}(h:cc L k c=0):bk L k=true/\k.kind=3/\(c=true->k.rights=0):=by
 unfold cc at h;split at h
 ·rename_i h1;obtain⟨a1,a2,_⟩:=jv h1;split at h
  ·omega
  ·rename_i h2;exact⟨a1,a2,fun hc=>by simpa[hc]using h2⟩
 ·rename_i h1;exact absurd h h1
theorem Zq{L:List Obj}{k:Key}:cc L k false=bq L k 3 false:=by
 unfold cc;split
 ·rename_i h;rw[h];rfl
 ·rfl
theorem NU{L:List Obj}{k:Key}{c:Bool}(h:decide (aJ L=0)=true):cc L k c=1:=by
 have:bq L k 3 false=1:=Pn (by rw[ah]at h;simp[h])
 unfold cc;rw[this,aq (by omega)]
theorem pg2{L:List Obj}{k:Key}{c:Bool}(h:decide (aJ L=0)=false)(h2:(!bk L k|| !decide (k.kind=3))=true):cc L k c=190:=by
 have h0:(!decide (0<aJ L))=false:=by
  rw[decide_eq_false_iff_not]at h;unfold aJ at h⊢;simp;omega
 have:bq L k 3 false=190:=L3 h0 (by simpa using h2)
 unfold cc;rw[this,aq (by omega)]
theorem rh{L:List Obj}{k:Key}(h2:(!bk L k|| !decide (k.kind=3))=false):bk L k=true/\k.kind=3:=by simpa using h2
theorem pg0{L:List Obj}{k:Key}(h:decide (aJ L=0)=false)(h2:(!bk L k|| !decide (k.kind=3))=false):bq L k 3 false=0:=by
 refine Kb ?_ (by simpa using h2)
 rw[decide_eq_false_iff_not]at h;unfold aJ at h⊢;simp;omega
theorem pgf{L:List Obj}{k:Key}(h:decide (aJ L=0)=false)(h2:(!bk L k|| !decide (k.kind=3))=false):cc L k false=0:=by rw[Zq];exact pg0 h h2
theorem pg3{L:List Obj}{k:Key}(h:decide (aJ L=0)=false)(h2:(!bk L k|| !decide (k.kind=3))=false)(h3:(!decide (bu BinOp.and IntKind.i64 k.rights 1=0))=true):cc L k true=191:=by
 obtain⟨a1,a2⟩:=rh h2;have hr:=Dk a1 a2;rw[aaE hr.1 hr.2]at h3;unfold cc;rw[ar (pg0 h h2),ar (by simpa using h3)]
theorem pgt{L:List Obj}{k:Key}(h:decide (aJ L=0)=false)(h2:(!bk L k|| !decide (k.kind=3))=false)(h3:(!decide (bu BinOp.and IntKind.i64 k.rights 1=0))=false):cc L k true=0:=by
 obtain⟨a1,a2⟩:=rh h2;have hr:=Dk a1 a2;rw[aaE hr.1 hr.2]at h3;unfold cc;rw[ar (pg0 h h2),aq (by simpa using h3)]
theorem vz{L:List Obj}{k:Key}{i n e:Int}(h:cc L k false=e)(he:e≠0):(⟨#[]⟩:ByteArray)=fk L k i n/\e=de L k i n:=by
 have:de L k i n=e:=by unfold de;rw[h,aq he]
 unfold fk;rw[this,aq he];exact⟨rfl,rfl⟩
theorem FX{L:List Obj}{k:Key}{i n:Int}(h:cc L k false=0)(hi:(!eG i n)=true):(⟨#[]⟩:ByteArray)=fk L k i n/\4=de L k i n:=by
 rw[Bool.not_eq_true']at hi;have:de L k i n=4:=by unfold de;rw[ar h,hi];rfl
 unfold fk;rw[this];exact⟨rfl,rfl⟩
theorem Jo{L:List Obj}{k:Key}{i n:Int}(h:cc L k false=0)(hi:(!eG i n)=false):bh IntKind.i64 (i+n)/\Bk i (i+n) 64/\A2 (aL L k.oid.toNat free).bytes i.toNat (i+n).toNat=fk L k i n/\0=de L k i n:=by
 rw[Bool.not_eq_false']at hi;obtain⟨a,b,c,d⟩:=tO.1 hi;have:de L k i n=0:=by unfold de;rw[ar h,hi];rfl
 unfold fk;rw[this];exact⟨by simp only[bh,cB];omega,⟨by omega,by omega,by omega⟩,rfl,rfl⟩
theorem AD{L:List Obj}{k:Key}{i e:Int}{z:ByteArray}(h:cc L k true=e)(he:e≠0):e=eh L k i z/\L=fE L k i z:=by
 have:eh L k i z=e:=by unfold eh;rw[h,aq he]
 unfold fE;rw[this,aq he];exact⟨rfl,rfl⟩
theorem Yu{L:List Obj}{k:Key}{i:Int}{z:ByteArray}(h:cc L k true=0)(hi:(!eG i (dJ z))=true):4=eh L k i z/\L=fE L k i z:=by
 rw[Bool.not_eq_true']at hi;have:eh L k i z=4:=by unfold eh;rw[ar h,hi];rfl
 unfold fE;rw[this];exact⟨rfl,rfl⟩
theorem abL{L:List Obj}{k:Key}{i:Int}{z:ByteArray}(hL:aO L)(h1:bk L k=true)(h2:k.kind=3)(h:cc L k true=0)(hi:(!eG i (dJ z))=false):Bk i 64 64/\
  fC L k.oid (lC (aG L k) (My (aG L k).bytes i.toNat (Int.toNat 64) z))=eh L k i z/\cV L k.oid (lC (aG L k) (My (aG L k).bytes i.toNat (Int.toNat 64) z))=fE L k i z:=by
 rw[Bool.not_eq_false']at hi;obtain⟨a,b,c,d⟩:=tO.1 hi;have hE:eh L k i z=0:=by unfold eh;rw[ar h,hi];rfl
 have hb:=Rh (aG L k).bytes i z hi;obtain⟨p1,p2,_⟩:=si (b:=xT (aG L k).bytes i.toNat z.size z) hL h1 h2;have h64:Int.toNat 64=64:=rfl;rw[h64,hb,p1,p2,hE];refine⟨⟨by omega,by omega,by omega⟩,rfl,?_⟩
 unfold fE;rw[hE,ar rfl,(eT h1).2.2.2.1]
theorem zh{L:List Obj}{k:Key}{e:Int}(h:cc L k true=e)(he:e≠0):e=cc L k true/\L=fZ L k:=by
 refine⟨h.symm,?_⟩;unfold fZ;rw[h,aq he]
theorem acP{L:List Obj}{k:Key}(hL:aO L)(h1:bk L k=true)(h2:k.kind=3)(h:cc L k true=0):Bk 0 64 64/\
  fC L k.oid (lC (aG L k) (EA (aG L k).bytes (Int.toNat 0) (Int.toNat 64)))=cc L k true/\cV L k.oid (lC (aG L k) (EA (aG L k).bytes (Int.toNat 0) (Int.toNat 64)))=fZ L k:=by
 have h64:Int.toNat 64=64:=rfl;have h0:Int.toNat 0=0:=rfl;obtain⟨p1,p2,_⟩:=si (b:=fK) hL h1 h2;rw[h64,h0,NB,p1,p2,h];refine⟨⟨by omega,by omega,by omega⟩,rfl,?_⟩
 unfold fZ;rw[ar h]
theorem Am{L:List Obj}{t f:Key}{e:Int}(h:cc L t true=e)(he:e≠0):e=ei L t f/\L=gw L t f:=by
 have:ei L t f=e:=by unfold ei;rw[h,aq he]
 unfold gw;rw[this,aq he];exact⟨rfl,rfl⟩
theorem Wf{L:List Obj}{t f:Key}{e:Int}(h:cc L t true=0)(h2:cc L f false=e)(he:e≠0):e=ei L t f/\L=gw L t f:=by
 have:ei L t f=e:=by unfold ei;rw[ar h,h2]
 unfold gw;rw[this,aq he];exact⟨rfl,rfl⟩
theorem abY{L:List Obj}{t f:Key}(hL:aO L)(h1:bk L t=true)(h2:t.kind=3)(h:cc L t true=0)(g1:bk L f=true)(g:cc L f false=0):
  fC L t.oid (lC (aG L t) (aG L f).bytes)=ei L t f/\cV L t.oid (lC (aG L t) (aG L f).bytes)=gw L t f:=by
 have hE:ei L t f=0:=by unfold ei;rw[ar h,g]
 obtain⟨p1,p2,_⟩:=si (b:=(aG L f).bytes) hL h1 h2;rw[p1,p2,hE];refine⟨rfl,?_⟩;unfold gw;rw[hE,ar rfl,(eT g1).2.2.2.1]
structure Acp where
 kind:Int
 pos:Int
 num:Int
 key:Key
 other:Key
 bytes:ByteArray
def Acp.wf(x:Acp):Prop:=cB .i64 x.kind/\cB .i64 x.pos/\cB .i64 x.num/\x.key.wf/\x.other.wf/\aU x.bytes
def DP(L:List Obj)(a:Acp):Bool:=
 if a.kind=1 then false else if a.kind=2 then decide (eh L a.key a.pos a.bytes=0)else if a.kind=3 then decide (cc L a.key true=0)else decide (ei L a.key a.other=0)
def Rv(L:List Obj)(a:Acp):List Obj:=
 if a.kind=1 then L else if a.kind=2 then fE L a.key a.pos a.bytes else if a.kind=3 then fZ L a.key else gw L a.key a.other
theorem tf(s:ByteArray):GD s s=true:=by simp[GD]
end Go.Sx
namespace Go.Proofs.YtmfbohanboiklaaGreat
open Go.Sx
theorem Mk(i n:Int):
 ((decide (0<=i)&&decide (0<=n)&&decide (i<=64))=true->bh IntKind.i64 (64-i))/\
   (decide (0<=i)&&decide (0<=n)&&decide (i<=64)&&decide (n<=64-i))=eG i n:=by
 unfold eG;refine⟨fun h=>?_,?_⟩
 ·simp only[af,ah]at h;simp only[bh,cB];omega
 ·rfl
theorem pG[Fen]:dO Tryz.prog 196 PU:=
 tZ (iO .i64) (iO .i64) (fun _ _=>rfl) fun i n _ _=>bP (inl:=cH) (ann:=bn) aP (Mk i n) (by kernel_rfl)
theorem Mh(k:Key)(i n:Int):
 true=true/\au (decide (aJ []=0)) ((⟨#[]⟩:ByteArray)=fk [] k i n/\1=de [] k i n) (au (!bk [] k|| !decide (k.kind=3)) ((⟨#[]⟩:ByteArray)=fk [] k i n/\190=de [] k i n) (au (!eG i n) ((⟨#[]⟩:ByteArray)=fk [] k i n/\4=de [] k i n) (bh IntKind.i64 (i+n)/\Bk i (i+n) 64/\A2 (aG [] k).bytes i.toNat (i+n).toNat=fk [] k i n/\0=de [] k i n))):=by
 delta au
 refine⟨rfl,fun h=>vz (NU h) (by omega),fun h=>⟨fun h2=>vz (pg2 h h2) (by omega),fun h2=>⟨fun h3=>FX (pgf h h2) h3,fun h3=>?_⟩⟩⟩
 rw[(eT (rh h2).1).2.2.2.1];exact Jo (pgf h h2) h3
theorem Rc(L:List Sx.Obj)(k:Key)(i n:Int):
 true=true/\au (decide (aJ L=0)) ((⟨#[]⟩:ByteArray)=fk L k i n/\1=de L k i n) (au (!bk L k|| !decide (k.kind=3)) ((⟨#[]⟩:ByteArray)=fk L k i n/\190=de L k i n) (au (!eG i n) ((⟨#[]⟩:ByteArray)=fk L k i n/\4=de L k i n) (bh IntKind.i64 (i+n)/\Bk i (i+n) 64/\A2 (aG L k).bytes i.toNat (i+n).toNat=fk L k i n/\0=de L k i n))):=by
 delta au
 refine⟨rfl,fun h=>vz (NU h) (by omega),fun h=>⟨fun h2=>vz (pg2 h h2) (by omega),fun h2=>⟨fun h3=>FX (pgf h h2) h3,fun h3=>?_⟩⟩⟩
 rw[(eT (rh h2).1).2.2.2.1];exact Jo (pgf h h2) h3
theorem pn[Fen]:dO Tryz.prog 194 Uw:=
 kW (ba tq (ba nX (ba fx (ba fx dq)))) (fun _=>rfl) fun a hq hok=>by
  obtain⟨S,k,i,n,_⟩:=a;cases S with
  |none=>exact bU (inl:=(aeq [195])) (ann:=bn) (aH bF (aH bT (aH pG aP))) aT (Mh k i n) (by kernel_rfl)
  |some L=>exact bU (inl:=(aeq [195])) (ann:=bn) (aH bF (aH bT (aH pG aP))) aT (Rc L k i n) (by kernel_rfl)
theorem T0(k:Key)(i:Int)(s:ByteArray):
 aw (au (decide (aJ []=0)) (1=eh [] k i s) (au (!bk [] k|| !decide (k.kind=3)) (190=eh [] k i s) (au (!decide (bu BinOp.and IntKind.i64 k.rights 1=0)) (191=eh [] k i s) (bh IntKind.i64 (dJ s)/\au (!eG i (dJ s)) (4=eh [] k i s) (aw (aw (Bk i 64 64/\aw (fC [] k.oid {kind:=(aG [] k).kind,count:=(aG [] k).count,calls:=(aG [] k).calls,slots:=(aG [] k).slots,bytes:=My (aG [] k).bytes i.toNat (Int.toNat 64) s}=eh [] k i s)))))))):=by
 delta au aw
 exact⟨rfl,fun h=>(AD (NU h) (by omega)).1,fun h=>absurd h (by decide)⟩
theorem WD(k:Key)(i:Int)(s:ByteArray):
 aw (au (decide (aJ []=0)) (1=eh [] k i s) (au (!bk [] k|| !decide (k.kind=3)) (190=eh [] k i s) (au (!decide (bu BinOp.and IntKind.i64 k.rights 1=0)) (191=eh [] k i s) (bh IntKind.i64 (dJ s)/\au (!eG i (dJ s)) (4=eh [] k i s) (aw (aw (Bk i 64 64/\aw False))))))):=by
 delta au aw
 exact⟨rfl,fun h=>(AD (NU h) (by omega)).1,fun h=>absurd h (by decide)⟩
theorem aaf(L:List Sx.Obj)(k:Key)(i:Int)(s:ByteArray)(hL:aO L)(hs:aU s):
 aw (au (decide (aJ L=0)) (1=eh L k i s/\L=fE L k i s) (au (!bk L k|| !decide (k.kind=3)) (190=eh L k i s/\L=fE L k i s) (au (!decide (bu BinOp.and IntKind.i64 k.rights 1=0)) (191=eh L k i s/\L=fE L k i s) (bh IntKind.i64 (dJ s)/\au (!eG i (dJ s)) (4=eh L k i s/\L=fE L k i s) (aw (aw (Bk i 64 64/\aw (fC L k.oid {kind:=(aG L k).kind,count:=(aG L k).count,calls:=(aG L k).calls,slots:=(aG L k).slots,bytes:=My (aG L k).bytes i.toNat (Int.toNat 64) s}=eh L k i s/\cV L k.oid {kind:=(aG L k).kind,count:=(aG L k).count,calls:=(aG L k).calls,slots:=(aG L k).slots,bytes:=My (aG L k).bytes i.toNat (Int.toNat 64) s}=fE L k i s)))))))):=by
 delta au aw
 refine⟨rfl,fun h=>AD (NU h) (by omega),fun h=>⟨fun h2=>AD (pg2 h h2) (by omega),fun h2=>⟨fun h3=>AD (pg3 h h2 h3) (by omega),fun h3=>⟨?_,fun h4=>Yu (pgt h h2 h3) h4,fun h4=>?_⟩⟩⟩⟩
 ·unfold aU at hs;simp only[bh,cB,dJ];omega
 ·obtain⟨a,b,c⟩:=abL hL (rh h2).1 (rh h2).2 (pgt h h2 h3) h4;exact⟨rfl,rfl,a,rfl,b,c⟩
theorem Y9[Fen](L:List Sx.Obj)(k:Key)(i:Int)(s:ByteArray)(hL:aO L)(hs:aU s):aM Tryz.prog 149 [.lp 0 0,.key k,.it .i64 i,.st s] [.store tS eS L] (Bb (.it .i64 (eh L k i s)) (fE L k i s)) (fun _ _=>False):=
 bU (inl:=(aeq [195,197,198])) (ann:=bn) (aH bF (aH bT (aH pG aP))) (aW dI aT) (aaf L k i s hL hs) (by kernel_rfl)
theorem Da[Fen]:l5 Tryz.prog 149 aa7:=
 nZ (m:=fun x=> [.key x.1,.it .i64 x.2.1,.st x.2.2]) FI (fun _=>rfl) (fun _ _=>rfl) (fun x=>bU (inl:=(aeq [195,197,198])) (ann:=bn) (aH bF (aH bT (aH pG aP))) (aW dI aT) (T0 x.1 x.2.1 x.2.2) (by kernel_rfl)) (fun x=>bU (inl:=(aeq [195,197,198])) (ann:=bn) (aH bF (aH bT (aH pG aP))) (aW dI aT) (WD x.1 x.2.1 x.2.2) (by kernel_rfl)) fun L x hL _ _=>Y9 L x.1 x.2.1 x.2.2 hL.1 hL.2
theorem PV(k:Key):
 aw (au (decide (aJ []=0)) (1=cc [] k true) (au (!bk [] k|| !decide (k.kind=3)) (190=cc [] k true) (au (!decide (bu BinOp.and IntKind.i64 k.rights 1=0)) (191=cc [] k true) (aw (aw (Bk 0 64 64/\aw (fC [] k.oid {kind:=(aG [] k).kind,count:=(aG [] k).count,calls:=(aG [] k).calls,slots:=(aG [] k).slots,bytes:=EA (aG [] k).bytes (Int.toNat 0) (Int.toNat 64)}=cc [] k true))))))):=by
 delta au aw
 exact⟨rfl,fun h=>(zh (NU h) (by omega)).1,fun h=>absurd h (by decide)⟩
theorem RD(k:Key):
 aw (au (decide (aJ []=0)) (1=cc [] k true) (au (!bk [] k|| !decide (k.kind=3)) (190=cc [] k true) (au (!decide (bu BinOp.and IntKind.i64 k.rights 1=0)) (191=cc [] k true) (aw (aw (Bk 0 64 64/\aw False)))))):=by
 delta au aw
 exact⟨rfl,fun h=>(zh (NU h) (by omega)).1,fun h=>absurd h (by decide)⟩
theorem S6(L:List Sx.Obj)(k:Key)(hL:aO L):
 aw (au (decide (aJ L=0)) (1=cc L k true/\L=fZ L k) (au (!bk L k|| !decide (k.kind=3)) (190=cc L k true/\L=fZ L k) (au (!decide (bu BinOp.and IntKind.i64 k.rights 1=0)) (191=cc L k true/\L=fZ L k) (aw (aw (Bk 0 64 64/\aw (fC L k.oid {kind:=(aG L k).kind,count:=(aG L k).count,calls:=(aG L k).calls,slots:=(aG L k).slots,bytes:=EA (aG L k).bytes (Int.toNat 0) (Int.toNat 64)}=cc L k true/\cV L k.oid {kind:=(aG L k).kind,count:=(aG L k).count,calls:=(aG L k).calls,slots:=(aG L k).slots,bytes:=EA (aG L k).bytes (Int.toNat 0) (Int.toNat 64)}=fZ L k))))))):=by
 delta au aw
 refine⟨rfl,fun h=>zh (NU h) (by omega),fun h=>⟨fun h2=>zh (pg2 h h2) (by omega),fun h2=>⟨fun h3=>zh (pg3 h h2 h3) (by omega),fun h3=>?_⟩⟩⟩
 obtain⟨a,b,c⟩:=acP hL (rh h2).1 (rh h2).2 (pgt h h2 h3);exact⟨rfl,rfl,a,rfl,b,c⟩
theorem S5[Fen](L:List Sx.Obj)(k:Key)(hL:aO L):aM Tryz.prog 151 [.lp 0 0,.key k] [.store tS eS L] (Bb (.it .i64 (cc L k true)) (fZ L k)) (fun _ _=>False):=
 bU (inl:=(aeq [195,197,199])) (ann:=bn) (aH bF (aH bT aP)) (aW dI aT) (S6 L k hL) (by kernel_rfl)
theorem Wv[Fen]:l5 Tryz.prog 151 Yk:=
 nZ (m:=fun x=> [.key x]) Ra (fun _=>rfl) (fun _ _=>rfl) (fun x=>bU (inl:=(aeq [195,197,199])) (ann:=bn) (aH bF (aH bT aP)) (aW dI aT) (PV x) (by kernel_rfl)) (fun x=>bU (inl:=(aeq [195,197,199])) (ann:=bn) (aH bF (aH bT aP)) (aW dI aT) (RD x) (by kernel_rfl)) fun L x hL _ _=>S5 L x hL
theorem S9(t f:Key):
 aw (au (decide (aJ []=0)) (1=ei [] t f) (au (!bk [] t|| !decide (t.kind=3)) (190=ei [] t f) (au (!decide (bu BinOp.and IntKind.i64 t.rights 1=0)) (191=ei [] t f) (aw (au (decide (aJ []=0)) (1=ei [] t f) (au (!bk [] f|| !decide (f.kind=3)) (190=ei [] t f) (aw (aw (aw (fC [] t.oid {kind:=(aG [] t).kind,count:=(aG [] t).count,calls:=(aG [] t).calls,slots:=(aG [] t).slots,bytes:=(aG [] f).bytes}=ei [] t f)))))))))):=by
 delta au aw
 exact⟨rfl,fun h=>(Am (NU h) (by omega)).1,fun h=>absurd h (by decide)⟩
theorem Ve(t f:Key):
 aw (au (decide (aJ []=0)) (1=ei [] t f) (au (!bk [] t|| !decide (t.kind=3)) (190=ei [] t f) (au (!decide (bu BinOp.and IntKind.i64 t.rights 1=0)) (191=ei [] t f) (aw (au (decide (aJ []=0)) (1=ei [] t f) (au (!bk [] f|| !decide (f.kind=3)) (190=ei [] t f) (aw (aw (aw False))))))))):=by
 delta au aw
 exact⟨rfl,fun h=>(Am (NU h) (by omega)).1,fun h=>absurd h (by decide)⟩
theorem aas(L:List Sx.Obj)(t f:Key)(hL:aO L):
 aw (au (decide (aJ L=0)) (1=ei L t f/\L=gw L t f) (au (!bk L t|| !decide (t.kind=3)) (190=ei L t f/\L=gw L t f) (au (!decide (bu BinOp.and IntKind.i64 t.rights 1=0)) (191=ei L t f/\L=gw L t f) (aw (au (decide (aJ L=0)) (1=ei L t f/\L=gw L t f) (au (!bk L f|| !decide (f.kind=3)) (190=ei L t f/\L=gw L t f) (aw (aw (aw (fC L t.oid {kind:=(aG L t).kind,count:=(aG L t).count,calls:=(aG L t).calls,slots:=(aG L t).slots,bytes:=(aG L f).bytes}=ei L t f/\cV L t.oid {kind:=(aG L t).kind,count:=(aG L t).count,calls:=(aG L t).calls,slots:=(aG L t).slots,bytes:=(aG L f).bytes}=gw L t f)))))))))):=by
 delta au aw
 refine⟨rfl,fun h=>Am (NU h) (by omega),fun h=>⟨fun h2=>Am (pg2 h h2) (by omega),fun h2=>⟨fun h3=>Am (pg3 h h2 h3) (by omega),fun h3=>⟨rfl,fun h'=>?_,fun _=>⟨fun h5=>Wf (pgt h h2 h3) (pg2 h h5) (by omega),fun h5=>?_⟩⟩⟩⟩⟩
 ·rw[h]at h';simp at h'
 ·obtain⟨b,c⟩:=abY hL (rh h2).1 (rh h2).2 (pgt h h2 h3) (rh h5).1 (pgf h h5);exact⟨rfl,rfl,rfl,b,c⟩
theorem aah[Fen](L:List Sx.Obj)(t f:Key)(hL:aO L):aM Tryz.prog 153 [.lp 0 0,.key t,.key f] [.store tS eS L] (Bb (.it .i64 (ei L t f)) (gw L t f)) (fun _ _=>False):=
 bU (inl:=(aeq [195,197,200])) (ann:=bn) (aH bF (aH bT aP)) (aW dI aT) (aas L t f hL) (by kernel_rfl)
theorem aaL[Fen]:l5 Tryz.prog 153 abb:=
 nZ (m:=fun x=> [.key x.1,.key x.2]) JT (fun _=>rfl) (fun _ _=>rfl) (fun x=>bU (inl:=(aeq [195,197,200])) (ann:=bn) (aH bF (aH bT aP)) (aW dI aT) (S9 x.1 x.2) (by kernel_rfl)) (fun x=>bU (inl:=(aeq [195,197,200])) (ann:=bn) (aH bF (aH bT aP)) (aW dI aT) (Ve x.1 x.2) (by kernel_rfl)) fun L x hL _ _=>aah L x.1 x.2 hL
end Go.Proofs.YtmfbohanboiklaaGreat
