import Derived.Test.YtmfbohanboiklaaGreatMb9
import Derived.RecoverIn
set_option linter.unusedSimpArgs false
set_option linter.unusedVariables false
set_option maxRecDepth 100000
namespace Go.Proofs.YtmfbohanboiklaaGreat
open Go.Sx
open Go.RowKit (Below)
theorem gp[Fen]{P:Program}{ro:Option Nat}:(FF P ro).round=ro:=rfl
theorem cF[Fen]{P:Program}{ops:Array Oper}{Q:Exit->Act->World->Prop}{i:Nat}{rest:List Nat}{a:Act}{w w':World}{o:Oper}{v:Value}(ho:ops[i]? =some o)(hg:o.guard=none)
  (hr:(execOp a.eval o).run P w= .ok (.value v) w') (hc:∀c,o.op≠ .call c) (h:wpOpsIn (FF P none) 0 P ops Q rest (a.put o.dst v) w'):wpOpsIn (FF P none) 0 P ops Q (i::rest) a w:=by
 simp only[wpOpsIn,ho];rw[ar (by simp[Region.wanted,hg])]
 refine ev (ro:=none) (by simp) (fun f hf=>by
  unfold Oper.about at hf;split at hf
  ·rename_i c hc';exact absurd hc' (hc c)
  ·simp at hf) ?_
 rw[hr];exact h
theorem jX[Fen]{P:Program}{ops:Array Oper}{Q:Exit->Act->World->Prop}{i:Nat}{rest:List Nat}{a:Act}{w w':World}{o:Oper}(ho:ops[i]? =some o)(hg:o.guard=none)
  (hr:(execOp a.eval o).run P w= .ok .skip w') (hc:∀c,o.op≠ .call c) (h:wpOpsIn (FF P none) 0 P ops Q rest (a.put o.dst undef) w'):wpOpsIn (FF P none) 0 P ops Q (i::rest) a w:=by
 simp only[wpOpsIn,ho];rw[ar (by simp[Region.wanted,hg])]
 refine ev (ro:=none) (by simp) (fun f hf=>by
  unfold Oper.about at hf;split at hf
  ·rename_i c hc';exact absurd hc' (hc c)
  ·simp at hf) ?_
 rw[hr];exact h
theorem b7(a:Act)(d:Option Nat)(v:Value):(a.put d v).tmps.size=a.tmps.size:=by cases d<;>simp[Act.put]
theorem cI(a:Act)(v:Value)(o:Operand):(a.put none v).eval o=a.eval o:=rfl
theorem cc(a:Act)(i j:Nat)(v:Value)(h:i<a.tmps.size):(a.put (some i) v).eval (.tmp j)=if i=j then v else a.eval (.tmp j):=by
 simp only[Act.put,Act.eval];by_cases e:i=j
 ·subst e;simp[h]
 ·simp[e]
theorem dT[Fen]{P:Program}{f a b:Nat}(h:uw P f a b)(hb:b<1000000:=by decide):∀p∈ [(f,a,b)],sQ P p.1 p.2.1 p.2.2:=fun p hp=>by
 simp only[List.mem_singleton]at hp;subst hp;refine⟨h.1,fun b off ty cs cs' k n w _ _ h1 h2=>h.2 b off ty cs cs' k n w h1 fun w1 hw1=>?_⟩
 have:=h2 w1 hw1;simp only[Co,Rg,ar hb]at this;exact this
theorem ep[Fen]{P:Program}{f a b:Nat}(h:LU P f a b):∀p∈ [(f,a,b+1000000)],sQ P p.1 p.2.1 p.2.2:=fun p hp=>by
 simp only[List.mem_singleton]at hp;subst hp;refine⟨h.1,fun c off ty cs cs' k n w hk hn h1 h2=>?_⟩
 obtain rfl:k= .i64:=hk.resolve_left (by simp)
 refine h.2 c off ty cs cs' n w hn h1 fun w1 hw1=>?_
 have:=h2 w1 hw1;simp only[Co,Rg,aq (show¬b+1000000<1000000 by omega),Nat.add_sub_cancel]at this
 exact this
theorem vK(k:IntKind)(n:Int)(w:World)(t:Nat):(Instr.typeAssert (.iface 280 (.agg #[.int k n])) t 280 true).run Tryz.prog w= .ok (.tuple #[.agg #[.int k n],.bool true]) w:=by
 simp[Instr.typeAssert,go_sem]
theorem ib[Fen]:uw Tryz.prog 184 280 49:=by
 refine⟨fun p w=>?_,fun b off ty cs₁ cs' k n w hb hs=>?_⟩
 ·refine callsDIn_of_wpSIn Go.Proofs.Tryz.func184 rfl (fun _=>by show(Tryz.prog.funcs[184]?).isSome=true;kernel_rfl) fun c₀ cs hu=>?_
  apply wpSIn_seq
  apply wpSIn_region
  simp[wpOpsSIn,go_sem,recoverD,hu,Exit.thenS];refine wpSIn_of_wpIn rfl (wpIn_block (wpIn_seq (wpIn_region ?_)));simp[wpOpsIn,go_sem,Exit.then,gp];refine wpIn_cond_true (by simp[Act.eval,Array.replicate]) (wpIn_region ?_)
  simp[wpOpsIn,go_sem,Exit.inBlock,gp];cases c₀;simp_all[bodyPostS,results,Go.Proofs.Tryz.f184]
 ·refine callsDIn_of_wpSIn Go.Proofs.Tryz.func184 rfl (fun _=>by show(Tryz.prog.funcs[184]?).isSome=true;kernel_rfl) fun c₀ cs hu=>?_
  apply wpSIn_seq
  apply wpSIn_region
  simp[wpOpsSIn,go_sem,recoverD,hu,Exit.thenS];refine wpSIn_of_wpIn rfl (wpIn_block (wpIn_seq (wpIn_region ?_)));simp[wpOpsIn,go_sem,Exit.then,gp];refine wpIn_cond_false (by simp[Act.eval,Array.replicate]) ?_
  refine wpIn_seq (wpIn_region ?_);generalize hA:({tmps:=_,defers:= []}:Act)=A
  have hz:A.tmps.size=15:=by subst hA;simp
  have hdf:A.defers= []:=by subst hA;rfl
  have h0:A.eval (.tmp 0)= .pointer (some ⟨b,off,none⟩):=by subst hA;simp[Act.eval]
  have h5:A.eval (.tmp 5)= .iface 280 (.agg #[.int k n]):=by subst hA;simp[Act.eval]
  clear hA;have hbl:b<w.heap.size:=(Array.getElem?_eq_some_iff.1 hb).1
  have hb1:(w.alloc (.cells #[.int k n] 280)).heap[b]? =some (.cells cs₁ ty (0,0)):=
   (((Below.refl _ w).alloc (Nat.le_refl _) _).block b hbl).trans hb
  refine cF (P:=Tryz.prog) rfl rfl (v:= .tuple #[.agg #[.int k n],.bool true]) (w':=w) (by simp[execOp,h5,vK]) (by intro c;simp) ?_
  refine cF (P:=Tryz.prog) rfl rfl (v:= .bool true) (w':=w) (by simp[execOp,cc,cI,b7,hz,Instr.extract]) (by intro c;simp) ?_
  refine cF (P:=Tryz.prog) rfl rfl (v:= .agg #[.int k n]) (w':=w) (by simp[execOp,cc,cI,b7,hz,Instr.extract]) (by intro c;simp) ?_
  show Code.wpIn _ _ _ _ _ _ _
  refine wpIn_cond_true (by simp[cc,b7,hz]) ?_
  refine wpIn_seq (wpIn_region ?_);refine cF (P:=Tryz.prog) rfl rfl (v:= .pointer (some ⟨w.heap.size,0,none⟩)) (w':=w.alloc (.cells #[.int .i64 0] 280)) (by simp[execOp,Instr.alloc,go_sem]) (by intro c;simp) ?_
  refine jX (P:=Tryz.prog) rfl rfl (w':=w.alloc (.cells #[.int k n] 280)) (by simp[execOp,cc,cI,b7,hz,go_sem]) (by intro c;simp) ?_
  show Code.wpIn _ _ _ _ _ _ _
  refine wpIn_region ?_;refine cF (P:=Tryz.prog) rfl rfl (v:= .pointer (some ⟨b,off,none⟩)) (w':=w.alloc (.cells #[.int k n] 280)) (by simp[execOp,cc,cI,b7,hz,h0]) (by intro c;simp) ?_
  refine cF (P:=Tryz.prog) rfl rfl (v:= .pointer (some ⟨w.heap.size,0,none⟩)) (w':=w.alloc (.cells #[.int k n] 280)) (by simp[execOp,cc,cI,b7,hz,go_sem]) (by intro c;simp) ?_
  refine cF (P:=Tryz.prog) rfl rfl (v:= .int k n) (w':=w.alloc (.cells #[.int k n] 280)) (by simp[execOp,cc,cI,b7,hz,go_sem]) (by intro c;simp) ?_
  refine cF (P:=Tryz.prog) rfl rfl (v:= .pointer (some ⟨b,off,none⟩)) (w':=w.alloc (.cells #[.int k n] 280)) (by simp[execOp,cc,cI,b7,hz]) (by intro c;simp) ?_
  refine jX (P:=Tryz.prog) rfl rfl (w':=(w.alloc (.cells #[.int k n] 280)).setRow b cs') (by simp[execOp,cc,cI,b7,hz,hs _ hb1]) (by intro c;simp) ?_
  have hbe:Below w.heap.size (w.setRow b cs') ((w.alloc (.cells #[.int k n] 280)).setRow b cs'):=by
   have hs1:∀(v:World) (c:Array Value),(v.setRow b c).heap.size=v.heap.size:=fun v c=>by simp[World.setRow]
   refine⟨rfl,rfl,rfl,by rw[hs1,hs1];exact((Below.refl _ w).alloc (Nat.le_refl _) _).size,fun j hj=>?_⟩
   by_cases e:j=b
   ·subst e;rw[gY _ _ _ _ _ hb1,gY _ _ _ _ _ hb]
   ·rw[setRow_other _ _ _ _ e,setRow_other _ _ _ _ e];exact((Below.refl _ w).alloc (Nat.le_refl _) _).block j hj
  refine⟨by simp only[put_defers];exact hdf,_,rfl,.tuple #[],by simp[results,Go.Proofs.Tryz.f184],⟨_,rfl⟩,rfl,hbe⟩
theorem vn(k:IntKind)(n:Int)(w:World)(t:Nat):(Instr.typeAssert (.iface 282 (.agg #[.int k n])) t 282 true).run Tryz.prog w= .ok (.tuple #[.agg #[.int k n],.bool true]) w:=by
 simp[Instr.typeAssert,go_sem]
theorem gD[Fen]:uw Tryz.prog 203 282 49:=by
 refine⟨fun p w=>?_,fun b off ty cs₁ cs' k n w hb hs=>?_⟩
 ·refine callsDIn_of_wpSIn Go.Proofs.Tryz.func203 rfl (fun _=>by show(Tryz.prog.funcs[203]?).isSome=true;kernel_rfl) fun c₀ cs hu=>?_
  apply wpSIn_seq
  apply wpSIn_region
  simp[wpOpsSIn,go_sem,recoverD,hu,Exit.thenS];refine wpSIn_of_wpIn rfl (wpIn_block (wpIn_seq (wpIn_region ?_)));simp[wpOpsIn,go_sem,Exit.then,gp];refine wpIn_cond_true (by simp[Act.eval,Array.replicate]) (wpIn_region ?_)
  simp[wpOpsIn,go_sem,Exit.inBlock,gp];cases c₀;simp_all[bodyPostS,results,Go.Proofs.Tryz.f203]
 ·refine callsDIn_of_wpSIn Go.Proofs.Tryz.func203 rfl (fun _=>by show(Tryz.prog.funcs[203]?).isSome=true;kernel_rfl) fun c₀ cs hu=>?_
  apply wpSIn_seq
  apply wpSIn_region
  simp[wpOpsSIn,go_sem,recoverD,hu,Exit.thenS];refine wpSIn_of_wpIn rfl (wpIn_block (wpIn_seq (wpIn_region ?_)));simp[wpOpsIn,go_sem,Exit.then,gp];refine wpIn_cond_false (by simp[Act.eval,Array.replicate]) ?_
  refine wpIn_seq (wpIn_region ?_);generalize hA:({tmps:=_,defers:= []}:Act)=A
  have hz:A.tmps.size=15:=by subst hA;simp
  have hdf:A.defers= []:=by subst hA;rfl
  have h0:A.eval (.tmp 0)= .pointer (some ⟨b,off,none⟩):=by subst hA;simp[Act.eval]
  have h5:A.eval (.tmp 5)= .iface 282 (.agg #[.int k n]):=by subst hA;simp[Act.eval]
  clear hA;have hbl:b<w.heap.size:=(Array.getElem?_eq_some_iff.1 hb).1
  have hb1:(w.alloc (.cells #[.int k n] 282)).heap[b]? =some (.cells cs₁ ty (0,0)):=
   (((Below.refl _ w).alloc (Nat.le_refl _) _).block b hbl).trans hb
  refine cF (P:=Tryz.prog) rfl rfl (v:= .tuple #[.agg #[.int k n],.bool true]) (w':=w) (by simp[execOp,h5,vn]) (by intro c;simp) ?_
  refine cF (P:=Tryz.prog) rfl rfl (v:= .bool true) (w':=w) (by simp[execOp,cc,cI,b7,hz,Instr.extract]) (by intro c;simp) ?_
  refine cF (P:=Tryz.prog) rfl rfl (v:= .agg #[.int k n]) (w':=w) (by simp[execOp,cc,cI,b7,hz,Instr.extract]) (by intro c;simp) ?_
  show Code.wpIn _ _ _ _ _ _ _
  refine wpIn_cond_true (by simp[cc,b7,hz]) ?_
  refine wpIn_seq (wpIn_region ?_);refine cF (P:=Tryz.prog) rfl rfl (v:= .pointer (some ⟨w.heap.size,0,none⟩)) (w':=w.alloc (.cells #[.int .i64 0] 282)) (by simp[execOp,Instr.alloc,go_sem]) (by intro c;simp) ?_
  refine jX (P:=Tryz.prog) rfl rfl (w':=w.alloc (.cells #[.int k n] 282)) (by simp[execOp,cc,cI,b7,hz,go_sem]) (by intro c;simp) ?_
  show Code.wpIn _ _ _ _ _ _ _
  refine wpIn_region ?_;refine cF (P:=Tryz.prog) rfl rfl (v:= .pointer (some ⟨b,off,none⟩)) (w':=w.alloc (.cells #[.int k n] 282)) (by simp[execOp,cc,cI,b7,hz,h0]) (by intro c;simp) ?_
  refine cF (P:=Tryz.prog) rfl rfl (v:= .pointer (some ⟨w.heap.size,0,none⟩)) (w':=w.alloc (.cells #[.int k n] 282)) (by simp[execOp,cc,cI,b7,hz,go_sem]) (by intro c;simp) ?_
  refine cF (P:=Tryz.prog) rfl rfl (v:= .int k n) (w':=w.alloc (.cells #[.int k n] 282)) (by simp[execOp,cc,cI,b7,hz,go_sem]) (by intro c;simp) ?_
  refine cF (P:=Tryz.prog) rfl rfl (v:= .pointer (some ⟨b,off,none⟩)) (w':=w.alloc (.cells #[.int k n] 282)) (by simp[execOp,cc,cI,b7,hz]) (by intro c;simp) ?_
  refine jX (P:=Tryz.prog) rfl rfl (w':=(w.alloc (.cells #[.int k n] 282)).setRow b cs') (by simp[execOp,cc,cI,b7,hz,hs _ hb1]) (by intro c;simp) ?_
  have hbe:Below w.heap.size (w.setRow b cs') ((w.alloc (.cells #[.int k n] 282)).setRow b cs'):=by
   have hs1:∀(v:World) (c:Array Value),(v.setRow b c).heap.size=v.heap.size:=fun v c=>by simp[World.setRow]
   refine⟨rfl,rfl,rfl,by rw[hs1,hs1];exact((Below.refl _ w).alloc (Nat.le_refl _) _).size,fun j hj=>?_⟩
   by_cases e:j=b
   ·subst e;rw[gY _ _ _ _ _ hb1,gY _ _ _ _ _ hb]
   ·rw[setRow_other _ _ _ _ e,setRow_other _ _ _ _ e];exact((Below.refl _ w).alloc (Nat.le_refl _) _).block j hj
  refine⟨by simp only[put_defers];exact hdf,_,rfl,.tuple #[],by simp[results,Go.Proofs.Tryz.f203],⟨_,rfl⟩,rfl,hbe⟩
theorem wH(k:IntKind)(n:Int)(w:World)(t:Nat):(Instr.typeAssert (.iface 299 (.agg #[.int k n])) t 299 true).run Tryz.prog w= .ok (.tuple #[.agg #[.int k n],.bool true]) w:=by
 simp[Instr.typeAssert,go_sem]
theorem HS[Fen]:uw Tryz.prog 231 299 268:=by
 refine⟨fun p w=>?_,fun b off ty cs₁ cs' k n w hb hs=>?_⟩
 ·refine callsDIn_of_wpSIn Go.Proofs.Tryz.func231 rfl (fun _=>by show(Tryz.prog.funcs[231]?).isSome=true;kernel_rfl) fun c₀ cs hu=>?_
  apply wpSIn_seq
  apply wpSIn_region
  simp[wpOpsSIn,go_sem,recoverD,hu,Exit.thenS];refine wpSIn_of_wpIn rfl (wpIn_block (wpIn_seq (wpIn_region ?_)));simp[wpOpsIn,go_sem,Exit.then,gp];refine wpIn_cond_true (by simp[Act.eval,Array.replicate]) (wpIn_region ?_)
  simp[wpOpsIn,go_sem,Exit.inBlock,gp];cases c₀;simp_all[bodyPostS,results,Go.Proofs.Tryz.f231]
 ·refine callsDIn_of_wpSIn Go.Proofs.Tryz.func231 rfl (fun _=>by show(Tryz.prog.funcs[231]?).isSome=true;kernel_rfl) fun c₀ cs hu=>?_
  apply wpSIn_seq
  apply wpSIn_region
  simp[wpOpsSIn,go_sem,recoverD,hu,Exit.thenS];refine wpSIn_of_wpIn rfl (wpIn_block (wpIn_seq (wpIn_region ?_)));simp[wpOpsIn,go_sem,Exit.then,gp];refine wpIn_cond_false (by simp[Act.eval,Array.replicate]) ?_
  refine wpIn_seq (wpIn_region ?_);generalize hA:({tmps:=_,defers:= []}:Act)=A
  have hz:A.tmps.size=12:=by subst hA;simp
  have hdf:A.defers= []:=by subst hA;rfl
  have h0:A.eval (.tmp 0)= .pointer (some ⟨b,off,none⟩):=by subst hA;simp[Act.eval]
  have h5:A.eval (.tmp 4)= .iface 299 (.agg #[.int k n]):=by subst hA;simp[Act.eval]
  clear hA;have hbl:b<w.heap.size:=(Array.getElem?_eq_some_iff.1 hb).1
  have hb1:(w.alloc (.cells #[.int k n] 299)).heap[b]? =some (.cells cs₁ ty (0,0)):=
   (((Below.refl _ w).alloc (Nat.le_refl _) _).block b hbl).trans hb
  refine cF (P:=Tryz.prog) rfl rfl (v:= .tuple #[.agg #[.int k n],.bool true]) (w':=w) (by simp[execOp,h5,wH]) (by intro c;simp) ?_
  refine cF (P:=Tryz.prog) rfl rfl (v:= .bool true) (w':=w) (by simp[execOp,cc,cI,b7,hz,Instr.extract]) (by intro c;simp) ?_
  refine cF (P:=Tryz.prog) rfl rfl (v:= .agg #[.int k n]) (w':=w) (by simp[execOp,cc,cI,b7,hz,Instr.extract]) (by intro c;simp) ?_
  show Code.wpIn _ _ _ _ _ _ _
  refine wpIn_cond_true (by simp[cc,b7,hz]) ?_
  refine wpIn_seq (wpIn_region ?_);refine cF (P:=Tryz.prog) rfl rfl (v:= .pointer (some ⟨w.heap.size,0,none⟩)) (w':=w.alloc (.cells #[.int .i64 0] 299)) (by simp[execOp,Instr.alloc,go_sem]) (by intro c;simp) ?_
  refine jX (P:=Tryz.prog) rfl rfl (w':=w.alloc (.cells #[.int k n] 299)) (by simp[execOp,cc,cI,b7,hz,go_sem]) (by intro c;simp) ?_
  show Code.wpIn _ _ _ _ _ _ _
  refine wpIn_region ?_;refine cF (P:=Tryz.prog) rfl rfl (v:= .pointer (some ⟨w.heap.size,0,none⟩)) (w':=w.alloc (.cells #[.int k n] 299)) (by simp[execOp,cc,cI,b7,hz,go_sem]) (by intro c;simp) ?_
  refine cF (P:=Tryz.prog) rfl rfl (v:= .int k n) (w':=w.alloc (.cells #[.int k n] 299)) (by simp[execOp,cc,cI,b7,hz,go_sem]) (by intro c;simp) ?_
  refine jX (P:=Tryz.prog) rfl rfl (w':=(w.alloc (.cells #[.int k n] 299)).setRow b cs') (by simp[execOp,cc,cI,b7,hz,h0,hs _ hb1]) (by intro c;simp) ?_
  have hbe:Below w.heap.size (w.setRow b cs') ((w.alloc (.cells #[.int k n] 299)).setRow b cs'):=by
   have hs1:∀(v:World) (c:Array Value),(v.setRow b c).heap.size=v.heap.size:=fun v c=>by simp[World.setRow]
   refine⟨rfl,rfl,rfl,by rw[hs1,hs1];exact((Below.refl _ w).alloc (Nat.le_refl _) _).size,fun j hj=>?_⟩
   by_cases e:j=b
   ·subst e;rw[gY _ _ _ _ _ hb1,gY _ _ _ _ _ hb]
   ·rw[setRow_other _ _ _ _ e,setRow_other _ _ _ _ e];exact((Below.refl _ w).alloc (Nat.le_refl _) _).block j hj
  refine⟨by simp only[put_defers];exact hdf,_,rfl,.tuple #[],by simp[results,Go.Proofs.Tryz.f231],⟨_,rfl⟩,rfl,hbe⟩
theorem vg(k:IntKind)(n:Int)(w:World)(t:Nat):(Instr.typeAssert (.iface 191 (.agg #[.int k n])) t 191 true).run Tryz.prog w= .ok (.tuple #[.agg #[.int k n],.bool true]) w:=by
 simp[Instr.typeAssert,go_sem]
theorem kP[Fen]:uw Tryz.prog 82 191 49:=by
 refine⟨fun p w=>?_,fun b off ty cs₁ cs' k n w hb hs=>?_⟩
 ·refine callsDIn_of_wpSIn Go.Proofs.Tryz.func82 rfl (fun _=>by show(Tryz.prog.funcs[82]?).isSome=true;kernel_rfl) fun c₀ cs hu=>?_
  apply wpSIn_seq
  apply wpSIn_region
  simp[wpOpsSIn,go_sem,recoverD,hu,Exit.thenS];refine wpSIn_of_wpIn rfl (wpIn_block (wpIn_seq (wpIn_region ?_)));simp[wpOpsIn,go_sem,Exit.then,gp];refine wpIn_cond_true (by simp[Act.eval,Array.replicate]) (wpIn_region ?_)
  simp[wpOpsIn,go_sem,Exit.inBlock,gp];cases c₀;simp_all[bodyPostS,results,Go.Proofs.Tryz.f82]
 ·refine callsDIn_of_wpSIn Go.Proofs.Tryz.func82 rfl (fun _=>by show(Tryz.prog.funcs[82]?).isSome=true;kernel_rfl) fun c₀ cs hu=>?_
  apply wpSIn_seq
  apply wpSIn_region
  simp[wpOpsSIn,go_sem,recoverD,hu,Exit.thenS];refine wpSIn_of_wpIn rfl (wpIn_block (wpIn_seq (wpIn_region ?_)));simp[wpOpsIn,go_sem,Exit.then,gp];refine wpIn_cond_false (by simp[Act.eval,Array.replicate]) ?_
  refine wpIn_seq (wpIn_region ?_);generalize hA:({tmps:=_,defers:= []}:Act)=A
  have hz:A.tmps.size=15:=by subst hA;simp
  have hdf:A.defers= []:=by subst hA;rfl
  have h0:A.eval (.tmp 0)= .pointer (some ⟨b,off,none⟩):=by subst hA;simp[Act.eval]
  have h5:A.eval (.tmp 5)= .iface 191 (.agg #[.int k n]):=by subst hA;simp[Act.eval]
  clear hA;have hbl:b<w.heap.size:=(Array.getElem?_eq_some_iff.1 hb).1
  have hb1:(w.alloc (.cells #[.int k n] 191)).heap[b]? =some (.cells cs₁ ty (0,0)):=
   (((Below.refl _ w).alloc (Nat.le_refl _) _).block b hbl).trans hb
  refine cF (P:=Tryz.prog) rfl rfl (v:= .tuple #[.agg #[.int k n],.bool true]) (w':=w) (by simp[execOp,h5,vg]) (by intro c;simp) ?_
  refine cF (P:=Tryz.prog) rfl rfl (v:= .bool true) (w':=w) (by simp[execOp,cc,cI,b7,hz,Instr.extract]) (by intro c;simp) ?_
  refine cF (P:=Tryz.prog) rfl rfl (v:= .agg #[.int k n]) (w':=w) (by simp[execOp,cc,cI,b7,hz,Instr.extract]) (by intro c;simp) ?_
  show Code.wpIn _ _ _ _ _ _ _
  refine wpIn_cond_true (by simp[cc,b7,hz]) ?_
  refine wpIn_seq (wpIn_region ?_);refine cF (P:=Tryz.prog) rfl rfl (v:= .pointer (some ⟨w.heap.size,0,none⟩)) (w':=w.alloc (.cells #[.int .i64 0] 191)) (by simp[execOp,Instr.alloc,go_sem]) (by intro c;simp) ?_
  refine jX (P:=Tryz.prog) rfl rfl (w':=w.alloc (.cells #[.int k n] 191)) (by simp[execOp,cc,cI,b7,hz,go_sem]) (by intro c;simp) ?_
  show Code.wpIn _ _ _ _ _ _ _
  refine wpIn_region ?_;refine cF (P:=Tryz.prog) rfl rfl (v:= .pointer (some ⟨b,off,none⟩)) (w':=w.alloc (.cells #[.int k n] 191)) (by simp[execOp,cc,cI,b7,hz,h0]) (by intro c;simp) ?_
  refine cF (P:=Tryz.prog) rfl rfl (v:= .pointer (some ⟨w.heap.size,0,none⟩)) (w':=w.alloc (.cells #[.int k n] 191)) (by simp[execOp,cc,cI,b7,hz,go_sem]) (by intro c;simp) ?_
  refine cF (P:=Tryz.prog) rfl rfl (v:= .int k n) (w':=w.alloc (.cells #[.int k n] 191)) (by simp[execOp,cc,cI,b7,hz,go_sem]) (by intro c;simp) ?_
  refine cF (P:=Tryz.prog) rfl rfl (v:= .pointer (some ⟨b,off,none⟩)) (w':=w.alloc (.cells #[.int k n] 191)) (by simp[execOp,cc,cI,b7,hz]) (by intro c;simp) ?_
  refine jX (P:=Tryz.prog) rfl rfl (w':=(w.alloc (.cells #[.int k n] 191)).setRow b cs') (by simp[execOp,cc,cI,b7,hz,hs _ hb1]) (by intro c;simp) ?_
  have hbe:Below w.heap.size (w.setRow b cs') ((w.alloc (.cells #[.int k n] 191)).setRow b cs'):=by
   have hs1:∀(v:World) (c:Array Value),(v.setRow b c).heap.size=v.heap.size:=fun v c=>by simp[World.setRow]
   refine⟨rfl,rfl,rfl,by rw[hs1,hs1];exact((Below.refl _ w).alloc (Nat.le_refl _) _).size,fun j hj=>?_⟩
   by_cases e:j=b
   ·subst e;rw[gY _ _ _ _ _ hb1,gY _ _ _ _ _ hb]
   ·rw[setRow_other _ _ _ _ e,setRow_other _ _ _ _ e];exact((Below.refl _ w).alloc (Nat.le_refl _) _).block j hj
  refine⟨by simp only[put_defers];exact hdf,_,rfl,.tuple #[],by simp[results,Go.Proofs.Tryz.f82],⟨_,rfl⟩,rfl,hbe⟩
theorem vC(n:Int)(w:World)(t:Nat):(Instr.typeAssert (.iface 195 (.agg #[.int .i64 n])) t 195 true).run Tryz.prog w= .ok (.tuple #[.agg #[.int .i64 n],.bool true]) w:=by
 simp[Instr.typeAssert,go_sem]
theorem zr{n:Int}(hn:ck .i64 n)(w:World):(Instr.build 66 #[(0,.int .i64 n)]).run Tryz.prog w= .ok (den Env.zero (UR n)) w:=
 (rB (J:=Env.zero) (w:=w) (K:=fun _=>True) (C:=(Yc [] [] [] cg bj).toCtx) (t:=66) (parts:= [(0,.it .i64 n)]) (r:=UR n) (vl mJ) (by kernel_rfl) (by simp;exact hn)).1
theorem bY[Fen]:LU Tryz.prog 110 195 66:=by
 refine⟨fun p w=>?_,fun b off ty cs₁ cs' n w hn hb hs=>?_⟩
 ·refine callsDIn_of_wpSIn Go.Proofs.Tryz.func110 rfl (fun _=>by show(Tryz.prog.funcs[110]?).isSome=true;kernel_rfl) fun c₀ cs hu=>?_
  apply wpSIn_seq
  apply wpSIn_region
  simp[wpOpsSIn,go_sem,recoverD,hu,Exit.thenS];refine wpSIn_of_wpIn rfl (wpIn_block (wpIn_seq (wpIn_region ?_)));simp[wpOpsIn,go_sem,Exit.then,gp];refine wpIn_cond_true (by simp[Act.eval,Array.replicate]) (wpIn_region ?_)
  simp[wpOpsIn,go_sem,Exit.inBlock,gp];cases c₀;simp_all[bodyPostS,results,Go.Proofs.Tryz.f110]
 ·refine callsDIn_of_wpSIn Go.Proofs.Tryz.func110 rfl (fun _=>by show(Tryz.prog.funcs[110]?).isSome=true;kernel_rfl) fun c₀ cs hu=>?_
  apply wpSIn_seq
  apply wpSIn_region
  simp[wpOpsSIn,go_sem,recoverD,hu,Exit.thenS];refine wpSIn_of_wpIn rfl (wpIn_block (wpIn_seq (wpIn_region ?_)));simp[wpOpsIn,go_sem,Exit.then,gp];refine wpIn_cond_false (by simp[Act.eval,Array.replicate]) ?_
  refine wpIn_seq (wpIn_region ?_);generalize hA:({tmps:=_,defers:= []}:Act)=A
  have hz:A.tmps.size=13:=by subst hA;simp
  have hdf:A.defers= []:=by subst hA;rfl
  have h0:A.eval (.tmp 0)= .pointer (some ⟨b,off,none⟩):=by subst hA;simp[Act.eval]
  have h5:A.eval (.tmp 4)= .iface 195 (.agg #[.int .i64 n]):=by subst hA;simp[Act.eval]
  clear hA;have hbl:b<w.heap.size:=(Array.getElem?_eq_some_iff.1 hb).1
  have hb1:(w.alloc (.cells #[.int .i64 n] 195)).heap[b]? =some (.cells cs₁ ty (0,0)):=
   (((Below.refl _ w).alloc (Nat.le_refl _) _).block b hbl).trans hb
  refine cF (P:=Tryz.prog) rfl rfl (v:= .tuple #[.agg #[.int .i64 n],.bool true]) (w':=w) (by simp[execOp,h5,vC]) (by intro c;simp) ?_
  refine cF (P:=Tryz.prog) rfl rfl (v:= .bool true) (w':=w) (by simp[execOp,cc,cI,b7,hz,Instr.extract]) (by intro c;simp) ?_
  refine cF (P:=Tryz.prog) rfl rfl (v:= .agg #[.int .i64 n]) (w':=w) (by simp[execOp,cc,cI,b7,hz,Instr.extract]) (by intro c;simp) ?_
  show Code.wpIn _ _ _ _ _ _ _
  refine wpIn_cond_true (by simp[cc,b7,hz]) ?_
  refine wpIn_seq (wpIn_region ?_);refine cF (P:=Tryz.prog) rfl rfl (v:= .pointer (some ⟨w.heap.size,0,none⟩)) (w':=w.alloc (.cells #[.int .i64 0] 195)) (by simp[execOp,Instr.alloc,go_sem]) (by intro c;simp) ?_
  refine jX (P:=Tryz.prog) rfl rfl (w':=w.alloc (.cells #[.int .i64 n] 195)) (by simp[execOp,cc,cI,b7,hz,go_sem]) (by intro c;simp) ?_
  show Code.wpIn _ _ _ _ _ _ _
  refine wpIn_region ?_;refine cF (P:=Tryz.prog) rfl rfl (v:= .pointer (some ⟨w.heap.size,0,none⟩)) (w':=w.alloc (.cells #[.int .i64 n] 195)) (by simp[execOp,cc,cI,b7,hz,go_sem]) (by intro c;simp) ?_
  refine cF (P:=Tryz.prog) rfl rfl (v:= .int .i64 n) (w':=w.alloc (.cells #[.int .i64 n] 195)) (by simp[execOp,cc,cI,b7,hz,go_sem]) (by intro c;simp) ?_
  refine cF (P:=Tryz.prog) rfl rfl (v:=den Env.zero (UR n)) (w':=w.alloc (.cells #[.int .i64 n] 195)) (by simp only[execOp,Array.map,cc,cI,b7,hz];first|rfl| (simp[cc,cI,b7,hz,zr hn])) (by intro c;simp) ?_
  refine jX (P:=Tryz.prog) rfl rfl (w':=(w.alloc (.cells #[.int .i64 n] 195)).setRow b cs') (by simp[execOp,cc,cI,b7,hz,h0,hs _ hb1]) (by intro c;simp) ?_
  have hbe:Below w.heap.size (w.setRow b cs') ((w.alloc (.cells #[.int .i64 n] 195)).setRow b cs'):=by
   have hs1:∀(v:World) (c:Array Value),(v.setRow b c).heap.size=v.heap.size:=fun v c=>by simp[World.setRow]
   refine⟨rfl,rfl,rfl,by rw[hs1,hs1];exact((Below.refl _ w).alloc (Nat.le_refl _) _).size,fun j hj=>?_⟩
   by_cases e:j=b
   ·subst e;rw[gY _ _ _ _ _ hb1,gY _ _ _ _ _ hb]
   ·rw[setRow_other _ _ _ _ e,setRow_other _ _ _ _ e];exact((Below.refl _ w).alloc (Nat.le_refl _) _).block j hj
  refine⟨by simp only[put_defers];exact hdf,_,rfl,.tuple #[],by simp[results,Go.Proofs.Tryz.f110],⟨_,rfl⟩,rfl,hbe⟩
theorem K2(k:Key):
 ((bN []|| !decide (bF k=0))=true->void=aI [] k)/\
   ((bN []|| !decide (bF k=0))=false->
     ((bq k&& !bm [] k)=true->void=aI [] k)/\((bq k&& !bm [] k)=false->k=aI [] k)):=by
 exact DE [] k
theorem LN(L:List Sx.Obj)(k:Key):
 ((bN L|| !decide (bF k=0))=true->void=aI L k)/\
   ((bN L|| !decide (bF k=0))=false->
     ((bq k&& !bm L k)=true->void=aI L k)/\((bq k&& !bm L k)=false->k=aI L k)):=by
 exact DE L k
theorem fV[Fen]:dq Tryz.prog 26 V2:=
 xq gI (fun _ _=>rfl) (fun x _=>bG (inl:=cg) (ann:=bj) (aH ph (aH fW (aH dB (aH bT aO)))) (K2 x) (by kernel_rfl)) (fun L x _ _ _=>bG (inl:=cg) (ann:=bj) (aH ph (aH fW (aH dB (aH bT aO)))) (LN L x) (by kernel_rfl)) fun _=>rfl
theorem NV(l:List Sx.Obj)(k:Key):
 ((decide (bK (aJ l)=0)|| !decide (bF k=0)||decide (0<=bu k)&& !bm l k)=true->
   void=aI l k)/\
   ((decide (bK (aJ l)=0)|| !decide (bF k=0)||decide (0<=bu k)&& !bm l k)=false->
     k=aI l k):=by
 exact JI l k
theorem Nv[Fen]:dq Tryz.prog 10 Td:=GZ gI (fun _ _=>rfl) (fun l k _ _ _=>bG (inl:=cg) (ann:=bj) (aH wX (aH oF (aH FX aO))) (NV l k) (by kernel_rfl)) fun _=>rfl
end Go.Proofs.YtmfbohanboiklaaGreat
namespace Go.Sx
def wkX(nid:Nat):V:= .mp nid
def wkN(nid:Nat):List aQ:= [.mp .i64 [2,3,1,8] [.fn 116 [.lp (nid+1) 0],.fn 116 [.lp (nid+1+1) 0],.fn 114 [],.fn 114 []],
 .blk 36 (.ci .i64 3),.blk 36 (.ci .i64 1)]
def tN:Nat:=238
def clR(L:List Obj)(t f:Key)(g:Int):aQ:= .blk tN (.ag [.ob (gw (aG L t) (gm L t f g)),.lp 0 0,.key t])
end Go.Sx
namespace Go.Proofs.YtmfbohanboiklaaGreat
open Go.Sx
theorem TX:
 true=true/\
 true=true/\
  ∀(nid:Nat),some (wkX nid)=some (wkX nid)/\some (wkN nid)=some (wkN nid):=by
 exact⟨rfl,rfl,fun nid=>⟨rfl,rfl⟩⟩
theorem Sp[Fen]:dq Tryz.prog 97 (zR wkX wkN):=uy (π:= [0,1,2]) (by decide) (fun _=>rfl) (bV (inl:=(abE [115])) (ann:=bj) aO aU TX (by kernel_rfl))
theorem II(k:Key):
 au (!decide (bF k=0)) (void=fi k/\2=bF k) (au (decide (k.kind=2)||(decide (k.kind=3)||(decide (k.kind=1)||decide (k.kind=8)))) (au (decide (k.kind=2)) (aw ({kind:=k.kind,oid:=k.oid,count:=k.count,call:=k.call,rights:=bw BinOp.or IntKind.i64 k.rights 3,value:=k.value}=fi k/\0=bF k)) (au (decide (k.kind=3)) (aw ({kind:=k.kind,oid:=k.oid,count:=k.count,call:=k.call,rights:=bw BinOp.or IntKind.i64 k.rights 1,value:=k.value}=fi k/\0=bF k)) (au (decide (k.kind=1)) (aw (k=fi k/\0=bF k)) (au (decide (k.kind=8)) (aw (k=fi k/\0=bF k)) False)))) (void=fi k/\0=bF k)):=by
 delta au aw
 unfold fi bF;cases hok:bc k
 ·simp
 have hr:=gL hok;have o3:k.kind=2->bw BinOp.or IntKind.i64 k.rights 3=iZ k.rights 3:=fun e=>Mo hr.1 (by rw[e]at hr;exact hr.2)
 have o1:k.kind=3->bw BinOp.or IntKind.i64 k.rights 1=1:=fun e=>Ez hr.1 (by rw[e]at hr;exact hr.2)
 unfold ti dc;grind
theorem vU[Fen]:dq Tryz.prog 72 Oc:=
 qj gI (fun _=>rfl) fun k hk=>bV (inl:=(abE [116,114])) (ann:=bj) (aH fW (aH Sp aO)) aU (II k) (by kernel_rfl)
theorem PM(o:Sx.Obj)(k:Key)(i:Int)(hq:nZ k i):
 (0<=i/\i< ↑16)/\
  ((!decide (bw BinOp.and IntKind.i64 k.rights 2=0))=true->
    fi (aI [] (o.slots.at i.toNat))=jP [] o k i)/\
    ((!decide (bw BinOp.and IntKind.i64 k.rights 2=0))=false->
      aI [] (o.slots.at i.toNat)=jP [] o k i):=by
 exact Hv hq
theorem Tz(o:Sx.Obj)(L:List Sx.Obj)(k:Key)(i:Int)(hq:nZ k i):
 (0<=i/\i< ↑16)/\
  ((!decide (bw BinOp.and IntKind.i64 k.rights 2=0))=true->
    fi (aI L (o.slots.at i.toNat))=jP L o k i)/\
    ((!decide (bw BinOp.and IntKind.i64 k.rights 2=0))=false->aI L (o.slots.at i.toNat)=jP L o k i):=by
 exact Hv hq
theorem nJ[Fen]:dq Tryz.prog 187 W0:=
 kf (aZ (Cl ZN) (aZ fk dg)) (fun _=>rfl) fun a hq hok=>by
  obtain⟨⟨o,S,k,_⟩,i,_⟩:=a;cases S with
  |none=>exact bG (inl:=cg) (ann:=bj) (aH fV (aH vU aO)) (PM o k i hq) (by kernel_rfl)
  |some L=>exact bG (inl:=cg) (ann:=bj) (aH fV (aH vU aO)) (Tz o L k i hq) (by kernel_rfl)
theorem N4(k:Key)(i:Int):
 aw (aw (au (!decide (0<aK [])) (void=bd [] k i/\1=dC [] k i) (aw (au (!(bm [] k&&decide (k.kind=2))) (void=bd [] k i/\190=dC [] k i) (aw (aw (au (!(decide (0<=i)&&decide (i<16))) (void=bd [] k i/\4=dC [] k i) (nZ k i/\jP [] (aG [] k) k i=bd [] k i/\0=dC [] k i)))))))):=by
 delta au aw
 have hE:∀e,br [] k 2 false=e->e≠0->void=bd [] k i/\e=dC [] k i:=fun e h h0=>by
  unfold bd dC;rw[h,aq h0,aq h0];exact⟨rfl,rfl⟩
 refine⟨rfl,rfl,fun h=>hE _ ?_ (by omega),fun h=>⟨rfl,fun h2=>hE _ ?_ (by omega),fun h2=>⟨rfl,rfl,fun h3=>?_,fun h3=>?_⟩⟩⟩
 ·unfold br;unfold aK at h;rw[ar (by simp at h;omega)]
 ·unfold br;unfold aK at h;rw[aq (by simp at h;omega),ar (by simpa using h2)]
 ·have hA:br [] k 2 false=0:=by
   unfold br;unfold aK at h;rw[aq (by simp at h;omega),aq (by simpa using h2),aq (by simp)]
  rw[Bool.not_eq_true']at h3;unfold bd dC mS;rw[hA,ar rfl,h3];exact⟨rfl,rfl⟩
 ·have hA:br [] k 2 false=0:=by
   unfold br;unfold aK at h;rw[aq (by simp at h;omega),aq (by simpa using h2),aq (by simp)]
  obtain⟨a1,_,_⟩:=lQ hA;obtain⟨b1,b2,b3,b4,_⟩:=fC a1;rw[Bool.not_eq_false']at h3;have h3':0<=i/\i<16:=by simpa using h3
  unfold bd dC mS;rw[hA,ar rfl,h3,ar rfl,ar rfl,b4];exact⟨⟨h3'.1,h3'.2,b1⟩,rfl,rfl⟩
theorem Q5(L:List Sx.Obj)(k:Key)(i:Int):
 aw (aw (au (!decide (0<aK L)) (void=bd L k i/\1=dC L k i) (aw (au (!(bm L k&&decide (k.kind=2))) (void=bd L k i/\190=dC L k i) (aw (aw (au (!(decide (0<=i)&&decide (i<16))) (void=bd L k i/\4=dC L k i) (nZ k i/\jP L (aG L k) k i=bd L k i/\0=dC L k i)))))))):=by
 delta au aw
 have hE:∀e,br L k 2 false=e->e≠0->void=bd L k i/\e=dC L k i:=fun e h h0=>by
  unfold bd dC;rw[h,aq h0,aq h0];exact⟨rfl,rfl⟩
 refine⟨rfl,rfl,fun h=>hE _ ?_ (by omega),fun h=>⟨rfl,fun h2=>hE _ ?_ (by omega),fun h2=>⟨rfl,rfl,fun h3=>?_,fun h3=>?_⟩⟩⟩
 ·unfold br;unfold aK at h;rw[ar (by simp at h;omega)]
 ·unfold br;unfold aK at h;rw[aq (by simp at h;omega),ar (by simpa using h2)]
 ·have hA:br L k 2 false=0:=by
   unfold br;unfold aK at h;rw[aq (by simp at h;omega),aq (by simpa using h2),aq (by simp)]
  rw[Bool.not_eq_true']at h3;unfold bd dC mS;rw[hA,ar rfl,h3];exact⟨rfl,rfl⟩
 ·have hA:br L k 2 false=0:=by
   unfold br;unfold aK at h;rw[aq (by simp at h;omega),aq (by simpa using h2),aq (by simp)]
  obtain⟨a1,_,_⟩:=lQ hA;obtain⟨b1,b2,b3,b4,_⟩:=fC a1;rw[Bool.not_eq_false']at h3;have h3':0<=i/\i<16:=by simpa using h3
  unfold bd dC mS;rw[hA,ar rfl,h3,ar rfl,ar rfl,b4];exact⟨⟨h3'.1,h3'.2,b1⟩,rfl,rfl⟩
theorem rR[Fen]:dq Tryz.prog 136 VQ:=
 kf (aZ sH (aZ mT (aZ fk dg))) (fun _=>rfl) fun a hq hok=>by
  obtain⟨S,k,i,_⟩:=a;cases S with
  |none=>exact bk (inl:=(abE [186,185])) (ann:=bj) (aH bE (aH bT (aH nJ aO))) aU (dT ib) (N4 k i) (by kernel_rfl)
  |some L=>exact bk (inl:=(abE [186,185])) (ann:=bj) (aH bE (aH bT (aH nJ aO))) aU (dT ib) (Q5 L k i) (by kernel_rfl)
theorem O9(k:Key)(i:Int)(v:Key):
 aw (aw (au (!decide (0<aK [])) (void=fl [] k i v/\1=b8 [] k i v) (aw (au (!(bm [] k&&decide (k.kind=2))) (void=fl [] k i v/\190=b8 [] k i v) (aw (au (!decide (bw BinOp.and IntKind.i64 k.rights 3=0)) (void=fl [] k i v/\191=b8 [] k i v) (aw (au (!(decide (0<=i)&&decide (i<16))) (void=fl [] k i v/\4=b8 [] k i v) (aw (au (!(decide (bF v=0)&&(!bq v||decide (cw v<aK [])))) (void=fl [] k i v/\2=b8 [] k i v) (nZ k i/\aw (aw ((0<=i/\i< ↑16)/\aw (jP [] (aG [] k) k i=fl [] k i v/\0=b8 [] k i v)))))))))))))):=by
 delta au aw
 refine⟨rfl,rfl,fun _=>⟨rfl,rfl⟩,fun h=>absurd h (by decide)⟩
theorem Mt(k:Key)(i:Int)(v:Key):
 aw (aw (au (!decide (0<aK [])) (void=fl [] k i v/\1=b8 [] k i v) (aw (au (!(bm [] k&&decide (k.kind=2))) (void=fl [] k i v/\190=b8 [] k i v) (aw (au (!decide (bw BinOp.and IntKind.i64 k.rights 3=0)) (void=fl [] k i v/\191=b8 [] k i v) (aw (au (!(decide (0<=i)&&decide (i<16))) (void=fl [] k i v/\4=b8 [] k i v) (aw (au (!(decide (bF v=0)&&(!bq v||decide (cw v<aK [])))) (void=fl [] k i v/\2=b8 [] k i v) (nZ k i/\aw (aw ((0<=i/\i< ↑16)/\aw False))))))))))))):=by
 delta au aw
 refine⟨rfl,rfl,fun _=>⟨rfl,rfl⟩,fun h=>absurd h (by decide)⟩
theorem RL(L:List Sx.Obj)(k:Key)(i:Int)(v:Key)(hL:aP L):
 aw (aw (au (!decide (0<aK L)) ((void=fl L k i v/\1=b8 L k i v)/\L=eJ L k i v) (aw (au (!(bm L k&&decide (k.kind=2))) ((void=fl L k i v/\190=b8 L k i v)/\L=eJ L k i v) (aw (au (!decide (bw BinOp.and IntKind.i64 k.rights 3=0)) ((void=fl L k i v/\191=b8 L k i v)/\L=eJ L k i v) (aw (au (!(decide (0<=i)&&decide (i<16))) ((void=fl L k i v/\4=b8 L k i v)/\L=eJ L k i v) (aw (au (!(decide (bF v=0)&&(!bq v||decide (cw v<aK L)))) ((void=fl L k i v/\2=b8 L k i v)/\L=eJ L k i v) (nZ k i/\aw (aw ((0<=i/\i< ↑16)/\aw ((jP L (aG L k) k i=fl L k i v/\0=b8 L k i v)/\cM L k.oid {kind:=(aG L k).kind,count:=(aG L k).count,calls:=(aG L k).calls,slots:=(aG L k).slots.put i.toNat (aI L v),bytes:=(aG L k).bytes}=eJ L k i v)))))))))))))):=by
 delta au aw
 have fin:∀e,b8 L k i v=e->e≠0->(void=fl L k i v/\e=b8 L k i v)/\L=eJ L k i v:=fun e h h0=>by
  unfold fl eJ;rw[h,aq h0,aq h0];exact⟨⟨rfl,rfl⟩,rfl⟩
 have bad:∀e,br L k 2 true=e->e≠0->b8 L k i v=e:=fun e h h0=>by unfold b8;rw[h,aq h0]
 refine⟨rfl,rfl,fun h=>fin _ (bad _ (L9 h) (by omega)) (by omega),fun h=>⟨rfl,fun h2=>fin _ (bad _ (JN h h2) (by omega)) (by omega),fun h2=>⟨rfl,fun h3=>fin _ (bad _ (XI h h2 h3) (by omega)) (by omega),fun h3=>⟨rfl,fun h4=>fin 4 ?_ (by omega),fun h4=>⟨rfl,fun h5=>fin 2 ?_ (by omega),fun h5=>?_⟩⟩⟩⟩⟩
 ·rw[Bool.not_eq_true']at h4;unfold b8 mS;rw[IH h h2 h3,ar rfl,h4];rfl
 ·rw[Bool.not_eq_false']at h4;have hm:cJ L v=false:=by rw[<-tz];rw[Bool.not_eq_true']at h5;exact h5
  unfold b8 mS;rw[IH h h2 h3,ar rfl,h4,hm];rfl
 ·rw[Bool.not_eq_false']at h4;have h4':0<=i/\i<16:=by simpa using h4
  have hm:cJ L v=true:=by rw[<-tz];rw[Bool.not_eq_false']at h5;exact h5
  have hE:b8 L k i v=0:=by
   unfold b8 mS;rw[IH h h2 h3,ar rfl,h4,hm];rfl
  obtain⟨a1,a2⟩:=mO h2;obtain⟨b1,b2,b3,b4,_⟩:=fC a1;have hp:=(oE hL a1 a2 (C2 (v:=v) hL a1 a2 h4'.1 h4'.2)).1;unfold fl eJ;rw[hE,ar rfl,ar rfl,<-hp,b4];exact⟨⟨h4'.1,h4'.2,b1⟩,rfl,rfl,⟨h4'.1,by omega⟩,rfl,⟨rfl,rfl⟩,rfl⟩
theorem SQ[Fen](L:List Sx.Obj)(k:Key)(i:Int)(v:Key)(hL:aP L):aL Tryz.prog 139 [.lp 0 0,.key k,.it .i64 i,.key v] [.store tS eS L] (z6 (.tp [.key (fl L k i v),.it .i64 (b8 L k i v)]) (eJ L k i v)) (fun _ _=>False):=
 bk (inl:=(abE [186,185,188,189])) (ann:=bj) (aH bE (aH bT (aH nJ (aH dB (aH fW (aH fV aO)))))) (aV dv aU) (dT ib) (RL L k i v hL) (by kernel_rfl)
theorem Hz[Fen]:k7 Tryz.prog 139 Xy:=
 na (m:=fun x=> [.key x.1,.it .i64 x.2.1,.key x.2.2]) Pb (fun _=>rfl) (fun _ _=>rfl) (fun x=>bk (inl:=(abE [186,185,188,189])) (ann:=bj) (aH bE (aH bT (aH nJ (aH dB (aH fW (aH fV aO)))))) (aV dv aU) (dT ib) (O9 x.1 x.2.1 x.2.2) (by kernel_rfl)) (fun x=>bk (inl:=(abE [186,185,188,189])) (ann:=bj) (aH bE (aH bT (aH nJ (aH dB (aH fW (aH fV aO)))))) (aV dv aU) (dT ib) (Mt x.1 x.2.1 x.2.2) (by kernel_rfl)) fun L x hL _ _=>SQ L x.1 x.2.1 x.2.2 hL
theorem Mj(k:Key):
 aw (aw (au (!decide (0<aK [])) (1=br [] k 2 true) (aw (au (!(bm [] k&&decide (k.kind=2))) (190=br [] k 2 true) (aw (au (!decide (bw BinOp.and IntKind.i64 k.rights 3=0)) (191=br [] k 2 true) (aw (aw (aw (0=br [] k 2 true)))))))))):=by
 delta au aw
 refine⟨rfl,rfl,fun _=>rfl,fun h=>absurd h (by decide)⟩
theorem Pu(k:Key):
 aw (aw (au (!decide (0<aK [])) (1=br [] k 2 true) (aw (au (!(bm [] k&&decide (k.kind=2))) (190=br [] k 2 true) (aw (au (!decide (bw BinOp.and IntKind.i64 k.rights 3=0)) (191=br [] k 2 true) (aw (aw (aw False))))))))):=by
 delta au aw
 refine⟨rfl,rfl,fun _=>rfl,fun h=>absurd h (by decide)⟩
theorem Sr(L:List Sx.Obj)(k:Key)(hL:aP L):
 aw (aw (au (!decide (0<aK L)) (1=br L k 2 true/\L=gV L k) (aw (au (!(bm L k&&decide (k.kind=2))) (190=br L k 2 true/\L=gV L k) (aw (au (!decide (bw BinOp.and IntKind.i64 k.rights 3=0)) (191=br L k 2 true/\L=gV L k) (aw (aw (aw (0=br L k 2 true/\cM L k.oid {kind:=(aG L k).kind,count:=(aG L k).count,calls:=(aG L k).calls,slots:=gW,bytes:=(aG L k).bytes}=gV L k)))))))))):=by
 delta au aw
 have fin:∀e,br L k 2 true=e->e≠0->e=br L k 2 true/\L=gV L k:=fun e h h0=>by
  unfold gV;rw[h,aq h0];exact⟨rfl,rfl⟩
 refine⟨rfl,rfl,fun h=>fin _ (L9 h) (by omega),fun h=>⟨rfl,fun h2=>fin _ (JN h h2) (by omega),fun h2=>⟨rfl,fun h3=>fin _ (XI h h2 h3) (by omega),fun h3=>⟨rfl,rfl,rfl,?_⟩⟩⟩⟩
 obtain⟨a1,a2⟩:=mO h2;have hp:=(oE hL a1 a2 (G0 (by omega))).1
 unfold gV;rw[IH h h2 h3,ar rfl,<-hp];exact⟨rfl,rfl⟩
theorem Tx[Fen](L:List Sx.Obj)(k:Key)(hL:aP L):aL Tryz.prog 142 [.lp 0 0,.key k] [.store tS eS L] (z6 (.it .i64 (br L k 2 true)) (gV L k)) (fun _ _=>False):=
 bk (inl:=(abE [186,185,188,190])) (ann:=bj) (aH bE (aH bT aO)) (aV dv aU) (dT ib) (Sr L k hL) (by kernel_rfl)
theorem Tp[Fen]:k7 Tryz.prog 142 V1:=
 na (m:=fun x=> [.key x]) OA (fun _=>rfl) (fun _ _=>rfl) (fun x=>bk (inl:=(abE [186,185,188,190])) (ann:=bj) (aH bE (aH bT aO)) (aV dv aU) (dT ib) (Mj x) (by kernel_rfl)) (fun x=>bk (inl:=(abE [186,185,188,190])) (ann:=bj) (aH bE (aH bT aO)) (aV dv aU) (dT ib) (Pu x) (by kernel_rfl)) fun L x hL _ _=>Tx L x hL
theorem Pf(t f:Key):
 aw (aw (au (!decide (0<aK [])) (1=dh [] t f) (aw (au (!(bm [] t&&decide (t.kind=2))) (190=dh [] t f) (aw (au (!decide (bw BinOp.and IntKind.i64 t.rights 3=0)) (191=dh [] t f) (aw (aw (au (!decide (0<aK [])) (1=dh [] t f) (aw (au (!(bm [] f&&decide (f.kind=2))) (190=dh [] t f) (aw (aw (aw False)))))))))))))):=by
 delta au aw
 refine⟨rfl,rfl,fun _=>rfl,fun h=>absurd h (by decide)⟩
theorem MK(t f:Key):
 aw (aw (au (!decide (0<aK [])) (1=dh [] t f) (aw (au (!(bm [] t&&decide (t.kind=2))) (190=dh [] t f) (aw (au (!decide (bw BinOp.and IntKind.i64 t.rights 3=0)) (191=dh [] t f) (aw (aw (au (!decide (0<aK [])) (1=dh [] t f) (aw (au (!(bm [] f&&decide (f.kind=2))) (190=dh [] t f) (aw (aw (aw False)))))))))))))):=by
 delta au aw
 refine⟨rfl,rfl,fun _=>rfl,fun h=>absurd h (by decide)⟩
theorem Sk(L:List Sx.Obj)(t f:Key)(hL:aP L):
 aw (aw (au (!decide (0<aK L)) (1=dh L t f/\L=gu L t f) (aw (au (!(bm L t&&decide (t.kind=2))) (190=dh L t f/\L=gu L t f) (aw (au (!decide (bw BinOp.and IntKind.i64 t.rights 3=0)) (191=dh L t f/\L=gu L t f) (aw (aw (au (!decide (0<aK L)) (1=dh L t f/\L=gu L t f) (aw (au (!(bm L f&&decide (f.kind=2))) (190=dh L t f/\L=gu L t f) (aw (aw (aw ((∃g,lE g/\0=g/\L=L/\t=t/\f=f/\t=t/\aG L t=aG L t/\t=t/\aG L t=aG L t/\aG L t=aG L t/\t=t/\f=f/\aG L f=aG L f/\f=f/\aG L f=aG L f/\aG L f=aG L f/\f=f/\aG L t=gw (aG L t) (gm L t f g)/\t=t)/\∀(g:Int),lE g->au (decide (g<16)) (nZ f g/\(0<=g/\g< ↑16)/\bg IntKind.i64 (g+1)/\∃g',lE g'/\Bw g'<Bw g/\g+1=g'/\L=L/\t=t/\f=f/\t=t/\aG L t=aG L t/\t=t/\aG L t=aG L t/\aG L t=aG L t/\t=t/\f=f/\aG L f=aG L f/\f=f/\aG L f=aG L f/\aG L f=aG L f/\f=f/\{kind:=(gw (aG L t) (gm L t f g)).kind,count:=(gw (aG L t) (gm L t f g)).count,calls:=(gw (aG L t) (gm L t f g)).calls,slots:=(gw (aG L t) (gm L t f g)).slots.put g.toNat (jP L (aG L f) f g),bytes:=(gw (aG L t) (gm L t f g)).bytes}=gw (aG L t) (gm L t f g')/\t=t) (aw (0=dh L t f/\cM L t.oid (gw (aG L t) (gm L t f g))=gu L t f))))))))))))))))):=by
 delta au aw
 have fin:∀e,dh L t f=e->e≠0->e=dh L t f/\L=gu L t f:=fun e h h0=>by
  unfold gu;rw[h,aq h0];exact⟨rfl,rfl⟩
 have bad:∀e,br L t 2 true=e->e≠0->dh L t f=e:=fun e h h0=>by unfold dh;rw[h,aq h0]
 refine⟨rfl,rfl,fun h=>fin _ (bad _ (L9 h) (by omega)) (by omega),fun h=>⟨rfl,fun h2=>fin _ (bad _ (JN h h2) (by omega)) (by omega),fun h2=>⟨rfl,fun h3=>fin _ (bad _ (XI h h2 h3) (by omega)) (by omega),fun h3=>⟨rfl,rfl,fun h4=>?_,fun h4=>⟨rfl,fun h5=>fin 190 ?_ (by omega),fun h5=>⟨rfl,rfl,rfl,?_,fun g hg=>⟨fun hlt=>?_,fun hge=>?_⟩⟩⟩⟩⟩⟩⟩
 ·rw[h]at h4;simp at h4
 ·unfold dh;rw[IH h h2 h3,ar rfl,JN h h5]
 ·obtain⟨a1,a2⟩:=mO h2;refine⟨0,⟨by omega,by omega⟩,?_⟩
  have:=KT (f:=f) (fC a1).2.2.2.1;repeat' apply And.intro
  all_goals first|rfl|exact this
 ·obtain⟨g0,g1⟩:=hg;have hlt:=ak hlt;obtain⟨a1,a2⟩:=mO h5;have hs:=NH (t:=t) g0 (fC a1).2.2.2.1 (aG L t) gW;refine⟨⟨g0,by omega,(fC a1).1⟩,⟨g0,by omega⟩,by simp only[bg,ck];omega,g+1,⟨by omega,by omega⟩,by unfold Bw;omega,?_⟩
  repeat' apply And.intro
  all_goals first|rfl|exact hs
 ·obtain⟨g0,g1⟩:=hg;have hge:=aj hge;have:g=16:=by omega
  subst this;obtain⟨a1,a2⟩:=mO h2;have hE:dh L t f=0:=by unfold dh;rw[IH h h2 h3,ar rfl,Hy h h5]
  have hp:=(oE hL a1 a2 (xK (f:=f) hL a1 a2 16 (by omega))).1
  unfold gu;rw[hE,ar rfl];exact⟨rfl,rfl,hp⟩
theorem S4[Fen](L:List Sx.Obj)(t f:Key)(hL:aP L):aL Tryz.prog 144 [.lp 0 0,.key t,.key f] [.store tS eS L] (z6 (.it .i64 (dh L t f)) (gu L t f)) (fun _ _=>False):=
 bk (inl:=(abE [186,185,188,191])) (ann:=(kb [(191,1,lpP [0,1,2] (fun g=> [(4,.it .i64 g)]) 0 (clR L t f) lE Bw)])) (aH bE (aH bT (aH nJ aO))) (aV dv aU) (dT ib) (Sk L t f hL) (by kernel_rfl)
theorem Rn[Fen]:k7 Tryz.prog 144 Wx:=
 na (m:=fun x=> [.key x.1,.key x.2]) Ho (fun _=>rfl) (fun _ _=>rfl) (fun x=>bk (inl:=(abE [186,185,188,191])) (ann:=bj) (aH bE (aH bT (aH nJ aO))) (aV dv aU) (dT ib) (Pf x.1 x.2) (by kernel_rfl)) (fun x=>bk (inl:=(abE [186,185,188,191])) (ann:=bj) (aH bE (aH bT (aH nJ aO))) (aV dv aU) (dT ib) (MK x.1 x.2) (by kernel_rfl)) fun L x hL _ _=>S4 L x.1 x.2 hL
end Go.Proofs.YtmfbohanboiklaaGreat
namespace Go.Sx
def b6(L:List Obj)(k:Key)(c:Bool):Int:=if br L k 3 false=0 then(if(c&& !decide (k.rights=0))=true then 191 else 0)else br L k 3 false
def ei(i n:Int):Bool:=decide (0<=i)&&decide (0<=n)&&decide (i<=64)&&decide (n<=64-i)
def cX(L:List Obj)(k:Key)(i n:Int):Int:=if b6 L k false=0 then(if ei i n then 0 else 4)else b6 L k false
def eP(L:List Obj)(k:Key)(i n:Int):ByteArray:=if cX L k i n=0 then zE (aM L k.oid.toNat free).bytes i.toNat (i+n).toNat else⟨#[]⟩
def kK(o:Obj)(b:Bytes):Obj:= {o with bytes:=b}
def tj(L:List Obj)(k:Key)(b:Bytes):List Obj:=eW L k.oid.toNat (kK (aM L k.oid.toNat free) b)
def dS(L:List Obj)(k:Key)(i:Int)(s:ByteArray):Int:=if b6 L k true=0 then(if ei i (du s)then 0 else 4)else b6 L k true
def fY(L:List Obj)(k:Key)(i:Int)(s:ByteArray):List Obj:=if dS L k i s=0 then tj L k (wD (aM L k.oid.toNat free).bytes i.toNat s.size s)else L
def gF(L:List Obj)(k:Key):List Obj:=if b6 L k true=0 then tj L k fo else L
def dR(L:List Obj)(t f:Key):Int:=if b6 L t true=0 then b6 L f false else b6 L t true
def gO(L:List Obj)(t f:Key):List Obj:=if dR L t f=0 then tj L t (aM L f.oid.toNat free).bytes else L
def aR(s:ByteArray):Prop:=(s.size:Int)<=9223372036854775807
def EH(v:V):Option ByteArray:=match v with
 | .st s=>some s
 |_=>none
theorem xb:sm EH V.st:=fun v x h=>by
 cases v<;>simp only[EH,aa,reduceCtorEq]at h
 subst h;exact⟨fun _=>rfl,fun _=>id⟩
def zA:Arg ByteArray:=CN EH V.st
theorem Yz:mZ zA:=rL xb (fun _=>rfl) fun v x h=>by cases v<;>simp[EH]at h;rfl
def GP(l:List V):Option (Key×Int×ByteArray):=match l with
 | [a,b,c]=>match rK a with
   |some k=>match rI .i64 b with
    |some i=>match EH c with
     |some s=>some (k,i,s)
     |none=>none
    |none=>none
   |none=>none
 |_=>none
theorem CQ:∀l x,GP l=some x->ff l [.key x.1,.it .i64 x.2.1,.st x.2.2]:=fun l x h=>by
 unfold GP at h;split at h
 ·split at h
  ·rename_i h1;split at h
   ·rename_i h2;split at h<;>simp only[aa,reduceCtorEq]at h
    rename_i h3;subst h;exact ff.rd gI h1 (ff.rd (gX .i64) h2 (ff.rd xb h3 ff.nil))
   ·simp at h
  ·simp at h
 ·simp at h
def P4:Ct:=Vu (rI .i64) (rI .i64) fun i n=> .bo (ei i n)
def SH:Ct:=EU (bM sA (bM kA (bM iA (bM iA jx)))) (fun _=>none) fun x=> .tp [.st (eP (ye x.1) x.2.1 x.2.2.1 x.2.2.2.1),.it .i64 (cX (ye x.1) x.2.1 x.2.2.1 x.2.2.2.1)]
def YI:kr:=Ix GP (fun L x=>aP L/\aR x.2.2) (fun L x=> .it .i64 (dS L x.1 x.2.1 x.2.2)) fun L x=>fY L x.1 x.2.1 x.2.2
def VW:kr:=Ix rdK (fun L _=>aP L) (fun L x=> .it .i64 (b6 L x true)) fun L x=>gF L x
def Ym:kr:=Ix RZ (fun L _=>aP L) (fun L x=> .it .i64 (dR L x.1 x.2)) fun L x=>gO L x.1 x.2
theorem OT{o:Obj}{n:Int}{b:Bytes}(h:bS o n=true)(hk:o.kind=1\/o.kind=2):bS (kK o b) n=true:=by
 rw[dU]at h⊢;simp only[kK];obtain⟨a1,a2,a3,a4,a5,a6,a7,a8,a9,a10,a11⟩:=h;exact⟨a1,a2,a3,a4,a5,a6,a7,a8,a9,a10,fun i hi=> .inl hk⟩
theorem I7{L:List Obj}{k:Key}(h:bm L k=true)(h2:k.kind=3):(aM L k.oid.toNat free).kind=2:=by
 rw[(fC h).2.2.2.2];unfold fX;rw[aq (by have:=(yr h).1;omega),ar h2]
theorem qk{L:List Obj}{k:Key}{b:Bytes}(hL:aP L)(h:bm L k=true)(h2:k.kind=3):fa L k.oid (kK (aG L k) b)=0/\cM L k.oid (kK (aG L k) b)=tj L k b/\aP (tj L k b):=by
 obtain⟨b1,b2,b3,b4,_⟩:=fC h;have hr:=fO.1 hL;have ho:=OT (b:=b) (hr.2.2 k.oid.toNat (by omega)) (.inr (I7 h h2))
 obtain⟨p1,p2⟩:=tT (L:=L) (o:=kK (aM L k.oid.toNat free) b) (kc.2 ⟨b2,b3⟩) (rz ho).symm;rw[b4];refine⟨p1,p2,?_⟩;refine fO.2 ?_;unfold tj;have hl:(eW L k.oid.toNat (kK (aM L k.oid.toNat free) b)).length=L.length:=by simp[eW]
 rw[hl];refine⟨hr.1,hr.2.1,fun i hi=>?_⟩
 by_cases e:i=k.oid.toNat
 ·subst e;rw[show aM (eW L k.oid.toNat (kK (aM L k.oid.toNat free) b)) k.oid.toNat free=kK (aM L k.oid.toNat free) b by simp[aM,eW,an,hi]]
  exact ho
 ·rw[show aM (eW L k.oid.toNat (kK (aM L k.oid.toNat free) b)) i free=aM L i free by simp[aM,eW,an,List.getElem?_set,Ne.symm e]]
  exact hr.2.2 i hi
theorem B0{L:List Obj}{k:Key}(h:bm L k=true)(h2:k.kind=3):0<=k.rights/\k.rights<=1:=by
 have:=gL (fC h).1;rw[h2]at this;exact this
theorem Vq{r:Int}(h0:0<=r)(h1:r<=1):bw .and .i64 r 1=r:=by
 have:r=0\/r=1:=by omega
 rcases this with rfl|rfl<;>decide
theorem sP{i n:Int}:ei i n=true↔0<=i/\0<=n/\i<=64/\n<=64-i:=by
 simp only[ei,af,ah,and_assoc]
theorem Qc(b:Bytes)(i:Int)(s:ByteArray)(h:ei i (du s)=true):Kq b i.toNat 64 s=wD b i.toNat s.size s:=by
 unfold Kq JB
 have hle:s.size<=64-i.toNat:=by
  obtain⟨h0,h1,h2,h3⟩:=sP.1 h;have h3:(s.size:Int)<=64-i:=h3;omega
 rw[show Nat.min s.size (64-i.toNat)=s.size from Nat.min_eq_left hle]
theorem Nc(b:Bytes):CX b 0 64=fo:=by
 unfold CX wD fo;ext i hi
 simp[sat_empty,hi]
theorem xu{L:List Obj}{k:Key}{c:Bool}(h:b6 L k c=0):bm L k=true/\k.kind=3/\(c=true->k.rights=0):=by
 unfold b6 at h;split at h
 ·rename_i h1;obtain⟨a1,a2,_⟩:=lQ h1;split at h
  ·omega
  ·rename_i h2;exact⟨a1,a2,fun hc=>by simpa[hc]using h2⟩
 ·rename_i h1;exact absurd h h1
theorem VL{L:List Obj}{k:Key}:b6 L k false=br L k 3 false:=by
 unfold b6;split
 ·rename_i h;rw[h];rfl
 ·rfl
theorem Lh{L:List Obj}{k:Key}{c:Bool}(h:decide (aK L=0)=true):b6 L k c=1:=by
 have:br L k 3 false=1:=L9 (by rw[ah]at h;simp[h])
 unfold b6;rw[this,aq (by omega)]
theorem X3{L:List Obj}{k:Key}{c:Bool}(h:decide (aK L=0)=false)(h2:(!bm L k|| !decide (k.kind=3))=true):b6 L k c=190:=by
 have h0:(!decide (0<aK L))=false:=by
  rw[decide_eq_false_iff_not]at h;unfold aK at h⊢;simp;omega
 have:br L k 3 false=190:=JN h0 (by simpa using h2)
 unfold b6;rw[this,aq (by omega)]
theorem qn{L:List Obj}{k:Key}(h2:(!bm L k|| !decide (k.kind=3))=false):bm L k=true/\k.kind=3:=by simpa using h2
theorem pg0{L:List Obj}{k:Key}(h:decide (aK L=0)=false)(h2:(!bm L k|| !decide (k.kind=3))=false):br L k 3 false=0:=by
 refine Hy ?_ (by simpa using h2)
 rw[decide_eq_false_iff_not]at h;unfold aK at h⊢;simp;omega
theorem Yi{L:List Obj}{k:Key}(h:decide (aK L=0)=false)(h2:(!bm L k|| !decide (k.kind=3))=false):b6 L k false=0:=by rw[VL];exact pg0 h h2
theorem pg3{L:List Obj}{k:Key}(h:decide (aK L=0)=false)(h2:(!bm L k|| !decide (k.kind=3))=false)(h3:(!decide (bw BinOp.and IntKind.i64 k.rights 1=0))=true):b6 L k true=191:=by
 obtain⟨a1,a2⟩:=qn h2;have hr:=B0 a1 a2;rw[Vq hr.1 hr.2]at h3;unfold b6;rw[ar (pg0 h h2),ar (by simpa using h3)]
theorem ZS{L:List Obj}{k:Key}(h:decide (aK L=0)=false)(h2:(!bm L k|| !decide (k.kind=3))=false)(h3:(!decide (bw BinOp.and IntKind.i64 k.rights 1=0))=false):b6 L k true=0:=by
 obtain⟨a1,a2⟩:=qn h2;have hr:=B0 a1 a2;rw[Vq hr.1 hr.2]at h3;unfold b6;rw[ar (pg0 h h2),aq (by simpa using h3)]
theorem uu{L:List Obj}{k:Key}{i n e:Int}(h:b6 L k false=e)(he:e≠0):(⟨#[]⟩:ByteArray)=eP L k i n/\e=cX L k i n:=by
 have:cX L k i n=e:=by unfold cX;rw[h,aq he]
 unfold eP;rw[this,aq he];exact⟨rfl,rfl⟩
theorem CR{L:List Obj}{k:Key}{i n:Int}(h:b6 L k false=0)(hi:(!ei i n)=true):(⟨#[]⟩:ByteArray)=eP L k i n/\4=cX L k i n:=by
 rw[Bool.not_eq_true']at hi;have:cX L k i n=4:=by unfold cX;rw[ar h,hi];rfl
 unfold eP;rw[this];exact⟨rfl,rfl⟩
theorem Hr{L:List Obj}{k:Key}{i n:Int}(h:b6 L k false=0)(hi:(!ei i n)=false):bg IntKind.i64 (i+n)/\AX i (i+n) 64/\zE (aM L k.oid.toNat free).bytes i.toNat (i+n).toNat=eP L k i n/\0=cX L k i n:=by
 rw[Bool.not_eq_false']at hi;obtain⟨a,b,c,d⟩:=sP.1 hi;have:cX L k i n=0:=by unfold cX;rw[ar h,hi];rfl
 unfold eP;rw[this];exact⟨by simp only[bg,ck];omega,⟨by omega,by omega,by omega⟩,rfl,rfl⟩
theorem zm{L:List Obj}{k:Key}{i e:Int}{z:ByteArray}(h:b6 L k true=e)(he:e≠0):e=dS L k i z/\L=fY L k i z:=by
 have:dS L k i z=e:=by unfold dS;rw[h,aq he]
 unfold fY;rw[this,aq he];exact⟨rfl,rfl⟩
theorem VA{L:List Obj}{k:Key}{i:Int}{z:ByteArray}(h:b6 L k true=0)(hi:(!ei i (du z))=true):4=dS L k i z/\L=fY L k i z:=by
 rw[Bool.not_eq_true']at hi;have:dS L k i z=4:=by unfold dS;rw[ar h,hi];rfl
 unfold fY;rw[this];exact⟨rfl,rfl⟩
theorem YE{L:List Obj}{k:Key}{i:Int}{z:ByteArray}(hL:aP L)(h1:bm L k=true)(h2:k.kind=3)(h:b6 L k true=0)(hi:(!ei i (du z))=false):AX i 64 64/\
  fa L k.oid (kK (aG L k) (Kq (aG L k).bytes i.toNat (Int.toNat 64) z))=dS L k i z/\cM L k.oid (kK (aG L k) (Kq (aG L k).bytes i.toNat (Int.toNat 64) z))=fY L k i z:=by
 rw[Bool.not_eq_false']at hi;obtain⟨a,b,c,d⟩:=sP.1 hi;have hE:dS L k i z=0:=by unfold dS;rw[ar h,hi];rfl
 have hb:=Qc (aG L k).bytes i z hi;obtain⟨p1,p2,_⟩:=qk (b:=wD (aG L k).bytes i.toNat z.size z) hL h1 h2;have h64:Int.toNat 64=64:=rfl;rw[h64,hb,p1,p2,hE];refine⟨⟨by omega,by omega,by omega⟩,rfl,?_⟩
 unfold fY;rw[hE,ar rfl,(fC h1).2.2.2.1]
theorem yX{L:List Obj}{k:Key}{e:Int}(h:b6 L k true=e)(he:e≠0):e=b6 L k true/\L=gF L k:=by
 refine⟨h.symm,?_⟩;unfold gF;rw[h,aq he]
theorem Y6{L:List Obj}{k:Key}(hL:aP L)(h1:bm L k=true)(h2:k.kind=3)(h:b6 L k true=0):AX 0 64 64/\
  fa L k.oid (kK (aG L k) (CX (aG L k).bytes (Int.toNat 0) (Int.toNat 64)))=b6 L k true/\cM L k.oid (kK (aG L k) (CX (aG L k).bytes (Int.toNat 0) (Int.toNat 64)))=gF L k:=by
 have h64:Int.toNat 64=64:=rfl;have h0:Int.toNat 0=0:=rfl;obtain⟨p1,p2,_⟩:=qk (b:=fo) hL h1 h2;rw[h64,h0,Nc,p1,p2,h];refine⟨⟨by omega,by omega,by omega⟩,rfl,?_⟩
 unfold gF;rw[ar h]
theorem yG{L:List Obj}{t f:Key}{e:Int}(h:b6 L t true=e)(he:e≠0):e=dR L t f/\L=gO L t f:=by
 have:dR L t f=e:=by unfold dR;rw[h,aq he]
 unfold gO;rw[this,aq he];exact⟨rfl,rfl⟩
theorem Q3{L:List Obj}{t f:Key}{e:Int}(h:b6 L t true=0)(h2:b6 L f false=e)(he:e≠0):e=dR L t f/\L=gO L t f:=by
 have:dR L t f=e:=by unfold dR;rw[ar h,h2]
 unfold gO;rw[this,aq he];exact⟨rfl,rfl⟩
theorem Z4{L:List Obj}{t f:Key}(hL:aP L)(h1:bm L t=true)(h2:t.kind=3)(h:b6 L t true=0)(g1:bm L f=true)(g:b6 L f false=0):
  fa L t.oid (kK (aG L t) (aG L f).bytes)=dR L t f/\cM L t.oid (kK (aG L t) (aG L f).bytes)=gO L t f:=by
 have hE:dR L t f=0:=by unfold dR;rw[ar h,g]
 obtain⟨p1,p2,_⟩:=qk (b:=(aG L f).bytes) hL h1 h2;rw[p1,p2,hE];refine⟨rfl,?_⟩;unfold gO;rw[hE,ar rfl,(fC g1).2.2.2.1]
structure Zo where
 kind:Int
 pos:Int
 num:Int
 key:Key
 other:Key
 bytes:ByteArray
def Zo.wf(x:Zo):Prop:=ck .i64 x.kind/\ck .i64 x.pos/\ck .i64 x.num/\x.key.wf/\x.other.wf/\aR x.bytes
def Cz(L:List Obj)(a:Zo):Bool:=
 if a.kind=1 then false else if a.kind=2 then decide (dS L a.key a.pos a.bytes=0)else if a.kind=3 then decide (b6 L a.key true=0)else decide (dR L a.key a.other=0)
def PR(L:List Obj)(a:Zo):List Obj:=
 if a.kind=1 then L else if a.kind=2 then fY L a.key a.pos a.bytes else if a.kind=3 then gF L a.key else gO L a.key a.other
theorem oM(s:ByteArray):Di s s=true:=by simp[Di]
end Go.Sx
namespace Go.Proofs.YtmfbohanboiklaaGreat
open Go.Sx
theorem Ki(i n:Int):
 ((decide (0<=i)&&decide (0<=n)&&decide (i<=64))=true->bg IntKind.i64 (64-i))/\
   (decide (0<=i)&&decide (0<=n)&&decide (i<=64)&&decide (n<=64-i))=ei i n:=by
 unfold ei;refine⟨fun h=>?_,?_⟩
 ·simp only[af,ah]at h;simp only[bg,ck];omega
 ·rfl
theorem oI[Fen]:dq Tryz.prog 196 P4:=
 s7 (gX .i64) (gX .i64) (fun _ _=>rfl) fun i n _ _=>bG (inl:=cg) (ann:=bj) aO (Ki i n) (by kernel_rfl)
theorem Kc(k:Key)(i n:Int):
 true=true/\au (decide (aK []=0)) ((⟨#[]⟩:ByteArray)=eP [] k i n/\1=cX [] k i n) (au (!bm [] k|| !decide (k.kind=3)) ((⟨#[]⟩:ByteArray)=eP [] k i n/\190=cX [] k i n) (au (!ei i n) ((⟨#[]⟩:ByteArray)=eP [] k i n/\4=cX [] k i n) (bg IntKind.i64 (i+n)/\AX i (i+n) 64/\zE (aG [] k).bytes i.toNat (i+n).toNat=eP [] k i n/\0=cX [] k i n))):=by
 delta au
 refine⟨rfl,fun h=>uu (Lh h) (by omega),fun h=>⟨fun h2=>uu (X3 h h2) (by omega),fun h2=>⟨fun h3=>CR (Yi h h2) h3,fun h3=>?_⟩⟩⟩
 rw[(fC (qn h2).1).2.2.2.1];exact Hr (Yi h h2) h3
theorem Nk(L:List Sx.Obj)(k:Key)(i n:Int):
 true=true/\au (decide (aK L=0)) ((⟨#[]⟩:ByteArray)=eP L k i n/\1=cX L k i n) (au (!bm L k|| !decide (k.kind=3)) ((⟨#[]⟩:ByteArray)=eP L k i n/\190=cX L k i n) (au (!ei i n) ((⟨#[]⟩:ByteArray)=eP L k i n/\4=cX L k i n) (bg IntKind.i64 (i+n)/\AX i (i+n) 64/\zE (aG L k).bytes i.toNat (i+n).toNat=eP L k i n/\0=cX L k i n))):=by
 delta au
 refine⟨rfl,fun h=>uu (Lh h) (by omega),fun h=>⟨fun h2=>uu (X3 h h2) (by omega),fun h2=>⟨fun h3=>CR (Yi h h2) h3,fun h3=>?_⟩⟩⟩
 rw[(fC (qn h2).1).2.2.2.1];exact Hr (Yi h h2) h3
theorem oL[Fen]:dq Tryz.prog 194 SH:=
 kf (aZ sH (aZ mT (aZ fk (aZ fk dg)))) (fun _=>rfl) fun a hq hok=>by
  obtain⟨S,k,i,n,_⟩:=a;cases S with
  |none=>exact bV (inl:=(abE [195])) (ann:=bj) (aH bE (aH bT (aH oI aO))) aU (Kc k i n) (by kernel_rfl)
  |some L=>exact bV (inl:=(abE [195])) (ann:=bj) (aH bE (aH bT (aH oI aO))) aU (Nk L k i n) (by kernel_rfl)
theorem Tn(k:Key)(i:Int)(s:ByteArray):
 aw (au (decide (aK []=0)) (1=dS [] k i s) (au (!bm [] k|| !decide (k.kind=3)) (190=dS [] k i s) (au (!decide (bw BinOp.and IntKind.i64 k.rights 1=0)) (191=dS [] k i s) (bg IntKind.i64 (du s)/\au (!ei i (du s)) (4=dS [] k i s) (aw (aw (AX i 64 64/\aw (fa [] k.oid {kind:=(aG [] k).kind,count:=(aG [] k).count,calls:=(aG [] k).calls,slots:=(aG [] k).slots,bytes:=Kq (aG [] k).bytes i.toNat (Int.toNat 64) s}=dS [] k i s)))))))):=by
 delta au aw
 exact⟨rfl,fun h=>(zm (Lh h) (by omega)).1,fun h=>absurd h (by decide)⟩
theorem QV(k:Key)(i:Int)(s:ByteArray):
 aw (au (decide (aK []=0)) (1=dS [] k i s) (au (!bm [] k|| !decide (k.kind=3)) (190=dS [] k i s) (au (!decide (bw BinOp.and IntKind.i64 k.rights 1=0)) (191=dS [] k i s) (bg IntKind.i64 (du s)/\au (!ei i (du s)) (4=dS [] k i s) (aw (aw (AX i 64 64/\aw False))))))):=by
 delta au aw
 exact⟨rfl,fun h=>(zm (Lh h) (by omega)).1,fun h=>absurd h (by decide)⟩
theorem Wt(L:List Sx.Obj)(k:Key)(i:Int)(s:ByteArray)(hL:aP L)(hs:aR s):
 aw (au (decide (aK L=0)) (1=dS L k i s/\L=fY L k i s) (au (!bm L k|| !decide (k.kind=3)) (190=dS L k i s/\L=fY L k i s) (au (!decide (bw BinOp.and IntKind.i64 k.rights 1=0)) (191=dS L k i s/\L=fY L k i s) (bg IntKind.i64 (du s)/\au (!ei i (du s)) (4=dS L k i s/\L=fY L k i s) (aw (aw (AX i 64 64/\aw (fa L k.oid {kind:=(aG L k).kind,count:=(aG L k).count,calls:=(aG L k).calls,slots:=(aG L k).slots,bytes:=Kq (aG L k).bytes i.toNat (Int.toNat 64) s}=dS L k i s/\cM L k.oid {kind:=(aG L k).kind,count:=(aG L k).count,calls:=(aG L k).calls,slots:=(aG L k).slots,bytes:=Kq (aG L k).bytes i.toNat (Int.toNat 64) s}=fY L k i s)))))))):=by
 delta au aw
 refine⟨rfl,fun h=>zm (Lh h) (by omega),fun h=>⟨fun h2=>zm (X3 h h2) (by omega),fun h2=>⟨fun h3=>zm (pg3 h h2 h3) (by omega),fun h3=>⟨?_,fun h4=>VA (ZS h h2 h3) h4,fun h4=>?_⟩⟩⟩⟩
 ·unfold aR at hs;simp only[bg,ck,du];omega
 ·obtain⟨a,b,c⟩:=YE hL (qn h2).1 (qn h2).2 (ZS h h2 h3) h4;exact⟨rfl,rfl,a,rfl,b,c⟩
theorem Xu[Fen](L:List Sx.Obj)(k:Key)(i:Int)(s:ByteArray)(hL:aP L)(hs:aR s):aL Tryz.prog 149 [.lp 0 0,.key k,.it .i64 i,.st s] [.store tS eS L] (z6 (.it .i64 (dS L k i s)) (fY L k i s)) (fun _ _=>False):=
 bV (inl:=(abE [195,197,198])) (ann:=bj) (aH bE (aH bT (aH oI aO))) (aV dv aU) (Wt L k i s hL hs) (by kernel_rfl)
theorem Ch[Fen]:k7 Tryz.prog 149 YI:=
 na (m:=fun x=> [.key x.1,.it .i64 x.2.1,.st x.2.2]) CQ (fun _=>rfl) (fun _ _=>rfl) (fun x=>bV (inl:=(abE [195,197,198])) (ann:=bj) (aH bE (aH bT (aH oI aO))) (aV dv aU) (Tn x.1 x.2.1 x.2.2) (by kernel_rfl)) (fun x=>bV (inl:=(abE [195,197,198])) (ann:=bj) (aH bE (aH bT (aH oI aO))) (aV dv aU) (QV x.1 x.2.1 x.2.2) (by kernel_rfl)) fun L x hL _ _=>Xu L x.1 x.2.1 x.2.2 hL.1 hL.2
theorem PH(k:Key):
 aw (au (decide (aK []=0)) (1=b6 [] k true) (au (!bm [] k|| !decide (k.kind=3)) (190=b6 [] k true) (au (!decide (bw BinOp.and IntKind.i64 k.rights 1=0)) (191=b6 [] k true) (aw (aw (AX 0 64 64/\aw (fa [] k.oid {kind:=(aG [] k).kind,count:=(aG [] k).count,calls:=(aG [] k).calls,slots:=(aG [] k).slots,bytes:=CX (aG [] k).bytes (Int.toNat 0) (Int.toNat 64)}=b6 [] k true))))))):=by
 delta au aw
 exact⟨rfl,fun h=>(yX (Lh h) (by omega)).1,fun h=>absurd h (by decide)⟩
theorem KC(k:Key):
 aw (au (decide (aK []=0)) (1=b6 [] k true) (au (!bm [] k|| !decide (k.kind=3)) (190=b6 [] k true) (au (!decide (bw BinOp.and IntKind.i64 k.rights 1=0)) (191=b6 [] k true) (aw (aw (AX 0 64 64/\aw False)))))):=by
 delta au aw
 exact⟨rfl,fun h=>(yX (Lh h) (by omega)).1,fun h=>absurd h (by decide)⟩
theorem S6(L:List Sx.Obj)(k:Key)(hL:aP L):
 aw (au (decide (aK L=0)) (1=b6 L k true/\L=gF L k) (au (!bm L k|| !decide (k.kind=3)) (190=b6 L k true/\L=gF L k) (au (!decide (bw BinOp.and IntKind.i64 k.rights 1=0)) (191=b6 L k true/\L=gF L k) (aw (aw (AX 0 64 64/\aw (fa L k.oid {kind:=(aG L k).kind,count:=(aG L k).count,calls:=(aG L k).calls,slots:=(aG L k).slots,bytes:=CX (aG L k).bytes (Int.toNat 0) (Int.toNat 64)}=b6 L k true/\cM L k.oid {kind:=(aG L k).kind,count:=(aG L k).count,calls:=(aG L k).calls,slots:=(aG L k).slots,bytes:=CX (aG L k).bytes (Int.toNat 0) (Int.toNat 64)}=gF L k))))))):=by
 delta au aw
 refine⟨rfl,fun h=>yX (Lh h) (by omega),fun h=>⟨fun h2=>yX (X3 h h2) (by omega),fun h2=>⟨fun h3=>yX (pg3 h h2 h3) (by omega),fun h3=>?_⟩⟩⟩
 obtain⟨a,b,c⟩:=Y6 hL (qn h2).1 (qn h2).2 (ZS h h2 h3);exact⟨rfl,rfl,a,rfl,b,c⟩
theorem TK[Fen](L:List Sx.Obj)(k:Key)(hL:aP L):aL Tryz.prog 151 [.lp 0 0,.key k] [.store tS eS L] (z6 (.it .i64 (b6 L k true)) (gF L k)) (fun _ _=>False):=
 bV (inl:=(abE [195,197,199])) (ann:=bj) (aH bE (aH bT aO)) (aV dv aU) (S6 L k hL) (by kernel_rfl)
theorem Ri[Fen]:k7 Tryz.prog 151 VW:=
 na (m:=fun x=> [.key x]) OA (fun _=>rfl) (fun _ _=>rfl) (fun x=>bV (inl:=(abE [195,197,199])) (ann:=bj) (aH bE (aH bT aO)) (aV dv aU) (PH x) (by kernel_rfl)) (fun x=>bV (inl:=(abE [195,197,199])) (ann:=bj) (aH bE (aH bT aO)) (aV dv aU) (KC x) (by kernel_rfl)) fun L x hL _ _=>TK L x hL
theorem Ra(t f:Key):
 aw (au (decide (aK []=0)) (1=dR [] t f) (au (!bm [] t|| !decide (t.kind=3)) (190=dR [] t f) (au (!decide (bw BinOp.and IntKind.i64 t.rights 1=0)) (191=dR [] t f) (aw (au (decide (aK []=0)) (1=dR [] t f) (au (!bm [] f|| !decide (f.kind=3)) (190=dR [] t f) (aw (aw (aw (fa [] t.oid {kind:=(aG [] t).kind,count:=(aG [] t).count,calls:=(aG [] t).calls,slots:=(aG [] t).slots,bytes:=(aG [] f).bytes}=dR [] t f)))))))))):=by
 delta au aw
 exact⟨rfl,fun h=>(yG (Lh h) (by omega)).1,fun h=>absurd h (by decide)⟩
theorem Rl(t f:Key):
 aw (au (decide (aK []=0)) (1=dR [] t f) (au (!bm [] t|| !decide (t.kind=3)) (190=dR [] t f) (au (!decide (bw BinOp.and IntKind.i64 t.rights 1=0)) (191=dR [] t f) (aw (au (decide (aK []=0)) (1=dR [] t f) (au (!bm [] f|| !decide (f.kind=3)) (190=dR [] t f) (aw (aw (aw False))))))))):=by
 delta au aw
 exact⟨rfl,fun h=>(yG (Lh h) (by omega)).1,fun h=>absurd h (by decide)⟩
theorem XV(L:List Sx.Obj)(t f:Key)(hL:aP L):
 aw (au (decide (aK L=0)) (1=dR L t f/\L=gO L t f) (au (!bm L t|| !decide (t.kind=3)) (190=dR L t f/\L=gO L t f) (au (!decide (bw BinOp.and IntKind.i64 t.rights 1=0)) (191=dR L t f/\L=gO L t f) (aw (au (decide (aK L=0)) (1=dR L t f/\L=gO L t f) (au (!bm L f|| !decide (f.kind=3)) (190=dR L t f/\L=gO L t f) (aw (aw (aw (fa L t.oid {kind:=(aG L t).kind,count:=(aG L t).count,calls:=(aG L t).calls,slots:=(aG L t).slots,bytes:=(aG L f).bytes}=dR L t f/\cM L t.oid {kind:=(aG L t).kind,count:=(aG L t).count,calls:=(aG L t).calls,slots:=(aG L t).slots,bytes:=(aG L f).bytes}=gO L t f)))))))))):=by
 delta au aw
 refine⟨rfl,fun h=>yG (Lh h) (by omega),fun h=>⟨fun h2=>yG (X3 h h2) (by omega),fun h2=>⟨fun h3=>yG (pg3 h h2 h3) (by omega),fun h3=>⟨rfl,fun h'=>?_,fun _=>⟨fun h5=>Q3 (ZS h h2 h3) (X3 h h5) (by omega),fun h5=>?_⟩⟩⟩⟩⟩
 ·rw[h]at h';simp at h'
 ·obtain⟨b,c⟩:=Z4 hL (qn h2).1 (qn h2).2 (ZS h h2 h3) (qn h5).1 (Yi h h5);exact⟨rfl,rfl,rfl,b,c⟩
theorem XR[Fen](L:List Sx.Obj)(t f:Key)(hL:aP L):aL Tryz.prog 153 [.lp 0 0,.key t,.key f] [.store tS eS L] (z6 (.it .i64 (dR L t f)) (gO L t f)) (fun _ _=>False):=
 bV (inl:=(abE [195,197,200])) (ann:=bj) (aH bE (aH bT aO)) (aV dv aU) (XV L t f hL) (by kernel_rfl)
theorem Xt[Fen]:k7 Tryz.prog 153 Ym:=
 na (m:=fun x=> [.key x.1,.key x.2]) Ho (fun _=>rfl) (fun _ _=>rfl) (fun x=>bV (inl:=(abE [195,197,200])) (ann:=bj) (aH bE (aH bT aO)) (aV dv aU) (Ra x.1 x.2) (by kernel_rfl)) (fun x=>bV (inl:=(abE [195,197,200])) (ann:=bj) (aH bE (aH bT aO)) (aV dv aU) (Rl x.1 x.2) (by kernel_rfl)) fun L x hL _ _=>XR L x.1 x.2 hL
end Go.Proofs.YtmfbohanboiklaaGreat
