import Derived.Test.YtlblcfaclmpekaaGreatMa9
import Derived.RecoverIn
set_option linter.unusedSimpArgs false
set_option linter.unusedVariables false
set_option maxRecDepth 100000
namespace Go.Proofs.YtlblcfaclmpekaaGreat
open Go.Sx
open Go.RowKit (Below)
theorem gT {P:Program} {ro:Option Nat}:(FF P ro).round=ro:=rfl
theorem cM {P:Program} {ops:Array Oper} {Q:Exit->Act->World->Prop} {i:Nat} {rest:List Nat} {a:Act} {w w':World} {o:Oper} {v:Value} (ho:ops[i]? =some o) (hg:o.guard=none)
  (hr:(execOp a.eval o).run P w= .ok (.value v) w') (hc:∀c,o.op≠ .call c) (h:wpOpsIn (FF P none) 0 P ops Q rest (a.put o.dst v) w'):wpOpsIn (FF P none) 0 P ops Q (i::rest) a w:=by
 simp only[wpOpsIn,ho];rw[aa2 (by simp[Region.wanted,hg])]
 refine eV (ro:=none) (by simp) (fun f hf=>by
  unfold Oper.about at hf;split at hf
  ·rename_i c hc';exact absurd hc' (hc c)
  ·simp at hf) ?_
 rw[hr];exact h
theorem kJ {P:Program} {ops:Array Oper} {Q:Exit->Act->World->Prop} {i:Nat} {rest:List Nat} {a:Act} {w w':World} {o:Oper} (ho:ops[i]? =some o) (hg:o.guard=none)
  (hr:(execOp a.eval o).run P w= .ok .skip w') (hc:∀c,o.op≠ .call c) (h:wpOpsIn (FF P none) 0 P ops Q rest (a.put o.dst undef) w'):wpOpsIn (FF P none) 0 P ops Q (i::rest) a w:=by
 simp only[wpOpsIn,ho];rw[aa2 (by simp[Region.wanted,hg])]
 refine eV (ro:=none) (by simp) (fun f hf=>by
  unfold Oper.about at hf;split at hf
  ·rename_i c hc';exact absurd hc' (hc c)
  ·simp at hf) ?_
 rw[hr];exact h
theorem ca (a:Act) (d:Option Nat) (v:Value):(a.put d v).tmps.size=a.tmps.size:=by cases d<;>simp[Act.put]
theorem cN (a:Act) (v:Value) (o:Operand):(a.put none v).eval o=a.eval o:=rfl
theorem cj (a:Act) (i j:Nat) (v:Value) (h:i<a.tmps.size):(a.put (some i) v).eval (.tmp j)=if i=j then v else a.eval (.tmp j):=by
 simp only[Act.put,Act.eval];by_cases e:i=j
 ·subst e;simp[h]
 ·simp[e]
theorem eg {P:Program} {f a b:Nat} (h:uR P f a b) (hb:b<1000000:=by decide):∀p∈ [(f,a,b)],wX P p.1 p.2.1 p.2.2:=fun p hp=>by
 simp only[List.mem_singleton]at hp;subst hp;refine⟨h.1,fun b off ty cs cs' k n w _ _ h1 h2=>h.2 b off ty cs cs' k n w h1 fun w1 hw1=>?_⟩
 have:=h2 w1 hw1;simp only[DB,Q6,aa2 hb]at this;exact this
theorem eP {P:Program} {f a b:Nat} (h:Pz P f a b):∀p∈ [(f,a,b+1000000)],wX P p.1 p.2.1 p.2.2:=fun p hp=>by
 simp only[List.mem_singleton]at hp;subst hp;refine⟨h.1,fun c off ty cs cs' k n w hk hn h1 h2=>?_⟩
 obtain rfl:k= .i64:=hk.resolve_left (by simp)
 refine h.2 c off ty cs cs' n w hn h1 fun w1 hw1=>?_
 have:=h2 w1 hw1;simp only[DB,Q6,aa1 (show¬b+1000000<1000000 by omega),Nat.add_sub_cancel]at this
 exact this
theorem vY (k:IntKind) (n:Int) (w:World) (t:Nat):(Instr.typeAssert (.iface 280 (.agg #[.int k n])) t 280 true).run Tryz.prog w= .ok (.tuple #[.agg #[.int k n],.bool true]) w:=by
 simp[Instr.typeAssert,go_sem]
theorem iS:uR Tryz.prog 193 280 26:=by
 refine⟨fun p w=>?_,fun b off ty cs₁ cs' k n w hb hs=>?_⟩
 ·refine callsDIn_of_wpSIn Go.Proofs.Tryz.func193 rfl (by show(Tryz.prog.funcs[193]?).isSome=true;kernel_rfl) fun c₀ cs hu=>?_
  apply wpSIn_seq
  apply wpSIn_region
  simp[wpOpsSIn,go_sem,recoverD,hu,Exit.thenS];refine wpSIn_of_wpIn rfl (wpIn_block (wpIn_seq (wpIn_region ?_)));simp[wpOpsIn,go_sem,Exit.then,gT];refine wpIn_cond_true (by simp[Act.eval,Array.replicate]) (wpIn_region ?_)
  simp[wpOpsIn,go_sem,Exit.inBlock,gT];cases c₀;simp_all[bodyPostS,results,Go.Proofs.Tryz.f193]
 ·refine callsDIn_of_wpSIn Go.Proofs.Tryz.func193 rfl (by show(Tryz.prog.funcs[193]?).isSome=true;kernel_rfl) fun c₀ cs hu=>?_
  apply wpSIn_seq
  apply wpSIn_region
  simp[wpOpsSIn,go_sem,recoverD,hu,Exit.thenS];refine wpSIn_of_wpIn rfl (wpIn_block (wpIn_seq (wpIn_region ?_)));simp[wpOpsIn,go_sem,Exit.then,gT];refine wpIn_cond_false (by simp[Act.eval,Array.replicate]) ?_
  refine wpIn_seq (wpIn_region ?_);generalize hA:({tmps:=_,defers:= []}:Act)=A
  have hz:A.tmps.size=15:=by subst hA;simp
  have hdf:A.defers= []:=by subst hA;rfl
  have h0:A.eval (.tmp 0)= .pointer (some ⟨b,off,none⟩):=by subst hA;simp[Act.eval]
  have h5:A.eval (.tmp 5)= .iface 280 (.agg #[.int k n]):=by subst hA;simp[Act.eval]
  clear hA;have hbl:b<w.heap.size:=(Array.getElem?_eq_some_iff.1 hb).1
  have hb1:(w.alloc (.cells #[.int k n] 280)).heap[b]? =some (.cells cs₁ ty (0,0)):=
   (((Below.refl _ w).alloc (Nat.le_refl _) _).block b hbl).trans hb
  refine cM (P:=Tryz.prog) rfl rfl (v:= .tuple #[.agg #[.int k n],.bool true]) (w':=w) (by simp[execOp,h5,vY]) (by intro c;simp) ?_
  refine cM (P:=Tryz.prog) rfl rfl (v:= .bool true) (w':=w) (by simp[execOp,cj,cN,ca,hz,Instr.extract]) (by intro c;simp) ?_
  refine cM (P:=Tryz.prog) rfl rfl (v:= .agg #[.int k n]) (w':=w) (by simp[execOp,cj,cN,ca,hz,Instr.extract]) (by intro c;simp) ?_
  show Code.wpIn _ _ _ _ _ _ _
  refine wpIn_cond_true (by simp[cj,ca,hz]) ?_
  refine wpIn_seq (wpIn_region ?_);refine cM (P:=Tryz.prog) rfl rfl (v:= .pointer (some ⟨w.heap.size,0,none⟩)) (w':=w.alloc (.cells #[.int .i64 0] 280)) (by simp[execOp,Instr.alloc,go_sem]) (by intro c;simp) ?_
  refine kJ (P:=Tryz.prog) rfl rfl (w':=w.alloc (.cells #[.int k n] 280)) (by simp[execOp,cj,cN,ca,hz,go_sem]) (by intro c;simp) ?_
  show Code.wpIn _ _ _ _ _ _ _
  refine wpIn_region ?_;refine cM (P:=Tryz.prog) rfl rfl (v:= .pointer (some ⟨b,off,none⟩)) (w':=w.alloc (.cells #[.int k n] 280)) (by simp[execOp,cj,cN,ca,hz,h0]) (by intro c;simp) ?_
  refine cM (P:=Tryz.prog) rfl rfl (v:= .pointer (some ⟨w.heap.size,0,none⟩)) (w':=w.alloc (.cells #[.int k n] 280)) (by simp[execOp,cj,cN,ca,hz,go_sem]) (by intro c;simp) ?_
  refine cM (P:=Tryz.prog) rfl rfl (v:= .int k n) (w':=w.alloc (.cells #[.int k n] 280)) (by simp[execOp,cj,cN,ca,hz,go_sem]) (by intro c;simp) ?_
  refine cM (P:=Tryz.prog) rfl rfl (v:= .pointer (some ⟨b,off,none⟩)) (w':=w.alloc (.cells #[.int k n] 280)) (by simp[execOp,cj,cN,ca,hz]) (by intro c;simp) ?_
  refine kJ (P:=Tryz.prog) rfl rfl (w':=(w.alloc (.cells #[.int k n] 280)).setRow b cs') (by simp[execOp,cj,cN,ca,hz,hs _ hb1]) (by intro c;simp) ?_
  have hbe:Below w.heap.size (w.setRow b cs') ((w.alloc (.cells #[.int k n] 280)).setRow b cs'):=by
   have hs1:∀(v:World) (c:Array Value),(v.setRow b c).heap.size=v.heap.size:=fun v c=>by simp[World.setRow]
   refine⟨rfl,rfl,rfl,by rw[hs1,hs1];exact((Below.refl _ w).alloc (Nat.le_refl _) _).size,fun j hj=>?_⟩
   by_cases e:j=b
   ·subst e;rw[iN _ _ _ _ _ hb1,iN _ _ _ _ _ hb]
   ·rw[setRow_other _ _ _ _ e,setRow_other _ _ _ _ e];exact((Below.refl _ w).alloc (Nat.le_refl _) _).block j hj
  refine⟨by simp only[put_defers];exact hdf,_,rfl,.tuple #[],by simp[results,Go.Proofs.Tryz.f193],⟨_,rfl⟩,rfl,hbe⟩
theorem wc (k:IntKind) (n:Int) (w:World) (t:Nat):(Instr.typeAssert (.iface 283 (.agg #[.int k n])) t 283 true).run Tryz.prog w= .ok (.tuple #[.agg #[.int k n],.bool true]) w:=by
 simp[Instr.typeAssert,go_sem]
theorem iC:uR Tryz.prog 212 283 26:=by
 refine⟨fun p w=>?_,fun b off ty cs₁ cs' k n w hb hs=>?_⟩
 ·refine callsDIn_of_wpSIn Go.Proofs.Tryz.func212 rfl (by show(Tryz.prog.funcs[212]?).isSome=true;kernel_rfl) fun c₀ cs hu=>?_
  apply wpSIn_seq
  apply wpSIn_region
  simp[wpOpsSIn,go_sem,recoverD,hu,Exit.thenS];refine wpSIn_of_wpIn rfl (wpIn_block (wpIn_seq (wpIn_region ?_)));simp[wpOpsIn,go_sem,Exit.then,gT];refine wpIn_cond_true (by simp[Act.eval,Array.replicate]) (wpIn_region ?_)
  simp[wpOpsIn,go_sem,Exit.inBlock,gT];cases c₀;simp_all[bodyPostS,results,Go.Proofs.Tryz.f212]
 ·refine callsDIn_of_wpSIn Go.Proofs.Tryz.func212 rfl (by show(Tryz.prog.funcs[212]?).isSome=true;kernel_rfl) fun c₀ cs hu=>?_
  apply wpSIn_seq
  apply wpSIn_region
  simp[wpOpsSIn,go_sem,recoverD,hu,Exit.thenS];refine wpSIn_of_wpIn rfl (wpIn_block (wpIn_seq (wpIn_region ?_)));simp[wpOpsIn,go_sem,Exit.then,gT];refine wpIn_cond_false (by simp[Act.eval,Array.replicate]) ?_
  refine wpIn_seq (wpIn_region ?_);generalize hA:({tmps:=_,defers:= []}:Act)=A
  have hz:A.tmps.size=15:=by subst hA;simp
  have hdf:A.defers= []:=by subst hA;rfl
  have h0:A.eval (.tmp 0)= .pointer (some ⟨b,off,none⟩):=by subst hA;simp[Act.eval]
  have h5:A.eval (.tmp 5)= .iface 283 (.agg #[.int k n]):=by subst hA;simp[Act.eval]
  clear hA;have hbl:b<w.heap.size:=(Array.getElem?_eq_some_iff.1 hb).1
  have hb1:(w.alloc (.cells #[.int k n] 283)).heap[b]? =some (.cells cs₁ ty (0,0)):=
   (((Below.refl _ w).alloc (Nat.le_refl _) _).block b hbl).trans hb
  refine cM (P:=Tryz.prog) rfl rfl (v:= .tuple #[.agg #[.int k n],.bool true]) (w':=w) (by simp[execOp,h5,wc]) (by intro c;simp) ?_
  refine cM (P:=Tryz.prog) rfl rfl (v:= .bool true) (w':=w) (by simp[execOp,cj,cN,ca,hz,Instr.extract]) (by intro c;simp) ?_
  refine cM (P:=Tryz.prog) rfl rfl (v:= .agg #[.int k n]) (w':=w) (by simp[execOp,cj,cN,ca,hz,Instr.extract]) (by intro c;simp) ?_
  show Code.wpIn _ _ _ _ _ _ _
  refine wpIn_cond_true (by simp[cj,ca,hz]) ?_
  refine wpIn_seq (wpIn_region ?_);refine cM (P:=Tryz.prog) rfl rfl (v:= .pointer (some ⟨w.heap.size,0,none⟩)) (w':=w.alloc (.cells #[.int .i64 0] 283)) (by simp[execOp,Instr.alloc,go_sem]) (by intro c;simp) ?_
  refine kJ (P:=Tryz.prog) rfl rfl (w':=w.alloc (.cells #[.int k n] 283)) (by simp[execOp,cj,cN,ca,hz,go_sem]) (by intro c;simp) ?_
  show Code.wpIn _ _ _ _ _ _ _
  refine wpIn_region ?_;refine cM (P:=Tryz.prog) rfl rfl (v:= .pointer (some ⟨b,off,none⟩)) (w':=w.alloc (.cells #[.int k n] 283)) (by simp[execOp,cj,cN,ca,hz,h0]) (by intro c;simp) ?_
  refine cM (P:=Tryz.prog) rfl rfl (v:= .pointer (some ⟨w.heap.size,0,none⟩)) (w':=w.alloc (.cells #[.int k n] 283)) (by simp[execOp,cj,cN,ca,hz,go_sem]) (by intro c;simp) ?_
  refine cM (P:=Tryz.prog) rfl rfl (v:= .int k n) (w':=w.alloc (.cells #[.int k n] 283)) (by simp[execOp,cj,cN,ca,hz,go_sem]) (by intro c;simp) ?_
  refine cM (P:=Tryz.prog) rfl rfl (v:= .pointer (some ⟨b,off,none⟩)) (w':=w.alloc (.cells #[.int k n] 283)) (by simp[execOp,cj,cN,ca,hz]) (by intro c;simp) ?_
  refine kJ (P:=Tryz.prog) rfl rfl (w':=(w.alloc (.cells #[.int k n] 283)).setRow b cs') (by simp[execOp,cj,cN,ca,hz,hs _ hb1]) (by intro c;simp) ?_
  have hbe:Below w.heap.size (w.setRow b cs') ((w.alloc (.cells #[.int k n] 283)).setRow b cs'):=by
   have hs1:∀(v:World) (c:Array Value),(v.setRow b c).heap.size=v.heap.size:=fun v c=>by simp[World.setRow]
   refine⟨rfl,rfl,rfl,by rw[hs1,hs1];exact((Below.refl _ w).alloc (Nat.le_refl _) _).size,fun j hj=>?_⟩
   by_cases e:j=b
   ·subst e;rw[iN _ _ _ _ _ hb1,iN _ _ _ _ _ hb]
   ·rw[setRow_other _ _ _ _ e,setRow_other _ _ _ _ e];exact((Below.refl _ w).alloc (Nat.le_refl _) _).block j hj
  refine⟨by simp only[put_defers];exact hdf,_,rfl,.tuple #[],by simp[results,Go.Proofs.Tryz.f212],⟨_,rfl⟩,rfl,hbe⟩
theorem xE (k:IntKind) (n:Int) (w:World) (t:Nat):(Instr.typeAssert (.iface 299 (.agg #[.int k n])) t 299 true).run Tryz.prog w= .ok (.tuple #[.agg #[.int k n],.bool true]) w:=by
 simp[Instr.typeAssert,go_sem]
theorem IF:uR Tryz.prog 242 299 202:=by
 refine⟨fun p w=>?_,fun b off ty cs₁ cs' k n w hb hs=>?_⟩
 ·refine callsDIn_of_wpSIn Go.Proofs.Tryz.func242 rfl (by show(Tryz.prog.funcs[242]?).isSome=true;kernel_rfl) fun c₀ cs hu=>?_
  apply wpSIn_seq
  apply wpSIn_region
  simp[wpOpsSIn,go_sem,recoverD,hu,Exit.thenS];refine wpSIn_of_wpIn rfl (wpIn_block (wpIn_seq (wpIn_region ?_)));simp[wpOpsIn,go_sem,Exit.then,gT];refine wpIn_cond_true (by simp[Act.eval,Array.replicate]) (wpIn_region ?_)
  simp[wpOpsIn,go_sem,Exit.inBlock,gT];cases c₀;simp_all[bodyPostS,results,Go.Proofs.Tryz.f242]
 ·refine callsDIn_of_wpSIn Go.Proofs.Tryz.func242 rfl (by show(Tryz.prog.funcs[242]?).isSome=true;kernel_rfl) fun c₀ cs hu=>?_
  apply wpSIn_seq
  apply wpSIn_region
  simp[wpOpsSIn,go_sem,recoverD,hu,Exit.thenS];refine wpSIn_of_wpIn rfl (wpIn_block (wpIn_seq (wpIn_region ?_)));simp[wpOpsIn,go_sem,Exit.then,gT];refine wpIn_cond_false (by simp[Act.eval,Array.replicate]) ?_
  refine wpIn_seq (wpIn_region ?_);generalize hA:({tmps:=_,defers:= []}:Act)=A
  have hz:A.tmps.size=12:=by subst hA;simp
  have hdf:A.defers= []:=by subst hA;rfl
  have h0:A.eval (.tmp 0)= .pointer (some ⟨b,off,none⟩):=by subst hA;simp[Act.eval]
  have h5:A.eval (.tmp 4)= .iface 299 (.agg #[.int k n]):=by subst hA;simp[Act.eval]
  clear hA;have hbl:b<w.heap.size:=(Array.getElem?_eq_some_iff.1 hb).1
  have hb1:(w.alloc (.cells #[.int k n] 299)).heap[b]? =some (.cells cs₁ ty (0,0)):=
   (((Below.refl _ w).alloc (Nat.le_refl _) _).block b hbl).trans hb
  refine cM (P:=Tryz.prog) rfl rfl (v:= .tuple #[.agg #[.int k n],.bool true]) (w':=w) (by simp[execOp,h5,xE]) (by intro c;simp) ?_
  refine cM (P:=Tryz.prog) rfl rfl (v:= .bool true) (w':=w) (by simp[execOp,cj,cN,ca,hz,Instr.extract]) (by intro c;simp) ?_
  refine cM (P:=Tryz.prog) rfl rfl (v:= .agg #[.int k n]) (w':=w) (by simp[execOp,cj,cN,ca,hz,Instr.extract]) (by intro c;simp) ?_
  show Code.wpIn _ _ _ _ _ _ _
  refine wpIn_cond_true (by simp[cj,ca,hz]) ?_
  refine wpIn_seq (wpIn_region ?_);refine cM (P:=Tryz.prog) rfl rfl (v:= .pointer (some ⟨w.heap.size,0,none⟩)) (w':=w.alloc (.cells #[.int .i64 0] 299)) (by simp[execOp,Instr.alloc,go_sem]) (by intro c;simp) ?_
  refine kJ (P:=Tryz.prog) rfl rfl (w':=w.alloc (.cells #[.int k n] 299)) (by simp[execOp,cj,cN,ca,hz,go_sem]) (by intro c;simp) ?_
  show Code.wpIn _ _ _ _ _ _ _
  refine wpIn_region ?_;refine cM (P:=Tryz.prog) rfl rfl (v:= .pointer (some ⟨w.heap.size,0,none⟩)) (w':=w.alloc (.cells #[.int k n] 299)) (by simp[execOp,cj,cN,ca,hz,go_sem]) (by intro c;simp) ?_
  refine cM (P:=Tryz.prog) rfl rfl (v:= .int k n) (w':=w.alloc (.cells #[.int k n] 299)) (by simp[execOp,cj,cN,ca,hz,go_sem]) (by intro c;simp) ?_
  refine kJ (P:=Tryz.prog) rfl rfl (w':=(w.alloc (.cells #[.int k n] 299)).setRow b cs') (by simp[execOp,cj,cN,ca,hz,h0,hs _ hb1]) (by intro c;simp) ?_
  have hbe:Below w.heap.size (w.setRow b cs') ((w.alloc (.cells #[.int k n] 299)).setRow b cs'):=by
   have hs1:∀(v:World) (c:Array Value),(v.setRow b c).heap.size=v.heap.size:=fun v c=>by simp[World.setRow]
   refine⟨rfl,rfl,rfl,by rw[hs1,hs1];exact((Below.refl _ w).alloc (Nat.le_refl _) _).size,fun j hj=>?_⟩
   by_cases e:j=b
   ·subst e;rw[iN _ _ _ _ _ hb1,iN _ _ _ _ _ hb]
   ·rw[setRow_other _ _ _ _ e,setRow_other _ _ _ _ e];exact((Below.refl _ w).alloc (Nat.le_refl _) _).block j hj
  refine⟨by simp only[put_defers];exact hdf,_,rfl,.tuple #[],by simp[results,Go.Proofs.Tryz.f242],⟨_,rfl⟩,rfl,hbe⟩
theorem wb (k:IntKind) (n:Int) (w:World) (t:Nat):(Instr.typeAssert (.iface 211 (.agg #[.int k n])) t 211 true).run Tryz.prog w= .ok (.tuple #[.agg #[.int k n],.bool true]) w:=by
 simp[Instr.typeAssert,go_sem]
theorem lB:uR Tryz.prog 90 211 26:=by
 refine⟨fun p w=>?_,fun b off ty cs₁ cs' k n w hb hs=>?_⟩
 ·refine callsDIn_of_wpSIn Go.Proofs.Tryz.func90 rfl (by show(Tryz.prog.funcs[90]?).isSome=true;kernel_rfl) fun c₀ cs hu=>?_
  apply wpSIn_seq
  apply wpSIn_region
  simp[wpOpsSIn,go_sem,recoverD,hu,Exit.thenS];refine wpSIn_of_wpIn rfl (wpIn_block (wpIn_seq (wpIn_region ?_)));simp[wpOpsIn,go_sem,Exit.then,gT];refine wpIn_cond_true (by simp[Act.eval,Array.replicate]) (wpIn_region ?_)
  simp[wpOpsIn,go_sem,Exit.inBlock,gT];cases c₀;simp_all[bodyPostS,results,Go.Proofs.Tryz.f90]
 ·refine callsDIn_of_wpSIn Go.Proofs.Tryz.func90 rfl (by show(Tryz.prog.funcs[90]?).isSome=true;kernel_rfl) fun c₀ cs hu=>?_
  apply wpSIn_seq
  apply wpSIn_region
  simp[wpOpsSIn,go_sem,recoverD,hu,Exit.thenS];refine wpSIn_of_wpIn rfl (wpIn_block (wpIn_seq (wpIn_region ?_)));simp[wpOpsIn,go_sem,Exit.then,gT];refine wpIn_cond_false (by simp[Act.eval,Array.replicate]) ?_
  refine wpIn_seq (wpIn_region ?_);generalize hA:({tmps:=_,defers:= []}:Act)=A
  have hz:A.tmps.size=15:=by subst hA;simp
  have hdf:A.defers= []:=by subst hA;rfl
  have h0:A.eval (.tmp 0)= .pointer (some ⟨b,off,none⟩):=by subst hA;simp[Act.eval]
  have h5:A.eval (.tmp 5)= .iface 211 (.agg #[.int k n]):=by subst hA;simp[Act.eval]
  clear hA;have hbl:b<w.heap.size:=(Array.getElem?_eq_some_iff.1 hb).1
  have hb1:(w.alloc (.cells #[.int k n] 211)).heap[b]? =some (.cells cs₁ ty (0,0)):=
   (((Below.refl _ w).alloc (Nat.le_refl _) _).block b hbl).trans hb
  refine cM (P:=Tryz.prog) rfl rfl (v:= .tuple #[.agg #[.int k n],.bool true]) (w':=w) (by simp[execOp,h5,wb]) (by intro c;simp) ?_
  refine cM (P:=Tryz.prog) rfl rfl (v:= .bool true) (w':=w) (by simp[execOp,cj,cN,ca,hz,Instr.extract]) (by intro c;simp) ?_
  refine cM (P:=Tryz.prog) rfl rfl (v:= .agg #[.int k n]) (w':=w) (by simp[execOp,cj,cN,ca,hz,Instr.extract]) (by intro c;simp) ?_
  show Code.wpIn _ _ _ _ _ _ _
  refine wpIn_cond_true (by simp[cj,ca,hz]) ?_
  refine wpIn_seq (wpIn_region ?_);refine cM (P:=Tryz.prog) rfl rfl (v:= .pointer (some ⟨w.heap.size,0,none⟩)) (w':=w.alloc (.cells #[.int .i64 0] 211)) (by simp[execOp,Instr.alloc,go_sem]) (by intro c;simp) ?_
  refine kJ (P:=Tryz.prog) rfl rfl (w':=w.alloc (.cells #[.int k n] 211)) (by simp[execOp,cj,cN,ca,hz,go_sem]) (by intro c;simp) ?_
  show Code.wpIn _ _ _ _ _ _ _
  refine wpIn_region ?_;refine cM (P:=Tryz.prog) rfl rfl (v:= .pointer (some ⟨b,off,none⟩)) (w':=w.alloc (.cells #[.int k n] 211)) (by simp[execOp,cj,cN,ca,hz,h0]) (by intro c;simp) ?_
  refine cM (P:=Tryz.prog) rfl rfl (v:= .pointer (some ⟨w.heap.size,0,none⟩)) (w':=w.alloc (.cells #[.int k n] 211)) (by simp[execOp,cj,cN,ca,hz,go_sem]) (by intro c;simp) ?_
  refine cM (P:=Tryz.prog) rfl rfl (v:= .int k n) (w':=w.alloc (.cells #[.int k n] 211)) (by simp[execOp,cj,cN,ca,hz,go_sem]) (by intro c;simp) ?_
  refine cM (P:=Tryz.prog) rfl rfl (v:= .pointer (some ⟨b,off,none⟩)) (w':=w.alloc (.cells #[.int k n] 211)) (by simp[execOp,cj,cN,ca,hz]) (by intro c;simp) ?_
  refine kJ (P:=Tryz.prog) rfl rfl (w':=(w.alloc (.cells #[.int k n] 211)).setRow b cs') (by simp[execOp,cj,cN,ca,hz,hs _ hb1]) (by intro c;simp) ?_
  have hbe:Below w.heap.size (w.setRow b cs') ((w.alloc (.cells #[.int k n] 211)).setRow b cs'):=by
   have hs1:∀(v:World) (c:Array Value),(v.setRow b c).heap.size=v.heap.size:=fun v c=>by simp[World.setRow]
   refine⟨rfl,rfl,rfl,by rw[hs1,hs1];exact((Below.refl _ w).alloc (Nat.le_refl _) _).size,fun j hj=>?_⟩
   by_cases e:j=b
   ·subst e;rw[iN _ _ _ _ _ hb1,iN _ _ _ _ _ hb]
   ·rw[setRow_other _ _ _ _ e,setRow_other _ _ _ _ e];exact((Below.refl _ w).alloc (Nat.le_refl _) _).block j hj
  refine⟨by simp only[put_defers];exact hdf,_,rfl,.tuple #[],by simp[results,Go.Proofs.Tryz.f90],⟨_,rfl⟩,rfl,hbe⟩
theorem wg (n:Int) (w:World) (t:Nat):(Instr.typeAssert (.iface 214 (.agg #[.int .i64 n])) t 214 true).run Tryz.prog w= .ok (.tuple #[.agg #[.int .i64 n],.bool true]) w:=by
 simp[Instr.typeAssert,go_sem]
theorem AB {n:Int} (hn:cc .i64 n) (w:World):(Instr.build 47 #[(0,.int .i64 n)]).run Tryz.prog w= .ok (den Env.zero (U0 n)) w:=
 (rn (J:=Env.zero) (w:=w) (K:=fun _=>True) (C:=(YJ [] [] [] bx aQ).toCtx) (t:=47) (parts:= [(0,.it .i64 n)]) (r:=U0 n) (zU pz) (by kernel_rfl) (by simp;exact hn)).1
theorem bZ:Pz Tryz.prog 130 214 47:=by
 refine⟨fun p w=>?_,fun b off ty cs₁ cs' n w hn hb hs=>?_⟩
 ·refine callsDIn_of_wpSIn Go.Proofs.Tryz.func130 rfl (by show(Tryz.prog.funcs[130]?).isSome=true;kernel_rfl) fun c₀ cs hu=>?_
  apply wpSIn_seq
  apply wpSIn_region
  simp[wpOpsSIn,go_sem,recoverD,hu,Exit.thenS];refine wpSIn_of_wpIn rfl (wpIn_block (wpIn_seq (wpIn_region ?_)));simp[wpOpsIn,go_sem,Exit.then,gT];refine wpIn_cond_true (by simp[Act.eval,Array.replicate]) (wpIn_region ?_)
  simp[wpOpsIn,go_sem,Exit.inBlock,gT];cases c₀;simp_all[bodyPostS,results,Go.Proofs.Tryz.f130]
 ·refine callsDIn_of_wpSIn Go.Proofs.Tryz.func130 rfl (by show(Tryz.prog.funcs[130]?).isSome=true;kernel_rfl) fun c₀ cs hu=>?_
  apply wpSIn_seq
  apply wpSIn_region
  simp[wpOpsSIn,go_sem,recoverD,hu,Exit.thenS];refine wpSIn_of_wpIn rfl (wpIn_block (wpIn_seq (wpIn_region ?_)));simp[wpOpsIn,go_sem,Exit.then,gT];refine wpIn_cond_false (by simp[Act.eval,Array.replicate]) ?_
  refine wpIn_seq (wpIn_region ?_);generalize hA:({tmps:=_,defers:= []}:Act)=A
  have hz:A.tmps.size=13:=by subst hA;simp
  have hdf:A.defers= []:=by subst hA;rfl
  have h0:A.eval (.tmp 0)= .pointer (some ⟨b,off,none⟩):=by subst hA;simp[Act.eval]
  have h5:A.eval (.tmp 4)= .iface 214 (.agg #[.int .i64 n]):=by subst hA;simp[Act.eval]
  clear hA;have hbl:b<w.heap.size:=(Array.getElem?_eq_some_iff.1 hb).1
  have hb1:(w.alloc (.cells #[.int .i64 n] 214)).heap[b]? =some (.cells cs₁ ty (0,0)):=
   (((Below.refl _ w).alloc (Nat.le_refl _) _).block b hbl).trans hb
  refine cM (P:=Tryz.prog) rfl rfl (v:= .tuple #[.agg #[.int .i64 n],.bool true]) (w':=w) (by simp[execOp,h5,wg]) (by intro c;simp) ?_
  refine cM (P:=Tryz.prog) rfl rfl (v:= .bool true) (w':=w) (by simp[execOp,cj,cN,ca,hz,Instr.extract]) (by intro c;simp) ?_
  refine cM (P:=Tryz.prog) rfl rfl (v:= .agg #[.int .i64 n]) (w':=w) (by simp[execOp,cj,cN,ca,hz,Instr.extract]) (by intro c;simp) ?_
  show Code.wpIn _ _ _ _ _ _ _
  refine wpIn_cond_true (by simp[cj,ca,hz]) ?_
  refine wpIn_seq (wpIn_region ?_);refine cM (P:=Tryz.prog) rfl rfl (v:= .pointer (some ⟨w.heap.size,0,none⟩)) (w':=w.alloc (.cells #[.int .i64 0] 214)) (by simp[execOp,Instr.alloc,go_sem]) (by intro c;simp) ?_
  refine kJ (P:=Tryz.prog) rfl rfl (w':=w.alloc (.cells #[.int .i64 n] 214)) (by simp[execOp,cj,cN,ca,hz,go_sem]) (by intro c;simp) ?_
  show Code.wpIn _ _ _ _ _ _ _
  refine wpIn_region ?_;refine cM (P:=Tryz.prog) rfl rfl (v:= .pointer (some ⟨w.heap.size,0,none⟩)) (w':=w.alloc (.cells #[.int .i64 n] 214)) (by simp[execOp,cj,cN,ca,hz,go_sem]) (by intro c;simp) ?_
  refine cM (P:=Tryz.prog) rfl rfl (v:= .int .i64 n) (w':=w.alloc (.cells #[.int .i64 n] 214)) (by simp[execOp,cj,cN,ca,hz,go_sem]) (by intro c;simp) ?_
  refine cM (P:=Tryz.prog) rfl rfl (v:=den Env.zero (U0 n)) (w':=w.alloc (.cells #[.int .i64 n] 214)) (by simp only[execOp,Array.map,cj,cN,ca,hz];first|rfl| (simp[cj,cN,ca,hz,AB hn])) (by intro c;simp) ?_
  refine kJ (P:=Tryz.prog) rfl rfl (w':=(w.alloc (.cells #[.int .i64 n] 214)).setRow b cs') (by simp[execOp,cj,cN,ca,hz,h0,hs _ hb1]) (by intro c;simp) ?_
  have hbe:Below w.heap.size (w.setRow b cs') ((w.alloc (.cells #[.int .i64 n] 214)).setRow b cs'):=by
   have hs1:∀(v:World) (c:Array Value),(v.setRow b c).heap.size=v.heap.size:=fun v c=>by simp[World.setRow]
   refine⟨rfl,rfl,rfl,by rw[hs1,hs1];exact((Below.refl _ w).alloc (Nat.le_refl _) _).size,fun j hj=>?_⟩
   by_cases e:j=b
   ·subst e;rw[iN _ _ _ _ _ hb1,iN _ _ _ _ _ hb]
   ·rw[setRow_other _ _ _ _ e,setRow_other _ _ _ _ e];exact((Below.refl _ w).alloc (Nat.le_refl _) _).block j hj
  refine⟨by simp only[put_defers];exact hdf,_,rfl,.tuple #[],by simp[results,Go.Proofs.Tryz.f130],⟨_,rfl⟩,rfl,hbe⟩
theorem PH (k:Key):
 ((bu []|| !decide (bB k=0))=true->void=ah [] k)/\
   ((bu []|| !decide (bB k=0))=false->
     ((aZ k&& !aU [] k)=true->void=ah [] k)/\((aZ k&& !aU [] k)=false->k=ah [] k)):=by
 exact Eb [] k
theorem ON (L:List Sx.Obj) (k:Key):
 ((bu L|| !decide (bB k=0))=true->void=ah L k)/\
   ((bu L|| !decide (bB k=0))=false->
     ((aZ k&& !aU L k)=true->void=ah L k)/\((aZ k&& !aU L k)=false->k=ah L k)):=by
 exact Eb L k
theorem iv:cz Tryz.prog 58 Xz:=
 yz gI (fun _ _=>rfl) (fun x _=>bc (inl:=bx) (ann:=aQ) (ae qw (ae gy (ae dJ (ae bR ar)))) (PH x) (by kernel_rfl)) (fun L x _ _ _=>bc (inl:=bx) (ann:=aQ) (ae qw (ae gy (ae dJ (ae bR ar)))) (ON L x) (by kernel_rfl)) fun _=>rfl
theorem OY (l:List Sx.Obj) (k:Key):
 ((decide (bQ (ai l)=0)|| !decide (bB k=0)||decide (0<=bf k)&& !aU l k)=true->
   void=ah l k)/\
   ((decide (bQ (ai l)=0)|| !decide (bB k=0)||decide (0<=bf k)&& !aU l k)=false->
     k=ah l k):=by
 exact J3 l k
theorem pL:cz Tryz.prog 50 Rm:=Hp gI (fun _ _=>rfl) (fun l k _ _ _=>bc (inl:=bx) (ann:=aQ) (ae vN (ae pR (ae mf ar))) (OY l k) (by kernel_rfl)) fun _=>rfl
end Go.Proofs.YtlblcfaclmpekaaGreat
namespace Go.Sx
def wkX (nid:Nat):V:= .mp nid
def wkN (nid:Nat):List aK:= [.mp .i64 [2,3,1,8] [.fn 240 [.lp (nid+1) 0],.fn 240 [.lp (nid+1+1) 0],.fn 238 [],.fn 238 []],
 .blk 42 (.ci .i64 3),.blk 42 (.ci .i64 1)]
def tN:Nat:=246
def clR (L:List Obj) (t f:Key) (g:Int):aK:= .blk tN (.ag [.ob (ew (aa L t) (dH L t f g)),.lp 0 0,.key t])
end Go.Sx
namespace Go.Proofs.YtlblcfaclmpekaaGreat
open Go.Sx
theorem R5:
 true=true/\
 true=true/\
  ∀(nid:Nat),some (wkX nid)=some (wkX nid)/\some (wkN nid)=some (wkN nid):=by
 exact⟨rfl,rfl,fun nid=>⟨rfl,rfl⟩⟩
theorem R0:cz Tryz.prog 234 (A9 wkX wkN):=vq (π:= [0,1,2]) (by decide) (fun _=>rfl) (bm (inl:=(fun f=>f==239)) (ann:=aQ) ar aE R5 (by kernel_rfl))
theorem Pq (r m:Int) (hr:cc .i64 r) (hm0:cc .i64 m):
 (∃g,kZ g/\r=r/\m=m/\0=gD r m g/\1=g)/\∀(g:Int),kZ g->aba (decide (g<=4)) ((nX g/\abd (r.tdiv g))/\(nX 2/\abd ((r.tdiv g).tmod 2))/\((!decide ((r.tdiv g).tmod 2=1))=true->nX g/\abd (m.tdiv g))/\((!decide ((r.tdiv g).tmod 2=1))=true->nX 2/\abd ((m.tdiv g).tmod 2))/\aba (decide ((r.tdiv g).tmod 2=1)||decide ((m.tdiv g).tmod 2=1)) (abd (gD r m g+g)/\abd (g*2)/\∃g',kZ g'/\(8-g').toNat<(8-g).toNat/\r=r/\m=m/\gD r m g+g=gD r m g'/\g*2=g') (abd (g*2)/\∃g',kZ g'/\(8-g').toNat<(8-g).toNat/\r=r/\m=m/\gD r m g=gD r m g'/\g*2=g')) (gD r m g=iD r m):=by
 delta aba abd
 refine⟨⟨1,.inl rfl,rfl,rfl,by simp[gD],rfl⟩,fun g hg=>⟨fun hlt=>?_,fun hge=>?_⟩⟩
 ·have hlt:=aaZ hlt;have hne:nX g:=by unfold nX;rcases hg with rfl|rfl|rfl|rfl<;>omega
  have h2:nX 2:=by unfold nX;omega
  have hs:=EP (r:=r) (m:=m) (g:=g)
  have hn:∃g',kZ g'/\(8-g').toNat<(8-g).toNat/\g*2=g':=by
   rcases hg with rfl|rfl|rfl|rfl
   ·exact⟨2,.inr (.inl rfl),by omega,rfl⟩
   ·exact⟨4,.inr (.inr (.inl rfl)),by omega,rfl⟩
   ·exact⟨8,.inr (.inr (.inr rfl)),by omega,rfl⟩
   ·omega
  obtain⟨g',hg1,hg2,rfl⟩:=hn;have hm:aF IntKind.i64 (g*2):=by simp only[aF,cc];rcases hg with rfl|rfl|rfl|rfl<;>omega
  refine⟨⟨hne,uE hr hg⟩,⟨h2,pq _⟩,fun _=>⟨hne,uE hm0 hg⟩,fun _=>⟨h2,pq _⟩,fun h=>⟨by simp only[aF,cc];omega,hm,_,hg1,hg2,rfl,rfl,?_,rfl⟩,fun h=>⟨hm,_,hg1,hg2,rfl,rfl,?_,rfl⟩⟩
  ·rcases hg with rfl|rfl|rfl|rfl
   ·simp[gD,gX]at h⊢;grind
   ·simp[gD,gX]at h⊢;grind
   ·simp[gD,gX]at h⊢;grind
   ·omega
  ·rcases hg with rfl|rfl|rfl|rfl
   ·simp[gD,gX,h]at h⊢ <;>grind
   ·simp[gD,gX,h]at h⊢ <;>grind
   ·simp[gD,gX,h]at h⊢ <;>grind
   ·omega
 ·have hge:=aaY hge;rcases hg with rfl|rfl|rfl|rfl<;>first|rfl|omega
theorem yE:cz Tryz.prog 125 R8:=
 pf (gq .i64) (gq .i64) (fun _ _=>rfl) fun r m hr hm=>bc (inl:=bx) (ann:=(iJ [(125,3,Ws [0,1,4] (fun g=> [(5,.it .i64 (gD r m g)),(6,.it .i64 g)]) kZ 8)])) ar (Pq r m hr hm) (by kernel_rfl)
theorem Ph (k:Key):
 aba (decide (k.kind=2)) ({kind:=k.kind,oid:=k.oid,count:=k.count,call:=k.call,rights:=iD k.rights 3,value:=k.value}=kT k) (aba (decide (k.kind=3)) ({kind:=k.kind,oid:=k.oid,count:=k.count,call:=k.call,rights:=1,value:=k.value}=kT k) (aba (decide (k.kind=1)) (aba (decide (k.kind=1)) (k=kT k) (void=kT k)) (aba (decide (k.kind=8)) (k=kT k) (void=kT k)))):=by
 delta aba
 unfold kT dn;grind
theorem PN:cz Tryz.prog 191 Tc:=
 qe gI (fun _=>rfl) fun k hk=>bc (inl:=bx) (ann:=aQ) (ae yE ar) (Ph k) (by kernel_rfl)
theorem JP (k:Key):
 aba (!decide (bB k=0)) (void=iX k/\2=bB k) (aba (decide (k.kind=2)||(decide (k.kind=3)||(decide (k.kind=1)||decide (k.kind=8)))) (aba (decide (k.kind=2)) (abb ({kind:=k.kind,oid:=k.oid,count:=k.count,call:=k.call,rights:=bk BinOp.or IntKind.i64 k.rights 3,value:=k.value}=iX k/\0=bB k)) (aba (decide (k.kind=3)) (abb ({kind:=k.kind,oid:=k.oid,count:=k.count,call:=k.call,rights:=bk BinOp.or IntKind.i64 k.rights 1,value:=k.value}=iX k/\0=bB k)) (aba (decide (k.kind=1)) (abb (k=iX k/\0=bB k)) (aba (decide (k.kind=8)) (abb (k=iX k/\0=bB k)) False)))) (void=iX k/\0=bB k)):=by
 delta aba abb
 unfold iX bB;cases hok:aV k
 ·simp
 have hr:=jj hok;have o3:k.kind=2->bk BinOp.or IntKind.i64 k.rights 3=iD k.rights 3:=fun e=>OB hr.1 (by rw[e]at hr;exact hr.2)
 have o1:k.kind=3->bk BinOp.or IntKind.i64 k.rights 1=1:=fun e=>Fg hr.1 (by rw[e]at hr;exact hr.2)
 unfold kT dn;grind
theorem AX:cz Tryz.prog 230 Mf:=
 qe gI (fun _=>rfl) fun k hk=>bm (inl:=(fun f=>f==240||f==238)) (ann:=aQ) (ae gy (ae R0 ar)) aE (JP k) (by kernel_rfl)
theorem Ms (o:Sx.Obj) (k:Key) (i:Int) (hq:o8 k i):
 (0<=i/\i< ↑16)/\
  ((!decide (bk BinOp.and IntKind.i64 k.rights 2=0))=true->
    iX (ah [] (o.slots.at i.toNat))=jB [] o k i)/\
    ((!decide (bk BinOp.and IntKind.i64 k.rights 2=0))=false->
      ah [] (o.slots.at i.toNat)=jB [] o k i):=by
 exact IH hq
theorem Tn (o:Sx.Obj) (L:List Sx.Obj) (k:Key) (i:Int) (hq:o8 k i):
 (0<=i/\i< ↑16)/\
  ((!decide (bk BinOp.and IntKind.i64 k.rights 2=0))=true->
    iX (ah L (o.slots.at i.toNat))=jB L o k i)/\
    ((!decide (bk BinOp.and IntKind.i64 k.rights 2=0))=false->ah L (o.slots.at i.toNat)=jB L o k i):=by
 exact IH hq
theorem ot:cz Tryz.prog 196 Xu:=
 eQ (aA (Gf Zu) (aA dE bV)) (fun _=>rfl) fun a hq hok=>by
  obtain⟨⟨o,S,k,_⟩,i,_⟩:=a;cases S with
  |none=>exact bc (inl:=bx) (ann:=aQ) (ae iv (ae AX ar)) (Ms o k i hq) (by kernel_rfl)
  |some L=>exact bc (inl:=bx) (ann:=aQ) (ae iv (ae AX ar)) (Tn o L k i hq) (by kernel_rfl)
theorem LK (L:List Sx.Obj) (k:Key) (d:Int) (c:Bool):
 aba (decide (bQ (ai L)=0)) (1=aB L k d c) (aba (!aU L k|| !decide (k.kind=d)) (190=aB L k d c) ((c=true->nX 4/\aF IntKind.i64 (k.rights.tmod 4))/\aba (c&& !decide (k.rights.tmod 4=0)) (191=aB L k d c) (0=aB L k d c))):=by
 delta aba
 unfold aB;refine⟨fun h=>?_,fun h=>⟨fun h2=>?_,fun h2=>⟨fun hc=>⟨by unfold nX;omega,?_⟩,fun h3=>?_,fun h3=>?_⟩⟩⟩
 ·rw[aa2 (by simpa[bQ]using h)]
 ·rw[aa1 (by simpa[bQ]using h),aa2 h2]
 ·have h1:=Int.tmod_lt_of_pos k.rights (show(0:Int)<4 by omega)
  have h2:=Int.lt_tmod_of_pos k.rights (show(0:Int)<4 by omega)
  simp only[aF,cc];omega
 ·rw[aa1 (by simpa[bQ]using h),aa1 (by rw[h2];simp),aa2 h3]
 ·rw[aa1 (by simpa[bQ]using h),aa1 (by rw[h2];simp),aa1 (by rw[h3];simp)]
theorem pK:cz Tryz.prog 135 R7:=
 eQ (aA jC (aA iI (aA dE (aA Fa bV)))) (fun _=>rfl) fun a hq hok=>by
  obtain⟨L,k,d,c,_⟩:=a;exact bc (inl:=bx) (ann:=aQ) (ae mf ar) (LK L k d c) (by kernel_rfl)
theorem UM (L:List Sx.Obj) (k:Key) (i:Int) (hk:cc .i64 k.rights) (hq:oL L k i):
 (0<=k.oid/\k.oid< ↑(ai L))/\(0<=i/\i< ↑16)/\k.oid.toNat<ai L/\(nX 2/\abd (k.rights.tdiv 2))/\(nX 2/\abd ((k.rights.tdiv 2).tmod 2))/\aba (decide ((k.rights.tdiv 2).tmod 2=1)) (kT (ah L ((aj L k.oid.toNat free).slots.at i.toNat))=di L k i) (ah L ((aj L k.oid.toNat free).slots.at i.toNat)=di L k i):=by
 delta aba abd
 obtain⟨h0,h1,h2,h3⟩:=hq;have e2:nX 2:=by unfold nX;omega
 refine⟨⟨h2,h3⟩,⟨h0,by omega⟩,by omega,⟨e2,uE hk (.inr (.inl rfl))⟩,⟨e2,pq _⟩,fun h=>?_,fun h=>?_⟩
 ·unfold di jB si;rw[aa2 h]
 ·unfold di jB si;rw[aa1 (by rw[h];simp)]
theorem x9:cz Tryz.prog 136 XE:=
 eQ (aA jC (aA iI (aA dE bV))) (fun _=>rfl) fun a hq hok=>by
  obtain⟨L,k,i,_⟩:=a;exact bc (inl:=bx) (ann:=aQ) (ae pL (ae PN ar)) (UM L k i hok.2.1.2.2.2.2.1 hq) (by kernel_rfl)
theorem VT (L:List Sx.Obj) (k:Key):
 (decide (bB k=0)&&decide (bf k<bQ (ai L)))=bJ L k:=by
 unfold bJ bB bQ;cases aV k<;>simp
theorem yV:cz Tryz.prog 73 Y9:=
 eQ (aA jC (aA iI bV)) (fun _=>rfl) fun a hq hok=>by
  obtain⟨L,k,_⟩:=a;exact bc (inl:=bx) (ann:=aQ) (ae vN (ae pR ar)) (VT L k) (by kernel_rfl)
theorem Sy (L:List Sx.Obj) (i:Int) (o:Sx.Obj) (hq:dO L i):
 Mv (ai L) 856/\
  (0<=i/\i< ↑(ai L))/\
   i.toNat<ai L/\
    ∀(nid:Nat),
     some (V.sa nid)=some (V.sa nid)/\
      some [aK.arr (some tO) 163 (TL.ob (b6 L i.toNat o))]=
       some [aK.arr (some tO) 163 (TL.ob (b6 L i.toNat o))]:=by
 obtain⟨h0,h1,h2⟩:=hq;exact⟨⟨by simp only[maxLen];omega,by omega⟩,⟨h0,h1⟩,by omega,fun nid=>⟨rfl,rfl⟩⟩
theorem jG:cz Tryz.prog 76 VR:=
 IQ (π:=fun _=> [2]) (aA jC (aA dE (aA NG bV))) (fun _=>by simp) (fun _ _=>rfl) fun a hq hok=>by
  obtain⟨L,i,o,_⟩:=a;exact bc (inl:=bx) (ann:=aQ) ar (Sy L i o hq) (by kernel_rfl)
theorem Qg (k:Key) (i:Int):
 abb (abb (aba (!decide (0<ak [])) (void=aJ [] k i/\1=bY [] k i) (abb (aba (!(aU [] k&&decide (k.kind=2))) (void=aJ [] k i/\190=bY [] k i) (abb (abb (aba (!(decide (0<=i)&&decide (i<16))) (void=aJ [] k i/\4=bY [] k i) (o8 k i/\jB [] (aa [] k) k i=aJ [] k i/\0=bY [] k i)))))))):=by
 delta aba abb
 have hE:∀e,aB [] k 2 false=e->e≠0->void=aJ [] k i/\e=bY [] k i:=fun e h h0=>by
  unfold aJ bY;rw[h,aa1 h0,aa1 h0];exact⟨rfl,rfl⟩
 refine⟨rfl,rfl,fun h=>hE _ ?_ (by omega),fun h=>⟨rfl,fun h2=>hE _ ?_ (by omega),fun h2=>⟨rfl,rfl,fun h3=>?_,fun h3=>?_⟩⟩⟩
 ·unfold aB;unfold ak at h;rw[aa2 (by simp at h;omega)]
 ·unfold aB;unfold ak at h;rw[aa1 (by simp at h;omega),aa2 (by simpa using h2)]
 ·have hA:aB [] k 2 false=0:=by
   unfold aB;unfold ak at h;rw[aa1 (by simp at h;omega),aa1 (by simpa using h2),aa1 (by simp)]
  rw[Bool.not_eq_true']at h3;unfold aJ bY ko;rw[hA,aa2 rfl,h3];exact⟨rfl,rfl⟩
 ·have hA:aB [] k 2 false=0:=by
   unfold aB;unfold ak at h;rw[aa1 (by simp at h;omega),aa1 (by simpa using h2),aa1 (by simp)]
  obtain⟨a1,_,_⟩:=gw hA;obtain⟨b1,b2,b3,b4,_⟩:=ei a1;rw[Bool.not_eq_false']at h3;have h3':0<=i/\i<16:=by simpa using h3
  unfold aJ bY ko;rw[hA,aa2 rfl,h3,aa2 rfl,aa2 rfl,b4];exact⟨⟨h3'.1,h3'.2,b1⟩,rfl,rfl⟩
theorem UW (L:List Sx.Obj) (k:Key) (i:Int):
 abb (abb (aba (!decide (0<ak L)) (void=aJ L k i/\1=bY L k i) (abb (aba (!(aU L k&&decide (k.kind=2))) (void=aJ L k i/\190=bY L k i) (abb (abb (aba (!(decide (0<=i)&&decide (i<16))) (void=aJ L k i/\4=bY L k i) (o8 k i/\jB L (aa L k) k i=aJ L k i/\0=bY L k i)))))))):=by
 delta aba abb
 have hE:∀e,aB L k 2 false=e->e≠0->void=aJ L k i/\e=bY L k i:=fun e h h0=>by
  unfold aJ bY;rw[h,aa1 h0,aa1 h0];exact⟨rfl,rfl⟩
 refine⟨rfl,rfl,fun h=>hE _ ?_ (by omega),fun h=>⟨rfl,fun h2=>hE _ ?_ (by omega),fun h2=>⟨rfl,rfl,fun h3=>?_,fun h3=>?_⟩⟩⟩
 ·unfold aB;unfold ak at h;rw[aa2 (by simp at h;omega)]
 ·unfold aB;unfold ak at h;rw[aa1 (by simp at h;omega),aa2 (by simpa using h2)]
 ·have hA:aB L k 2 false=0:=by
   unfold aB;unfold ak at h;rw[aa1 (by simp at h;omega),aa1 (by simpa using h2),aa1 (by simp)]
  rw[Bool.not_eq_true']at h3;unfold aJ bY ko;rw[hA,aa2 rfl,h3];exact⟨rfl,rfl⟩
 ·have hA:aB L k 2 false=0:=by
   unfold aB;unfold ak at h;rw[aa1 (by simp at h;omega),aa1 (by simpa using h2),aa1 (by simp)]
  obtain⟨a1,_,_⟩:=gw hA;obtain⟨b1,b2,b3,b4,_⟩:=ei a1;rw[Bool.not_eq_false']at h3;have h3':0<=i/\i<16:=by simpa using h3
  unfold aJ bY ko;rw[hA,aa2 rfl,h3,aa2 rfl,aa2 rfl,b4];exact⟨⟨h3'.1,h3'.2,b1⟩,rfl,rfl⟩
theorem sQ:cz Tryz.prog 147 X8:=
 eQ (aA tk (aA iI (aA dE bV))) (fun _=>rfl) fun a hq hok=>by
  obtain⟨S,k,i,_⟩:=a;cases S with
  |none=>exact aY (inl:=(fun f=>f==195||f==194)) (ann:=aQ) (ae bC (ae bR (ae ot ar))) aE (eg iS) (Qg k i) (by kernel_rfl)
  |some L=>exact aY (inl:=(fun f=>f==195||f==194)) (ann:=aQ) (ae bC (ae bR (ae ot ar))) aE (eg iS) (UW L k i) (by kernel_rfl)
theorem Qp (k:Key) (i:Int) (v:Key):
 abb (abb (aba (!decide (0<ak [])) (void=cT [] k i v/\1=bj [] k i v) (abb (aba (!(aU [] k&&decide (k.kind=2))) (void=cT [] k i v/\190=bj [] k i v) (abb (aba (!decide (bk BinOp.and IntKind.i64 k.rights 3=0)) (void=cT [] k i v/\191=bj [] k i v) (abb (aba (!(decide (0<=i)&&decide (i<16))) (void=cT [] k i v/\4=bj [] k i v) (abb (aba (!(decide (bB v=0)&&(!aZ v||decide (cy v<ak [])))) (void=cT [] k i v/\2=bj [] k i v) (o8 k i/\abb (abb ((0<=i/\i< ↑16)/\abb (jB [] (aa [] k) k i=cT [] k i v/\0=bj [] k i v)))))))))))))):=by
 delta aba abb
 refine⟨rfl,rfl,fun _=>⟨rfl,rfl⟩,fun h=>absurd h (by decide)⟩
theorem LX (k:Key) (i:Int) (v:Key):
 abb (abb (aba (!decide (0<ak [])) (void=cT [] k i v/\1=bj [] k i v) (abb (aba (!(aU [] k&&decide (k.kind=2))) (void=cT [] k i v/\190=bj [] k i v) (abb (aba (!decide (bk BinOp.and IntKind.i64 k.rights 3=0)) (void=cT [] k i v/\191=bj [] k i v) (abb (aba (!(decide (0<=i)&&decide (i<16))) (void=cT [] k i v/\4=bj [] k i v) (abb (aba (!(decide (bB v=0)&&(!aZ v||decide (cy v<ak [])))) (void=cT [] k i v/\2=bj [] k i v) (o8 k i/\abb (abb ((0<=i/\i< ↑16)/\abb False))))))))))))):=by
 delta aba abb
 refine⟨rfl,rfl,fun _=>⟨rfl,rfl⟩,fun h=>absurd h (by decide)⟩
theorem T3 (L:List Sx.Obj) (k:Key) (i:Int) (v:Key) (hL:aq L):
 abb (abb (aba (!decide (0<ak L)) ((void=cT L k i v/\1=bj L k i v)/\L=cC L k i v) (abb (aba (!(aU L k&&decide (k.kind=2))) ((void=cT L k i v/\190=bj L k i v)/\L=cC L k i v) (abb (aba (!decide (bk BinOp.and IntKind.i64 k.rights 3=0)) ((void=cT L k i v/\191=bj L k i v)/\L=cC L k i v) (abb (aba (!(decide (0<=i)&&decide (i<16))) ((void=cT L k i v/\4=bj L k i v)/\L=cC L k i v) (abb (aba (!(decide (bB v=0)&&(!aZ v||decide (cy v<ak L)))) ((void=cT L k i v/\2=bj L k i v)/\L=cC L k i v) (o8 k i/\abb (abb ((0<=i/\i< ↑16)/\abb ((jB L (aa L k) k i=cT L k i v/\0=bj L k i v)/\cK L k.oid {kind:=(aa L k).kind,count:=(aa L k).count,calls:=(aa L k).calls,slots:=(aa L k).slots.put i.toNat (ah L v),bytes:=(aa L k).bytes}=cC L k i v)))))))))))))):=by
 delta aba abb
 have fin:∀e,bj L k i v=e->e≠0->(void=cT L k i v/\e=bj L k i v)/\L=cC L k i v:=fun e h h0=>by
  unfold cT cC;rw[h,aa1 h0,aa1 h0];exact⟨⟨rfl,rfl⟩,rfl⟩
 have bad:∀e,aB L k 2 true=e->e≠0->bj L k i v=e:=fun e h h0=>by unfold bj;rw[h,aa1 h0]
 refine⟨rfl,rfl,fun h=>fin _ (bad _ (PE h) (by omega)) (by omega),fun h=>⟨rfl,fun h2=>fin _ (bad _ (Jx h h2) (by omega)) (by omega),fun h2=>⟨rfl,fun h3=>fin _ (bad _ (XI h h2 h3) (by omega)) (by omega),fun h3=>⟨rfl,fun h4=>fin 4 ?_ (by omega),fun h4=>⟨rfl,fun h5=>fin 2 ?_ (by omega),fun h5=>?_⟩⟩⟩⟩⟩
 ·rw[Bool.not_eq_true']at h4;unfold bj ko;rw[JS h h2 h3,aa2 rfl,h4];rfl
 ·rw[Bool.not_eq_false']at h4;have hm:bJ L v=false:=by rw[<-uO];rw[Bool.not_eq_true']at h5;exact h5
  unfold bj ko;rw[JS h h2 h3,aa2 rfl,h4,hm];rfl
 ·rw[Bool.not_eq_false']at h4;have h4':0<=i/\i<16:=by simpa using h4
  have hm:bJ L v=true:=by rw[<-uO];rw[Bool.not_eq_false']at h5;exact h5
  have hE:bj L k i v=0:=by
   unfold bj ko;rw[JS h h2 h3,aa2 rfl,h4,hm];rfl
  obtain⟨a1,a2⟩:=nO h2;obtain⟨b1,b2,b3,b4,_⟩:=ei a1;have hp:=(pB hL a1 a2 (EU (v:=v) hL a1 a2 h4'.1 h4'.2)).1;unfold cT cC;rw[hE,aa2 rfl,aa2 rfl,<-hp,b4];exact⟨⟨h4'.1,h4'.2,b1⟩,rfl,rfl,⟨h4'.1,by omega⟩,rfl,⟨rfl,rfl⟩,rfl⟩
theorem S4 (L:List Sx.Obj) (k:Key) (i:Int) (v:Key) (hL:aq L):an Tryz.prog 150 [.lp 0 0,.key k,.it .i64 i,.key v] [.store tS eS L] (CA (.tp [.key (cT L k i v),.it .i64 (bj L k i v)]) (cC L k i v)) (fun _ _=>False):=
 aY (inl:=(fun f=>f==195||f==194||f==197||f==198)) (ann:=aQ) (ae bC (ae bR (ae ot (ae dJ (ae gy (ae iv ar)))))) (aC dB aE) (eg iS) (T3 L k i v hL) (by kernel_rfl)
theorem Hk:lh Tryz.prog 150 XM:=
 od (m:=fun x=> [.key x.1,.it .i64 x.2.1,.key x.2.2]) LQ (fun _=>rfl) (fun _ _=>rfl) (fun x=>aY (inl:=(fun f=>f==195||f==194||f==197||f==198)) (ann:=aQ) (ae bC (ae bR (ae ot (ae dJ (ae gy (ae iv ar)))))) (aC dB aE) (eg iS) (Qp x.1 x.2.1 x.2.2) (by kernel_rfl)) (fun x=>aY (inl:=(fun f=>f==195||f==194||f==197||f==198)) (ann:=aQ) (ae bC (ae bR (ae ot (ae dJ (ae gy (ae iv ar)))))) (aC dB aE) (eg iS) (LX x.1 x.2.1 x.2.2) (by kernel_rfl)) fun L x hL _ _=>S4 L x.1 x.2.1 x.2.2 hL
theorem NL (k:Key):
 abb (abb (aba (!decide (0<ak [])) (1=aB [] k 2 true) (abb (aba (!(aU [] k&&decide (k.kind=2))) (190=aB [] k 2 true) (abb (aba (!decide (bk BinOp.and IntKind.i64 k.rights 3=0)) (191=aB [] k 2 true) (abb (abb (abb (0=aB [] k 2 true)))))))))):=by
 delta aba abb
 refine⟨rfl,rfl,fun _=>rfl,fun h=>absurd h (by decide)⟩
theorem Lr (k:Key):
 abb (abb (aba (!decide (0<ak [])) (1=aB [] k 2 true) (abb (aba (!(aU [] k&&decide (k.kind=2))) (190=aB [] k 2 true) (abb (aba (!decide (bk BinOp.and IntKind.i64 k.rights 3=0)) (191=aB [] k 2 true) (abb (abb (abb False))))))))):=by
 delta aba abb
 refine⟨rfl,rfl,fun _=>rfl,fun h=>absurd h (by decide)⟩
theorem Ui (L:List Sx.Obj) (k:Key) (hL:aq L):
 abb (abb (aba (!decide (0<ak L)) (1=aB L k 2 true/\L=fA L k) (abb (aba (!(aU L k&&decide (k.kind=2))) (190=aB L k 2 true/\L=fA L k) (abb (aba (!decide (bk BinOp.and IntKind.i64 k.rights 3=0)) (191=aB L k 2 true/\L=fA L k) (abb (abb (abb (0=aB L k 2 true/\cK L k.oid {kind:=(aa L k).kind,count:=(aa L k).count,calls:=(aa L k).calls,slots:=g9,bytes:=(aa L k).bytes}=fA L k)))))))))):=by
 delta aba abb
 have fin:∀e,aB L k 2 true=e->e≠0->e=aB L k 2 true/\L=fA L k:=fun e h h0=>by
  unfold fA;rw[h,aa1 h0];exact⟨rfl,rfl⟩
 refine⟨rfl,rfl,fun h=>fin _ (PE h) (by omega),fun h=>⟨rfl,fun h2=>fin _ (Jx h h2) (by omega),fun h2=>⟨rfl,fun h3=>fin _ (XI h h2 h3) (by omega),fun h3=>⟨rfl,rfl,rfl,?_⟩⟩⟩⟩
 obtain⟨a1,a2⟩:=nO h2;have hp:=(pB hL a1 a2 (Hr (by omega))).1
 unfold fA;rw[JS h h2 h3,aa2 rfl,<-hp];exact⟨rfl,rfl⟩
theorem Uk (L:List Sx.Obj) (k:Key) (hL:aq L):an Tryz.prog 153 [.lp 0 0,.key k] [.store tS eS L] (CA (.it .i64 (aB L k 2 true)) (fA L k)) (fun _ _=>False):=
 aY (inl:=(fun f=>f==195||f==194||f==197||f==199)) (ann:=aQ) (ae bC (ae bR ar)) (aC dB aE) (eg iS) (Ui L k hL) (by kernel_rfl)
theorem RC:lh Tryz.prog 153 VW:=
 od (m:=fun x=> [.key x]) N8 (fun _=>rfl) (fun _ _=>rfl) (fun x=>aY (inl:=(fun f=>f==195||f==194||f==197||f==199)) (ann:=aQ) (ae bC (ae bR ar)) (aC dB aE) (eg iS) (NL x) (by kernel_rfl)) (fun x=>aY (inl:=(fun f=>f==195||f==194||f==197||f==199)) (ann:=aQ) (ae bC (ae bR ar)) (aC dB aE) (eg iS) (Lr x) (by kernel_rfl)) fun L x hL _ _=>Uk L x hL
theorem MU (t f:Key):
 abb (abb (aba (!decide (0<ak [])) (1=bT [] t f) (abb (aba (!(aU [] t&&decide (t.kind=2))) (190=bT [] t f) (abb (aba (!decide (bk BinOp.and IntKind.i64 t.rights 3=0)) (191=bT [] t f) (abb (abb (aba (!decide (0<ak [])) (1=bT [] t f) (abb (aba (!(aU [] f&&decide (f.kind=2))) (190=bT [] t f) (abb (abb (abb False)))))))))))))):=by
 delta aba abb
 refine⟨rfl,rfl,fun _=>rfl,fun h=>absurd h (by decide)⟩
theorem Oi (t f:Key):
 abb (abb (aba (!decide (0<ak [])) (1=bT [] t f) (abb (aba (!(aU [] t&&decide (t.kind=2))) (190=bT [] t f) (abb (aba (!decide (bk BinOp.and IntKind.i64 t.rights 3=0)) (191=bT [] t f) (abb (abb (aba (!decide (0<ak [])) (1=bT [] t f) (abb (aba (!(aU [] f&&decide (f.kind=2))) (190=bT [] t f) (abb (abb (abb False)))))))))))))):=by
 delta aba abb
 refine⟨rfl,rfl,fun _=>rfl,fun h=>absurd h (by decide)⟩
theorem TO (L:List Sx.Obj) (t f:Key) (hL:aq L):
 abb (abb (aba (!decide (0<ak L)) (1=bT L t f/\L=eT L t f) (abb (aba (!(aU L t&&decide (t.kind=2))) (190=bT L t f/\L=eT L t f) (abb (aba (!decide (bk BinOp.and IntKind.i64 t.rights 3=0)) (191=bT L t f/\L=eT L t f) (abb (abb (aba (!decide (0<ak L)) (1=bT L t f/\L=eT L t f) (abb (aba (!(aU L f&&decide (f.kind=2))) (190=bT L t f/\L=eT L t f) (abb (abb (abb ((∃g,lD g/\0=g/\L=L/\t=t/\f=f/\t=t/\aa L t=aa L t/\t=t/\aa L t=aa L t/\aa L t=aa L t/\t=t/\f=f/\aa L f=aa L f/\f=f/\aa L f=aa L f/\aa L f=aa L f/\f=f/\aa L t=ew (aa L t) (dH L t f g)/\t=t)/\∀(g:Int),lD g->aba (decide (g<16)) (o8 f g/\(0<=g/\g< ↑16)/\aF IntKind.i64 (g+1)/\∃g',lD g'/\oU g'<oU g/\g+1=g'/\L=L/\t=t/\f=f/\t=t/\aa L t=aa L t/\t=t/\aa L t=aa L t/\aa L t=aa L t/\t=t/\f=f/\aa L f=aa L f/\f=f/\aa L f=aa L f/\aa L f=aa L f/\f=f/\{kind:=(ew (aa L t) (dH L t f g)).kind,count:=(ew (aa L t) (dH L t f g)).count,calls:=(ew (aa L t) (dH L t f g)).calls,slots:=(ew (aa L t) (dH L t f g)).slots.put g.toNat (jB L (aa L f) f g),bytes:=(ew (aa L t) (dH L t f g)).bytes}=ew (aa L t) (dH L t f g')/\t=t) (abb (0=bT L t f/\cK L t.oid (ew (aa L t) (dH L t f g))=eT L t f))))))))))))))))):=by
 delta aba abb
 have fin:∀e,bT L t f=e->e≠0->e=bT L t f/\L=eT L t f:=fun e h h0=>by
  unfold eT;rw[h,aa1 h0];exact⟨rfl,rfl⟩
 have bad:∀e,aB L t 2 true=e->e≠0->bT L t f=e:=fun e h h0=>by unfold bT;rw[h,aa1 h0]
 refine⟨rfl,rfl,fun h=>fin _ (bad _ (PE h) (by omega)) (by omega),fun h=>⟨rfl,fun h2=>fin _ (bad _ (Jx h h2) (by omega)) (by omega),fun h2=>⟨rfl,fun h3=>fin _ (bad _ (XI h h2 h3) (by omega)) (by omega),fun h3=>⟨rfl,rfl,fun h4=>?_,fun h4=>⟨rfl,fun h5=>fin 190 ?_ (by omega),fun h5=>⟨rfl,rfl,rfl,?_,fun g hg=>⟨fun hlt=>?_,fun hge=>?_⟩⟩⟩⟩⟩⟩⟩
 ·rw[h]at h4;simp at h4
 ·unfold bT;rw[JS h h2 h3,aa2 rfl,Jx h h5]
 ·obtain⟨a1,a2⟩:=nO h2;refine⟨0,⟨by omega,by omega⟩,?_⟩
  have:=DU (f:=f) (ei a1).2.2.2.1;repeat' apply And.intro
  all_goals first|rfl|exact this
 ·obtain⟨g0,g1⟩:=hg;have hlt:=aaZ hlt;obtain⟨a1,a2⟩:=nO h5;have hs:=DR (t:=t) g0 (ei a1).2.2.2.1 (aa L t) g9;refine⟨⟨g0,by omega,(ei a1).1⟩,⟨g0,by omega⟩,by simp only[aF,cc];omega,g+1,⟨by omega,by omega⟩,by unfold oU;omega,?_⟩
  repeat' apply And.intro
  all_goals first|rfl|exact hs
 ·obtain⟨g0,g1⟩:=hg;have hge:=aaY hge;have:g=16:=by omega
  subst this;obtain⟨a1,a2⟩:=nO h2;have hE:bT L t f=0:=by unfold bT;rw[JS h h2 h3,aa2 rfl,HY h h5]
  have hp:=(pB hL a1 a2 (yZ (f:=f) hL a1 a2 16 (by omega))).1
  unfold eT;rw[hE,aa2 rfl];exact⟨rfl,rfl,hp⟩
theorem Tm (L:List Sx.Obj) (t f:Key) (hL:aq L):an Tryz.prog 155 [.lp 0 0,.key t,.key f] [.store tS eS L] (CA (.it .i64 (bT L t f)) (eT L t f)) (fun _ _=>False):=
 aY (inl:=(fun f=>f==195||f==194||f==197||f==200)) (ann:=(iJ [(200,1,YN [0,1,2] (fun g=> [(4,.it .i64 g)]) 0 (clR L t f) lD oU)])) (ae bC (ae bR (ae ot ar))) (aC dB aE) (eg iS) (TO L t f hL) (by kernel_rfl)
theorem Rn:lh Tryz.prog 155 Xw:=
 od (m:=fun x=> [.key x.1,.key x.2]) IU (fun _=>rfl) (fun _ _=>rfl) (fun x=>aY (inl:=(fun f=>f==195||f==194||f==197||f==200)) (ann:=aQ) (ae bC (ae bR (ae ot ar))) (aC dB aE) (eg iS) (MU x.1 x.2) (by kernel_rfl)) (fun x=>aY (inl:=(fun f=>f==195||f==194||f==197||f==200)) (ann:=aQ) (ae bC (ae bR (ae ot ar))) (aC dB aE) (eg iS) (Oi x.1 x.2) (by kernel_rfl)) fun L x hL _ _=>Tm L x.1 x.2 hL
end Go.Proofs.YtlblcfaclmpekaaGreat
namespace Go.Sx
def aW (L:List Obj) (k:Key) (c:Bool):Int:=if aB L k 3 false=0 then(if(c&& !decide (k.rights=0))=true then 191 else 0)else aB L k 3 false
def cB (i n:Int):Bool:=decide (0<=i)&&decide (0<=n)&&decide (i<=64)&&decide (n<=64-i)
def cD (L:List Obj) (k:Key) (i n:Int):Int:=if aW L k false=0 then(if cB i n then 0 else 4)else aW L k false
def ec (L:List Obj) (k:Key) (i n:Int):ByteArray:=if cD L k i n=0 then xN (aj L k.oid.toNat free).bytes i.toNat (i+n).toNat else⟨#[]⟩
def jV (o:Obj) (b:Bytes):Obj:= {o with bytes:=b}
def ue (L:List Obj) (k:Key) (b:Bytes):List Obj:=b6 L k.oid.toNat (jV (aj L k.oid.toNat free) b)
def cL (L:List Obj) (k:Key) (i:Int) (s:ByteArray):Int:=if aW L k true=0 then(if cB i (bO s)then 0 else 4)else aW L k true
def eZ (L:List Obj) (k:Key) (i:Int) (s:ByteArray):List Obj:=if cL L k i s=0 then ue L k (s6 (aj L k.oid.toNat free).bytes i.toNat s.size s)else L
def fq (L:List Obj) (k:Key):List Obj:=if aW L k true=0 then ue L k e9 else L
def cU (L:List Obj) (t f:Key):Int:=if aW L t true=0 then aW L f false else aW L t true
def fM (L:List Obj) (t f:Key):List Obj:=if cU L t f=0 then ue L t (aj L f.oid.toNat free).bytes else L
def aw (s:ByteArray):Prop:=(s.size:Int)<=9223372036854775807
def EM (v:V):Option ByteArray:=match v with
 | .st s=>some s
 |_=>none
theorem yq:tc EM V.st:=fun v x h=>by
 cases v<;>simp only[EM,aaT,reduceCtorEq]at h
 subst h;exact⟨fun _=>rfl,fun _=>id⟩
def zA:Arg ByteArray:=Fw EM V.st
theorem Z6:m8 zA:=sm yq (fun _=>rfl) fun v x h=>by cases v<;>simp[EM]at h;rfl
def A8 (l:List V):Option (Key×Int×ByteArray):=match l with
 | [a,b,c]=>match rK a with
   |some k=>match rI .i64 b with
    |some i=>match EM c with
     |some s=>some (k,i,s)
     |none=>none
    |none=>none
   |none=>none
 |_=>none
theorem vb:∀l x,A8 l=some x->ff l [.key x.1,.it .i64 x.2.1,.st x.2.2]:=fun l x h=>by
 unfold A8 at h;split at h
 ·split at h
  ·rename_i h1;split at h
   ·rename_i h2;split at h<;>simp only[aaT,reduceCtorEq]at h
    rename_i h3;subst h;exact ff.rd gI h1 (ff.rd (gq .i64) h2 (ff.rd yq h3 ff.nil))
   ·simp at h
  ·simp at h
 ·simp at h
def E6:Ct:=Se (rI .i64) (rI .i64) fun i n=> .bo (cB i n)
def Xi:Ct:=s7 (ba AE (ba kA (ba bA gJ))) (fun _=>none) fun x=> .it .i64 (aW x.1 x.2.1 x.2.2.1)
def SQ:Ct:=s7 (ba sA (ba kA (ba iA (ba iA gJ)))) (fun _=>none) fun x=> .tp [.st (ec (DG x.1) x.2.1 x.2.2.1 x.2.2.2.1),.it .i64 (cD (DG x.1) x.2.1 x.2.2.1 x.2.2.2.1)]
def aay:kq:=JV A8 (fun L x=>aq L/\aw x.2.2) (fun L x=> .it .i64 (cL L x.1 x.2.1 x.2.2)) fun L x=>eZ L x.1 x.2.1 x.2.2
def Yw:kq:=JV rdK (fun L _=>aq L) (fun L x=> .it .i64 (aW L x true)) fun L x=>fq L x
def Zi:kq:=JV SH (fun L _=>aq L) (fun L x=> .it .i64 (cU L x.1 x.2)) fun L x=>fM L x.1 x.2
theorem Nd {o:Obj} {n:Int} {b:Bytes} (h:bM o n=true) (hk:o.kind=1\/o.kind=2):bM (jV o b) n=true:=by
 rw[fo]at h⊢;simp only[jV];obtain⟨a1,a2,a3,a4,a5,a6,a7,a8,a9,a10,a11⟩:=h;exact⟨a1,a2,a3,a4,a5,a6,a7,a8,a9,a10,fun i hi=> .inl hk⟩
theorem JX {L:List Obj} {k:Key} (h:aU L k=true) (h2:k.kind=3):(aj L k.oid.toNat free).kind=2:=by
 rw[(ei h).2.2.2.2];unfold gz;rw[aa1 (by have:=(zj h).1;omega),aa2 h2]
theorem qX {L:List Obj} {k:Key} {b:Bytes} (hL:aq L) (h:aU L k=true) (h2:k.kind=3):gi L k.oid (jV (aa L k) b)=0/\cK L k.oid (jV (aa L k) b)=ue L k b/\aq (ue L k b):=by
 obtain⟨b1,b2,b3,b4,_⟩:=ei h;have hr:=gM.1 hL;have ho:=Nd (b:=b) (hr.2.2 k.oid.toNat (by omega)) (.inr (JX h h2))
 obtain⟨p1,p2⟩:=vf (L:=L) (o:=jV (aj L k.oid.toNat free) b) (mR.2 ⟨b2,b3⟩) (uJ ho).symm;rw[b4];refine⟨p1,p2,?_⟩;refine gM.2 ?_;unfold ue;have hl:(b6 L k.oid.toNat (jV (aj L k.oid.toNat free) b)).length=L.length:=by simp[b6]
 rw[hl];refine⟨hr.1,hr.2.1,fun i hi=>?_⟩
 by_cases e:i=k.oid.toNat
 ·subst e;rw[show aj (b6 L k.oid.toNat (jV (aj L k.oid.toNat free) b)) k.oid.toNat free=jV (aj L k.oid.toNat free) b by simp[aj,b6,aa0,hi]]
  exact ho
 ·rw[show aj (b6 L k.oid.toNat (jV (aj L k.oid.toNat free) b)) i free=aj L i free by simp[aj,b6,aa0,List.getElem?_set,Ne.symm e]]
  exact hr.2.2 i hi
theorem CO {L:List Obj} {k:Key} (h:aU L k=true) (h2:k.kind=3):0<=k.rights/\k.rights<=1:=by
 have:=jj (ei h).1;rw[h2]at this;exact this
theorem XT {r:Int} (h0:0<=r) (h1:r<=1):bk .and .i64 r 1=r:=by
 have:r=0\/r=1:=by omega
 rcases this with rfl|rfl<;>decide
theorem nN {i n:Int}:cB i n=true↔0<=i/\0<=n/\i<=64/\n<=64-i:=by
 simp only[cB,aaV,aaW,and_assoc]
theorem P5 (b:Bytes) (i:Int) (s:ByteArray) (h:cB i (bO s)=true):KB b i.toNat 64 s=s6 b i.toNat s.size s:=by
 unfold KB J0
 have hle:s.size<=64-i.toNat:=by
  obtain⟨h0,h1,h2,h3⟩:=nN.1 h;have h3:(s.size:Int)<=64-i:=h3;omega
 rw[show Nat.min s.size (64-i.toNat)=s.size from Nat.min_eq_left hle]
theorem KG (b:Bytes):FA b 0 64=e9:=by
 unfold FA s6 e9;ext i hi
 simp[sat_empty,hi]
theorem Bz (b:Bytes) (i:Nat) (s:ByteArray):s6 b i 0 s=b:=by
 apply Vector.ext
 intro j hj;have:=xQ b i 0 s j hj;rw[aa1 (by omega)]at this
 simpa[Bytes.at,Array.getD_eq_getD_getElem?,hj]using this
theorem V8 {a b:Bytes} (h:∀j,j<64->a.at j=b.at j):a=b:=by
 apply Vector.ext
 intro j hj;have:=h j hj;simpa[Bytes.at,Array.getD_eq_getD_getElem?,hj]using this
theorem Bq (b:Bytes) (i g:Nat) (s:ByteArray) (h:i+g<64):(s6 b i g s).put (i+g) (sat s g)=s6 b i (g+1) s:=by
 apply V8
 intro j hj;rw[Bytes.gd _ _ _ _ h,xQ _ _ _ _ _ hj,xQ _ _ _ _ _ hj];by_cases e:j=i+g
 ·subst e;rw[aa2 rfl,aa2 (by omega),show i+g-i=g by omega]
 ·rw[aa1 e];by_cases e2:i<=j/\j<i+g
  ·rw[aa2 e2,aa2 (by omega)]
  ·rw[aa1 e2,aa1 (by omega)]
theorem pD {L:List Obj} {k:Key} (hL:aq L) (h:aU L k=true):dO L k.oid/\0<=k.oid/\k.oid<(ai L:Int)/\k.oid.toNat<ai L:=vl hL h
theorem nj {L:List Obj} {k:Key} {c:Bool} (h:aW L k c=0):aU L k=true/\k.kind=3/\(c=true->k.rights=0):=by
 unfold aW at h;split at h
 ·rename_i h1;obtain⟨a1,a2,_⟩:=gw h1;split at h
  ·omega
  ·rename_i h2;exact⟨a1,a2,fun hc=>by simpa[hc]using h2⟩
 ·rename_i h1;exact absurd h h1
theorem V9 {L:List Obj} {k:Key}:aW L k false=aB L k 3 false:=by
 unfold aW;split
 ·rename_i h;rw[h];rfl
 ·rfl
theorem O7 {L:List Obj} {k:Key} {c:Bool} (h:decide (ak L=0)=true):aW L k c=1:=by
 have:aB L k 3 false=1:=PE (by rw[aaW]at h;simp[h])
 unfold aW;rw[this,aa1 (by omega)]
theorem YA {L:List Obj} {k:Key} {c:Bool} (h:decide (ak L=0)=false) (h2:(!aU L k|| !decide (k.kind=3))=true):aW L k c=190:=by
 have h0:(!decide (0<ak L))=false:=by
  rw[decide_eq_false_iff_not]at h;unfold ak at h⊢;simp;omega
 have:aB L k 3 false=190:=Jx h0 (by simpa using h2)
 unfold aW;rw[this,aa1 (by omega)]
theorem rD {L:List Obj} {k:Key} (h2:(!aU L k|| !decide (k.kind=3))=false):aU L k=true/\k.kind=3:=by simpa using h2
theorem pg0 {L:List Obj} {k:Key} (h:decide (ak L=0)=false) (h2:(!aU L k|| !decide (k.kind=3))=false):aB L k 3 false=0:=by
 refine HY ?_ (by simpa using h2)
 rw[decide_eq_false_iff_not]at h;unfold ak at h⊢;simp;omega
theorem pgf {L:List Obj} {k:Key} (h:decide (ak L=0)=false) (h2:(!aU L k|| !decide (k.kind=3))=false):aW L k false=0:=by rw[V9];exact pg0 h h2
theorem pg3 {L:List Obj} {k:Key} (h:decide (ak L=0)=false) (h2:(!aU L k|| !decide (k.kind=3))=false) (h3:(!decide (bk BinOp.and IntKind.i64 k.rights 1=0))=true):aW L k true=191:=by
 obtain⟨a1,a2⟩:=rD h2;have hr:=CO a1 a2;rw[XT hr.1 hr.2]at h3;unfold aW;rw[aa2 (pg0 h h2),aa2 (by simpa using h3)]
theorem ZX {L:List Obj} {k:Key} (h:decide (ak L=0)=false) (h2:(!aU L k|| !decide (k.kind=3))=false) (h3:(!decide (bk BinOp.and IntKind.i64 k.rights 1=0))=false):aW L k true=0:=by
 obtain⟨a1,a2⟩:=rD h2;have hr:=CO a1 a2;rw[XT hr.1 hr.2]at h3;unfold aW;rw[aa2 (pg0 h h2),aa1 (by simpa using h3)]
theorem rF {L:List Obj} {k:Key} {i n e:Int} (h:aW L k false=e) (he:e≠0):(⟨#[]⟩:ByteArray)=ec L k i n/\e=cD L k i n:=by
 have:cD L k i n=e:=by unfold cD;rw[h,aa1 he]
 unfold ec;rw[this,aa1 he];exact⟨rfl,rfl⟩
theorem yS {L:List Obj} {k:Key} {i n:Int} (h:aW L k false=0) (hi:(!cB i n)=true):(⟨#[]⟩:ByteArray)=ec L k i n/\4=cD L k i n:=by
 rw[Bool.not_eq_true']at hi;have:cD L k i n=4:=by unfold cD;rw[aa2 h,hi];rfl
 unfold ec;rw[this];exact⟨rfl,rfl⟩
theorem xS {L:List Obj} {k:Key} {i n:Int} (h:aW L k false=0) (hi:(!cB i n)=false):aF IntKind.i64 (i+n)/\CU i (i+n) 64/\xN (aj L k.oid.toNat free).bytes i.toNat (i+n).toNat=ec L k i n/\0=cD L k i n:=by
 rw[Bool.not_eq_false']at hi;obtain⟨a,b,c,d⟩:=nN.1 hi;have:cD L k i n=0:=by unfold cD;rw[aa2 h,hi];rfl
 unfold ec;rw[this];exact⟨by simp only[aF,cc];omega,⟨by omega,by omega,by omega⟩,rfl,rfl⟩
theorem wk {L:List Obj} {k:Key} {i e:Int} {z:ByteArray} (h:aW L k true=e) (he:e≠0):e=cL L k i z/\L=eZ L k i z:=by
 have:cL L k i z=e:=by unfold cL;rw[h,aa1 he]
 unfold eZ;rw[this,aa1 he];exact⟨rfl,rfl⟩
theorem Mo {L:List Obj} {k:Key} {i:Int} {z:ByteArray} (h:aW L k true=0) (hi:(!cB i (bO z))=true):4=cL L k i z/\L=eZ L k i z:=by
 rw[Bool.not_eq_true']at hi;have:cL L k i z=4:=by unfold cL;rw[aa2 h,hi];rfl
 unfold eZ;rw[this];exact⟨rfl,rfl⟩
theorem ZA {L:List Obj} {k:Key} {i:Int} {z:ByteArray} (hL:aq L) (h1:aU L k=true) (h2:k.kind=3) (h:aW L k true=0) (hi:(!cB i (bO z))=false):CU i 64 64/\
  gi L k.oid (jV (aa L k) (KB (aa L k).bytes i.toNat (Int.toNat 64) z))=cL L k i z/\cK L k.oid (jV (aa L k) (KB (aa L k).bytes i.toNat (Int.toNat 64) z))=eZ L k i z:=by
 rw[Bool.not_eq_false']at hi;obtain⟨a,b,c,d⟩:=nN.1 hi;have hE:cL L k i z=0:=by unfold cL;rw[aa2 h,hi];rfl
 have hb:=P5 (aa L k).bytes i z hi;obtain⟨p1,p2,_⟩:=qX (b:=s6 (aa L k).bytes i.toNat z.size z) hL h1 h2;have h64:Int.toNat 64=64:=rfl;rw[h64,hb,p1,p2,hE];refine⟨⟨by omega,by omega,by omega⟩,rfl,?_⟩
 unfold eZ;rw[hE,aa2 rfl,(ei h1).2.2.2.1]
theorem yT {L:List Obj} {k:Key} {e:Int} (h:aW L k true=e) (he:e≠0):e=aW L k true/\L=fq L k:=by
 refine⟨h.symm,?_⟩;unfold fq;rw[h,aa1 he]
theorem aap {L:List Obj} {k:Key} (hL:aq L) (h1:aU L k=true) (h2:k.kind=3) (h:aW L k true=0):CU 0 64 64/\
  gi L k.oid (jV (aa L k) (FA (aa L k).bytes (Int.toNat 0) (Int.toNat 64)))=aW L k true/\cK L k.oid (jV (aa L k) (FA (aa L k).bytes (Int.toNat 0) (Int.toNat 64)))=fq L k:=by
 have h64:Int.toNat 64=64:=rfl;have h0:Int.toNat 0=0:=rfl;obtain⟨p1,p2,_⟩:=qX (b:=e9) hL h1 h2;rw[h64,h0,KG,p1,p2,h];refine⟨⟨by omega,by omega,by omega⟩,rfl,?_⟩
 unfold fq;rw[aa2 h]
theorem wW {L:List Obj} {t f:Key} {e:Int} (h:aW L t true=e) (he:e≠0):e=cU L t f/\L=fM L t f:=by
 have:cU L t f=e:=by unfold cU;rw[h,aa1 he]
 unfold fM;rw[this,aa1 he];exact⟨rfl,rfl⟩
theorem HG {L:List Obj} {t f:Key} {e:Int} (h:aW L t true=0) (h2:aW L f false=e) (he:e≠0):e=cU L t f/\L=fM L t f:=by
 have:cU L t f=e:=by unfold cU;rw[aa2 h,h2]
 unfold fM;rw[this,aa1 he];exact⟨rfl,rfl⟩
theorem aas {L:List Obj} {t f:Key} (hL:aq L) (h1:aU L t=true) (h2:t.kind=3) (h:aW L t true=0) (g1:aU L f=true) (g:aW L f false=0):
  gi L t.oid (jV (aa L t) (aa L f).bytes)=cU L t f/\cK L t.oid (jV (aa L t) (aa L f).bytes)=fM L t f:=by
 have hE:cU L t f=0:=by unfold cU;rw[aa2 h,g]
 obtain⟨p1,p2,_⟩:=qX (b:=(aa L f).bytes) hL h1 h2;rw[p1,p2,hE];refine⟨rfl,?_⟩;unfold fM;rw[hE,aa2 rfl,(ei g1).2.2.2.1]
structure Acp where
 kind:Int
 pos:Int
 num:Int
 key:Key
 other:Key
 bytes:ByteArray
def Acp.wf (x:Acp):Prop:=cc .i64 x.kind/\cc .i64 x.pos/\cc .i64 x.num/\x.key.wf/\x.other.wf/\aw x.bytes
def De (L:List Obj) (a:Acp):Bool:=
 if a.kind=1 then false else if a.kind=2 then decide (cL L a.key a.pos a.bytes=0)else if a.kind=3 then decide (aW L a.key true=0)else decide (cU L a.key a.other=0)
def Ox (L:List Obj) (a:Acp):List Obj:=
 if a.kind=1 then L else if a.kind=2 then eZ L a.key a.pos a.bytes else if a.kind=3 then fq L a.key else fM L a.key a.other
def tz (L:List Obj) (k:Key) (i:Int) (s:ByteArray) (g:Int):Obj:=jV (aj L k.oid.toNat free) (s6 (aj L k.oid.toNat free).bytes i.toNat g.toNat s)
def ry (s:ByteArray) (g:Int):Prop:=0<=g/\g<=(s.size:Int)
def xc (s:ByteArray) (g:Int):Nat:=s.size-g.toNat
theorem Tb {L:List Obj} {k:Key} {i:Int} {s:ByteArray}:aj L k.oid.toNat free=tz L k i s 0:=by
 unfold tz jV;rw[show(0:Int).toNat=0 from rfl,Bz]
theorem SF {L:List Obj} {k:Key} {i:Int} {s:ByteArray} {g:Int} (h0:0<=i) (h1:0<=g) (h:i+g<64):jV (tz L k i s g) ((tz L k i s g).bytes.put (i+g).toNat (sat s g.toNat))=tz L k i s (g+1):=by
 unfold tz jV;simp only;rw[show(i+g).toNat=i.toNat+g.toNat by omega,show(g+1).toNat=g.toNat+1 by omega,Bq _ _ _ _ (by omega)]
theorem jy (s:ByteArray):AD s s=true:=by simp[AD]
end Go.Sx
namespace Go.Proofs.YtlblcfaclmpekaaGreat
open Go.Sx
theorem Jn (i n:Int):
 ((decide (0<=i)&&decide (0<=n)&&decide (i<=64))=true->aF IntKind.i64 (64-i))/\
   (decide (0<=i)&&decide (0<=n)&&decide (i<=64)&&decide (n<=64-i))=cB i n:=by
 unfold cB;refine⟨fun h=>?_,?_⟩
 ·simp only[aaV,aaW]at h;simp only[aF,cc];omega
 ·rfl
theorem pP:cz Tryz.prog 205 E6:=
 pf (gq .i64) (gq .i64) (fun _ _=>rfl) fun i n _ _=>bc (inl:=bx) (ann:=aQ) ar (Jn i n) (by kernel_rfl)
theorem G8 (i n:Int):
 ((decide (0<=i)&&decide (0<=n)&&decide (i<=64)&&decide (n<=64))=true->aF IntKind.i64 (i+n))/\
   (decide (0<=i)&&decide (0<=n)&&decide (i<=64)&&decide (n<=64)&&decide (i+n<=64))=cB i n:=by
 unfold cB;refine⟨fun h=>?_,?_⟩
 ·simp only[aaV,aaW]at h;simp only[aF,cc]at *;omega
 ·rw[Bool.eq_iff_iff];simp only[aaV,aaW];omega
theorem ug:cz Tryz.prog 138 E6:=
 pf (gq .i64) (gq .i64) (fun _ _=>rfl) fun i n _ _=>bc (inl:=bx) (ann:=aQ) ar (G8 i n) (by kernel_rfl)
theorem Uu (L:List Sx.Obj) (k:Key) (c:Bool):
 ((decide (aB L k 3 false=0)&&c&& !decide (k.rights=0))=true->191=aW L k c)/\
   ((decide (aB L k 3 false=0)&&c&& !decide (k.rights=0))=false->aB L k 3 false=aW L k c):=by
 unfold aW;refine⟨fun h=>?_,fun h=>?_⟩
 ·simp only[aaV,aaW]at h;rw[aa2 h.1.1,aa2 (by rw[h.1.2,Bool.true_and];exact h.2)]
 ·split
  ·rename_i h1;rw[decide_eq_true h1,Bool.true_and]at h;rw[aa1 (by rw[h];simp),h1]
  ·rfl
theorem vp:cz Tryz.prog 137 Xi:=
 eQ (aA jC (aA iI (aA Fa bV))) (fun _=>rfl) fun a hq hok=>by
  obtain⟨L,k,c,_⟩:=a;exact bc (inl:=bx) (ann:=aQ) (ae pK ar) (Uu L k c) (by kernel_rfl)
theorem Jz (k:Key) (i n:Int):
 true=true/\aba (decide (ak []=0)) ((⟨#[]⟩:ByteArray)=ec [] k i n/\1=cD [] k i n) (aba (!aU [] k|| !decide (k.kind=3)) ((⟨#[]⟩:ByteArray)=ec [] k i n/\190=cD [] k i n) (aba (!cB i n) ((⟨#[]⟩:ByteArray)=ec [] k i n/\4=cD [] k i n) (aF IntKind.i64 (i+n)/\CU i (i+n) 64/\xN (aa [] k).bytes i.toNat (i+n).toNat=ec [] k i n/\0=cD [] k i n))):=by
 delta aba
 refine⟨rfl,fun h=>rF (O7 h) (by omega),fun h=>⟨fun h2=>rF (YA h h2) (by omega),fun h2=>⟨fun h3=>yS (pgf h h2) h3,fun h3=>?_⟩⟩⟩
 rw[(ei (rD h2).1).2.2.2.1];exact xS (pgf h h2) h3
theorem KM (L:List Sx.Obj) (k:Key) (i n:Int):
 true=true/\aba (decide (ak L=0)) ((⟨#[]⟩:ByteArray)=ec L k i n/\1=cD L k i n) (aba (!aU L k|| !decide (k.kind=3)) ((⟨#[]⟩:ByteArray)=ec L k i n/\190=cD L k i n) (aba (!cB i n) ((⟨#[]⟩:ByteArray)=ec L k i n/\4=cD L k i n) (aF IntKind.i64 (i+n)/\CU i (i+n) 64/\xN (aa L k).bytes i.toNat (i+n).toNat=ec L k i n/\0=cD L k i n))):=by
 delta aba
 refine⟨rfl,fun h=>rF (O7 h) (by omega),fun h=>⟨fun h2=>rF (YA h h2) (by omega),fun h2=>⟨fun h3=>yS (pgf h h2) h3,fun h3=>?_⟩⟩⟩
 rw[(ei (rD h2).1).2.2.2.1];exact xS (pgf h h2) h3
theorem ph:cz Tryz.prog 203 SQ:=
 eQ (aA tk (aA iI (aA dE (aA dE bV)))) (fun _=>rfl) fun a hq hok=>by
  obtain⟨S,k,i,n,_⟩:=a;cases S with
  |none=>exact bm (inl:=(fun f=>f==204)) (ann:=aQ) (ae bC (ae bR (ae pP ar))) aE (Jz k i n) (by kernel_rfl)
  |some L=>exact bm (inl:=(fun f=>f==204)) (ann:=aQ) (ae bC (ae bR (ae pP ar))) aE (KM L k i n) (by kernel_rfl)
theorem RK (k:Key) (i:Int) (s:ByteArray):
 abb (aba (decide (ak []=0)) (1=cL [] k i s) (aba (!aU [] k|| !decide (k.kind=3)) (190=cL [] k i s) (aba (!decide (bk BinOp.and IntKind.i64 k.rights 1=0)) (191=cL [] k i s) (aF IntKind.i64 (bO s)/\aba (!cB i (bO s)) (4=cL [] k i s) (abb (abb (CU i 64 64/\abb (gi [] k.oid {kind:=(aa [] k).kind,count:=(aa [] k).count,calls:=(aa [] k).calls,slots:=(aa [] k).slots,bytes:=KB (aa [] k).bytes i.toNat (Int.toNat 64) s}=cL [] k i s)))))))):=by
 delta aba abb
 exact⟨rfl,fun h=>(wk (O7 h) (by omega)).1,fun h=>absurd h (by decide)⟩
theorem Rg (k:Key) (i:Int) (s:ByteArray):
 abb (aba (decide (ak []=0)) (1=cL [] k i s) (aba (!aU [] k|| !decide (k.kind=3)) (190=cL [] k i s) (aba (!decide (bk BinOp.and IntKind.i64 k.rights 1=0)) (191=cL [] k i s) (aF IntKind.i64 (bO s)/\aba (!cB i (bO s)) (4=cL [] k i s) (abb (abb (CU i 64 64/\abb False))))))):=by
 delta aba abb
 exact⟨rfl,fun h=>(wk (O7 h) (by omega)).1,fun h=>absurd h (by decide)⟩
theorem Wf (L:List Sx.Obj) (k:Key) (i:Int) (s:ByteArray) (hL:aq L) (hs:aw s):
 abb (aba (decide (ak L=0)) (1=cL L k i s/\L=eZ L k i s) (aba (!aU L k|| !decide (k.kind=3)) (190=cL L k i s/\L=eZ L k i s) (aba (!decide (bk BinOp.and IntKind.i64 k.rights 1=0)) (191=cL L k i s/\L=eZ L k i s) (aF IntKind.i64 (bO s)/\aba (!cB i (bO s)) (4=cL L k i s/\L=eZ L k i s) (abb (abb (CU i 64 64/\abb (gi L k.oid {kind:=(aa L k).kind,count:=(aa L k).count,calls:=(aa L k).calls,slots:=(aa L k).slots,bytes:=KB (aa L k).bytes i.toNat (Int.toNat 64) s}=cL L k i s/\cK L k.oid {kind:=(aa L k).kind,count:=(aa L k).count,calls:=(aa L k).calls,slots:=(aa L k).slots,bytes:=KB (aa L k).bytes i.toNat (Int.toNat 64) s}=eZ L k i s)))))))):=by
 delta aba abb
 refine⟨rfl,fun h=>wk (O7 h) (by omega),fun h=>⟨fun h2=>wk (YA h h2) (by omega),fun h2=>⟨fun h3=>wk (pg3 h h2 h3) (by omega),fun h3=>⟨?_,fun h4=>Mo (ZX h h2 h3) h4,fun h4=>?_⟩⟩⟩⟩
 ·unfold aw at hs;simp only[aF,cc,bO];omega
 ·obtain⟨a,b,c⟩:=ZA hL (rD h2).1 (rD h2).2 (ZX h h2 h3) h4;exact⟨rfl,rfl,a,rfl,b,c⟩
theorem Xc (L:List Sx.Obj) (k:Key) (i:Int) (s:ByteArray) (hL:aq L) (hs:aw s):an Tryz.prog 160 [.lp 0 0,.key k,.it .i64 i,.st s] [.store tS eS L] (CA (.it .i64 (cL L k i s)) (eZ L k i s)) (fun _ _=>False):=
 bm (inl:=(fun f=>f==204||f==206||f==207)) (ann:=aQ) (ae bC (ae bR (ae pP ar))) (aC dB aE) (Wf L k i s hL hs) (by kernel_rfl)
theorem Ds:lh Tryz.prog 160 aay:=
 od (m:=fun x=> [.key x.1,.it .i64 x.2.1,.st x.2.2]) vb (fun _=>rfl) (fun _ _=>rfl) (fun x=>bm (inl:=(fun f=>f==204||f==206||f==207)) (ann:=aQ) (ae bC (ae bR (ae pP ar))) (aC dB aE) (RK x.1 x.2.1 x.2.2) (by kernel_rfl)) (fun x=>bm (inl:=(fun f=>f==204||f==206||f==207)) (ann:=aQ) (ae bC (ae bR (ae pP ar))) (aC dB aE) (Rg x.1 x.2.1 x.2.2) (by kernel_rfl)) fun L x hL _ _=>Xc L x.1 x.2.1 x.2.2 hL.1 hL.2
theorem ML (k:Key):
 abb (aba (decide (ak []=0)) (1=aW [] k true) (aba (!aU [] k|| !decide (k.kind=3)) (190=aW [] k true) (aba (!decide (bk BinOp.and IntKind.i64 k.rights 1=0)) (191=aW [] k true) (abb (abb (CU 0 64 64/\abb (gi [] k.oid {kind:=(aa [] k).kind,count:=(aa [] k).count,calls:=(aa [] k).calls,slots:=(aa [] k).slots,bytes:=FA (aa [] k).bytes (Int.toNat 0) (Int.toNat 64)}=aW [] k true))))))):=by
 delta aba abb
 exact⟨rfl,fun h=>(yT (O7 h) (by omega)).1,fun h=>absurd h (by decide)⟩
theorem LL (k:Key):
 abb (aba (decide (ak []=0)) (1=aW [] k true) (aba (!aU [] k|| !decide (k.kind=3)) (190=aW [] k true) (aba (!decide (bk BinOp.and IntKind.i64 k.rights 1=0)) (191=aW [] k true) (abb (abb (CU 0 64 64/\abb False)))))):=by
 delta aba abb
 exact⟨rfl,fun h=>(yT (O7 h) (by omega)).1,fun h=>absurd h (by decide)⟩
theorem Th (L:List Sx.Obj) (k:Key) (hL:aq L):
 abb (aba (decide (ak L=0)) (1=aW L k true/\L=fq L k) (aba (!aU L k|| !decide (k.kind=3)) (190=aW L k true/\L=fq L k) (aba (!decide (bk BinOp.and IntKind.i64 k.rights 1=0)) (191=aW L k true/\L=fq L k) (abb (abb (CU 0 64 64/\abb (gi L k.oid {kind:=(aa L k).kind,count:=(aa L k).count,calls:=(aa L k).calls,slots:=(aa L k).slots,bytes:=FA (aa L k).bytes (Int.toNat 0) (Int.toNat 64)}=aW L k true/\cK L k.oid {kind:=(aa L k).kind,count:=(aa L k).count,calls:=(aa L k).calls,slots:=(aa L k).slots,bytes:=FA (aa L k).bytes (Int.toNat 0) (Int.toNat 64)}=fq L k))))))):=by
 delta aba abb
 refine⟨rfl,fun h=>yT (O7 h) (by omega),fun h=>⟨fun h2=>yT (YA h h2) (by omega),fun h2=>⟨fun h3=>yT (pg3 h h2 h3) (by omega),fun h3=>?_⟩⟩⟩
 obtain⟨a,b,c⟩:=aap hL (rD h2).1 (rD h2).2 (ZX h h2 h3);exact⟨rfl,rfl,a,rfl,b,c⟩
theorem Q5 (L:List Sx.Obj) (k:Key) (hL:aq L):an Tryz.prog 162 [.lp 0 0,.key k] [.store tS eS L] (CA (.it .i64 (aW L k true)) (fq L k)) (fun _ _=>False):=
 bm (inl:=(fun f=>f==204||f==206||f==208)) (ann:=aQ) (ae bC (ae bR ar)) (aC dB aE) (Th L k hL) (by kernel_rfl)
theorem Ra:lh Tryz.prog 162 Yw:=
 od (m:=fun x=> [.key x]) N8 (fun _=>rfl) (fun _ _=>rfl) (fun x=>bm (inl:=(fun f=>f==204||f==206||f==208)) (ann:=aQ) (ae bC (ae bR ar)) (aC dB aE) (ML x) (by kernel_rfl)) (fun x=>bm (inl:=(fun f=>f==204||f==206||f==208)) (ann:=aQ) (ae bC (ae bR ar)) (aC dB aE) (LL x) (by kernel_rfl)) fun L x hL _ _=>Q5 L x hL
theorem R9 (t f:Key):
 abb (aba (decide (ak []=0)) (1=cU [] t f) (aba (!aU [] t|| !decide (t.kind=3)) (190=cU [] t f) (aba (!decide (bk BinOp.and IntKind.i64 t.rights 1=0)) (191=cU [] t f) (abb (aba (decide (ak []=0)) (1=cU [] t f) (aba (!aU [] f|| !decide (f.kind=3)) (190=cU [] t f) (abb (abb (abb (gi [] t.oid {kind:=(aa [] t).kind,count:=(aa [] t).count,calls:=(aa [] t).calls,slots:=(aa [] t).slots,bytes:=(aa [] f).bytes}=cU [] t f)))))))))):=by
 delta aba abb
 exact⟨rfl,fun h=>(wW (O7 h) (by omega)).1,fun h=>absurd h (by decide)⟩
theorem Rq (t f:Key):
 abb (aba (decide (ak []=0)) (1=cU [] t f) (aba (!aU [] t|| !decide (t.kind=3)) (190=cU [] t f) (aba (!decide (bk BinOp.and IntKind.i64 t.rights 1=0)) (191=cU [] t f) (abb (aba (decide (ak []=0)) (1=cU [] t f) (aba (!aU [] f|| !decide (f.kind=3)) (190=cU [] t f) (abb (abb (abb False))))))))):=by
 delta aba abb
 exact⟨rfl,fun h=>(wW (O7 h) (by omega)).1,fun h=>absurd h (by decide)⟩
theorem W8 (L:List Sx.Obj) (t f:Key) (hL:aq L):
 abb (aba (decide (ak L=0)) (1=cU L t f/\L=fM L t f) (aba (!aU L t|| !decide (t.kind=3)) (190=cU L t f/\L=fM L t f) (aba (!decide (bk BinOp.and IntKind.i64 t.rights 1=0)) (191=cU L t f/\L=fM L t f) (abb (aba (decide (ak L=0)) (1=cU L t f/\L=fM L t f) (aba (!aU L f|| !decide (f.kind=3)) (190=cU L t f/\L=fM L t f) (abb (abb (abb (gi L t.oid {kind:=(aa L t).kind,count:=(aa L t).count,calls:=(aa L t).calls,slots:=(aa L t).slots,bytes:=(aa L f).bytes}=cU L t f/\cK L t.oid {kind:=(aa L t).kind,count:=(aa L t).count,calls:=(aa L t).calls,slots:=(aa L t).slots,bytes:=(aa L f).bytes}=fM L t f)))))))))):=by
 delta aba abb
 refine⟨rfl,fun h=>wW (O7 h) (by omega),fun h=>⟨fun h2=>wW (YA h h2) (by omega),fun h2=>⟨fun h3=>wW (pg3 h h2 h3) (by omega),fun h3=>⟨rfl,fun h'=>?_,fun _=>⟨fun h5=>HG (ZX h h2 h3) (YA h h5) (by omega),fun h5=>?_⟩⟩⟩⟩⟩
 ·rw[h]at h';simp at h'
 ·obtain⟨b,c⟩:=aas hL (rD h2).1 (rD h2).2 (ZX h h2 h3) (rD h5).1 (pgf h h5);exact⟨rfl,rfl,rfl,b,c⟩
theorem Ym (L:List Sx.Obj) (t f:Key) (hL:aq L):an Tryz.prog 164 [.lp 0 0,.key t,.key f] [.store tS eS L] (CA (.it .i64 (cU L t f)) (fM L t f)) (fun _ _=>False):=
 bm (inl:=(fun f=>f==204||f==206||f==209)) (ann:=aQ) (ae bC (ae bR ar)) (aC dB aE) (W8 L t f hL) (by kernel_rfl)
theorem VO:lh Tryz.prog 164 Zi:=
 od (m:=fun x=> [.key x.1,.key x.2]) IU (fun _=>rfl) (fun _ _=>rfl) (fun x=>bm (inl:=(fun f=>f==204||f==206||f==209)) (ann:=aQ) (ae bC (ae bR ar)) (aC dB aE) (R9 x.1 x.2) (by kernel_rfl)) (fun x=>bm (inl:=(fun f=>f==204||f==206||f==209)) (ann:=aQ) (ae bC (ae bR ar)) (aC dB aE) (Rq x.1 x.2) (by kernel_rfl)) fun L x hL _ _=>Ym L x.1 x.2 hL
end Go.Proofs.YtlblcfaclmpekaaGreat
