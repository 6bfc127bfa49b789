import Derived.Test.YtlblcfaclmpekaaGreatMa9
import Derived.RecoverIn
set_option linter.unusedSimpArgs false
set_option linter.unusedVariables false
set_option maxRecDepth 100000
namespace Go.Proofs.YtlblcfaclmpekaaGreat
open Go.Sx
open Go.RowKit (Below)
theorem gL {P:Program} {ro:Option Nat}:(FF P ro).round=ro:=rfl
theorem cQ {P:Program} {ops:Array Oper} {Q:Exit->Act->World->Prop} {i:Nat} {rest:List Nat} {a:Act} {w w':World} {o:Oper} {v:Value} (ho:ops[i]? =some o) (hg:o.guard=none)
  (hr:(execOp a.eval o).run P w= .ok (.value v) w') (hc:∀c,o.op≠ .call c) (h:wpOpsIn (FF P none) 0 P ops Q rest (a.put o.dst v) w'):wpOpsIn (FF P none) 0 P ops Q (i::rest) a w:=by
 simp only[wpOpsIn,ho];rw[aa9 (by simp[Region.wanted,hg])]
 refine eR (ro:=none) (by simp) (fun f hf=>by
  unfold Oper.about at hf;split at hf
  ·rename_i c hc';exact absurd hc' (hc c)
  ·simp at hf) ?_
 rw[hr];exact h
theorem kq {P:Program} {ops:Array Oper} {Q:Exit->Act->World->Prop} {i:Nat} {rest:List Nat} {a:Act} {w w':World} {o:Oper} (ho:ops[i]? =some o) (hg:o.guard=none)
  (hr:(execOp a.eval o).run P w= .ok .skip w') (hc:∀c,o.op≠ .call c) (h:wpOpsIn (FF P none) 0 P ops Q rest (a.put o.dst undef) w'):wpOpsIn (FF P none) 0 P ops Q (i::rest) a w:=by
 simp only[wpOpsIn,ho];rw[aa9 (by simp[Region.wanted,hg])]
 refine eR (ro:=none) (by simp) (fun f hf=>by
  unfold Oper.about at hf;split at hf
  ·rename_i c hc';exact absurd hc' (hc c)
  ·simp at hf) ?_
 rw[hr];exact h
theorem b8 (a:Act) (d:Option Nat) (v:Value):(a.put d v).tmps.size=a.tmps.size:=by cases d<;>simp[Act.put]
theorem cP (a:Act) (v:Value) (o:Operand):(a.put none v).eval o=a.eval o:=rfl
theorem ca (a:Act) (i j:Nat) (v:Value) (h:i<a.tmps.size):(a.put (some i) v).eval (.tmp j)=if i=j then v else a.eval (.tmp j):=by
 simp only[Act.put,Act.eval];by_cases e:i=j
 ·subst e;simp[h]
 ·simp[e]
theorem eh {P:Program} {f a b:Nat} (h:uQ P f a b) (hb:b<1000000:=by decide):∀p∈ [(f,a,b)],wF P p.1 p.2.1 p.2.2:=fun p hp=>by
 simp only[List.mem_singleton]at hp;subst hp;refine⟨h.1,fun b off ty cs cs' k n w _ _ h1 h2=>h.2 b off ty cs cs' k n w h1 fun w1 hw1=>?_⟩
 have:=h2 w1 hw1;simp only[Dc,Sy,aa9 hb]at this;exact this
theorem eP {P:Program} {f a b:Nat} (h:PI P f a b):∀p∈ [(f,a,b+1000000)],wF P p.1 p.2.1 p.2.2:=fun p hp=>by
 simp only[List.mem_singleton]at hp;subst hp;refine⟨h.1,fun c off ty cs cs' k n w hk hn h1 h2=>?_⟩
 obtain rfl:k= .i64:=hk.resolve_left (by simp)
 refine h.2 c off ty cs cs' n w hn h1 fun w1 hw1=>?_
 have:=h2 w1 hw1;simp only[Dc,Sy,aa8 (show¬b+1000000<1000000 by omega),Nat.add_sub_cancel]at this
 exact this
theorem wL (k:IntKind) (n:Int) (w:World) (t:Nat):(Instr.typeAssert (.iface 280 (.agg #[.int k n])) t 280 true).run Tryz.prog w= .ok (.tuple #[.agg #[.int k n],.bool true]) w:=by
 simp[Instr.typeAssert,go_sem]
theorem iV:uQ Tryz.prog 193 280 26:=by
 refine⟨fun p w=>?_,fun b off ty cs₁ cs' k n w hb hs=>?_⟩
 ·refine callsDIn_of_wpSIn Go.Proofs.Tryz.func193 rfl (by show(Tryz.prog.funcs[193]?).isSome=true;kernel_rfl) fun c₀ cs hu=>?_
  apply wpSIn_seq
  apply wpSIn_region
  simp[wpOpsSIn,go_sem,recoverD,hu,Exit.thenS];refine wpSIn_of_wpIn rfl (wpIn_block (wpIn_seq (wpIn_region ?_)));simp[wpOpsIn,go_sem,Exit.then,gL];refine wpIn_cond_true (by simp[Act.eval,Array.replicate]) (wpIn_region ?_)
  simp[wpOpsIn,go_sem,Exit.inBlock,gL];cases c₀;simp_all[bodyPostS,results,Go.Proofs.Tryz.f193]
 ·refine callsDIn_of_wpSIn Go.Proofs.Tryz.func193 rfl (by show(Tryz.prog.funcs[193]?).isSome=true;kernel_rfl) fun c₀ cs hu=>?_
  apply wpSIn_seq
  apply wpSIn_region
  simp[wpOpsSIn,go_sem,recoverD,hu,Exit.thenS];refine wpSIn_of_wpIn rfl (wpIn_block (wpIn_seq (wpIn_region ?_)));simp[wpOpsIn,go_sem,Exit.then,gL];refine wpIn_cond_false (by simp[Act.eval,Array.replicate]) ?_
  refine wpIn_seq (wpIn_region ?_);generalize hA:({tmps:=_,defers:= []}:Act)=A
  have hz:A.tmps.size=15:=by subst hA;simp
  have hdf:A.defers= []:=by subst hA;rfl
  have h0:A.eval (.tmp 0)= .pointer (some ⟨b,off,none⟩):=by subst hA;simp[Act.eval]
  have h5:A.eval (.tmp 5)= .iface 280 (.agg #[.int k n]):=by subst hA;simp[Act.eval]
  clear hA;have hbl:b<w.heap.size:=(Array.getElem?_eq_some_iff.1 hb).1
  have hb1:(w.alloc (.cells #[.int k n] 280)).heap[b]? =some (.cells cs₁ ty (0,0)):=
   (((Below.refl _ w).alloc (Nat.le_refl _) _).block b hbl).trans hb
  refine cQ (P:=Tryz.prog) rfl rfl (v:= .tuple #[.agg #[.int k n],.bool true]) (w':=w) (by simp[execOp,h5,wL]) (by intro c;simp) ?_
  refine cQ (P:=Tryz.prog) rfl rfl (v:= .bool true) (w':=w) (by simp[execOp,ca,cP,b8,hz,Instr.extract]) (by intro c;simp) ?_
  refine cQ (P:=Tryz.prog) rfl rfl (v:= .agg #[.int k n]) (w':=w) (by simp[execOp,ca,cP,b8,hz,Instr.extract]) (by intro c;simp) ?_
  show Code.wpIn _ _ _ _ _ _ _
  refine wpIn_cond_true (by simp[ca,b8,hz]) ?_
  refine wpIn_seq (wpIn_region ?_);refine cQ (P:=Tryz.prog) rfl rfl (v:= .pointer (some ⟨w.heap.size,0,none⟩)) (w':=w.alloc (.cells #[.int .i64 0] 280)) (by simp[execOp,Instr.alloc,go_sem]) (by intro c;simp) ?_
  refine kq (P:=Tryz.prog) rfl rfl (w':=w.alloc (.cells #[.int k n] 280)) (by simp[execOp,ca,cP,b8,hz,go_sem]) (by intro c;simp) ?_
  show Code.wpIn _ _ _ _ _ _ _
  refine wpIn_region ?_;refine cQ (P:=Tryz.prog) rfl rfl (v:= .pointer (some ⟨b,off,none⟩)) (w':=w.alloc (.cells #[.int k n] 280)) (by simp[execOp,ca,cP,b8,hz,h0]) (by intro c;simp) ?_
  refine cQ (P:=Tryz.prog) rfl rfl (v:= .pointer (some ⟨w.heap.size,0,none⟩)) (w':=w.alloc (.cells #[.int k n] 280)) (by simp[execOp,ca,cP,b8,hz,go_sem]) (by intro c;simp) ?_
  refine cQ (P:=Tryz.prog) rfl rfl (v:= .int k n) (w':=w.alloc (.cells #[.int k n] 280)) (by simp[execOp,ca,cP,b8,hz,go_sem]) (by intro c;simp) ?_
  refine cQ (P:=Tryz.prog) rfl rfl (v:= .pointer (some ⟨b,off,none⟩)) (w':=w.alloc (.cells #[.int k n] 280)) (by simp[execOp,ca,cP,b8,hz]) (by intro c;simp) ?_
  refine kq (P:=Tryz.prog) rfl rfl (w':=(w.alloc (.cells #[.int k n] 280)).setRow b cs') (by simp[execOp,ca,cP,b8,hz,hs _ hb1]) (by intro c;simp) ?_
  have hbe:Below w.heap.size (w.setRow b cs') ((w.alloc (.cells #[.int k n] 280)).setRow b cs'):=by
   have hs1:∀(v:World) (c:Array Value),(v.setRow b c).heap.size=v.heap.size:=fun v c=>by simp[World.setRow]
   refine⟨rfl,rfl,rfl,by rw[hs1,hs1];exact((Below.refl _ w).alloc (Nat.le_refl _) _).size,fun j hj=>?_⟩
   by_cases e:j=b
   ·subst e;rw[iS _ _ _ _ _ hb1,iS _ _ _ _ _ hb]
   ·rw[setRow_other _ _ _ _ e,setRow_other _ _ _ _ e];exact((Below.refl _ w).alloc (Nat.le_refl _) _).block j hj
  refine⟨by simp only[put_defers];exact hdf,_,rfl,.tuple #[],by simp[results,Go.Proofs.Tryz.f193],⟨_,rfl⟩,rfl,hbe⟩
theorem wz (k:IntKind) (n:Int) (w:World) (t:Nat):(Instr.typeAssert (.iface 283 (.agg #[.int k n])) t 283 true).run Tryz.prog w= .ok (.tuple #[.agg #[.int k n],.bool true]) w:=by
 simp[Instr.typeAssert,go_sem]
theorem iw:uQ Tryz.prog 212 283 26:=by
 refine⟨fun p w=>?_,fun b off ty cs₁ cs' k n w hb hs=>?_⟩
 ·refine callsDIn_of_wpSIn Go.Proofs.Tryz.func212 rfl (by show(Tryz.prog.funcs[212]?).isSome=true;kernel_rfl) fun c₀ cs hu=>?_
  apply wpSIn_seq
  apply wpSIn_region
  simp[wpOpsSIn,go_sem,recoverD,hu,Exit.thenS];refine wpSIn_of_wpIn rfl (wpIn_block (wpIn_seq (wpIn_region ?_)));simp[wpOpsIn,go_sem,Exit.then,gL];refine wpIn_cond_true (by simp[Act.eval,Array.replicate]) (wpIn_region ?_)
  simp[wpOpsIn,go_sem,Exit.inBlock,gL];cases c₀;simp_all[bodyPostS,results,Go.Proofs.Tryz.f212]
 ·refine callsDIn_of_wpSIn Go.Proofs.Tryz.func212 rfl (by show(Tryz.prog.funcs[212]?).isSome=true;kernel_rfl) fun c₀ cs hu=>?_
  apply wpSIn_seq
  apply wpSIn_region
  simp[wpOpsSIn,go_sem,recoverD,hu,Exit.thenS];refine wpSIn_of_wpIn rfl (wpIn_block (wpIn_seq (wpIn_region ?_)));simp[wpOpsIn,go_sem,Exit.then,gL];refine wpIn_cond_false (by simp[Act.eval,Array.replicate]) ?_
  refine wpIn_seq (wpIn_region ?_);generalize hA:({tmps:=_,defers:= []}:Act)=A
  have hz:A.tmps.size=15:=by subst hA;simp
  have hdf:A.defers= []:=by subst hA;rfl
  have h0:A.eval (.tmp 0)= .pointer (some ⟨b,off,none⟩):=by subst hA;simp[Act.eval]
  have h5:A.eval (.tmp 5)= .iface 283 (.agg #[.int k n]):=by subst hA;simp[Act.eval]
  clear hA;have hbl:b<w.heap.size:=(Array.getElem?_eq_some_iff.1 hb).1
  have hb1:(w.alloc (.cells #[.int k n] 283)).heap[b]? =some (.cells cs₁ ty (0,0)):=
   (((Below.refl _ w).alloc (Nat.le_refl _) _).block b hbl).trans hb
  refine cQ (P:=Tryz.prog) rfl rfl (v:= .tuple #[.agg #[.int k n],.bool true]) (w':=w) (by simp[execOp,h5,wz]) (by intro c;simp) ?_
  refine cQ (P:=Tryz.prog) rfl rfl (v:= .bool true) (w':=w) (by simp[execOp,ca,cP,b8,hz,Instr.extract]) (by intro c;simp) ?_
  refine cQ (P:=Tryz.prog) rfl rfl (v:= .agg #[.int k n]) (w':=w) (by simp[execOp,ca,cP,b8,hz,Instr.extract]) (by intro c;simp) ?_
  show Code.wpIn _ _ _ _ _ _ _
  refine wpIn_cond_true (by simp[ca,b8,hz]) ?_
  refine wpIn_seq (wpIn_region ?_);refine cQ (P:=Tryz.prog) rfl rfl (v:= .pointer (some ⟨w.heap.size,0,none⟩)) (w':=w.alloc (.cells #[.int .i64 0] 283)) (by simp[execOp,Instr.alloc,go_sem]) (by intro c;simp) ?_
  refine kq (P:=Tryz.prog) rfl rfl (w':=w.alloc (.cells #[.int k n] 283)) (by simp[execOp,ca,cP,b8,hz,go_sem]) (by intro c;simp) ?_
  show Code.wpIn _ _ _ _ _ _ _
  refine wpIn_region ?_;refine cQ (P:=Tryz.prog) rfl rfl (v:= .pointer (some ⟨b,off,none⟩)) (w':=w.alloc (.cells #[.int k n] 283)) (by simp[execOp,ca,cP,b8,hz,h0]) (by intro c;simp) ?_
  refine cQ (P:=Tryz.prog) rfl rfl (v:= .pointer (some ⟨w.heap.size,0,none⟩)) (w':=w.alloc (.cells #[.int k n] 283)) (by simp[execOp,ca,cP,b8,hz,go_sem]) (by intro c;simp) ?_
  refine cQ (P:=Tryz.prog) rfl rfl (v:= .int k n) (w':=w.alloc (.cells #[.int k n] 283)) (by simp[execOp,ca,cP,b8,hz,go_sem]) (by intro c;simp) ?_
  refine cQ (P:=Tryz.prog) rfl rfl (v:= .pointer (some ⟨b,off,none⟩)) (w':=w.alloc (.cells #[.int k n] 283)) (by simp[execOp,ca,cP,b8,hz]) (by intro c;simp) ?_
  refine kq (P:=Tryz.prog) rfl rfl (w':=(w.alloc (.cells #[.int k n] 283)).setRow b cs') (by simp[execOp,ca,cP,b8,hz,hs _ hb1]) (by intro c;simp) ?_
  have hbe:Below w.heap.size (w.setRow b cs') ((w.alloc (.cells #[.int k n] 283)).setRow b cs'):=by
   have hs1:∀(v:World) (c:Array Value),(v.setRow b c).heap.size=v.heap.size:=fun v c=>by simp[World.setRow]
   refine⟨rfl,rfl,rfl,by rw[hs1,hs1];exact((Below.refl _ w).alloc (Nat.le_refl _) _).size,fun j hj=>?_⟩
   by_cases e:j=b
   ·subst e;rw[iS _ _ _ _ _ hb1,iS _ _ _ _ _ hb]
   ·rw[setRow_other _ _ _ _ e,setRow_other _ _ _ _ e];exact((Below.refl _ w).alloc (Nat.le_refl _) _).block j hj
  refine⟨by simp only[put_defers];exact hdf,_,rfl,.tuple #[],by simp[results,Go.Proofs.Tryz.f212],⟨_,rfl⟩,rfl,hbe⟩
theorem xx (k:IntKind) (n:Int) (w:World) (t:Nat):(Instr.typeAssert (.iface 299 (.agg #[.int k n])) t 299 true).run Tryz.prog w= .ok (.tuple #[.agg #[.int k n],.bool true]) w:=by
 simp[Instr.typeAssert,go_sem]
theorem HG:uQ Tryz.prog 242 299 202:=by
 refine⟨fun p w=>?_,fun b off ty cs₁ cs' k n w hb hs=>?_⟩
 ·refine callsDIn_of_wpSIn Go.Proofs.Tryz.func242 rfl (by show(Tryz.prog.funcs[242]?).isSome=true;kernel_rfl) fun c₀ cs hu=>?_
  apply wpSIn_seq
  apply wpSIn_region
  simp[wpOpsSIn,go_sem,recoverD,hu,Exit.thenS];refine wpSIn_of_wpIn rfl (wpIn_block (wpIn_seq (wpIn_region ?_)));simp[wpOpsIn,go_sem,Exit.then,gL];refine wpIn_cond_true (by simp[Act.eval,Array.replicate]) (wpIn_region ?_)
  simp[wpOpsIn,go_sem,Exit.inBlock,gL];cases c₀;simp_all[bodyPostS,results,Go.Proofs.Tryz.f242]
 ·refine callsDIn_of_wpSIn Go.Proofs.Tryz.func242 rfl (by show(Tryz.prog.funcs[242]?).isSome=true;kernel_rfl) fun c₀ cs hu=>?_
  apply wpSIn_seq
  apply wpSIn_region
  simp[wpOpsSIn,go_sem,recoverD,hu,Exit.thenS];refine wpSIn_of_wpIn rfl (wpIn_block (wpIn_seq (wpIn_region ?_)));simp[wpOpsIn,go_sem,Exit.then,gL];refine wpIn_cond_false (by simp[Act.eval,Array.replicate]) ?_
  refine wpIn_seq (wpIn_region ?_);generalize hA:({tmps:=_,defers:= []}:Act)=A
  have hz:A.tmps.size=12:=by subst hA;simp
  have hdf:A.defers= []:=by subst hA;rfl
  have h0:A.eval (.tmp 0)= .pointer (some ⟨b,off,none⟩):=by subst hA;simp[Act.eval]
  have h5:A.eval (.tmp 4)= .iface 299 (.agg #[.int k n]):=by subst hA;simp[Act.eval]
  clear hA;have hbl:b<w.heap.size:=(Array.getElem?_eq_some_iff.1 hb).1
  have hb1:(w.alloc (.cells #[.int k n] 299)).heap[b]? =some (.cells cs₁ ty (0,0)):=
   (((Below.refl _ w).alloc (Nat.le_refl _) _).block b hbl).trans hb
  refine cQ (P:=Tryz.prog) rfl rfl (v:= .tuple #[.agg #[.int k n],.bool true]) (w':=w) (by simp[execOp,h5,xx]) (by intro c;simp) ?_
  refine cQ (P:=Tryz.prog) rfl rfl (v:= .bool true) (w':=w) (by simp[execOp,ca,cP,b8,hz,Instr.extract]) (by intro c;simp) ?_
  refine cQ (P:=Tryz.prog) rfl rfl (v:= .agg #[.int k n]) (w':=w) (by simp[execOp,ca,cP,b8,hz,Instr.extract]) (by intro c;simp) ?_
  show Code.wpIn _ _ _ _ _ _ _
  refine wpIn_cond_true (by simp[ca,b8,hz]) ?_
  refine wpIn_seq (wpIn_region ?_);refine cQ (P:=Tryz.prog) rfl rfl (v:= .pointer (some ⟨w.heap.size,0,none⟩)) (w':=w.alloc (.cells #[.int .i64 0] 299)) (by simp[execOp,Instr.alloc,go_sem]) (by intro c;simp) ?_
  refine kq (P:=Tryz.prog) rfl rfl (w':=w.alloc (.cells #[.int k n] 299)) (by simp[execOp,ca,cP,b8,hz,go_sem]) (by intro c;simp) ?_
  show Code.wpIn _ _ _ _ _ _ _
  refine wpIn_region ?_;refine cQ (P:=Tryz.prog) rfl rfl (v:= .pointer (some ⟨w.heap.size,0,none⟩)) (w':=w.alloc (.cells #[.int k n] 299)) (by simp[execOp,ca,cP,b8,hz,go_sem]) (by intro c;simp) ?_
  refine cQ (P:=Tryz.prog) rfl rfl (v:= .int k n) (w':=w.alloc (.cells #[.int k n] 299)) (by simp[execOp,ca,cP,b8,hz,go_sem]) (by intro c;simp) ?_
  refine kq (P:=Tryz.prog) rfl rfl (w':=(w.alloc (.cells #[.int k n] 299)).setRow b cs') (by simp[execOp,ca,cP,b8,hz,h0,hs _ hb1]) (by intro c;simp) ?_
  have hbe:Below w.heap.size (w.setRow b cs') ((w.alloc (.cells #[.int k n] 299)).setRow b cs'):=by
   have hs1:∀(v:World) (c:Array Value),(v.setRow b c).heap.size=v.heap.size:=fun v c=>by simp[World.setRow]
   refine⟨rfl,rfl,rfl,by rw[hs1,hs1];exact((Below.refl _ w).alloc (Nat.le_refl _) _).size,fun j hj=>?_⟩
   by_cases e:j=b
   ·subst e;rw[iS _ _ _ _ _ hb1,iS _ _ _ _ _ hb]
   ·rw[setRow_other _ _ _ _ e,setRow_other _ _ _ _ e];exact((Below.refl _ w).alloc (Nat.le_refl _) _).block j hj
  refine⟨by simp only[put_defers];exact hdf,_,rfl,.tuple #[],by simp[results,Go.Proofs.Tryz.f242],⟨_,rfl⟩,rfl,hbe⟩
theorem we (k:IntKind) (n:Int) (w:World) (t:Nat):(Instr.typeAssert (.iface 211 (.agg #[.int k n])) t 211 true).run Tryz.prog w= .ok (.tuple #[.agg #[.int k n],.bool true]) w:=by
 simp[Instr.typeAssert,go_sem]
theorem lG:uQ Tryz.prog 90 211 26:=by
 refine⟨fun p w=>?_,fun b off ty cs₁ cs' k n w hb hs=>?_⟩
 ·refine callsDIn_of_wpSIn Go.Proofs.Tryz.func90 rfl (by show(Tryz.prog.funcs[90]?).isSome=true;kernel_rfl) fun c₀ cs hu=>?_
  apply wpSIn_seq
  apply wpSIn_region
  simp[wpOpsSIn,go_sem,recoverD,hu,Exit.thenS];refine wpSIn_of_wpIn rfl (wpIn_block (wpIn_seq (wpIn_region ?_)));simp[wpOpsIn,go_sem,Exit.then,gL];refine wpIn_cond_true (by simp[Act.eval,Array.replicate]) (wpIn_region ?_)
  simp[wpOpsIn,go_sem,Exit.inBlock,gL];cases c₀;simp_all[bodyPostS,results,Go.Proofs.Tryz.f90]
 ·refine callsDIn_of_wpSIn Go.Proofs.Tryz.func90 rfl (by show(Tryz.prog.funcs[90]?).isSome=true;kernel_rfl) fun c₀ cs hu=>?_
  apply wpSIn_seq
  apply wpSIn_region
  simp[wpOpsSIn,go_sem,recoverD,hu,Exit.thenS];refine wpSIn_of_wpIn rfl (wpIn_block (wpIn_seq (wpIn_region ?_)));simp[wpOpsIn,go_sem,Exit.then,gL];refine wpIn_cond_false (by simp[Act.eval,Array.replicate]) ?_
  refine wpIn_seq (wpIn_region ?_);generalize hA:({tmps:=_,defers:= []}:Act)=A
  have hz:A.tmps.size=15:=by subst hA;simp
  have hdf:A.defers= []:=by subst hA;rfl
  have h0:A.eval (.tmp 0)= .pointer (some ⟨b,off,none⟩):=by subst hA;simp[Act.eval]
  have h5:A.eval (.tmp 5)= .iface 211 (.agg #[.int k n]):=by subst hA;simp[Act.eval]
  clear hA;have hbl:b<w.heap.size:=(Array.getElem?_eq_some_iff.1 hb).1
  have hb1:(w.alloc (.cells #[.int k n] 211)).heap[b]? =some (.cells cs₁ ty (0,0)):=
   (((Below.refl _ w).alloc (Nat.le_refl _) _).block b hbl).trans hb
  refine cQ (P:=Tryz.prog) rfl rfl (v:= .tuple #[.agg #[.int k n],.bool true]) (w':=w) (by simp[execOp,h5,we]) (by intro c;simp) ?_
  refine cQ (P:=Tryz.prog) rfl rfl (v:= .bool true) (w':=w) (by simp[execOp,ca,cP,b8,hz,Instr.extract]) (by intro c;simp) ?_
  refine cQ (P:=Tryz.prog) rfl rfl (v:= .agg #[.int k n]) (w':=w) (by simp[execOp,ca,cP,b8,hz,Instr.extract]) (by intro c;simp) ?_
  show Code.wpIn _ _ _ _ _ _ _
  refine wpIn_cond_true (by simp[ca,b8,hz]) ?_
  refine wpIn_seq (wpIn_region ?_);refine cQ (P:=Tryz.prog) rfl rfl (v:= .pointer (some ⟨w.heap.size,0,none⟩)) (w':=w.alloc (.cells #[.int .i64 0] 211)) (by simp[execOp,Instr.alloc,go_sem]) (by intro c;simp) ?_
  refine kq (P:=Tryz.prog) rfl rfl (w':=w.alloc (.cells #[.int k n] 211)) (by simp[execOp,ca,cP,b8,hz,go_sem]) (by intro c;simp) ?_
  show Code.wpIn _ _ _ _ _ _ _
  refine wpIn_region ?_;refine cQ (P:=Tryz.prog) rfl rfl (v:= .pointer (some ⟨b,off,none⟩)) (w':=w.alloc (.cells #[.int k n] 211)) (by simp[execOp,ca,cP,b8,hz,h0]) (by intro c;simp) ?_
  refine cQ (P:=Tryz.prog) rfl rfl (v:= .pointer (some ⟨w.heap.size,0,none⟩)) (w':=w.alloc (.cells #[.int k n] 211)) (by simp[execOp,ca,cP,b8,hz,go_sem]) (by intro c;simp) ?_
  refine cQ (P:=Tryz.prog) rfl rfl (v:= .int k n) (w':=w.alloc (.cells #[.int k n] 211)) (by simp[execOp,ca,cP,b8,hz,go_sem]) (by intro c;simp) ?_
  refine cQ (P:=Tryz.prog) rfl rfl (v:= .pointer (some ⟨b,off,none⟩)) (w':=w.alloc (.cells #[.int k n] 211)) (by simp[execOp,ca,cP,b8,hz]) (by intro c;simp) ?_
  refine kq (P:=Tryz.prog) rfl rfl (w':=(w.alloc (.cells #[.int k n] 211)).setRow b cs') (by simp[execOp,ca,cP,b8,hz,hs _ hb1]) (by intro c;simp) ?_
  have hbe:Below w.heap.size (w.setRow b cs') ((w.alloc (.cells #[.int k n] 211)).setRow b cs'):=by
   have hs1:∀(v:World) (c:Array Value),(v.setRow b c).heap.size=v.heap.size:=fun v c=>by simp[World.setRow]
   refine⟨rfl,rfl,rfl,by rw[hs1,hs1];exact((Below.refl _ w).alloc (Nat.le_refl _) _).size,fun j hj=>?_⟩
   by_cases e:j=b
   ·subst e;rw[iS _ _ _ _ _ hb1,iS _ _ _ _ _ hb]
   ·rw[setRow_other _ _ _ _ e,setRow_other _ _ _ _ e];exact((Below.refl _ w).alloc (Nat.le_refl _) _).block j hj
  refine⟨by simp only[put_defers];exact hdf,_,rfl,.tuple #[],by simp[results,Go.Proofs.Tryz.f90],⟨_,rfl⟩,rfl,hbe⟩
theorem wv (n:Int) (w:World) (t:Nat):(Instr.typeAssert (.iface 214 (.agg #[.int .i64 n])) t 214 true).run Tryz.prog w= .ok (.tuple #[.agg #[.int .i64 n],.bool true]) w:=by
 simp[Instr.typeAssert,go_sem]
theorem AD {n:Int} (hn:bY .i64 n) (w:World):(Instr.build 47 #[(0,.int .i64 n)]).run Tryz.prog w= .ok (den Env.zero (Vb n)) w:=
 (rF (J:=Env.zero) (w:=w) (K:=fun _=>True) (C:=(Yy [] [] [] bx aQ).toCtx) (t:=47) (parts:= [(0,.it .i64 n)]) (r:=Vb n) (zL pC) (by kernel_rfl) (by simp;exact hn)).1
theorem bX:PI Tryz.prog 130 214 47:=by
 refine⟨fun p w=>?_,fun b off ty cs₁ cs' n w hn hb hs=>?_⟩
 ·refine callsDIn_of_wpSIn Go.Proofs.Tryz.func130 rfl (by show(Tryz.prog.funcs[130]?).isSome=true;kernel_rfl) fun c₀ cs hu=>?_
  apply wpSIn_seq
  apply wpSIn_region
  simp[wpOpsSIn,go_sem,recoverD,hu,Exit.thenS];refine wpSIn_of_wpIn rfl (wpIn_block (wpIn_seq (wpIn_region ?_)));simp[wpOpsIn,go_sem,Exit.then,gL];refine wpIn_cond_true (by simp[Act.eval,Array.replicate]) (wpIn_region ?_)
  simp[wpOpsIn,go_sem,Exit.inBlock,gL];cases c₀;simp_all[bodyPostS,results,Go.Proofs.Tryz.f130]
 ·refine callsDIn_of_wpSIn Go.Proofs.Tryz.func130 rfl (by show(Tryz.prog.funcs[130]?).isSome=true;kernel_rfl) fun c₀ cs hu=>?_
  apply wpSIn_seq
  apply wpSIn_region
  simp[wpOpsSIn,go_sem,recoverD,hu,Exit.thenS];refine wpSIn_of_wpIn rfl (wpIn_block (wpIn_seq (wpIn_region ?_)));simp[wpOpsIn,go_sem,Exit.then,gL];refine wpIn_cond_false (by simp[Act.eval,Array.replicate]) ?_
  refine wpIn_seq (wpIn_region ?_);generalize hA:({tmps:=_,defers:= []}:Act)=A
  have hz:A.tmps.size=13:=by subst hA;simp
  have hdf:A.defers= []:=by subst hA;rfl
  have h0:A.eval (.tmp 0)= .pointer (some ⟨b,off,none⟩):=by subst hA;simp[Act.eval]
  have h5:A.eval (.tmp 4)= .iface 214 (.agg #[.int .i64 n]):=by subst hA;simp[Act.eval]
  clear hA;have hbl:b<w.heap.size:=(Array.getElem?_eq_some_iff.1 hb).1
  have hb1:(w.alloc (.cells #[.int .i64 n] 214)).heap[b]? =some (.cells cs₁ ty (0,0)):=
   (((Below.refl _ w).alloc (Nat.le_refl _) _).block b hbl).trans hb
  refine cQ (P:=Tryz.prog) rfl rfl (v:= .tuple #[.agg #[.int .i64 n],.bool true]) (w':=w) (by simp[execOp,h5,wv]) (by intro c;simp) ?_
  refine cQ (P:=Tryz.prog) rfl rfl (v:= .bool true) (w':=w) (by simp[execOp,ca,cP,b8,hz,Instr.extract]) (by intro c;simp) ?_
  refine cQ (P:=Tryz.prog) rfl rfl (v:= .agg #[.int .i64 n]) (w':=w) (by simp[execOp,ca,cP,b8,hz,Instr.extract]) (by intro c;simp) ?_
  show Code.wpIn _ _ _ _ _ _ _
  refine wpIn_cond_true (by simp[ca,b8,hz]) ?_
  refine wpIn_seq (wpIn_region ?_);refine cQ (P:=Tryz.prog) rfl rfl (v:= .pointer (some ⟨w.heap.size,0,none⟩)) (w':=w.alloc (.cells #[.int .i64 0] 214)) (by simp[execOp,Instr.alloc,go_sem]) (by intro c;simp) ?_
  refine kq (P:=Tryz.prog) rfl rfl (w':=w.alloc (.cells #[.int .i64 n] 214)) (by simp[execOp,ca,cP,b8,hz,go_sem]) (by intro c;simp) ?_
  show Code.wpIn _ _ _ _ _ _ _
  refine wpIn_region ?_;refine cQ (P:=Tryz.prog) rfl rfl (v:= .pointer (some ⟨w.heap.size,0,none⟩)) (w':=w.alloc (.cells #[.int .i64 n] 214)) (by simp[execOp,ca,cP,b8,hz,go_sem]) (by intro c;simp) ?_
  refine cQ (P:=Tryz.prog) rfl rfl (v:= .int .i64 n) (w':=w.alloc (.cells #[.int .i64 n] 214)) (by simp[execOp,ca,cP,b8,hz,go_sem]) (by intro c;simp) ?_
  refine cQ (P:=Tryz.prog) rfl rfl (v:=den Env.zero (Vb n)) (w':=w.alloc (.cells #[.int .i64 n] 214)) (by simp only[execOp,Array.map,ca,cP,b8,hz];first|rfl| (simp[ca,cP,b8,hz,AD hn])) (by intro c;simp) ?_
  refine kq (P:=Tryz.prog) rfl rfl (w':=(w.alloc (.cells #[.int .i64 n] 214)).setRow b cs') (by simp[execOp,ca,cP,b8,hz,h0,hs _ hb1]) (by intro c;simp) ?_
  have hbe:Below w.heap.size (w.setRow b cs') ((w.alloc (.cells #[.int .i64 n] 214)).setRow b cs'):=by
   have hs1:∀(v:World) (c:Array Value),(v.setRow b c).heap.size=v.heap.size:=fun v c=>by simp[World.setRow]
   refine⟨rfl,rfl,rfl,by rw[hs1,hs1];exact((Below.refl _ w).alloc (Nat.le_refl _) _).size,fun j hj=>?_⟩
   by_cases e:j=b
   ·subst e;rw[iS _ _ _ _ _ hb1,iS _ _ _ _ _ hb]
   ·rw[setRow_other _ _ _ _ e,setRow_other _ _ _ _ e];exact((Below.refl _ w).alloc (Nat.le_refl _) _).block j hj
  refine⟨by simp only[put_defers];exact hdf,_,rfl,.tuple #[],by simp[results,Go.Proofs.Tryz.f130],⟨_,rfl⟩,rfl,hbe⟩
theorem O1 (k:Key):
 ((bn []|| !decide (bw k=0))=true->void=ah [] k)/\
   ((bn []|| !decide (bw k=0))=false->
     ((aZ k&& !aU [] k)=true->void=ah [] k)/\((aZ k&& !aU [] k)=false->k=ah [] k)):=by
 exact Fl [] k
theorem Ln (L:List Sx.Obj) (k:Key):
 ((bn L|| !decide (bw k=0))=true->void=ah L k)/\
   ((bn L|| !decide (bw k=0))=false->
     ((aZ k&& !aU L k)=true->void=ah L k)/\((aZ k&& !aU L k)=false->k=ah L k)):=by
 exact Fl L k
theorem ir:cq Tryz.prog 58 Xp:=
 yi gH (fun _ _=>rfl) (fun x _=>ba (inl:=bx) (ann:=aQ) (ae pV (ae gy (ae dH (ae bQ aq)))) (O1 x) (by kernel_rfl)) (fun L x _ _ _=>ba (inl:=bx) (ann:=aQ) (ae pV (ae gy (ae dH (ae bQ aq)))) (Ln L x) (by kernel_rfl)) fun _=>rfl
theorem Qa (l:List Sx.Obj) (k:Key):
 ((decide (bD (ai l)=0)|| !decide (bw k=0)||decide (0<=bd k)&& !aU l k)=true->
   void=ah l k)/\
   ((decide (bD (ai l)=0)|| !decide (bw k=0)||decide (0<=bd k)&& !aU l k)=false->
     k=ah l k):=by
 exact J5 l k
theorem ph:cq Tryz.prog 50 Rk:=H7 gH (fun _ _=>rfl) (fun l k _ _ _=>ba (inl:=bx) (ann:=aQ) (ae rV (ae np (ae me aq))) (Qa l k) (by kernel_rfl)) fun _=>rfl
end Go.Proofs.YtlblcfaclmpekaaGreat
namespace Go.Sx
def wkX (nid:Nat):V:= .mp nid
def wkN (nid:Nat):List aK:= [.mp .i64 [2,3,1,8] [.fn 240 [.lp (nid+1) 0],.fn 240 [.lp (nid+1+1) 0],.fn 238 [],.fn 238 []],
 .blk 42 (.ci .i64 3),.blk 42 (.ci .i64 1)]
def tN:Nat:=246
def clR (L:List Obj) (t f:Key) (g:Int):aK:= .blk tN (.ag [.ob (eo (aa L t) (dF L t f g)),.lp 0 0,.key t])
end Go.Sx
namespace Go.Proofs.YtlblcfaclmpekaaGreat
open Go.Sx
theorem Ru:
 true=true/\
 true=true/\
  ∀(nid:Nat),some (wkX nid)=some (wkX nid)/\some (wkN nid)=some (wkN nid):=by
 exact⟨rfl,rfl,fun nid=>⟨rfl,rfl⟩⟩
theorem T3:cq Tryz.prog 234 (A8 wkX wkN):=u5 (π:= [0,1,2]) (by decide) (fun _=>rfl) (bj (inl:=(fun f=>f==239)) (ann:=aQ) aq aD Ru (by kernel_rfl))
theorem Nv (r m:Int) (hr:bY .i64 r) (hm0:bY .i64 m):
 (∃g,kU g/\r=r/\m=m/\0=gz r m g/\1=g)/\∀(g:Int),kU g->aba (decide (g<=4)) ((nU g/\abd (r.tdiv g))/\(nU 2/\abd ((r.tdiv g).tmod 2))/\((!decide ((r.tdiv g).tmod 2=1))=true->nU g/\abd (m.tdiv g))/\((!decide ((r.tdiv g).tmod 2=1))=true->nU 2/\abd ((m.tdiv g).tmod 2))/\aba (decide ((r.tdiv g).tmod 2=1)||decide ((m.tdiv g).tmod 2=1)) (abd (gz r m g+g)/\abd (g*2)/\∃g',kU g'/\(8-g').toNat<(8-g).toNat/\r=r/\m=m/\gz r m g+g=gz r m g'/\g*2=g') (abd (g*2)/\∃g',kU g'/\(8-g').toNat<(8-g).toNat/\r=r/\m=m/\gz r m g=gz r m g'/\g*2=g')) (gz r m g=iz r m):=by
 delta aba abd
 refine⟨⟨1,.inl rfl,rfl,rfl,by simp[gz],rfl⟩,fun g hg=>⟨fun hlt=>?_,fun hge=>?_⟩⟩
 ·have hlt:=aa6 hlt;have hne:nU g:=by unfold nU;rcases hg with rfl|rfl|rfl|rfl<;>omega
  have h2:nU 2:=by unfold nU;omega
  have hs:=Ez (r:=r) (m:=m) (g:=g)
  have hn:∃g',kU g'/\(8-g').toNat<(8-g).toNat/\g*2=g':=by
   rcases hg with rfl|rfl|rfl|rfl
   ·exact⟨2,.inr (.inl rfl),by omega,rfl⟩
   ·exact⟨4,.inr (.inr (.inl rfl)),by omega,rfl⟩
   ·exact⟨8,.inr (.inr (.inr rfl)),by omega,rfl⟩
   ·omega
  obtain⟨g',hg1,hg2,rfl⟩:=hn;have hm:aF IntKind.i64 (g*2):=by simp only[aF,bY];rcases hg with rfl|rfl|rfl|rfl<;>omega
  refine⟨⟨hne,uV hr hg⟩,⟨h2,pG _⟩,fun _=>⟨hne,uV hm0 hg⟩,fun _=>⟨h2,pG _⟩,fun h=>⟨by simp only[aF,bY];omega,hm,_,hg1,hg2,rfl,rfl,?_,rfl⟩,fun h=>⟨hm,_,hg1,hg2,rfl,rfl,?_,rfl⟩⟩
  ·rcases hg with rfl|rfl|rfl|rfl
   ·simp[gz,gU]at h⊢;grind
   ·simp[gz,gU]at h⊢;grind
   ·simp[gz,gU]at h⊢;grind
   ·omega
  ·rcases hg with rfl|rfl|rfl|rfl
   ·simp[gz,gU,h]at h⊢ <;>grind
   ·simp[gz,gU,h]at h⊢ <;>grind
   ·simp[gz,gU,h]at h⊢ <;>grind
   ·omega
 ·have hge:=aa5 hge;rcases hg with rfl|rfl|rfl|rfl<;>first|rfl|omega
theorem zT:cq Tryz.prog 125 Q5:=
 nQ (gi .i64) (gi .i64) (fun _ _=>rfl) fun r m hr hm=>ba (inl:=bx) (ann:=(iv [(125,3,UO [0,1,4] (fun g=> [(5,.it .i64 (gz r m g)),(6,.it .i64 g)]) kU 8)])) aq (Nv r m hr hm) (by kernel_rfl)
theorem Ou (k:Key):
 aba (decide (k.kind=2)) ({kind:=k.kind,oid:=k.oid,count:=k.count,call:=k.call,rights:=iz k.rights 3,value:=k.value}=kN k) (aba (decide (k.kind=3)) ({kind:=k.kind,oid:=k.oid,count:=k.count,call:=k.call,rights:=1,value:=k.value}=kN k) (aba (decide (k.kind=1)) (aba (decide (k.kind=1)) (k=kN k) (void=kN k)) (aba (decide (k.kind=8)) (k=kN k) (void=kN k)))):=by
 delta aba
 unfold kN di;grind
theorem KE:cq Tryz.prog 191 SG:=
 pU gH (fun _=>rfl) fun k hk=>ba (inl:=bx) (ann:=aQ) (ae zT aq) (Ou k) (by kernel_rfl)
theorem J3 (k:Key):
 aba (!decide (bw k=0)) (void=iU k/\2=bw k) (aba (decide (k.kind=2)||(decide (k.kind=3)||(decide (k.kind=1)||decide (k.kind=8)))) (aba (decide (k.kind=2)) (abb ({kind:=k.kind,oid:=k.oid,count:=k.count,call:=k.call,rights:=bm BinOp.or IntKind.i64 k.rights 3,value:=k.value}=iU k/\0=bw k)) (aba (decide (k.kind=3)) (abb ({kind:=k.kind,oid:=k.oid,count:=k.count,call:=k.call,rights:=bm BinOp.or IntKind.i64 k.rights 1,value:=k.value}=iU k/\0=bw k)) (aba (decide (k.kind=1)) (abb (k=iU k/\0=bw k)) (aba (decide (k.kind=8)) (abb (k=iU k/\0=bw k)) False)))) (void=iU k/\0=bw k)):=by
 delta aba abb
 unfold iU bw;cases hok:aV k
 ·simp
 have hr:=je hok;have o3:k.kind=2->bm BinOp.or IntKind.i64 k.rights 3=iz k.rights 3:=fun e=>MZ hr.1 (by rw[e]at hr;exact hr.2)
 have o1:k.kind=3->bm BinOp.or IntKind.i64 k.rights 1=1:=fun e=>D2 hr.1 (by rw[e]at hr;exact hr.2)
 unfold kN di;grind
theorem Bx:cq Tryz.prog 230 LM:=
 pU gH (fun _=>rfl) fun k hk=>bj (inl:=(fun f=>f==240||f==238)) (ann:=aQ) (ae gy (ae T3 aq)) aD (J3 k) (by kernel_rfl)
theorem NF (o:Sx.Obj) (k:Key) (i:Int) (hq:oK k i):
 (0<=i/\i< ↑16)/\
  ((!decide (bm BinOp.and IntKind.i64 k.rights 2=0))=true->
    iU (ah [] (o.slots.at i.toNat))=ju [] o k i)/\
    ((!decide (bm BinOp.and IntKind.i64 k.rights 2=0))=false->
      ah [] (o.slots.at i.toNat)=ju [] o k i):=by
 exact Hl hq
theorem Sc (o:Sx.Obj) (L:List Sx.Obj) (k:Key) (i:Int) (hq:oK k i):
 (0<=i/\i< ↑16)/\
  ((!decide (bm BinOp.and IntKind.i64 k.rights 2=0))=true->
    iU (ah L (o.slots.at i.toNat))=ju L o k i)/\
    ((!decide (bm BinOp.and IntKind.i64 k.rights 2=0))=false->ah L (o.slots.at i.toNat)=ju L o k i):=by
 exact Hl hq
theorem oF:cq Tryz.prog 196 X8:=
 eW (aA (GQ aam) (aA dN bV)) (fun _=>rfl) fun a hq hok=>by
  obtain⟨⟨o,S,k,_⟩,i,_⟩:=a;cases S with
  |none=>exact ba (inl:=bx) (ann:=aQ) (ae ir (ae Bx aq)) (NF o k i hq) (by kernel_rfl)
  |some L=>exact ba (inl:=bx) (ann:=aQ) (ae ir (ae Bx aq)) (Sc o L k i hq) (by kernel_rfl)
theorem K5 (L:List Sx.Obj) (k:Key) (d:Int) (c:Bool):
 aba (decide (bD (ai L)=0)) (1=aC L k d c) (aba (!aU L k|| !decide (k.kind=d)) (190=aC L k d c) ((c=true->nU 4/\aF IntKind.i64 (k.rights.tmod 4))/\aba (c&& !decide (k.rights.tmod 4=0)) (191=aC L k d c) (0=aC L k d c))):=by
 delta aba
 unfold aC;refine⟨fun h=>?_,fun h=>⟨fun h2=>?_,fun h2=>⟨fun hc=>⟨by unfold nU;omega,?_⟩,fun h3=>?_,fun h3=>?_⟩⟩⟩
 ·rw[aa9 (by simpa[bD]using h)]
 ·rw[aa8 (by simpa[bD]using h),aa9 h2]
 ·have h1:=Int.tmod_lt_of_pos k.rights (show(0:Int)<4 by omega)
  have h2:=Int.lt_tmod_of_pos k.rights (show(0:Int)<4 by omega)
  simp only[aF,bY];omega
 ·rw[aa8 (by simpa[bD]using h),aa8 (by rw[h2];simp),aa9 h3]
 ·rw[aa8 (by simpa[bD]using h),aa8 (by rw[h2];simp),aa8 (by rw[h3];simp)]
theorem pq:cq Tryz.prog 135 Ur:=
 eW (aA jb (aA iF (aA dN (aA Ff bV)))) (fun _=>rfl) fun a hq hok=>by
  obtain⟨L,k,d,c,_⟩:=a;exact ba (inl:=bx) (ann:=aQ) (ae me aq) (K5 L k d c) (by kernel_rfl)
theorem RI (L:List Sx.Obj) (k:Key) (i:Int) (hk:bY .i64 k.rights) (hq:oG L k i):
 (0<=k.oid/\k.oid< ↑(ai L))/\(0<=i/\i< ↑16)/\k.oid.toNat<ai L/\(nU 2/\abd (k.rights.tdiv 2))/\(nU 2/\abd ((k.rights.tdiv 2).tmod 2))/\aba (decide ((k.rights.tdiv 2).tmod 2=1)) (kN (ah L ((aj L k.oid.toNat free).slots.at i.toNat))=dh L k i) (ah L ((aj L k.oid.toNat free).slots.at i.toNat)=dh L k i):=by
 delta aba abd
 obtain⟨h0,h1,h2,h3⟩:=hq;have e2:nU 2:=by unfold nU;omega
 refine⟨⟨h2,h3⟩,⟨h0,by omega⟩,by omega,⟨e2,uV hk (.inr (.inl rfl))⟩,⟨e2,pG _⟩,fun h=>?_,fun h=>?_⟩
 ·unfold dh ju sJ;rw[aa9 h]
 ·unfold dh ju sJ;rw[aa8 (by rw[h];simp)]
theorem xX:cq Tryz.prog 136 V7:=
 eW (aA jb (aA iF (aA dN bV))) (fun _=>rfl) fun a hq hok=>by
  obtain⟨L,k,i,_⟩:=a;exact ba (inl:=bx) (ann:=aQ) (ae ph (ae KE aq)) (RI L k i hok.2.1.2.2.2.2.1 hq) (by kernel_rfl)
theorem XE (L:List Sx.Obj) (k:Key):
 (decide (bw k=0)&&decide (bd k<bD (ai L)))=bJ L k:=by
 unfold bJ bw bD;cases aV k<;>simp
theorem zy:cq Tryz.prog 73 aaB:=
 eW (aA jb (aA iF bV)) (fun _=>rfl) fun a hq hok=>by
  obtain⟨L,k,_⟩:=a;exact ba (inl:=bx) (ann:=aQ) (ae rV (ae np aq)) (XE L k) (by kernel_rfl)
theorem Tr (L:List Sx.Obj) (i:Int) (o:Sx.Obj) (hq:dI L i):
 Lj (ai L) 856/\
  (0<=i/\i< ↑(ai L))/\
   i.toNat<ai L/\
    ∀(nid:Nat),
     some (V.sa nid)=some (V.sa nid)/\
      some [aK.arr (some tO) 163 (TL.ob (cA L i.toNat o))]=
       some [aK.arr (some tO) 163 (TL.ob (cA L i.toNat o))]:=by
 obtain⟨h0,h1,h2⟩:=hq;exact⟨⟨by simp only[maxLen];omega,by omega⟩,⟨h0,h1⟩,by omega,fun nid=>⟨rfl,rfl⟩⟩
theorem jz:cq Tryz.prog 76 WW:=
 QW (π:=fun _=> [2]) (aA jb (aA dN (aA Pe bV))) (fun _=>by simp) (fun _ _=>rfl) fun a hq hok=>by
  obtain⟨L,i,o,_⟩:=a;exact ba (inl:=bx) (ann:=aQ) aq (Tr L i o hq) (by kernel_rfl)
theorem L5 (k:Key) (i:Int):
 abb (abb (aba (!decide (0<ak [])) (void=aJ [] k i/\1=bW [] k i) (abb (aba (!(aU [] k&&decide (k.kind=2))) (void=aJ [] k i/\190=bW [] k i) (abb (abb (aba (!(decide (0<=i)&&decide (i<16))) (void=aJ [] k i/\4=bW [] k i) (oK k i/\ju [] (aa [] k) k i=aJ [] k i/\0=bW [] k i)))))))):=by
 delta aba abb
 have hE:∀e,aC [] k 2 false=e->e≠0->void=aJ [] k i/\e=bW [] k i:=fun e h h0=>by
  unfold aJ bW;rw[h,aa8 h0,aa8 h0];exact⟨rfl,rfl⟩
 refine⟨rfl,rfl,fun h=>hE _ ?_ (by omega),fun h=>⟨rfl,fun h2=>hE _ ?_ (by omega),fun h2=>⟨rfl,rfl,fun h3=>?_,fun h3=>?_⟩⟩⟩
 ·unfold aC;unfold ak at h;rw[aa9 (by simp at h;omega)]
 ·unfold aC;unfold ak at h;rw[aa8 (by simp at h;omega),aa9 (by simpa using h2)]
 ·have hA:aC [] k 2 false=0:=by
   unfold aC;unfold ak at h;rw[aa8 (by simp at h;omega),aa8 (by simpa using h2),aa8 (by simp)]
  rw[Bool.not_eq_true']at h3;unfold aJ bW kh;rw[hA,aa9 rfl,h3];exact⟨rfl,rfl⟩
 ·have hA:aC [] k 2 false=0:=by
   unfold aC;unfold ak at h;rw[aa8 (by simp at h;omega),aa8 (by simpa using h2),aa8 (by simp)]
  obtain⟨a1,_,_⟩:=gr hA;obtain⟨b1,b2,b3,b4,_⟩:=eg a1;rw[Bool.not_eq_false']at h3;have h3':0<=i/\i<16:=by simpa using h3
  unfold aJ bW kh;rw[hA,aa9 rfl,h3,aa9 rfl,aa9 rfl,b4];exact⟨⟨h3'.1,h3'.2,b1⟩,rfl,rfl⟩
theorem RK (L:List Sx.Obj) (k:Key) (i:Int):
 abb (abb (aba (!decide (0<ak L)) (void=aJ L k i/\1=bW L k i) (abb (aba (!(aU L k&&decide (k.kind=2))) (void=aJ L k i/\190=bW L k i) (abb (abb (aba (!(decide (0<=i)&&decide (i<16))) (void=aJ L k i/\4=bW L k i) (oK k i/\ju L (aa L k) k i=aJ L k i/\0=bW L k i)))))))):=by
 delta aba abb
 have hE:∀e,aC L k 2 false=e->e≠0->void=aJ L k i/\e=bW L k i:=fun e h h0=>by
  unfold aJ bW;rw[h,aa8 h0,aa8 h0];exact⟨rfl,rfl⟩
 refine⟨rfl,rfl,fun h=>hE _ ?_ (by omega),fun h=>⟨rfl,fun h2=>hE _ ?_ (by omega),fun h2=>⟨rfl,rfl,fun h3=>?_,fun h3=>?_⟩⟩⟩
 ·unfold aC;unfold ak at h;rw[aa9 (by simp at h;omega)]
 ·unfold aC;unfold ak at h;rw[aa8 (by simp at h;omega),aa9 (by simpa using h2)]
 ·have hA:aC L k 2 false=0:=by
   unfold aC;unfold ak at h;rw[aa8 (by simp at h;omega),aa8 (by simpa using h2),aa8 (by simp)]
  rw[Bool.not_eq_true']at h3;unfold aJ bW kh;rw[hA,aa9 rfl,h3];exact⟨rfl,rfl⟩
 ·have hA:aC L k 2 false=0:=by
   unfold aC;unfold ak at h;rw[aa8 (by simp at h;omega),aa8 (by simpa using h2),aa8 (by simp)]
  obtain⟨a1,_,_⟩:=gr hA;obtain⟨b1,b2,b3,b4,_⟩:=eg a1;rw[Bool.not_eq_false']at h3;have h3':0<=i/\i<16:=by simpa using h3
  unfold aJ bW kh;rw[hA,aa9 rfl,h3,aa9 rfl,aa9 rfl,b4];exact⟨⟨h3'.1,h3'.2,b1⟩,rfl,rfl⟩
theorem sL:cq Tryz.prog 147 Ya:=
 eW (aA s5 (aA iF (aA dN bV))) (fun _=>rfl) fun a hq hok=>by
  obtain⟨S,k,i,_⟩:=a;cases S with
  |none=>exact aY (inl:=(fun f=>f==195||f==194)) (ann:=aQ) (ae bC (ae bQ (ae oF aq))) aD (eh iV) (L5 k i) (by kernel_rfl)
  |some L=>exact aY (inl:=(fun f=>f==195||f==194)) (ann:=aQ) (ae bC (ae bQ (ae oF aq))) aD (eh iV) (RK L k i) (by kernel_rfl)
theorem Nn (k:Key) (i:Int) (v:Key):
 abb (abb (aba (!decide (0<ak [])) (void=cR [] k i v/\1=bk [] k i v) (abb (aba (!(aU [] k&&decide (k.kind=2))) (void=cR [] k i v/\190=bk [] k i v) (abb (aba (!decide (bm BinOp.and IntKind.i64 k.rights 3=0)) (void=cR [] k i v/\191=bk [] k i v) (abb (aba (!(decide (0<=i)&&decide (i<16))) (void=cR [] k i v/\4=bk [] k i v) (abb (aba (!(decide (bw v=0)&&(!aZ v||decide (cw v<ak [])))) (void=cR [] k i v/\2=bk [] k i v) (oK k i/\abb (abb ((0<=i/\i< ↑16)/\abb (ju [] (aa [] k) k i=cR [] k i v/\0=bk [] k i v)))))))))))))):=by
 delta aba abb
 refine⟨rfl,rfl,fun _=>⟨rfl,rfl⟩,fun h=>absurd h (by decide)⟩
theorem Qg (k:Key) (i:Int) (v:Key):
 abb (abb (aba (!decide (0<ak [])) (void=cR [] k i v/\1=bk [] k i v) (abb (aba (!(aU [] k&&decide (k.kind=2))) (void=cR [] k i v/\190=bk [] k i v) (abb (aba (!decide (bm BinOp.and IntKind.i64 k.rights 3=0)) (void=cR [] k i v/\191=bk [] k i v) (abb (aba (!(decide (0<=i)&&decide (i<16))) (void=cR [] k i v/\4=bk [] k i v) (abb (aba (!(decide (bw v=0)&&(!aZ v||decide (cw v<ak [])))) (void=cR [] k i v/\2=bk [] k i v) (oK k i/\abb (abb ((0<=i/\i< ↑16)/\abb False))))))))))))):=by
 delta aba abb
 refine⟨rfl,rfl,fun _=>⟨rfl,rfl⟩,fun h=>absurd h (by decide)⟩
theorem T4 (L:List Sx.Obj) (k:Key) (i:Int) (v:Key) (hL:ar L):
 abb (abb (aba (!decide (0<ak L)) ((void=cR L k i v/\1=bk L k i v)/\L=cB L k i v) (abb (aba (!(aU L k&&decide (k.kind=2))) ((void=cR L k i v/\190=bk L k i v)/\L=cB L k i v) (abb (aba (!decide (bm BinOp.and IntKind.i64 k.rights 3=0)) ((void=cR L k i v/\191=bk L k i v)/\L=cB L k i v) (abb (aba (!(decide (0<=i)&&decide (i<16))) ((void=cR L k i v/\4=bk L k i v)/\L=cB L k i v) (abb (aba (!(decide (bw v=0)&&(!aZ v||decide (cw v<ak L)))) ((void=cR L k i v/\2=bk L k i v)/\L=cB L k i v) (oK k i/\abb (abb ((0<=i/\i< ↑16)/\abb ((ju L (aa L k) k i=cR L k i v/\0=bk L k i v)/\cN L k.oid {kind:=(aa L k).kind,count:=(aa L k).count,calls:=(aa L k).calls,slots:=(aa L k).slots.put i.toNat (ah L v),bytes:=(aa L k).bytes}=cB L k i v)))))))))))))):=by
 delta aba abb
 have fin:∀e,bk L k i v=e->e≠0->(void=cR L k i v/\e=bk L k i v)/\L=cB L k i v:=fun e h h0=>by
  unfold cR cB;rw[h,aa8 h0,aa8 h0];exact⟨⟨rfl,rfl⟩,rfl⟩
 have bad:∀e,aC L k 2 true=e->e≠0->bk L k i v=e:=fun e h h0=>by unfold bk;rw[h,aa8 h0]
 refine⟨rfl,rfl,fun h=>fin _ (bad _ (Lc h) (by omega)) (by omega),fun h=>⟨rfl,fun h2=>fin _ (bad _ (IL h h2) (by omega)) (by omega),fun h2=>⟨rfl,fun h3=>fin _ (bad _ (VP h h2 h3) (by omega)) (by omega),fun h3=>⟨rfl,fun h4=>fin 4 ?_ (by omega),fun h4=>⟨rfl,fun h5=>fin 2 ?_ (by omega),fun h5=>?_⟩⟩⟩⟩⟩
 ·rw[Bool.not_eq_true']at h4;unfold bk kh;rw[JA h h2 h3,aa9 rfl,h4];rfl
 ·rw[Bool.not_eq_false']at h4;have hm:bJ L v=false:=by rw[<-vu];rw[Bool.not_eq_true']at h5;exact h5
  unfold bk kh;rw[JA h h2 h3,aa9 rfl,h4,hm];rfl
 ·rw[Bool.not_eq_false']at h4;have h4':0<=i/\i<16:=by simpa using h4
  have hm:bJ L v=true:=by rw[<-vu];rw[Bool.not_eq_false']at h5;exact h5
  have hE:bk L k i v=0:=by
   unfold bk kh;rw[JA h h2 h3,aa9 rfl,h4,hm];rfl
  obtain⟨a1,a2⟩:=nu h2;obtain⟨b1,b2,b3,b4,_⟩:=eg a1;have hp:=(pk hL a1 a2 (Eh (v:=v) hL a1 a2 h4'.1 h4'.2)).1;unfold cR cB;rw[hE,aa9 rfl,aa9 rfl,<-hp,b4];exact⟨⟨h4'.1,h4'.2,b1⟩,rfl,rfl,⟨h4'.1,by omega⟩,rfl,⟨rfl,rfl⟩,rfl⟩
theorem Tx (L:List Sx.Obj) (k:Key) (i:Int) (v:Key) (hL:ar L):an Tryz.prog 150 [.lp 0 0,.key k,.it .i64 i,.key v] [.store tS eS L] (B8 (.tp [.key (cR L k i v),.it .i64 (bk L k i v)]) (cB L k i v)) (fun _ _=>False):=
 aY (inl:=(fun f=>f==195||f==194||f==197||f==198)) (ann:=aQ) (ae bC (ae bQ (ae oF (ae dH (ae gy (ae ir aq)))))) (aB dz aD) (eh iV) (T4 L k i v hL) (by kernel_rfl)
theorem Hs:kL Tryz.prog 150 X0:=
 nK (m:=fun x=> [.key x.1,.it .i64 x.2.1,.key x.2.2]) O4 (fun _=>rfl) (fun _ _=>rfl) (fun x=>aY (inl:=(fun f=>f==195||f==194||f==197||f==198)) (ann:=aQ) (ae bC (ae bQ (ae oF (ae dH (ae gy (ae ir aq)))))) (aB dz aD) (eh iV) (Nn x.1 x.2.1 x.2.2) (by kernel_rfl)) (fun x=>aY (inl:=(fun f=>f==195||f==194||f==197||f==198)) (ann:=aQ) (ae bC (ae bQ (ae oF (ae dH (ae gy (ae ir aq)))))) (aB dz aD) (eh iV) (Qg x.1 x.2.1 x.2.2) (by kernel_rfl)) fun L x hL _ _=>Tx L x.1 x.2.1 x.2.2 hL
theorem PZ (k:Key):
 abb (abb (aba (!decide (0<ak [])) (1=aC [] k 2 true) (abb (aba (!(aU [] k&&decide (k.kind=2))) (190=aC [] k 2 true) (abb (aba (!decide (bm BinOp.and IntKind.i64 k.rights 3=0)) (191=aC [] k 2 true) (abb (abb (abb (0=aC [] k 2 true)))))))))):=by
 delta aba abb
 refine⟨rfl,rfl,fun _=>rfl,fun h=>absurd h (by decide)⟩
theorem Lr (k:Key):
 abb (abb (aba (!decide (0<ak [])) (1=aC [] k 2 true) (abb (aba (!(aU [] k&&decide (k.kind=2))) (190=aC [] k 2 true) (abb (aba (!decide (bm BinOp.and IntKind.i64 k.rights 3=0)) (191=aC [] k 2 true) (abb (abb (abb False))))))))):=by
 delta aba abb
 refine⟨rfl,rfl,fun _=>rfl,fun h=>absurd h (by decide)⟩
theorem S0 (L:List Sx.Obj) (k:Key) (hL:ar L):
 abb (abb (aba (!decide (0<ak L)) (1=aC L k 2 true/\L=fD L k) (abb (aba (!(aU L k&&decide (k.kind=2))) (190=aC L k 2 true/\L=fD L k) (abb (aba (!decide (bm BinOp.and IntKind.i64 k.rights 3=0)) (191=aC L k 2 true/\L=fD L k) (abb (abb (abb (0=aC L k 2 true/\cN L k.oid {kind:=(aa L k).kind,count:=(aa L k).count,calls:=(aa L k).calls,slots:=gV,bytes:=(aa L k).bytes}=fD L k)))))))))):=by
 delta aba abb
 have fin:∀e,aC L k 2 true=e->e≠0->e=aC L k 2 true/\L=fD L k:=fun e h h0=>by
  unfold fD;rw[h,aa8 h0];exact⟨rfl,rfl⟩
 refine⟨rfl,rfl,fun h=>fin _ (Lc h) (by omega),fun h=>⟨rfl,fun h2=>fin _ (IL h h2) (by omega),fun h2=>⟨rfl,fun h3=>fin _ (VP h h2 h3) (by omega),fun h3=>⟨rfl,rfl,rfl,?_⟩⟩⟩⟩
 obtain⟨a1,a2⟩:=nu h2;have hp:=(pk hL a1 a2 (Ip (by omega))).1
 unfold fD;rw[JA h h2 h3,aa9 rfl,<-hp];exact⟨rfl,rfl⟩
theorem TW (L:List Sx.Obj) (k:Key) (hL:ar L):an Tryz.prog 153 [.lp 0 0,.key k] [.store tS eS L] (B8 (.it .i64 (aC L k 2 true)) (fD L k)) (fun _ _=>False):=
 aY (inl:=(fun f=>f==195||f==194||f==197||f==199)) (ann:=aQ) (ae bC (ae bQ aq)) (aB dz aD) (eh iV) (S0 L k hL) (by kernel_rfl)
theorem TX:kL Tryz.prog 153 W4:=
 nK (m:=fun x=> [.key x]) O7 (fun _=>rfl) (fun _ _=>rfl) (fun x=>aY (inl:=(fun f=>f==195||f==194||f==197||f==199)) (ann:=aQ) (ae bC (ae bQ aq)) (aB dz aD) (eh iV) (PZ x) (by kernel_rfl)) (fun x=>aY (inl:=(fun f=>f==195||f==194||f==197||f==199)) (ann:=aQ) (ae bC (ae bQ aq)) (aB dz aD) (eh iV) (Lr x) (by kernel_rfl)) fun L x hL _ _=>TW L x hL
theorem Kz (t f:Key):
 abb (abb (aba (!decide (0<ak [])) (1=bS [] t f) (abb (aba (!(aU [] t&&decide (t.kind=2))) (190=bS [] t f) (abb (aba (!decide (bm BinOp.and IntKind.i64 t.rights 3=0)) (191=bS [] t f) (abb (abb (aba (!decide (0<ak [])) (1=bS [] t f) (abb (aba (!(aU [] f&&decide (f.kind=2))) (190=bS [] t f) (abb (abb (abb False)))))))))))))):=by
 delta aba abb
 refine⟨rfl,rfl,fun _=>rfl,fun h=>absurd h (by decide)⟩
theorem Lq (t f:Key):
 abb (abb (aba (!decide (0<ak [])) (1=bS [] t f) (abb (aba (!(aU [] t&&decide (t.kind=2))) (190=bS [] t f) (abb (aba (!decide (bm BinOp.and IntKind.i64 t.rights 3=0)) (191=bS [] t f) (abb (abb (aba (!decide (0<ak [])) (1=bS [] t f) (abb (aba (!(aU [] f&&decide (f.kind=2))) (190=bS [] t f) (abb (abb (abb False)))))))))))))):=by
 delta aba abb
 refine⟨rfl,rfl,fun _=>rfl,fun h=>absurd h (by decide)⟩
theorem Uw (L:List Sx.Obj) (t f:Key) (hL:ar L):
 abb (abb (aba (!decide (0<ak L)) (1=bS L t f/\L=eT L t f) (abb (aba (!(aU L t&&decide (t.kind=2))) (190=bS L t f/\L=eT L t f) (abb (aba (!decide (bm BinOp.and IntKind.i64 t.rights 3=0)) (191=bS L t f/\L=eT L t f) (abb (abb (aba (!decide (0<ak L)) (1=bS L t f/\L=eT L t f) (abb (aba (!(aU L f&&decide (f.kind=2))) (190=bS L t f/\L=eT L t f) (abb (abb (abb ((∃g,lz g/\0=g/\L=L/\t=t/\f=f/\t=t/\aa L t=aa L t/\t=t/\aa L t=aa L t/\aa L t=aa L t/\t=t/\f=f/\aa L f=aa L f/\f=f/\aa L f=aa L f/\aa L f=aa L f/\f=f/\aa L t=eo (aa L t) (dF L t f g)/\t=t)/\∀(g:Int),lz g->aba (decide (g<16)) (oK f g/\(0<=g/\g< ↑16)/\aF IntKind.i64 (g+1)/\∃g',lz g'/\oU g'<oU g/\g+1=g'/\L=L/\t=t/\f=f/\t=t/\aa L t=aa L t/\t=t/\aa L t=aa L t/\aa L t=aa L t/\t=t/\f=f/\aa L f=aa L f/\f=f/\aa L f=aa L f/\aa L f=aa L f/\f=f/\{kind:=(eo (aa L t) (dF L t f g)).kind,count:=(eo (aa L t) (dF L t f g)).count,calls:=(eo (aa L t) (dF L t f g)).calls,slots:=(eo (aa L t) (dF L t f g)).slots.put g.toNat (ju L (aa L f) f g),bytes:=(eo (aa L t) (dF L t f g)).bytes}=eo (aa L t) (dF L t f g')/\t=t) (abb (0=bS L t f/\cN L t.oid (eo (aa L t) (dF L t f g))=eT L t f))))))))))))))))):=by
 delta aba abb
 have fin:∀e,bS L t f=e->e≠0->e=bS L t f/\L=eT L t f:=fun e h h0=>by
  unfold eT;rw[h,aa8 h0];exact⟨rfl,rfl⟩
 have bad:∀e,aC L t 2 true=e->e≠0->bS L t f=e:=fun e h h0=>by unfold bS;rw[h,aa8 h0]
 refine⟨rfl,rfl,fun h=>fin _ (bad _ (Lc h) (by omega)) (by omega),fun h=>⟨rfl,fun h2=>fin _ (bad _ (IL h h2) (by omega)) (by omega),fun h2=>⟨rfl,fun h3=>fin _ (bad _ (VP h h2 h3) (by omega)) (by omega),fun h3=>⟨rfl,rfl,fun h4=>?_,fun h4=>⟨rfl,fun h5=>fin 190 ?_ (by omega),fun h5=>⟨rfl,rfl,rfl,?_,fun g hg=>⟨fun hlt=>?_,fun hge=>?_⟩⟩⟩⟩⟩⟩⟩
 ·rw[h]at h4;simp at h4
 ·unfold bS;rw[JA h h2 h3,aa9 rfl,IL h h5]
 ·obtain⟨a1,a2⟩:=nu h2;refine⟨0,⟨by omega,by omega⟩,?_⟩
  have:=Et (f:=f) (eg a1).2.2.2.1;repeat' apply And.intro
  all_goals first|rfl|exact this
 ·obtain⟨g0,g1⟩:=hg;have hlt:=aa6 hlt;obtain⟨a1,a2⟩:=nu h5;have hs:=Ef (t:=t) g0 (eg a1).2.2.2.1 (aa L t) gV;refine⟨⟨g0,by omega,(eg a1).1⟩,⟨g0,by omega⟩,by simp only[aF,bY];omega,g+1,⟨by omega,by omega⟩,by unfold oU;omega,?_⟩
  repeat' apply And.intro
  all_goals first|rfl|exact hs
 ·obtain⟨g0,g1⟩:=hg;have hge:=aa5 hge;have:g=16:=by omega
  subst this;obtain⟨a1,a2⟩:=nu h2;have hE:bS L t f=0:=by unfold bS;rw[JA h h2 h3,aa9 rfl,HR h h5]
  have hp:=(pk hL a1 a2 (yV (f:=f) hL a1 a2 16 (by omega))).1
  unfold eT;rw[hE,aa9 rfl];exact⟨rfl,rfl,hp⟩
theorem SL (L:List Sx.Obj) (t f:Key) (hL:ar L):an Tryz.prog 155 [.lp 0 0,.key t,.key f] [.store tS eS L] (B8 (.it .i64 (bS L t f)) (eT L t f)) (fun _ _=>False):=
 aY (inl:=(fun f=>f==195||f==194||f==197||f==200)) (ann:=(iv [(200,1,YK [0,1,2] (fun g=> [(4,.it .i64 g)]) 0 (clR L t f) lz oU)])) (ae bC (ae bQ (ae oF aq))) (aB dz aD) (eh iV) (Uw L t f hL) (by kernel_rfl)
theorem SB:kL Tryz.prog 155 Wz:=
 nK (m:=fun x=> [.key x.1,.key x.2]) Hm (fun _=>rfl) (fun _ _=>rfl) (fun x=>aY (inl:=(fun f=>f==195||f==194||f==197||f==200)) (ann:=aQ) (ae bC (ae bQ (ae oF aq))) (aB dz aD) (eh iV) (Kz x.1 x.2) (by kernel_rfl)) (fun x=>aY (inl:=(fun f=>f==195||f==194||f==197||f==200)) (ann:=aQ) (ae bC (ae bQ (ae oF aq))) (aB dz aD) (eh iV) (Lq x.1 x.2) (by kernel_rfl)) fun L x hL _ _=>SL L x.1 x.2 hL
end Go.Proofs.YtlblcfaclmpekaaGreat
namespace Go.Sx
def aW (L:List Obj) (k:Key) (c:Bool):Int:=if aC L k 3 false=0 then(if(c&& !decide (k.rights=0))=true then 191 else 0)else aC L k 3 false
def cz (i n:Int):Bool:=decide (0<=i)&&decide (0<=n)&&decide (i<=64)&&decide (n<=64-i)
def cy (L:List Obj) (k:Key) (i n:Int):Int:=if aW L k false=0 then(if cz i n then 0 else 4)else aW L k false
def ec (L:List Obj) (k:Key) (i n:Int):ByteArray:=if cy L k i n=0 then xB (aj L k.oid.toNat free).bytes i.toNat (i+n).toNat else⟨#[]⟩
def jS (o:Obj) (b:Bytes):Obj:= {o with bytes:=b}
def tU (L:List Obj) (k:Key) (b:Bytes):List Obj:=cA L k.oid.toNat (jS (aj L k.oid.toNat free) b)
def cM (L:List Obj) (k:Key) (i:Int) (s:ByteArray):Int:=if aW L k true=0 then(if cz i (bN s)then 0 else 4)else aW L k true
def eX (L:List Obj) (k:Key) (i:Int) (s:ByteArray):List Obj:=if cM L k i s=0 then tU L k (sS (aj L k.oid.toNat free).bytes i.toNat s.size s)else L
def fl (L:List Obj) (k:Key):List Obj:=if aW L k true=0 then tU L k fa else L
def cV (L:List Obj) (t f:Key):Int:=if aW L t true=0 then aW L f false else aW L t true
def fA (L:List Obj) (t f:Key):List Obj:=if cV L t f=0 then tU L t (aj L f.oid.toNat free).bytes else L
def aw (s:ByteArray):Prop:=(s.size:Int)<=9223372036854775807
def Fc (v:V):Option ByteArray:=match v with
 | .st s=>some s
 |_=>none
theorem xI:sV Fc V.st:=fun v x h=>by
 cases v<;>simp only[Fc,aa0,reduceCtorEq]at h
 subst h;exact⟨fun _=>rfl,fun _=>id⟩
def zA:Arg ByteArray:=D3 Fc V.st
theorem aal:mT zA:=sC xI (fun _=>rfl) fun v x h=>by cases v<;>simp[Fc]at h;rfl
def A1 (l:List V):Option (Key×Int×ByteArray):=match l with
 | [a,b,c]=>match rK a with
   |some k=>match rI .i64 b with
    |some i=>match Fc c with
     |some s=>some (k,i,s)
     |none=>none
    |none=>none
   |none=>none
 |_=>none
theorem vA:∀l x,A1 l=some x->fc l [.key x.1,.it .i64 x.2.1,.st x.2.2]:=fun l x h=>by
 unfold A1 at h;split at h
 ·split at h
  ·rename_i h1;split at h
   ·rename_i h2;split at h<;>simp only[aa0,reduceCtorEq]at h
    rename_i h3;subst h;exact fc.rd gH h1 (fc.rd (gi .i64) h2 (fc.rd xI h3 fc.nil))
   ·simp at h
  ·simp at h
 ·simp at h
def Ft:Ct:=Sg (rI .i64) (rI .i64) fun i n=> .bo (cz i n)
def W9:Ct:=ti (bc As (bc kA (bc bA gK))) (fun _=>none) fun x=> .it .i64 (aW x.1 x.2.1 x.2.2.1)
def Up:Ct:=ti (bc sA (bc kA (bc iA (bc iA gK)))) (fun _=>none) fun x=> .tp [.st (ec (Dx x.1) x.2.1 x.2.2.1 x.2.2.2.1),.it .i64 (cy (Dx x.1) x.2.1 x.2.2.1 x.2.2.2.1)]
def Z6:kc:=Jd A1 (fun L x=>ar L/\aw x.2.2) (fun L x=> .it .i64 (cM L x.1 x.2.1 x.2.2)) fun L x=>eX L x.1 x.2.1 x.2.2
def Xa:kc:=Jd rdK (fun L _=>ar L) (fun L x=> .it .i64 (aW L x true)) fun L x=>fl L x
def Za:kc:=Jd UH (fun L _=>ar L) (fun L x=> .it .i64 (cV L x.1 x.2)) fun L x=>fA L x.1 x.2
theorem N1 {o:Obj} {n:Int} {b:Bytes} (h:bP o n=true) (hk:o.kind=1\/o.kind=2):bP (jS o b) n=true:=by
 rw[dS]at h⊢;simp only[jS];obtain⟨a1,a2,a3,a4,a5,a6,a7,a8,a9,a10,a11⟩:=h;exact⟨a1,a2,a3,a4,a5,a6,a7,a8,a9,a10,fun i hi=> .inl hk⟩
theorem Jb {L:List Obj} {k:Key} (h:aU L k=true) (h2:k.kind=3):(aj L k.oid.toNat free).kind=2:=by
 rw[(eg h).2.2.2.2];unfold gB;rw[aa8 (by have:=(yx h).1;omega),aa9 h2]
theorem rL {L:List Obj} {k:Key} {b:Bytes} (hL:ar L) (h:aU L k=true) (h2:k.kind=3):fJ L k.oid (jS (aa L k) b)=0/\cN L k.oid (jS (aa L k) b)=tU L k b/\ar (tU L k b):=by
 obtain⟨b1,b2,b3,b4,_⟩:=eg h;have hr:=fR.1 hL;have ho:=N1 (b:=b) (hr.2.2 k.oid.toNat (by omega)) (.inr (Jb h h2))
 obtain⟨p1,p2⟩:=uB (L:=L) (o:=jS (aj L k.oid.toNat free) b) (lE.2 ⟨b2,b3⟩) (ry ho).symm;rw[b4];refine⟨p1,p2,?_⟩;refine fR.2 ?_;unfold tU;have hl:(cA L k.oid.toNat (jS (aj L k.oid.toNat free) b)).length=L.length:=by simp[cA]
 rw[hl];refine⟨hr.1,hr.2.1,fun i hi=>?_⟩
 by_cases e:i=k.oid.toNat
 ·subst e;rw[show aj (cA L k.oid.toNat (jS (aj L k.oid.toNat free) b)) k.oid.toNat free=jS (aj L k.oid.toNat free) b by simp[aj,cA,aa7,hi]]
  exact ho
 ·rw[show aj (cA L k.oid.toNat (jS (aj L k.oid.toNat free) b)) i free=aj L i free by simp[aj,cA,aa7,List.getElem?_set,Ne.symm e]]
  exact hr.2.2 i hi
theorem CP {L:List Obj} {k:Key} (h:aU L k=true) (h2:k.kind=3):0<=k.rights/\k.rights<=1:=by
 have:=je (eg h).1;rw[h2]at this;exact this
theorem Yi {r:Int} (h0:0<=r) (h1:r<=1):bm .and .i64 r 1=r:=by
 have:r=0\/r=1:=by omega
 rcases this with rfl|rfl<;>decide
theorem nW {i n:Int}:cz i n=true↔0<=i/\0<=n/\i<=64/\n<=64-i:=by
 simp only[cz,aa2,aa3,and_assoc]
theorem On (b:Bytes) (i:Int) (s:ByteArray) (h:cz i (bN s)=true):Kn b i.toNat 64 s=sS b i.toNat s.size s:=by
 unfold Kn JE
 have hle:s.size<=64-i.toNat:=by
  obtain⟨h0,h1,h2,h3⟩:=nW.1 h;have h3:(s.size:Int)<=64-i:=h3;omega
 rw[show Nat.min s.size (64-i.toNat)=s.size from Nat.min_eq_left hle]
theorem Pp (b:Bytes):D8 b 0 64=fa:=by
 unfold D8 sS fa;ext i hi
 simp[sat_empty,hi]
theorem AG (b:Bytes) (i:Nat) (s:ByteArray):sS b i 0 s=b:=by
 apply Vector.ext
 intro j hj;have:=yp b i 0 s j hj;rw[aa8 (by omega)]at this
 simpa[Bytes.at,Array.getD_eq_getD_getElem?,hj]using this
theorem XY {a b:Bytes} (h:∀j,j<64->a.at j=b.at j):a=b:=by
 apply Vector.ext
 intro j hj;have:=h j hj;simpa[Bytes.at,Array.getD_eq_getD_getElem?,hj]using this
theorem BH (b:Bytes) (i g:Nat) (s:ByteArray) (h:i+g<64):(sS b i g s).put (i+g) (sat s g)=sS b i (g+1) s:=by
 apply XY
 intro j hj;rw[Bytes.fY _ _ _ _ h,yp _ _ _ _ _ hj,yp _ _ _ _ _ hj];by_cases e:j=i+g
 ·subst e;rw[aa9 rfl,aa9 (by omega),show i+g-i=g by omega]
 ·rw[aa8 e];by_cases e2:i<=j/\j<i+g
  ·rw[aa9 e2,aa9 (by omega)]
  ·rw[aa8 e2,aa8 (by omega)]
theorem pc {L:List Obj} {k:Key} (hL:ar L) (h:aU L k=true):dI L k.oid/\0<=k.oid/\k.oid<(ai L:Int)/\k.oid.toNat<ai L:=uM hL h
theorem na {L:List Obj} {k:Key} {c:Bool} (h:aW L k c=0):aU L k=true/\k.kind=3/\(c=true->k.rights=0):=by
 unfold aW at h;split at h
 ·rename_i h1;obtain⟨a1,a2,_⟩:=gr h1;split at h
  ·omega
  ·rename_i h2;exact⟨a1,a2,fun hc=>by simpa[hc]using h2⟩
 ·rename_i h1;exact absurd h h1
theorem XK {L:List Obj} {k:Key}:aW L k false=aC L k 3 false:=by
 unfold aW;split
 ·rename_i h;rw[h];rfl
 ·rfl
theorem Px {L:List Obj} {k:Key} {c:Bool} (h:decide (ak L=0)=true):aW L k c=1:=by
 have:aC L k 3 false=1:=Lc (by rw[aa3]at h;simp[h])
 unfold aW;rw[this,aa8 (by omega)]
theorem YN {L:List Obj} {k:Key} {c:Bool} (h:decide (ak L=0)=false) (h2:(!aU L k|| !decide (k.kind=3))=true):aW L k c=190:=by
 have h0:(!decide (0<ak L))=false:=by
  rw[decide_eq_false_iff_not]at h;unfold ak at h⊢;simp;omega
 have:aC L k 3 false=190:=IL h0 (by simpa using h2)
 unfold aW;rw[this,aa8 (by omega)]
theorem qJ {L:List Obj} {k:Key} (h2:(!aU L k|| !decide (k.kind=3))=false):aU L k=true/\k.kind=3:=by simpa using h2
theorem pg0 {L:List Obj} {k:Key} (h:decide (ak L=0)=false) (h2:(!aU L k|| !decide (k.kind=3))=false):aC L k 3 false=0:=by
 refine HR ?_ (by simpa using h2)
 rw[decide_eq_false_iff_not]at h;unfold ak at h⊢;simp;omega
theorem pgf {L:List Obj} {k:Key} (h:decide (ak L=0)=false) (h2:(!aU L k|| !decide (k.kind=3))=false):aW L k false=0:=by rw[XK];exact pg0 h h2
theorem pg3 {L:List Obj} {k:Key} (h:decide (ak L=0)=false) (h2:(!aU L k|| !decide (k.kind=3))=false) (h3:(!decide (bm BinOp.and IntKind.i64 k.rights 1=0))=true):aW L k true=191:=by
 obtain⟨a1,a2⟩:=qJ h2;have hr:=CP a1 a2;rw[Yi hr.1 hr.2]at h3;unfold aW;rw[aa9 (pg0 h h2),aa9 (by simpa using h3)]
theorem YQ {L:List Obj} {k:Key} (h:decide (ak L=0)=false) (h2:(!aU L k|| !decide (k.kind=3))=false) (h3:(!decide (bm BinOp.and IntKind.i64 k.rights 1=0))=false):aW L k true=0:=by
 obtain⟨a1,a2⟩:=qJ h2;have hr:=CP a1 a2;rw[Yi hr.1 hr.2]at h3;unfold aW;rw[aa9 (pg0 h h2),aa8 (by simpa using h3)]
theorem qM {L:List Obj} {k:Key} {i n e:Int} (h:aW L k false=e) (he:e≠0):(⟨#[]⟩:ByteArray)=ec L k i n/\e=cy L k i n:=by
 have:cy L k i n=e:=by unfold cy;rw[h,aa8 he]
 unfold ec;rw[this,aa8 he];exact⟨rfl,rfl⟩
theorem yG {L:List Obj} {k:Key} {i n:Int} (h:aW L k false=0) (hi:(!cz i n)=true):(⟨#[]⟩:ByteArray)=ec L k i n/\4=cy L k i n:=by
 rw[Bool.not_eq_true']at hi;have:cy L k i n=4:=by unfold cy;rw[aa9 h,hi];rfl
 unfold ec;rw[this];exact⟨rfl,rfl⟩
theorem xN {L:List Obj} {k:Key} {i n:Int} (h:aW L k false=0) (hi:(!cz i n)=false):aF IntKind.i64 (i+n)/\Cr i (i+n) 64/\xB (aj L k.oid.toNat free).bytes i.toNat (i+n).toNat=ec L k i n/\0=cy L k i n:=by
 rw[Bool.not_eq_false']at hi;obtain⟨a,b,c,d⟩:=nW.1 hi;have:cy L k i n=0:=by unfold cy;rw[aa9 h,hi];rfl
 unfold ec;rw[this];exact⟨by simp only[aF,bY];omega,⟨by omega,by omega,by omega⟩,rfl,rfl⟩
theorem wM {L:List Obj} {k:Key} {i e:Int} {z:ByteArray} (h:aW L k true=e) (he:e≠0):e=cM L k i z/\L=eX L k i z:=by
 have:cM L k i z=e:=by unfold cM;rw[h,aa8 he]
 unfold eX;rw[this,aa8 he];exact⟨rfl,rfl⟩
theorem Ma {L:List Obj} {k:Key} {i:Int} {z:ByteArray} (h:aW L k true=0) (hi:(!cz i (bN z))=true):4=cM L k i z/\L=eX L k i z:=by
 rw[Bool.not_eq_true']at hi;have:cM L k i z=4:=by unfold cM;rw[aa9 h,hi];rfl
 unfold eX;rw[this];exact⟨rfl,rfl⟩
theorem ZK {L:List Obj} {k:Key} {i:Int} {z:ByteArray} (hL:ar L) (h1:aU L k=true) (h2:k.kind=3) (h:aW L k true=0) (hi:(!cz i (bN z))=false):Cr i 64 64/\
  fJ L k.oid (jS (aa L k) (Kn (aa L k).bytes i.toNat (Int.toNat 64) z))=cM L k i z/\cN L k.oid (jS (aa L k) (Kn (aa L k).bytes i.toNat (Int.toNat 64) z))=eX L k i z:=by
 rw[Bool.not_eq_false']at hi;obtain⟨a,b,c,d⟩:=nW.1 hi;have hE:cM L k i z=0:=by unfold cM;rw[aa9 h,hi];rfl
 have hb:=On (aa L k).bytes i z hi;obtain⟨p1,p2,_⟩:=rL (b:=sS (aa L k).bytes i.toNat z.size z) hL h1 h2;have h64:Int.toNat 64=64:=rfl;rw[h64,hb,p1,p2,hE];refine⟨⟨by omega,by omega,by omega⟩,rfl,?_⟩
 unfold eX;rw[hE,aa9 rfl,(eg h1).2.2.2.1]
theorem zW {L:List Obj} {k:Key} {e:Int} (h:aW L k true=e) (he:e≠0):e=aW L k true/\L=fl L k:=by
 refine⟨h.symm,?_⟩;unfold fl;rw[h,aa8 he]
theorem ZL {L:List Obj} {k:Key} (hL:ar L) (h1:aU L k=true) (h2:k.kind=3) (h:aW L k true=0):Cr 0 64 64/\
  fJ L k.oid (jS (aa L k) (D8 (aa L k).bytes (Int.toNat 0) (Int.toNat 64)))=aW L k true/\cN L k.oid (jS (aa L k) (D8 (aa L k).bytes (Int.toNat 0) (Int.toNat 64)))=fl L k:=by
 have h64:Int.toNat 64=64:=rfl;have h0:Int.toNat 0=0:=rfl;obtain⟨p1,p2,_⟩:=rL (b:=fa) hL h1 h2;rw[h64,h0,Pp,p1,p2,h];refine⟨⟨by omega,by omega,by omega⟩,rfl,?_⟩
 unfold fl;rw[aa9 h]
theorem wD {L:List Obj} {t f:Key} {e:Int} (h:aW L t true=e) (he:e≠0):e=cV L t f/\L=fA L t f:=by
 have:cV L t f=e:=by unfold cV;rw[h,aa8 he]
 unfold fA;rw[this,aa8 he];exact⟨rfl,rfl⟩
theorem Iv {L:List Obj} {t f:Key} {e:Int} (h:aW L t true=0) (h2:aW L f false=e) (he:e≠0):e=cV L t f/\L=fA L t f:=by
 have:cV L t f=e:=by unfold cV;rw[aa9 h,h2]
 unfold fA;rw[this,aa8 he];exact⟨rfl,rfl⟩
theorem ZR {L:List Obj} {t f:Key} (hL:ar L) (h1:aU L t=true) (h2:t.kind=3) (h:aW L t true=0) (g1:aU L f=true) (g:aW L f false=0):
  fJ L t.oid (jS (aa L t) (aa L f).bytes)=cV L t f/\cN L t.oid (jS (aa L t) (aa L f).bytes)=fA L t f:=by
 have hE:cV L t f=0:=by unfold cV;rw[aa9 h,g]
 obtain⟨p1,p2,_⟩:=rL (b:=(aa L f).bytes) hL h1 h2;rw[p1,p2,hE];refine⟨rfl,?_⟩;unfold fA;rw[hE,aa9 rfl,(eg g1).2.2.2.1]
structure ZT where
 kind:Int
 pos:Int
 num:Int
 key:Key
 other:Key
 bytes:ByteArray
def ZT.wf (x:ZT):Prop:=bY .i64 x.kind/\bY .i64 x.pos/\bY .i64 x.num/\x.key.wf/\x.other.wf/\aw x.bytes
def Cq (L:List Obj) (a:ZT):Bool:=
 if a.kind=1 then false else if a.kind=2 then decide (cM L a.key a.pos a.bytes=0)else if a.kind=3 then decide (aW L a.key true=0)else decide (cV L a.key a.other=0)
def LF (L:List Obj) (a:ZT):List Obj:=
 if a.kind=1 then L else if a.kind=2 then eX L a.key a.pos a.bytes else if a.kind=3 then fl L a.key else fA L a.key a.other
def tv (L:List Obj) (k:Key) (i:Int) (s:ByteArray) (g:Int):Obj:=jS (aj L k.oid.toNat free) (sS (aj L k.oid.toNat free).bytes i.toNat g.toNat s)
def qN (s:ByteArray) (g:Int):Prop:=0<=g/\g<=(s.size:Int)
def xm (s:ByteArray) (g:Int):Nat:=s.size-g.toNat
theorem T8 {L:List Obj} {k:Key} {i:Int} {s:ByteArray}:aj L k.oid.toNat free=tv L k i s 0:=by
 unfold tv jS;rw[show(0:Int).toNat=0 from rfl,AG]
theorem S8 {L:List Obj} {k:Key} {i:Int} {s:ByteArray} {g:Int} (h0:0<=i) (h1:0<=g) (h:i+g<64):jS (tv L k i s g) ((tv L k i s g).bytes.put (i+g).toNat (sat s g.toNat))=tv L k i s (g+1):=by
 unfold tv jS;simp only;rw[show(i+g).toNat=i.toNat+g.toNat by omega,show(g+1).toNat=g.toNat+1 by omega,BH _ _ _ _ (by omega)]
theorem jr (s:ByteArray):Ax s s=true:=by simp[Ax]
end Go.Sx
namespace Go.Proofs.YtlblcfaclmpekaaGreat
open Go.Sx
theorem JQ (i n:Int):
 ((decide (0<=i)&&decide (0<=n)&&decide (i<=64))=true->aF IntKind.i64 (64-i))/\
   (decide (0<=i)&&decide (0<=n)&&decide (i<=64)&&decide (n<=64-i))=cz i n:=by
 unfold cz;refine⟨fun h=>?_,?_⟩
 ·simp only[aa2,aa3]at h;simp only[aF,bY];omega
 ·rfl
theorem pj:cq Tryz.prog 205 Ft:=
 nQ (gi .i64) (gi .i64) (fun _ _=>rfl) fun i n _ _=>ba (inl:=bx) (ann:=aQ) aq (JQ i n) (by kernel_rfl)
theorem FX (i n:Int):
 ((decide (0<=i)&&decide (0<=n)&&decide (i<=64)&&decide (n<=64))=true->aF IntKind.i64 (i+n))/\
   (decide (0<=i)&&decide (0<=n)&&decide (i<=64)&&decide (n<=64)&&decide (i+n<=64))=cz i n:=by
 unfold cz;refine⟨fun h=>?_,?_⟩
 ·simp only[aa2,aa3]at h;simp only[aF,bY]at *;omega
 ·rw[Bool.eq_iff_iff];simp only[aa2,aa3];omega
theorem tY:cq Tryz.prog 138 Ft:=
 nQ (gi .i64) (gi .i64) (fun _ _=>rfl) fun i n _ _=>ba (inl:=bx) (ann:=aQ) aq (FX i n) (by kernel_rfl)
theorem QU (L:List Sx.Obj) (k:Key) (c:Bool):
 ((decide (aC L k 3 false=0)&&c&& !decide (k.rights=0))=true->191=aW L k c)/\
   ((decide (aC L k 3 false=0)&&c&& !decide (k.rights=0))=false->aC L k 3 false=aW L k c):=by
 unfold aW;refine⟨fun h=>?_,fun h=>?_⟩
 ·simp only[aa2,aa3]at h;rw[aa9 h.1.1,aa9 (by rw[h.1.2,Bool.true_and];exact h.2)]
 ·split
  ·rename_i h1;rw[decide_eq_true h1,Bool.true_and]at h;rw[aa8 (by rw[h];simp),h1]
  ·rfl
theorem uO:cq Tryz.prog 137 W9:=
 eW (aA jb (aA iF (aA Ff bV))) (fun _=>rfl) fun a hq hok=>by
  obtain⟨L,k,c,_⟩:=a;exact ba (inl:=bx) (ann:=aQ) (ae pq aq) (QU L k c) (by kernel_rfl)
theorem J9 (k:Key) (i n:Int):
 true=true/\aba (decide (ak []=0)) ((⟨#[]⟩:ByteArray)=ec [] k i n/\1=cy [] k i n) (aba (!aU [] k|| !decide (k.kind=3)) ((⟨#[]⟩:ByteArray)=ec [] k i n/\190=cy [] k i n) (aba (!cz i n) ((⟨#[]⟩:ByteArray)=ec [] k i n/\4=cy [] k i n) (aF IntKind.i64 (i+n)/\Cr i (i+n) 64/\xB (aa [] k).bytes i.toNat (i+n).toNat=ec [] k i n/\0=cy [] k i n))):=by
 delta aba
 refine⟨rfl,fun h=>qM (Px h) (by omega),fun h=>⟨fun h2=>qM (YN h h2) (by omega),fun h2=>⟨fun h3=>yG (pgf h h2) h3,fun h3=>?_⟩⟩⟩
 rw[(eg (qJ h2).1).2.2.2.1];exact xN (pgf h h2) h3
theorem Mg (L:List Sx.Obj) (k:Key) (i n:Int):
 true=true/\aba (decide (ak L=0)) ((⟨#[]⟩:ByteArray)=ec L k i n/\1=cy L k i n) (aba (!aU L k|| !decide (k.kind=3)) ((⟨#[]⟩:ByteArray)=ec L k i n/\190=cy L k i n) (aba (!cz i n) ((⟨#[]⟩:ByteArray)=ec L k i n/\4=cy L k i n) (aF IntKind.i64 (i+n)/\Cr i (i+n) 64/\xB (aa L k).bytes i.toNat (i+n).toNat=ec L k i n/\0=cy L k i n))):=by
 delta aba
 refine⟨rfl,fun h=>qM (Px h) (by omega),fun h=>⟨fun h2=>qM (YN h h2) (by omega),fun h2=>⟨fun h3=>yG (pgf h h2) h3,fun h3=>?_⟩⟩⟩
 rw[(eg (qJ h2).1).2.2.2.1];exact xN (pgf h h2) h3
theorem pd:cq Tryz.prog 203 Up:=
 eW (aA s5 (aA iF (aA dN (aA dN bV)))) (fun _=>rfl) fun a hq hok=>by
  obtain⟨S,k,i,n,_⟩:=a;cases S with
  |none=>exact bj (inl:=(fun f=>f==204)) (ann:=aQ) (ae bC (ae bQ (ae pj aq))) aD (J9 k i n) (by kernel_rfl)
  |some L=>exact bj (inl:=(fun f=>f==204)) (ann:=aQ) (ae bC (ae bQ (ae pj aq))) aD (Mg L k i n) (by kernel_rfl)
theorem Rm (k:Key) (i:Int) (s:ByteArray):
 abb (aba (decide (ak []=0)) (1=cM [] k i s) (aba (!aU [] k|| !decide (k.kind=3)) (190=cM [] k i s) (aba (!decide (bm BinOp.and IntKind.i64 k.rights 1=0)) (191=cM [] k i s) (aF IntKind.i64 (bN s)/\aba (!cz i (bN s)) (4=cM [] k i s) (abb (abb (Cr i 64 64/\abb (fJ [] k.oid {kind:=(aa [] k).kind,count:=(aa [] k).count,calls:=(aa [] k).calls,slots:=(aa [] k).slots,bytes:=Kn (aa [] k).bytes i.toNat (Int.toNat 64) s}=cM [] k i s)))))))):=by
 delta aba abb
 exact⟨rfl,fun h=>(wM (Px h) (by omega)).1,fun h=>absurd h (by decide)⟩
theorem SM (k:Key) (i:Int) (s:ByteArray):
 abb (aba (decide (ak []=0)) (1=cM [] k i s) (aba (!aU [] k|| !decide (k.kind=3)) (190=cM [] k i s) (aba (!decide (bm BinOp.and IntKind.i64 k.rights 1=0)) (191=cM [] k i s) (aF IntKind.i64 (bN s)/\aba (!cz i (bN s)) (4=cM [] k i s) (abb (abb (Cr i 64 64/\abb False))))))):=by
 delta aba abb
 exact⟨rfl,fun h=>(wM (Px h) (by omega)).1,fun h=>absurd h (by decide)⟩
theorem WS (L:List Sx.Obj) (k:Key) (i:Int) (s:ByteArray) (hL:ar L) (hs:aw s):
 abb (aba (decide (ak L=0)) (1=cM L k i s/\L=eX L k i s) (aba (!aU L k|| !decide (k.kind=3)) (190=cM L k i s/\L=eX L k i s) (aba (!decide (bm BinOp.and IntKind.i64 k.rights 1=0)) (191=cM L k i s/\L=eX L k i s) (aF IntKind.i64 (bN s)/\aba (!cz i (bN s)) (4=cM L k i s/\L=eX L k i s) (abb (abb (Cr i 64 64/\abb (fJ L k.oid {kind:=(aa L k).kind,count:=(aa L k).count,calls:=(aa L k).calls,slots:=(aa L k).slots,bytes:=Kn (aa L k).bytes i.toNat (Int.toNat 64) s}=cM L k i s/\cN L k.oid {kind:=(aa L k).kind,count:=(aa L k).count,calls:=(aa L k).calls,slots:=(aa L k).slots,bytes:=Kn (aa L k).bytes i.toNat (Int.toNat 64) s}=eX L k i s)))))))):=by
 delta aba abb
 refine⟨rfl,fun h=>wM (Px h) (by omega),fun h=>⟨fun h2=>wM (YN h h2) (by omega),fun h2=>⟨fun h3=>wM (pg3 h h2 h3) (by omega),fun h3=>⟨?_,fun h4=>Ma (YQ h h2 h3) h4,fun h4=>?_⟩⟩⟩⟩
 ·unfold aw at hs;simp only[aF,bY,bN];omega
 ·obtain⟨a,b,c⟩:=ZK hL (qJ h2).1 (qJ h2).2 (YQ h h2 h3) h4;exact⟨rfl,rfl,a,rfl,b,c⟩
theorem WZ (L:List Sx.Obj) (k:Key) (i:Int) (s:ByteArray) (hL:ar L) (hs:aw s):an Tryz.prog 160 [.lp 0 0,.key k,.it .i64 i,.st s] [.store tS eS L] (B8 (.it .i64 (cM L k i s)) (eX L k i s)) (fun _ _=>False):=
 bj (inl:=(fun f=>f==204||f==206||f==207)) (ann:=aQ) (ae bC (ae bQ (ae pj aq))) (aB dz aD) (WS L k i s hL hs) (by kernel_rfl)
theorem B9:kL Tryz.prog 160 Z6:=
 nK (m:=fun x=> [.key x.1,.it .i64 x.2.1,.st x.2.2]) vA (fun _=>rfl) (fun _ _=>rfl) (fun x=>bj (inl:=(fun f=>f==204||f==206||f==207)) (ann:=aQ) (ae bC (ae bQ (ae pj aq))) (aB dz aD) (Rm x.1 x.2.1 x.2.2) (by kernel_rfl)) (fun x=>bj (inl:=(fun f=>f==204||f==206||f==207)) (ann:=aQ) (ae bC (ae bQ (ae pj aq))) (aB dz aD) (SM x.1 x.2.1 x.2.2) (by kernel_rfl)) fun L x hL _ _=>WZ L x.1 x.2.1 x.2.2 hL.1 hL.2
theorem Mz (k:Key):
 abb (aba (decide (ak []=0)) (1=aW [] k true) (aba (!aU [] k|| !decide (k.kind=3)) (190=aW [] k true) (aba (!decide (bm BinOp.and IntKind.i64 k.rights 1=0)) (191=aW [] k true) (abb (abb (Cr 0 64 64/\abb (fJ [] k.oid {kind:=(aa [] k).kind,count:=(aa [] k).count,calls:=(aa [] k).calls,slots:=(aa [] k).slots,bytes:=D8 (aa [] k).bytes (Int.toNat 0) (Int.toNat 64)}=aW [] k true))))))):=by
 delta aba abb
 exact⟨rfl,fun h=>(zW (Px h) (by omega)).1,fun h=>absurd h (by decide)⟩
theorem LP (k:Key):
 abb (aba (decide (ak []=0)) (1=aW [] k true) (aba (!aU [] k|| !decide (k.kind=3)) (190=aW [] k true) (aba (!decide (bm BinOp.and IntKind.i64 k.rights 1=0)) (191=aW [] k true) (abb (abb (Cr 0 64 64/\abb False)))))):=by
 delta aba abb
 exact⟨rfl,fun h=>(zW (Px h) (by omega)).1,fun h=>absurd h (by decide)⟩
theorem RJ (L:List Sx.Obj) (k:Key) (hL:ar L):
 abb (aba (decide (ak L=0)) (1=aW L k true/\L=fl L k) (aba (!aU L k|| !decide (k.kind=3)) (190=aW L k true/\L=fl L k) (aba (!decide (bm BinOp.and IntKind.i64 k.rights 1=0)) (191=aW L k true/\L=fl L k) (abb (abb (Cr 0 64 64/\abb (fJ L k.oid {kind:=(aa L k).kind,count:=(aa L k).count,calls:=(aa L k).calls,slots:=(aa L k).slots,bytes:=D8 (aa L k).bytes (Int.toNat 0) (Int.toNat 64)}=aW L k true/\cN L k.oid {kind:=(aa L k).kind,count:=(aa L k).count,calls:=(aa L k).calls,slots:=(aa L k).slots,bytes:=D8 (aa L k).bytes (Int.toNat 0) (Int.toNat 64)}=fl L k))))))):=by
 delta aba abb
 refine⟨rfl,fun h=>zW (Px h) (by omega),fun h=>⟨fun h2=>zW (YN h h2) (by omega),fun h2=>⟨fun h3=>zW (pg3 h h2 h3) (by omega),fun h3=>?_⟩⟩⟩
 obtain⟨a,b,c⟩:=ZL hL (qJ h2).1 (qJ h2).2 (YQ h h2 h3);exact⟨rfl,rfl,a,rfl,b,c⟩
theorem Us (L:List Sx.Obj) (k:Key) (hL:ar L):an Tryz.prog 162 [.lp 0 0,.key k] [.store tS eS L] (B8 (.it .i64 (aW L k true)) (fl L k)) (fun _ _=>False):=
 bj (inl:=(fun f=>f==204||f==206||f==208)) (ann:=aQ) (ae bC (ae bQ aq)) (aB dz aD) (RJ L k hL) (by kernel_rfl)
theorem Ri:kL Tryz.prog 162 Xa:=
 nK (m:=fun x=> [.key x]) O7 (fun _=>rfl) (fun _ _=>rfl) (fun x=>bj (inl:=(fun f=>f==204||f==206||f==208)) (ann:=aQ) (ae bC (ae bQ aq)) (aB dz aD) (Mz x) (by kernel_rfl)) (fun x=>bj (inl:=(fun f=>f==204||f==206||f==208)) (ann:=aQ) (ae bC (ae bQ aq)) (aB dz aD) (LP x) (by kernel_rfl)) fun L x hL _ _=>Us L x hL
theorem Uu (t f:Key):
 abb (aba (decide (ak []=0)) (1=cV [] t f) (aba (!aU [] t|| !decide (t.kind=3)) (190=cV [] t f) (aba (!decide (bm BinOp.and IntKind.i64 t.rights 1=0)) (191=cV [] t f) (abb (aba (decide (ak []=0)) (1=cV [] t f) (aba (!aU [] f|| !decide (f.kind=3)) (190=cV [] t f) (abb (abb (abb (fJ [] t.oid {kind:=(aa [] t).kind,count:=(aa [] t).count,calls:=(aa [] t).calls,slots:=(aa [] t).slots,bytes:=(aa [] f).bytes}=cV [] t f)))))))))):=by
 delta aba abb
 exact⟨rfl,fun h=>(wD (Px h) (by omega)).1,fun h=>absurd h (by decide)⟩
theorem R1 (t f:Key):
 abb (aba (decide (ak []=0)) (1=cV [] t f) (aba (!aU [] t|| !decide (t.kind=3)) (190=cV [] t f) (aba (!decide (bm BinOp.and IntKind.i64 t.rights 1=0)) (191=cV [] t f) (abb (aba (decide (ak []=0)) (1=cV [] t f) (aba (!aU [] f|| !decide (f.kind=3)) (190=cV [] t f) (abb (abb (abb False))))))))):=by
 delta aba abb
 exact⟨rfl,fun h=>(wD (Px h) (by omega)).1,fun h=>absurd h (by decide)⟩
theorem VV (L:List Sx.Obj) (t f:Key) (hL:ar L):
 abb (aba (decide (ak L=0)) (1=cV L t f/\L=fA L t f) (aba (!aU L t|| !decide (t.kind=3)) (190=cV L t f/\L=fA L t f) (aba (!decide (bm BinOp.and IntKind.i64 t.rights 1=0)) (191=cV L t f/\L=fA L t f) (abb (aba (decide (ak L=0)) (1=cV L t f/\L=fA L t f) (aba (!aU L f|| !decide (f.kind=3)) (190=cV L t f/\L=fA L t f) (abb (abb (abb (fJ L t.oid {kind:=(aa L t).kind,count:=(aa L t).count,calls:=(aa L t).calls,slots:=(aa L t).slots,bytes:=(aa L f).bytes}=cV L t f/\cN L t.oid {kind:=(aa L t).kind,count:=(aa L t).count,calls:=(aa L t).calls,slots:=(aa L t).slots,bytes:=(aa L f).bytes}=fA L t f)))))))))):=by
 delta aba abb
 refine⟨rfl,fun h=>wD (Px h) (by omega),fun h=>⟨fun h2=>wD (YN h h2) (by omega),fun h2=>⟨fun h3=>wD (pg3 h h2 h3) (by omega),fun h3=>⟨rfl,fun h'=>?_,fun _=>⟨fun h5=>Iv (YQ h h2 h3) (YN h h5) (by omega),fun h5=>?_⟩⟩⟩⟩⟩
 ·rw[h]at h';simp at h'
 ·obtain⟨b,c⟩:=ZR hL (qJ h2).1 (qJ h2).2 (YQ h h2 h3) (qJ h5).1 (pgf h h5);exact⟨rfl,rfl,rfl,b,c⟩
theorem Wc (L:List Sx.Obj) (t f:Key) (hL:ar L):an Tryz.prog 164 [.lp 0 0,.key t,.key f] [.store tS eS L] (B8 (.it .i64 (cV L t f)) (fA L t f)) (fun _ _=>False):=
 bj (inl:=(fun f=>f==204||f==206||f==209)) (ann:=aQ) (ae bC (ae bQ aq)) (aB dz aD) (VV L t f hL) (by kernel_rfl)
theorem X9:kL Tryz.prog 164 Za:=
 nK (m:=fun x=> [.key x.1,.key x.2]) Hm (fun _=>rfl) (fun _ _=>rfl) (fun x=>bj (inl:=(fun f=>f==204||f==206||f==209)) (ann:=aQ) (ae bC (ae bQ aq)) (aB dz aD) (Uu x.1 x.2) (by kernel_rfl)) (fun x=>bj (inl:=(fun f=>f==204||f==206||f==209)) (ann:=aQ) (ae bC (ae bQ aq)) (aB dz aD) (R1 x.1 x.2) (by kernel_rfl)) fun L x hL _ _=>Wc L x.1 x.2 hL
end Go.Proofs.YtlblcfaclmpekaaGreat
