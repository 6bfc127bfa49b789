import Derived.Test.YtlblcfaclmpekaaGreatSxF
import Derived.RecoverIn
set_option linter.unusedSimpArgs false
set_option linter.unusedVariables false
set_option maxRecDepth 100000
namespace Go.Proofs.YtlblcfaclmpekaaGreat
open Go.Sx
open Go.RowKit (Below)
theorem fx {P:Program} {ro:Option Nat}:(FF P ro).round=ro:=rfl
theorem bP {P:Program} {ops:Array Oper} {Q:Exit->Act->World->Prop} {i:Nat} {rest:List Nat} {a:Act} {w w':World} {o:Oper} {v:Value} (ho:ops[i]? =some o) (hg:o.guard=none)
  (hr:(execOp a.eval o).run P w= .ok (.value v) w') (hc:∀c,o.op≠ .call c) (h:wpOpsIn (FF P none) 0 P ops Q rest (a.put o.dst v) w'):wpOpsIn (FF P none) 0 P ops Q (i::rest) a w:=by
 simp only[wpOpsIn,ho];rw[Xv (by simp[Region.wanted,hg])]
 refine dH (ro:=none) (by simp) (fun f hf=>by
  unfold Oper.about at hf;split at hf
  ·rename_i c hc';exact absurd hc' (hc c)
  ·simp at hf) ?_
 rw[hr];exact h
theorem jo {P:Program} {ops:Array Oper} {Q:Exit->Act->World->Prop} {i:Nat} {rest:List Nat} {a:Act} {w w':World} {o:Oper} (ho:ops[i]? =some o) (hg:o.guard=none)
  (hr:(execOp a.eval o).run P w= .ok .skip w') (hc:∀c,o.op≠ .call c) (h:wpOpsIn (FF P none) 0 P ops Q rest (a.put o.dst undef) w'):wpOpsIn (FF P none) 0 P ops Q (i::rest) a w:=by
 simp only[wpOpsIn,ho];rw[Xv (by simp[Region.wanted,hg])]
 refine dH (ro:=none) (by simp) (fun f hf=>by
  unfold Oper.about at hf;split at hf
  ·rename_i c hc';exact absurd hc' (hc c)
  ·simp at hf) ?_
 rw[hr];exact h
theorem bz (a:Act) (d:Option Nat) (v:Value):(a.put d v).tmps.size=a.tmps.size:=by cases d<;>simp[Act.put]
theorem bO (a:Act) (v:Value) (o:Operand):(a.put none v).eval o=a.eval o:=rfl
theorem bB (a:Act) (i j:Nat) (v:Value) (h:i<a.tmps.size):(a.put (some i) v).eval (.tmp j)=if i=j then v else a.eval (.tmp j):=by
 simp only[Act.put,Act.eval];by_cases e:i=j
 ·subst e;simp[h]
 ·simp[e]
theorem cW {P:Program} {f a b:Nat} (h:tg P f a b) (hb:b<1000000:=by decide):∀p∈ [(f,a,b)],uy P p.1 p.2.1 p.2.2:=fun p hp=>by
 simp only[List.mem_singleton]at hp;subst hp;refine⟨h.1,fun b off ty cs cs' k n w _ _ h1 h2=>h.2 b off ty cs cs' k n w h1 fun w1 hw1=>?_⟩
 have:=h2 w1 hw1;simp only[Af,Nh,Xv hb]at this;exact this
theorem dF {P:Program} {f a b:Nat} (h:Lm P f a b):∀p∈ [(f,a,b+1000000)],uy P p.1 p.2.1 p.2.2:=fun p hp=>by
 simp only[List.mem_singleton]at hp;subst hp;refine⟨h.1,fun c off ty cs cs' k n w hk hn h1 h2=>?_⟩
 obtain rfl:k= .i64:=hk.resolve_left (by simp)
 refine h.2 c off ty cs cs' n w hn h1 fun w1 hw1=>?_
 have:=h2 w1 hw1;simp only[Af,Nh,Xu (show¬b+1000000<1000000 by omega),Nat.add_sub_cancel]at this
 exact this
end Go.Proofs.YtlblcfaclmpekaaGreat
set_option maxRecDepth 100000
namespace Go.Proofs.YtlblcfaclmpekaaGreat
open Go.Sx
open Go.RowKit (Below)
theorem tE (k:IntKind) (n:Int) (w:World) (t:Nat):(Instr.typeAssert (.iface 280 (.agg #[.int k n])) t 280 true).run Tryz.prog w= .ok (.tuple #[.agg #[.int k n],.bool true]) w:=by
 simp[Instr.typeAssert,go_sem]
theorem gj:tg Tryz.prog 193 280 26:=by
 refine⟨fun p w=>?_,fun b off ty cs₁ cs' k n w hb hs=>?_⟩
 ·refine callsDIn_of_wpSIn Go.Proofs.Tryz.func193 rfl (by show(Tryz.prog.funcs[193]?).isSome=true;kernel_rfl) fun c₀ cs hu=>?_
  apply wpSIn_seq
  apply wpSIn_region
  simp[wpOpsSIn,go_sem,recoverD,hu,Exit.thenS];refine wpSIn_of_wpIn rfl (wpIn_block (wpIn_seq (wpIn_region ?_)));simp[wpOpsIn,go_sem,Exit.then,fx];refine wpIn_cond_true (by simp[Act.eval,Array.replicate]) (wpIn_region ?_)
  simp[wpOpsIn,go_sem,Exit.inBlock,fx];cases c₀;simp_all[bodyPostS,results,Go.Proofs.Tryz.f193]
 ·refine callsDIn_of_wpSIn Go.Proofs.Tryz.func193 rfl (by show(Tryz.prog.funcs[193]?).isSome=true;kernel_rfl) fun c₀ cs hu=>?_
  apply wpSIn_seq
  apply wpSIn_region
  simp[wpOpsSIn,go_sem,recoverD,hu,Exit.thenS];refine wpSIn_of_wpIn rfl (wpIn_block (wpIn_seq (wpIn_region ?_)));simp[wpOpsIn,go_sem,Exit.then,fx];refine wpIn_cond_false (by simp[Act.eval,Array.replicate]) ?_
  refine wpIn_seq (wpIn_region ?_);generalize hA:({tmps:=_,defers:= []}:Act)=A
  have hz:A.tmps.size=15:=by subst hA;simp
  have hdf:A.defers= []:=by subst hA;rfl
  have h0:A.eval (.tmp 0)= .pointer (some ⟨b,off,none⟩):=by subst hA;simp[Act.eval]
  have h5:A.eval (.tmp 5)= .iface 280 (.agg #[.int k n]):=by subst hA;simp[Act.eval]
  clear hA;have hbl:b<w.heap.size:=(Array.getElem?_eq_some_iff.1 hb).1
  have hb1:(w.alloc (.cells #[.int k n] 280)).heap[b]? =some (.cells cs₁ ty (0,0)):=
   (((Below.refl _ w).alloc (Nat.le_refl _) _).block b hbl).trans hb
  refine bP (P:=Tryz.prog) rfl rfl (v:= .tuple #[.agg #[.int k n],.bool true]) (w':=w) (by simp[execOp,h5,tE]) (by intro c;simp) ?_
  refine bP (P:=Tryz.prog) rfl rfl (v:= .bool true) (w':=w) (by simp[execOp,bB,bO,bz,hz,Instr.extract]) (by intro c;simp) ?_
  refine bP (P:=Tryz.prog) rfl rfl (v:= .agg #[.int k n]) (w':=w) (by simp[execOp,bB,bO,bz,hz,Instr.extract]) (by intro c;simp) ?_
  show Code.wpIn _ _ _ _ _ _ _
  refine wpIn_cond_true (by simp[bB,bz,hz]) ?_
  refine wpIn_seq (wpIn_region ?_);refine bP (P:=Tryz.prog) rfl rfl (v:= .pointer (some ⟨w.heap.size,0,none⟩)) (w':=w.alloc (.cells #[.int .i64 0] 280)) (by simp[execOp,Instr.alloc,go_sem]) (by intro c;simp) ?_
  refine jo (P:=Tryz.prog) rfl rfl (w':=w.alloc (.cells #[.int k n] 280)) (by simp[execOp,bB,bO,bz,hz,go_sem]) (by intro c;simp) ?_
  show Code.wpIn _ _ _ _ _ _ _
  refine wpIn_region ?_;refine bP (P:=Tryz.prog) rfl rfl (v:= .pointer (some ⟨b,off,none⟩)) (w':=w.alloc (.cells #[.int k n] 280)) (by simp[execOp,bB,bO,bz,hz,h0]) (by intro c;simp) ?_
  refine bP (P:=Tryz.prog) rfl rfl (v:= .pointer (some ⟨w.heap.size,0,none⟩)) (w':=w.alloc (.cells #[.int k n] 280)) (by simp[execOp,bB,bO,bz,hz,go_sem]) (by intro c;simp) ?_
  refine bP (P:=Tryz.prog) rfl rfl (v:= .int k n) (w':=w.alloc (.cells #[.int k n] 280)) (by simp[execOp,bB,bO,bz,hz,go_sem]) (by intro c;simp) ?_
  refine bP (P:=Tryz.prog) rfl rfl (v:= .pointer (some ⟨b,off,none⟩)) (w':=w.alloc (.cells #[.int k n] 280)) (by simp[execOp,bB,bO,bz,hz]) (by intro c;simp) ?_
  refine jo (P:=Tryz.prog) rfl rfl (w':=(w.alloc (.cells #[.int k n] 280)).setRow b cs') (by simp[execOp,bB,bO,bz,hz,hs _ hb1]) (by intro c;simp) ?_
  have hbe:Below w.heap.size (w.setRow b cs') ((w.alloc (.cells #[.int k n] 280)).setRow b cs'):=by
   have hs1:∀(v:World) (c:Array Value),(v.setRow b c).heap.size=v.heap.size:=fun v c=>by simp[World.setRow]
   refine⟨rfl,rfl,rfl,by rw[hs1,hs1];exact((Below.refl _ w).alloc (Nat.le_refl _) _).size,fun j hj=>?_⟩
   by_cases e:j=b
   ·subst e;rw[gx _ _ _ _ _ hb1,gx _ _ _ _ _ hb]
   ·rw[setRow_other _ _ _ _ e,setRow_other _ _ _ _ e];exact((Below.refl _ w).alloc (Nat.le_refl _) _).block j hj
  refine⟨by simp only[put_defers];exact hdf,_,rfl,.tuple #[],by simp[results,Go.Proofs.Tryz.f193],⟨_,rfl⟩,rfl,hbe⟩
end Go.Proofs.YtlblcfaclmpekaaGreat
set_option maxRecDepth 100000
namespace Go.Proofs.YtlblcfaclmpekaaGreat
open Go.Sx
open Go.RowKit (Below)
theorem tY (k:IntKind) (n:Int) (w:World) (t:Nat):(Instr.typeAssert (.iface 283 (.agg #[.int k n])) t 283 true).run Tryz.prog w= .ok (.tuple #[.agg #[.int k n],.bool true]) w:=by
 simp[Instr.typeAssert,go_sem]
theorem fR:tg Tryz.prog 212 283 26:=by
 refine⟨fun p w=>?_,fun b off ty cs₁ cs' k n w hb hs=>?_⟩
 ·refine callsDIn_of_wpSIn Go.Proofs.Tryz.func212 rfl (by show(Tryz.prog.funcs[212]?).isSome=true;kernel_rfl) fun c₀ cs hu=>?_
  apply wpSIn_seq
  apply wpSIn_region
  simp[wpOpsSIn,go_sem,recoverD,hu,Exit.thenS];refine wpSIn_of_wpIn rfl (wpIn_block (wpIn_seq (wpIn_region ?_)));simp[wpOpsIn,go_sem,Exit.then,fx];refine wpIn_cond_true (by simp[Act.eval,Array.replicate]) (wpIn_region ?_)
  simp[wpOpsIn,go_sem,Exit.inBlock,fx];cases c₀;simp_all[bodyPostS,results,Go.Proofs.Tryz.f212]
 ·refine callsDIn_of_wpSIn Go.Proofs.Tryz.func212 rfl (by show(Tryz.prog.funcs[212]?).isSome=true;kernel_rfl) fun c₀ cs hu=>?_
  apply wpSIn_seq
  apply wpSIn_region
  simp[wpOpsSIn,go_sem,recoverD,hu,Exit.thenS];refine wpSIn_of_wpIn rfl (wpIn_block (wpIn_seq (wpIn_region ?_)));simp[wpOpsIn,go_sem,Exit.then,fx];refine wpIn_cond_false (by simp[Act.eval,Array.replicate]) ?_
  refine wpIn_seq (wpIn_region ?_);generalize hA:({tmps:=_,defers:= []}:Act)=A
  have hz:A.tmps.size=15:=by subst hA;simp
  have hdf:A.defers= []:=by subst hA;rfl
  have h0:A.eval (.tmp 0)= .pointer (some ⟨b,off,none⟩):=by subst hA;simp[Act.eval]
  have h5:A.eval (.tmp 5)= .iface 283 (.agg #[.int k n]):=by subst hA;simp[Act.eval]
  clear hA;have hbl:b<w.heap.size:=(Array.getElem?_eq_some_iff.1 hb).1
  have hb1:(w.alloc (.cells #[.int k n] 283)).heap[b]? =some (.cells cs₁ ty (0,0)):=
   (((Below.refl _ w).alloc (Nat.le_refl _) _).block b hbl).trans hb
  refine bP (P:=Tryz.prog) rfl rfl (v:= .tuple #[.agg #[.int k n],.bool true]) (w':=w) (by simp[execOp,h5,tY]) (by intro c;simp) ?_
  refine bP (P:=Tryz.prog) rfl rfl (v:= .bool true) (w':=w) (by simp[execOp,bB,bO,bz,hz,Instr.extract]) (by intro c;simp) ?_
  refine bP (P:=Tryz.prog) rfl rfl (v:= .agg #[.int k n]) (w':=w) (by simp[execOp,bB,bO,bz,hz,Instr.extract]) (by intro c;simp) ?_
  show Code.wpIn _ _ _ _ _ _ _
  refine wpIn_cond_true (by simp[bB,bz,hz]) ?_
  refine wpIn_seq (wpIn_region ?_);refine bP (P:=Tryz.prog) rfl rfl (v:= .pointer (some ⟨w.heap.size,0,none⟩)) (w':=w.alloc (.cells #[.int .i64 0] 283)) (by simp[execOp,Instr.alloc,go_sem]) (by intro c;simp) ?_
  refine jo (P:=Tryz.prog) rfl rfl (w':=w.alloc (.cells #[.int k n] 283)) (by simp[execOp,bB,bO,bz,hz,go_sem]) (by intro c;simp) ?_
  show Code.wpIn _ _ _ _ _ _ _
  refine wpIn_region ?_;refine bP (P:=Tryz.prog) rfl rfl (v:= .pointer (some ⟨b,off,none⟩)) (w':=w.alloc (.cells #[.int k n] 283)) (by simp[execOp,bB,bO,bz,hz,h0]) (by intro c;simp) ?_
  refine bP (P:=Tryz.prog) rfl rfl (v:= .pointer (some ⟨w.heap.size,0,none⟩)) (w':=w.alloc (.cells #[.int k n] 283)) (by simp[execOp,bB,bO,bz,hz,go_sem]) (by intro c;simp) ?_
  refine bP (P:=Tryz.prog) rfl rfl (v:= .int k n) (w':=w.alloc (.cells #[.int k n] 283)) (by simp[execOp,bB,bO,bz,hz,go_sem]) (by intro c;simp) ?_
  refine bP (P:=Tryz.prog) rfl rfl (v:= .pointer (some ⟨b,off,none⟩)) (w':=w.alloc (.cells #[.int k n] 283)) (by simp[execOp,bB,bO,bz,hz]) (by intro c;simp) ?_
  refine jo (P:=Tryz.prog) rfl rfl (w':=(w.alloc (.cells #[.int k n] 283)).setRow b cs') (by simp[execOp,bB,bO,bz,hz,hs _ hb1]) (by intro c;simp) ?_
  have hbe:Below w.heap.size (w.setRow b cs') ((w.alloc (.cells #[.int k n] 283)).setRow b cs'):=by
   have hs1:∀(v:World) (c:Array Value),(v.setRow b c).heap.size=v.heap.size:=fun v c=>by simp[World.setRow]
   refine⟨rfl,rfl,rfl,by rw[hs1,hs1];exact((Below.refl _ w).alloc (Nat.le_refl _) _).size,fun j hj=>?_⟩
   by_cases e:j=b
   ·subst e;rw[gx _ _ _ _ _ hb1,gx _ _ _ _ _ hb]
   ·rw[setRow_other _ _ _ _ e,setRow_other _ _ _ _ e];exact((Below.refl _ w).alloc (Nat.le_refl _) _).block j hj
  refine⟨by simp only[put_defers];exact hdf,_,rfl,.tuple #[],by simp[results,Go.Proofs.Tryz.f212],⟨_,rfl⟩,rfl,hbe⟩
end Go.Proofs.YtlblcfaclmpekaaGreat
set_option maxRecDepth 100000
namespace Go.Proofs.YtlblcfaclmpekaaGreat
open Go.Sx
open Go.RowKit (Below)
theorem va (k:IntKind) (n:Int) (w:World) (t:Nat):(Instr.typeAssert (.iface 299 (.agg #[.int k n])) t 299 true).run Tryz.prog w= .ok (.tuple #[.agg #[.int k n],.bool true]) w:=by
 simp[Instr.typeAssert,go_sem]
theorem Fz:tg Tryz.prog 242 299 202:=by
 refine⟨fun p w=>?_,fun b off ty cs₁ cs' k n w hb hs=>?_⟩
 ·refine callsDIn_of_wpSIn Go.Proofs.Tryz.func242 rfl (by show(Tryz.prog.funcs[242]?).isSome=true;kernel_rfl) fun c₀ cs hu=>?_
  apply wpSIn_seq
  apply wpSIn_region
  simp[wpOpsSIn,go_sem,recoverD,hu,Exit.thenS];refine wpSIn_of_wpIn rfl (wpIn_block (wpIn_seq (wpIn_region ?_)));simp[wpOpsIn,go_sem,Exit.then,fx];refine wpIn_cond_true (by simp[Act.eval,Array.replicate]) (wpIn_region ?_)
  simp[wpOpsIn,go_sem,Exit.inBlock,fx];cases c₀;simp_all[bodyPostS,results,Go.Proofs.Tryz.f242]
 ·refine callsDIn_of_wpSIn Go.Proofs.Tryz.func242 rfl (by show(Tryz.prog.funcs[242]?).isSome=true;kernel_rfl) fun c₀ cs hu=>?_
  apply wpSIn_seq
  apply wpSIn_region
  simp[wpOpsSIn,go_sem,recoverD,hu,Exit.thenS];refine wpSIn_of_wpIn rfl (wpIn_block (wpIn_seq (wpIn_region ?_)));simp[wpOpsIn,go_sem,Exit.then,fx];refine wpIn_cond_false (by simp[Act.eval,Array.replicate]) ?_
  refine wpIn_seq (wpIn_region ?_);generalize hA:({tmps:=_,defers:= []}:Act)=A
  have hz:A.tmps.size=12:=by subst hA;simp
  have hdf:A.defers= []:=by subst hA;rfl
  have h0:A.eval (.tmp 0)= .pointer (some ⟨b,off,none⟩):=by subst hA;simp[Act.eval]
  have h5:A.eval (.tmp 4)= .iface 299 (.agg #[.int k n]):=by subst hA;simp[Act.eval]
  clear hA;have hbl:b<w.heap.size:=(Array.getElem?_eq_some_iff.1 hb).1
  have hb1:(w.alloc (.cells #[.int k n] 299)).heap[b]? =some (.cells cs₁ ty (0,0)):=
   (((Below.refl _ w).alloc (Nat.le_refl _) _).block b hbl).trans hb
  refine bP (P:=Tryz.prog) rfl rfl (v:= .tuple #[.agg #[.int k n],.bool true]) (w':=w) (by simp[execOp,h5,va]) (by intro c;simp) ?_
  refine bP (P:=Tryz.prog) rfl rfl (v:= .bool true) (w':=w) (by simp[execOp,bB,bO,bz,hz,Instr.extract]) (by intro c;simp) ?_
  refine bP (P:=Tryz.prog) rfl rfl (v:= .agg #[.int k n]) (w':=w) (by simp[execOp,bB,bO,bz,hz,Instr.extract]) (by intro c;simp) ?_
  show Code.wpIn _ _ _ _ _ _ _
  refine wpIn_cond_true (by simp[bB,bz,hz]) ?_
  refine wpIn_seq (wpIn_region ?_);refine bP (P:=Tryz.prog) rfl rfl (v:= .pointer (some ⟨w.heap.size,0,none⟩)) (w':=w.alloc (.cells #[.int .i64 0] 299)) (by simp[execOp,Instr.alloc,go_sem]) (by intro c;simp) ?_
  refine jo (P:=Tryz.prog) rfl rfl (w':=w.alloc (.cells #[.int k n] 299)) (by simp[execOp,bB,bO,bz,hz,go_sem]) (by intro c;simp) ?_
  show Code.wpIn _ _ _ _ _ _ _
  refine wpIn_region ?_;refine bP (P:=Tryz.prog) rfl rfl (v:= .pointer (some ⟨w.heap.size,0,none⟩)) (w':=w.alloc (.cells #[.int k n] 299)) (by simp[execOp,bB,bO,bz,hz,go_sem]) (by intro c;simp) ?_
  refine bP (P:=Tryz.prog) rfl rfl (v:= .int k n) (w':=w.alloc (.cells #[.int k n] 299)) (by simp[execOp,bB,bO,bz,hz,go_sem]) (by intro c;simp) ?_
  refine jo (P:=Tryz.prog) rfl rfl (w':=(w.alloc (.cells #[.int k n] 299)).setRow b cs') (by simp[execOp,bB,bO,bz,hz,h0,hs _ hb1]) (by intro c;simp) ?_
  have hbe:Below w.heap.size (w.setRow b cs') ((w.alloc (.cells #[.int k n] 299)).setRow b cs'):=by
   have hs1:∀(v:World) (c:Array Value),(v.setRow b c).heap.size=v.heap.size:=fun v c=>by simp[World.setRow]
   refine⟨rfl,rfl,rfl,by rw[hs1,hs1];exact((Below.refl _ w).alloc (Nat.le_refl _) _).size,fun j hj=>?_⟩
   by_cases e:j=b
   ·subst e;rw[gx _ _ _ _ _ hb1,gx _ _ _ _ _ hb]
   ·rw[setRow_other _ _ _ _ e,setRow_other _ _ _ _ e];exact((Below.refl _ w).alloc (Nat.le_refl _) _).block j hj
  refine⟨by simp only[put_defers];exact hdf,_,rfl,.tuple #[],by simp[results,Go.Proofs.Tryz.f242],⟨_,rfl⟩,rfl,hbe⟩
end Go.Proofs.YtlblcfaclmpekaaGreat
set_option maxRecDepth 100000
namespace Go.Proofs.YtlblcfaclmpekaaGreat
open Go.Sx
open Go.RowKit (Below)
theorem tF (k:IntKind) (n:Int) (w:World) (t:Nat):(Instr.typeAssert (.iface 211 (.agg #[.int k n])) t 211 true).run Tryz.prog w= .ok (.tuple #[.agg #[.int k n],.bool true]) w:=by
 simp[Instr.typeAssert,go_sem]
theorem j5:tg Tryz.prog 90 211 26:=by
 refine⟨fun p w=>?_,fun b off ty cs₁ cs' k n w hb hs=>?_⟩
 ·refine callsDIn_of_wpSIn Go.Proofs.Tryz.func90 rfl (by show(Tryz.prog.funcs[90]?).isSome=true;kernel_rfl) fun c₀ cs hu=>?_
  apply wpSIn_seq
  apply wpSIn_region
  simp[wpOpsSIn,go_sem,recoverD,hu,Exit.thenS];refine wpSIn_of_wpIn rfl (wpIn_block (wpIn_seq (wpIn_region ?_)));simp[wpOpsIn,go_sem,Exit.then,fx];refine wpIn_cond_true (by simp[Act.eval,Array.replicate]) (wpIn_region ?_)
  simp[wpOpsIn,go_sem,Exit.inBlock,fx];cases c₀;simp_all[bodyPostS,results,Go.Proofs.Tryz.f90]
 ·refine callsDIn_of_wpSIn Go.Proofs.Tryz.func90 rfl (by show(Tryz.prog.funcs[90]?).isSome=true;kernel_rfl) fun c₀ cs hu=>?_
  apply wpSIn_seq
  apply wpSIn_region
  simp[wpOpsSIn,go_sem,recoverD,hu,Exit.thenS];refine wpSIn_of_wpIn rfl (wpIn_block (wpIn_seq (wpIn_region ?_)));simp[wpOpsIn,go_sem,Exit.then,fx];refine wpIn_cond_false (by simp[Act.eval,Array.replicate]) ?_
  refine wpIn_seq (wpIn_region ?_);generalize hA:({tmps:=_,defers:= []}:Act)=A
  have hz:A.tmps.size=15:=by subst hA;simp
  have hdf:A.defers= []:=by subst hA;rfl
  have h0:A.eval (.tmp 0)= .pointer (some ⟨b,off,none⟩):=by subst hA;simp[Act.eval]
  have h5:A.eval (.tmp 5)= .iface 211 (.agg #[.int k n]):=by subst hA;simp[Act.eval]
  clear hA;have hbl:b<w.heap.size:=(Array.getElem?_eq_some_iff.1 hb).1
  have hb1:(w.alloc (.cells #[.int k n] 211)).heap[b]? =some (.cells cs₁ ty (0,0)):=
   (((Below.refl _ w).alloc (Nat.le_refl _) _).block b hbl).trans hb
  refine bP (P:=Tryz.prog) rfl rfl (v:= .tuple #[.agg #[.int k n],.bool true]) (w':=w) (by simp[execOp,h5,tF]) (by intro c;simp) ?_
  refine bP (P:=Tryz.prog) rfl rfl (v:= .bool true) (w':=w) (by simp[execOp,bB,bO,bz,hz,Instr.extract]) (by intro c;simp) ?_
  refine bP (P:=Tryz.prog) rfl rfl (v:= .agg #[.int k n]) (w':=w) (by simp[execOp,bB,bO,bz,hz,Instr.extract]) (by intro c;simp) ?_
  show Code.wpIn _ _ _ _ _ _ _
  refine wpIn_cond_true (by simp[bB,bz,hz]) ?_
  refine wpIn_seq (wpIn_region ?_);refine bP (P:=Tryz.prog) rfl rfl (v:= .pointer (some ⟨w.heap.size,0,none⟩)) (w':=w.alloc (.cells #[.int .i64 0] 211)) (by simp[execOp,Instr.alloc,go_sem]) (by intro c;simp) ?_
  refine jo (P:=Tryz.prog) rfl rfl (w':=w.alloc (.cells #[.int k n] 211)) (by simp[execOp,bB,bO,bz,hz,go_sem]) (by intro c;simp) ?_
  show Code.wpIn _ _ _ _ _ _ _
  refine wpIn_region ?_;refine bP (P:=Tryz.prog) rfl rfl (v:= .pointer (some ⟨b,off,none⟩)) (w':=w.alloc (.cells #[.int k n] 211)) (by simp[execOp,bB,bO,bz,hz,h0]) (by intro c;simp) ?_
  refine bP (P:=Tryz.prog) rfl rfl (v:= .pointer (some ⟨w.heap.size,0,none⟩)) (w':=w.alloc (.cells #[.int k n] 211)) (by simp[execOp,bB,bO,bz,hz,go_sem]) (by intro c;simp) ?_
  refine bP (P:=Tryz.prog) rfl rfl (v:= .int k n) (w':=w.alloc (.cells #[.int k n] 211)) (by simp[execOp,bB,bO,bz,hz,go_sem]) (by intro c;simp) ?_
  refine bP (P:=Tryz.prog) rfl rfl (v:= .pointer (some ⟨b,off,none⟩)) (w':=w.alloc (.cells #[.int k n] 211)) (by simp[execOp,bB,bO,bz,hz]) (by intro c;simp) ?_
  refine jo (P:=Tryz.prog) rfl rfl (w':=(w.alloc (.cells #[.int k n] 211)).setRow b cs') (by simp[execOp,bB,bO,bz,hz,hs _ hb1]) (by intro c;simp) ?_
  have hbe:Below w.heap.size (w.setRow b cs') ((w.alloc (.cells #[.int k n] 211)).setRow b cs'):=by
   have hs1:∀(v:World) (c:Array Value),(v.setRow b c).heap.size=v.heap.size:=fun v c=>by simp[World.setRow]
   refine⟨rfl,rfl,rfl,by rw[hs1,hs1];exact((Below.refl _ w).alloc (Nat.le_refl _) _).size,fun j hj=>?_⟩
   by_cases e:j=b
   ·subst e;rw[gx _ _ _ _ _ hb1,gx _ _ _ _ _ hb]
   ·rw[setRow_other _ _ _ _ e,setRow_other _ _ _ _ e];exact((Below.refl _ w).alloc (Nat.le_refl _) _).block j hj
  refine⟨by simp only[put_defers];exact hdf,_,rfl,.tuple #[],by simp[results,Go.Proofs.Tryz.f90],⟨_,rfl⟩,rfl,hbe⟩
end Go.Proofs.YtlblcfaclmpekaaGreat
set_option maxRecDepth 100000
namespace Go.Proofs.YtlblcfaclmpekaaGreat
open Go.Sx
open Go.RowKit (Below)
theorem tB (n:Int) (w:World) (t:Nat):(Instr.typeAssert (.iface 214 (.agg #[.int .i64 n])) t 214 true).run Tryz.prog w= .ok (.tuple #[.agg #[.int .i64 n],.bool true]) w:=by
 simp[Instr.typeAssert,go_sem]
theorem xX {n:Int} (hn:cg .i64 n) (w:World):(Instr.build 47 #[(0,.int .i64 n)]).run Tryz.prog w= .ok (den Env.zero (Qz n)) w:=
 (pH (J:=Env.zero) (w:=w) (K:=fun _=>True) (C:=(Th [] [] [] bS aO).toCtx) (t:=47) (parts:= [(0,.it .i64 n)]) (r:=Qz n) (xu nu) (by kernel_rfl) (by simp;exact hn)).1
theorem bq:Lm Tryz.prog 130 214 47:=by
 refine⟨fun p w=>?_,fun b off ty cs₁ cs' n w hn hb hs=>?_⟩
 ·refine callsDIn_of_wpSIn Go.Proofs.Tryz.func130 rfl (by show(Tryz.prog.funcs[130]?).isSome=true;kernel_rfl) fun c₀ cs hu=>?_
  apply wpSIn_seq
  apply wpSIn_region
  simp[wpOpsSIn,go_sem,recoverD,hu,Exit.thenS];refine wpSIn_of_wpIn rfl (wpIn_block (wpIn_seq (wpIn_region ?_)));simp[wpOpsIn,go_sem,Exit.then,fx];refine wpIn_cond_true (by simp[Act.eval,Array.replicate]) (wpIn_region ?_)
  simp[wpOpsIn,go_sem,Exit.inBlock,fx];cases c₀;simp_all[bodyPostS,results,Go.Proofs.Tryz.f130]
 ·refine callsDIn_of_wpSIn Go.Proofs.Tryz.func130 rfl (by show(Tryz.prog.funcs[130]?).isSome=true;kernel_rfl) fun c₀ cs hu=>?_
  apply wpSIn_seq
  apply wpSIn_region
  simp[wpOpsSIn,go_sem,recoverD,hu,Exit.thenS];refine wpSIn_of_wpIn rfl (wpIn_block (wpIn_seq (wpIn_region ?_)));simp[wpOpsIn,go_sem,Exit.then,fx];refine wpIn_cond_false (by simp[Act.eval,Array.replicate]) ?_
  refine wpIn_seq (wpIn_region ?_);generalize hA:({tmps:=_,defers:= []}:Act)=A
  have hz:A.tmps.size=13:=by subst hA;simp
  have hdf:A.defers= []:=by subst hA;rfl
  have h0:A.eval (.tmp 0)= .pointer (some ⟨b,off,none⟩):=by subst hA;simp[Act.eval]
  have h5:A.eval (.tmp 4)= .iface 214 (.agg #[.int .i64 n]):=by subst hA;simp[Act.eval]
  clear hA;have hbl:b<w.heap.size:=(Array.getElem?_eq_some_iff.1 hb).1
  have hb1:(w.alloc (.cells #[.int .i64 n] 214)).heap[b]? =some (.cells cs₁ ty (0,0)):=
   (((Below.refl _ w).alloc (Nat.le_refl _) _).block b hbl).trans hb
  refine bP (P:=Tryz.prog) rfl rfl (v:= .tuple #[.agg #[.int .i64 n],.bool true]) (w':=w) (by simp[execOp,h5,tB]) (by intro c;simp) ?_
  refine bP (P:=Tryz.prog) rfl rfl (v:= .bool true) (w':=w) (by simp[execOp,bB,bO,bz,hz,Instr.extract]) (by intro c;simp) ?_
  refine bP (P:=Tryz.prog) rfl rfl (v:= .agg #[.int .i64 n]) (w':=w) (by simp[execOp,bB,bO,bz,hz,Instr.extract]) (by intro c;simp) ?_
  show Code.wpIn _ _ _ _ _ _ _
  refine wpIn_cond_true (by simp[bB,bz,hz]) ?_
  refine wpIn_seq (wpIn_region ?_);refine bP (P:=Tryz.prog) rfl rfl (v:= .pointer (some ⟨w.heap.size,0,none⟩)) (w':=w.alloc (.cells #[.int .i64 0] 214)) (by simp[execOp,Instr.alloc,go_sem]) (by intro c;simp) ?_
  refine jo (P:=Tryz.prog) rfl rfl (w':=w.alloc (.cells #[.int .i64 n] 214)) (by simp[execOp,bB,bO,bz,hz,go_sem]) (by intro c;simp) ?_
  show Code.wpIn _ _ _ _ _ _ _
  refine wpIn_region ?_;refine bP (P:=Tryz.prog) rfl rfl (v:= .pointer (some ⟨w.heap.size,0,none⟩)) (w':=w.alloc (.cells #[.int .i64 n] 214)) (by simp[execOp,bB,bO,bz,hz,go_sem]) (by intro c;simp) ?_
  refine bP (P:=Tryz.prog) rfl rfl (v:= .int .i64 n) (w':=w.alloc (.cells #[.int .i64 n] 214)) (by simp[execOp,bB,bO,bz,hz,go_sem]) (by intro c;simp) ?_
  refine bP (P:=Tryz.prog) rfl rfl (v:=den Env.zero (Qz n)) (w':=w.alloc (.cells #[.int .i64 n] 214)) (by simp only[execOp,Array.map,bB,bO,bz,hz];first|rfl| (simp[bB,bO,bz,hz,xX hn])) (by intro c;simp) ?_
  refine jo (P:=Tryz.prog) rfl rfl (w':=(w.alloc (.cells #[.int .i64 n] 214)).setRow b cs') (by simp[execOp,bB,bO,bz,hz,h0,hs _ hb1]) (by intro c;simp) ?_
  have hbe:Below w.heap.size (w.setRow b cs') ((w.alloc (.cells #[.int .i64 n] 214)).setRow b cs'):=by
   have hs1:∀(v:World) (c:Array Value),(v.setRow b c).heap.size=v.heap.size:=fun v c=>by simp[World.setRow]
   refine⟨rfl,rfl,rfl,by rw[hs1,hs1];exact((Below.refl _ w).alloc (Nat.le_refl _) _).size,fun j hj=>?_⟩
   by_cases e:j=b
   ·subst e;rw[gx _ _ _ _ _ hb1,gx _ _ _ _ _ hb]
   ·rw[setRow_other _ _ _ _ e,setRow_other _ _ _ _ e];exact((Below.refl _ w).alloc (Nat.le_refl _) _).block j hj
  refine⟨by simp only[put_defers];exact hdf,_,rfl,.tuple #[],by simp[results,Go.Proofs.Tryz.f130],⟨_,rfl⟩,rfl,hbe⟩
end Go.Proofs.YtlblcfaclmpekaaGreat
