import Derived.Test.YtmfbohanboiklaaGreatSxF
import Derived.Test.YtmfbohanboiklaaGreatProg
import Derived.WalkSpells
import Derived.StillTactics
import Derived.Laws.Pointers
import Derived.Laws.Rows
import Derived.Deep.RegionHeld3
import Derived.Deep.Draws
import Derived.Shelf.SlSortCmp.NoneTotal
import Derived.KernelRfl
set_option linter.unusedSimpArgs false
set_option linter.unusedVariables false
namespace Go.Proofs.YtmfbohanboiklaaGreat
open Go.Sort Go.Shelf Go.Proofs
set_option maxRecDepth 100000
set_option maxHeartbeats 4000000
def fq (x y:Int):Int:=if x<y then -1 else if y<x then 1 else 0
theorem E0 (x:Int) (W:World):Calls Tryz.prog 127 #[.int .i64 x] W fun e w'=>e= .returned (.bool false)/\w'=W:=by
 go_enter Tryz.func127,Tryz.ntmps127
 go_wp2
 go_ret
 simp
theorem Gn (x:Int) (W:World):Calls Tryz.prog 128 #[.int .i64 x] W fun e w'=>e= .returned (.bool false)/\w'=W:=by
 go_enter Tryz.func128,Tryz.ntmps128
 go_wp2
 go_ret
 simp
theorem Gg (x:Int) (W:World):Calls Tryz.prog 129 #[.int .i64 x] W fun e w'=>e= .returned (.bool false)/\w'=W:=by
 go_enter Tryz.func129,Tryz.ntmps129
 go_wp2
 go_ret
 simp
theorem FB (x:Int) (W:World):Calls Tryz.prog 130 #[.int .i64 x] W fun e w'=>e= .returned (.bool false)/\w'=W:=by
 go_enter Tryz.func130,Tryz.ntmps130
 go_wp2
 go_ret
 simp
theorem HD (x y:Int) (W:World):Calls Tryz.prog 102 #[.int .i64 x,.int .i64 y] W fun e w'=>e= .returned (.int .i64 (fq x y))/\w'=W:=by
 have h0:=fun z W'=>E0 z W'
 unfold fq;go_enter Tryz.func102,Tryz.ntmps102
 go_wp2_with (go_at_call 127;refine(h0 _ _).mono ?_;rintro e w' ⟨rfl,rfl⟩)
 all_goals(go_ret;first| (simp;done)| (simp;grind))
theorem GS (x y:Int) (W:World):Calls Tryz.prog 103 #[.int .i64 x,.int .i64 y] W fun e w'=>e= .returned (.int .i64 (fq x y))/\w'=W:=by
 have h0:=fun z W'=>Gn z W'
 unfold fq;go_enter Tryz.func103,Tryz.ntmps103
 go_wp2_with (go_at_call 128;refine(h0 _ _).mono ?_;rintro e w' ⟨rfl,rfl⟩)
 all_goals(go_ret;first| (simp;done)| (simp;grind))
theorem GP (x y:Int) (W:World):Calls Tryz.prog 104 #[.int .i64 x,.int .i64 y] W fun e w'=>e= .returned (.int .i64 (fq x y))/\w'=W:=by
 have h0:=fun z W'=>Gg z W'
 unfold fq;go_enter Tryz.func104,Tryz.ntmps104
 go_wp2_with (go_at_call 129;refine(h0 _ _).mono ?_;rintro e w' ⟨rfl,rfl⟩)
 all_goals(go_ret;first| (simp;done)| (simp;grind))
theorem HS (x y:Int) (W:World):Calls Tryz.prog 105 #[.int .i64 x,.int .i64 y] W fun e w'=>e= .returned (.int .i64 (fq x y))/\w'=W:=by
 have h0:=fun z W'=>FB z W'
 unfold fq;go_enter Tryz.func105,Tryz.ntmps105
 go_wp2_with (go_at_call 130;refine(h0 _ _).mono ?_;rintro e w' ⟨rfl,rfl⟩)
 all_goals(go_ret;first| (simp;done)| (simp;grind))
theorem Ho (a b c d e:Int) (W:World):Calls Tryz.prog 33 #[.agg #[.int .i64 a,.int .i64 b,.int .i64 c,.int .i64 d,.int .i64 e]] W fun en w'=>en= .returned (.agg #[.int .i64 a,.int .i64 b,.int .i64 c,.int .i64 d,.int .i64 e,.int .i64 0])/\∃q os',w'=grow (W.drewN q) os':=by
 go_enter Tryz.func33,Tryz.ntmps33
 go_wp2
 refine bodyPost_ret (results_cell_row rfl _ _ (W.heap.size+1) 38 _ (0,0) _ rfl (heap_alloc2_new _ _ _) Tryz.underlying38 rfl (by kernel_rfl)) rfl ?_
 exact⟨rfl,(0:Nat),_,by rw[alloc_eq_grow,alloc_eq_grow,grow_grow];rfl⟩
def zE (a b c d e f:Int):Int:=bif a != 0 then a else bif b != 0 then b else bif c != 0 then c else bif d != 0 then d else bif e != 0 then e else bif f != 0 then f else 0
theorem CJ (a b c d e f:Int) (W:World) (k:Nat) (ty:Nat) (hk:W.heap[k]? =some (.cells #[.int .i64 a,.int .i64 b,.int .i64 c,.int .i64 d,.int .i64 e,.int .i64 f] ty (0,0))):
  Calls Tryz.prog 101 #[.slice (some ⟨k,0,none⟩) 6 6] W fun en w'=>en= .returned (.int .i64 (zE a b c d e f))/\w'=W:=by
 have c0:W.cell? ⟨k,0,none⟩=some (.int .i64 a):=by simp[World.cell?,hk]
 have c1:W.cell? ⟨k,1,none⟩=some (.int .i64 b):=by simp[World.cell?,hk]
 have c2:W.cell? ⟨k,2,none⟩=some (.int .i64 c):=by simp[World.cell?,hk]
 have c3:W.cell? ⟨k,3,none⟩=some (.int .i64 d):=by simp[World.cell?,hk]
 have c4:W.cell? ⟨k,4,none⟩=some (.int .i64 e):=by simp[World.cell?,hk]
 have c5:W.cell? ⟨k,5,none⟩=some (.int .i64 f):=by simp[World.cell?,hk]
 go_enter Tryz.func101,Tryz.ntmps101
 go_wp2
 refine wp_loop_rounds 7 ?_;repeat' (first|go_ret| (rw[rounds_succ];go_wp2))
 all_goals
  simp only[zE,cond_true,cond_false, *];exact⟨rfl,trivial⟩
theorem FN (w:World) (A B C:Obj):(((w.alloc A).alloc B).alloc C).drew.heap[w.heap.size+1+1]? =some C:=by
 have h:=heap_alloc2_new (w.alloc A) B C
 have e:(w.alloc A).heap.size=w.heap.size+1:=by
  show(w.heap.push A).size=_
  simp
 rwa [e]at h
theorem HG (x y:Sx.Key) (W:World):Calls Tryz.prog 76 #[.agg (Sx.aY x).toArray,.agg (Sx.aY y).toArray] W fun en w'=>en= .returned (.int .i64 (zE (fq x.kind y.kind) (fq x.oid y.oid) (fq x.count y.count) (fq x.call y.call) (fq x.rights y.rights) (fq x.value y.value)))/\∃q os',w'=grow (W.drewN q) os':=by
 have h1:=fun x y W'=>HD x y W'
 have h2:=fun x y W'=>GS x y W'
 have h3:=fun x y W'=>GP x y W'
 have h4:=fun x y W'=>HS x y W'
 simp only[Sx.aY,Sx.i64];go_enter Tryz.func76,Tryz.ntmps76
 go_wp2
 go_region_held3 (fun w'=>w'.cell? ⟨W.heap.size,0,none⟩=some (.int .i64 x.kind)/\w'.cell? ⟨W.heap.size,1,none⟩=some (.int .i64 x.oid)/\w'.cell? ⟨W.heap.size,2,none⟩=some (.int .i64 x.count)/\w'.cell? ⟨W.heap.size,3,none⟩=some (.int .i64 x.call)/\w'.cell? ⟨W.heap.size,4,none⟩=some (.int .i64 x.rights)/\w'.cell? ⟨W.heap.size,5,none⟩=some (.int .i64 x.value)/\w'.cell? ⟨W.heap.size+1,0,none⟩=some (.int .i64 y.kind)/\w'.cell? ⟨W.heap.size+1,1,none⟩=some (.int .i64 y.oid)/\w'.cell? ⟨W.heap.size+1,2,none⟩=some (.int .i64 y.count)/\w'.cell? ⟨W.heap.size+1,3,none⟩=some (.int .i64 y.call)/\w'.cell? ⟨W.heap.size+1,4,none⟩=some (.int .i64 y.rights)/\w'.cell? ⟨W.heap.size+1,5,none⟩=some (.int .i64 y.value)) (go_keep)
  (first
   | (go_at_call 102;refine(h1 _ _ _).mono ?_;rintro e w' ⟨rfl,rfl⟩)
   | (go_at_call 103;refine(h2 _ _ _).mono ?_;rintro e w' ⟨rfl,rfl⟩)
   | (go_at_call 104;refine(h3 _ _ _).mono ?_;rintro e w' ⟨rfl,rfl⟩)
   | (go_at_call 105;refine(h4 _ _ _).mono ?_;rintro e w' ⟨rfl,rfl⟩)
   | (go_at_call 101;refine(CJ _ _ _ _ _ _ _ _ _ (FN _ _ _ _)).mono ?_;rintro e w' ⟨rfl,rfl⟩))
 all_goals go_wp2
 all_goals go_ret
 all_goals exact⟨rfl,(1:Nat),_,by rw[alloc_eq_grow,alloc_eq_grow,alloc_eq_grow,grow_grow,grow_grow];rfl⟩
abbrev IQ (x:Sx.Key):Value:= .agg #[.int .i64 x.kind,.int .i64 x.oid,.int .i64 x.count,.int .i64 x.call,.int .i64 x.rights]
theorem wO (w:World) (os:Array Obj) (n:Nat):(grow w os).drewN n=grow (w.drewN n) os:=rfl
theorem yi (w:World) (n m:Nat):(w.drewN n).drewN m=w.drewN (n+m):=by
 unfold World.drewN;simp[Nat.add_assoc]
theorem B5 {w:World} {os:Array Obj} {n:Nat} {a:Addr} {v:Value} (h:w.cell? a=some v):(grow (w.drewN n) os).cell? a=some v:=by
 have hlt:=block_lt_of_cell h;unfold World.cell? at h⊢
 have e:(grow (w.drewN n) os).heap[a.block]? =w.heap[a.block]? :=by
  show(w.heap++os)[a.block]? =_
  rw[Array.getElem?_append_left hlt]
 rw[e];exact h
theorem C6 {w:World} {os:Array Obj} {a:Addr} {v:Value} (h:w.cell? a=some v):(grow w os).cell? a=some v:=B5 (n:=0) h
theorem Eg {w:World} {n:Nat} {a:Addr} {v:Value} (h:w.cell? a=some v):(w.drewN n).cell? a=some v:=h
theorem Jv (w:World) (t:Nat) (f:Nat×Nat) (B:Obj) {c:Array Value} {i:Nat} {v:Value} (h:c[i]? =some v):((w.alloc (.cells c t f)).alloc B).cell? ⟨w.heap.size,i,none⟩=some v:=by
 unfold World.cell?;rw[heap_alloc2_old];exact h
theorem Jx (w:World) (t:Nat) (f:Nat×Nat) (A:Obj) {c:Array Value} {i:Nat} {v:Value} (h:c[i]? =some v):((w.alloc A).alloc (.cells c t f)).cell? ⟨w.heap.size+1,i,none⟩=some v:=by
 unfold World.cell?;rw[heap_alloc2_new];exact h
theorem HK (x y:Sx.Key) (W:World):Calls Tryz.prog 54 #[IQ x,IQ y] W fun en w'=>en= .returned (.int .i64 (zE (fq x.kind y.kind) (fq x.oid y.oid) (fq x.count y.count) (fq x.call y.call) (fq x.rights y.rights) 0))/\∃q os',w'=grow (W.drewN q) os':=by
 have h1:=fun a b c d e W'=>Ho a b c d e W'
 have h2:=fun W'=>HG {x with value:=0} {y with value:=0} W'
 have h3:fq 0 0=0:=rfl;simp only[Sx.aY,Sx.i64,h3]at h2;unfold IQ;go_enter Tryz.func54,Tryz.ntmps54
 go_wp2
 go_region_held3 (fun w'=>w'.cell? ⟨W.heap.size,0,none⟩=some (.int .i64 x.kind)/\w'.cell? ⟨W.heap.size,1,none⟩=some (.int .i64 x.oid)/\w'.cell? ⟨W.heap.size,2,none⟩=some (.int .i64 x.count)/\w'.cell? ⟨W.heap.size,3,none⟩=some (.int .i64 x.call)/\w'.cell? ⟨W.heap.size,4,none⟩=some (.int .i64 x.rights)/\w'.cell? ⟨W.heap.size+1,0,none⟩=some (.int .i64 y.kind)/\w'.cell? ⟨W.heap.size+1,1,none⟩=some (.int .i64 y.oid)/\w'.cell? ⟨W.heap.size+1,2,none⟩=some (.int .i64 y.count)/\w'.cell? ⟨W.heap.size+1,3,none⟩=some (.int .i64 y.call)/\w'.cell? ⟨W.heap.size+1,4,none⟩=some (.int .i64 y.rights)) (first|go_keep| (and_intros<;>(repeat(first|exact Jv _ _ _ _ rfl|exact Jx _ _ _ _ rfl|apply B5|apply C6|apply Eg))))
  (first
   | (go_at_call 33;refine(h1 _ _ _ _ _ _).mono ?_;rintro e w' ⟨rfl,q,os,rfl⟩)
   | (go_at_call 76;refine(h2 _).mono ?_;rintro e w' ⟨rfl,q,os,rfl⟩))
 all_goals go_wp2
 all_goals go_ret
 all_goals exact⟨rfl,_,_,by simp only[alloc_eq_grow,wO,yi,grow_grow];rfl⟩
def Fl:Go.Shelf.Ren:=⟨fun|6=>74|15=>100|14=>99|28=>125|29=>126|20=>117|21=>118|22=>119|23=>120|24=>121|25=>122|26=>123|27=>124|46=>179|47=>180|48=>181|49=>182|50=>183|57=>221|n=>n,
 fun|22=>48|24=>74|25=>121|3=>3|39=>184|0=>0|53=>211|55=>213|4=>4|46=>205|45=>204|50=>88|5=>5|9=>9|66=>231|70=>235|76=>276|77=>277|n=>n,fun n=>n⟩
theorem Ar:SlLaysF0.n6 Tryz.prog Fl where
 mixed:=by kernel_rfl
 f6:=⟨Tryz.f74.name,by decide,Tryz.func74.trans (congrArg some (by kernel_rfl))⟩
 f14:=⟨Tryz.f99.name,by decide,Tryz.func99.trans (congrArg some (by kernel_rfl))⟩
 f15:=Tryz.func100.trans (congrArg some (by kernel_rfl))
 f20:=⟨Tryz.f117.name,by decide,Tryz.func117.trans (congrArg some (by kernel_rfl))⟩
 f21:=⟨Tryz.f118.name,by decide,Tryz.func118.trans (congrArg some (by kernel_rfl))⟩
 f22:=⟨Tryz.f119.name,by decide,Tryz.func119.trans (congrArg some (by kernel_rfl))⟩
 f23:=⟨Tryz.f120.name,by decide,Tryz.func120.trans (congrArg some (by kernel_rfl))⟩
 f24:=⟨Tryz.f121.name,by decide,Tryz.func121.trans (congrArg some (by kernel_rfl))⟩
 f25:=⟨Tryz.f122.name,by decide,Tryz.func122.trans (congrArg some (by kernel_rfl))⟩
 f26:=⟨Tryz.f123.name,by decide,Tryz.func123.trans (congrArg some (by kernel_rfl))⟩
 f27:=⟨Tryz.f124.name,by decide,Tryz.func124.trans (congrArg some (by kernel_rfl))⟩
 f28:=Tryz.func125.trans (congrArg some (by kernel_rfl))
 f29:=Tryz.func126.trans (congrArg some (by kernel_rfl))
 f46:=⟨Tryz.f179.name,by decide,Tryz.func179.trans (congrArg some (by kernel_rfl))⟩
 f47:=Tryz.func180.trans (congrArg some (by kernel_rfl))
 f48:=Tryz.func181.trans (congrArg some (by kernel_rfl))
 f49:=⟨Tryz.f182.name,by decide,Tryz.func182.trans (congrArg some (by kernel_rfl))⟩
 f50:=⟨Tryz.f183.name,by decide,Tryz.func183.trans (congrArg some (by kernel_rfl))⟩
 f57:=⟨Tryz.f221.name,by decide,Tryz.func221.trans (congrArg some (by kernel_rfl))⟩
 t0:=Tryz.underlying0
 a0:=Tryz.isAgg0
 z0:=Tryz.sizeOf0
 v0:=Tryz.zeroValue0
 t3:=Tryz.underlying3
 a3:=Tryz.isAgg3
 z3:=Tryz.sizeOf3
 v3:=Tryz.zeroValue3
 t4:=Tryz.underlying4
 a4:=Tryz.isAgg4
 z4:=Tryz.sizeOf4
 v4:=Tryz.zeroValue4
 t5:=Tryz.underlying5
 a5:=Tryz.isAgg5
 z5:=Tryz.sizeOf5
 v5:=Tryz.zeroValue5
 t9:=Tryz.underlying9
 a9:=Tryz.isAgg9
 z9:=Tryz.sizeOf9
 v9:=Tryz.zeroValue9
 t22:=Tryz.underlying48
 a22:=Tryz.isAgg48
 z22:=Tryz.sizeOf48
 v22:=Tryz.zeroValue48
 t25:=Tryz.underlying121
 a25:=Tryz.isAgg121
 z25:=Tryz.sizeOf121
 v25:=Tryz.zeroValue121
 t39:=Tryz.underlying184
 a39:=Tryz.isAgg184
 z39:=Tryz.sizeOf184
 v39:=Tryz.zeroValue184
 t45:=Tryz.underlying204
 a45:=Tryz.isAgg204
 z45:=Tryz.sizeOf204
 v45:=Tryz.zeroValue204
 t46:=Tryz.underlying205
 a46:=Tryz.isAgg205
 z46:=Tryz.sizeOf205
 v46:=Tryz.zeroValue205
 t50:=Tryz.underlying88
 a50:=Tryz.isAgg88
 z50:=Tryz.sizeOf88
 v50:=Tryz.zeroValue88
 t53:=Tryz.underlying211
 a53:=Tryz.isAgg211
 z53:=Tryz.sizeOf211
 v53:=Tryz.zeroValue211
 t55:=Tryz.underlying213
 a55:=Tryz.isAgg213
 z55:=Tryz.sizeOf213
 v55:=Tryz.zeroValue213
 t66:=Tryz.underlying231
 a66:=Tryz.isAgg231
 z66:=Tryz.sizeOf231
 v66:=Tryz.zeroValue231
 t70:=Tryz.underlying235
 a70:=Tryz.isAgg235
 z70:=Tryz.sizeOf235
 v70:=Tryz.zeroValue235
 t76:=Tryz.underlying276
 a76:=Tryz.isAgg276
 z76:=Tryz.sizeOf276
 v76:=Tryz.zeroValue276
 t77:=Tryz.underlying277
 a77:=Tryz.isAgg277
 z77:=Tryz.sizeOf277
 v77:=Tryz.zeroValue277
end Go.Proofs.YtmfbohanboiklaaGreat
