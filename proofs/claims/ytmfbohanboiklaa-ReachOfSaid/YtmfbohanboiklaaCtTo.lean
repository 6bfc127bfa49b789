import Derived.Test.YtmfbohanboiklaaSxF
import Derived.Test.YtmfbohanboiklaaProg
import Derived.WalkSpells
import Derived.StillTactics
import Derived.Laws.Pointers
import Derived.Laws.Rows
import Derived.Deep.RegionHeld3
import Derived.Deep.Draws
import Derived.Shelf.SlSortCmp.NoneTotal
import Derived.KernelRfl
set_option linter.unusedSimpArgs false
set_option linter.unusedVariables false
namespace Go.Proofs.Ytmfbohanboiklaa
open Go.Sort Go.Shelf Go.Proofs
set_option maxRecDepth 100000
set_option maxHeartbeats 4000000
def fX (x y:Int):Int:=if x<y then -1 else if y<x then 1 else 0
theorem Hz (x:Int) (W:World):Calls Try.prog 100 #[.int .i64 x] W fun e w'=>e= .returned (.bool false)/\w'=W:=by
 go_enter Try.func100,Try.ntmps100
 go_wp2
 go_ret
 simp
theorem Jc (x:Int) (W:World):Calls Try.prog 101 #[.int .i64 x] W fun e w'=>e= .returned (.bool false)/\w'=W:=by
 go_enter Try.func101,Try.ntmps101
 go_wp2
 go_ret
 simp
theorem Ic (x:Int) (W:World):Calls Try.prog 102 #[.int .i64 x] W fun e w'=>e= .returned (.bool false)/\w'=W:=by
 go_enter Try.func102,Try.ntmps102
 go_wp2
 go_ret
 simp
theorem Il (x:Int) (W:World):Calls Try.prog 103 #[.int .i64 x] W fun e w'=>e= .returned (.bool false)/\w'=W:=by
 go_enter Try.func103,Try.ntmps103
 go_wp2
 go_ret
 simp
theorem JZ (x y:Int) (W:World):Calls Try.prog 81 #[.int .i64 x,.int .i64 y] W fun e w'=>e= .returned (.int .i64 (fX x y))/\w'=W:=by
 have h0:=fun z W'=>Hz z W'
 unfold fX;go_enter Try.func81,Try.ntmps81
 go_wp2_with (go_at_call 100;refine(h0 _ _).mono ?_;rintro e w' ⟨rfl,rfl⟩)
 all_goals(go_ret;first| (simp;done)| (simp;grind))
theorem JR (x y:Int) (W:World):Calls Try.prog 82 #[.int .i64 x,.int .i64 y] W fun e w'=>e= .returned (.int .i64 (fX x y))/\w'=W:=by
 have h0:=fun z W'=>Jc z W'
 unfold fX;go_enter Try.func82,Try.ntmps82
 go_wp2_with (go_at_call 101;refine(h0 _ _).mono ?_;rintro e w' ⟨rfl,rfl⟩)
 all_goals(go_ret;first| (simp;done)| (simp;grind))
theorem Km (x y:Int) (W:World):Calls Try.prog 83 #[.int .i64 x,.int .i64 y] W fun e w'=>e= .returned (.int .i64 (fX x y))/\w'=W:=by
 have h0:=fun z W'=>Ic z W'
 unfold fX;go_enter Try.func83,Try.ntmps83
 go_wp2_with (go_at_call 102;refine(h0 _ _).mono ?_;rintro e w' ⟨rfl,rfl⟩)
 all_goals(go_ret;first| (simp;done)| (simp;grind))
theorem KE (x y:Int) (W:World):Calls Try.prog 84 #[.int .i64 x,.int .i64 y] W fun e w'=>e= .returned (.int .i64 (fX x y))/\w'=W:=by
 have h0:=fun z W'=>Il z W'
 unfold fX;go_enter Try.func84,Try.ntmps84
 go_wp2_with (go_at_call 103;refine(h0 _ _).mono ?_;rintro e w' ⟨rfl,rfl⟩)
 all_goals(go_ret;first| (simp;done)| (simp;grind))
theorem Jw (a b c d e:Int) (W:World):Calls Try.prog 37 #[.agg #[.int .i64 a,.int .i64 b,.int .i64 c,.int .i64 d,.int .i64 e]] W fun en w'=>en= .returned (.agg #[.int .i64 a,.int .i64 b,.int .i64 c,.int .i64 d,.int .i64 e,.int .i64 0])/\∃q os',w'=grow (W.drewN q) os':=by
 go_enter Try.func37,Try.ntmps37
 go_wp2
 refine bodyPost_ret (results_cell_row rfl _ _ (W.heap.size+1) 26 _ (0,0) _ rfl (heap_alloc2_new _ _ _) Try.underlying26 rfl (by kernel_rfl)) rfl ?_
 exact⟨rfl,(0:Nat),_,by rw[alloc_eq_grow,alloc_eq_grow,grow_grow];rfl⟩
def Au (a b c d e f:Int):Int:=bif a != 0 then a else bif b != 0 then b else bif c != 0 then c else bif d != 0 then d else bif e != 0 then e else bif f != 0 then f else 0
theorem EY (a b c d e f:Int) (W:World) (k:Nat) (ty:Nat) (hk:W.heap[k]? =some (.cells #[.int .i64 a,.int .i64 b,.int .i64 c,.int .i64 d,.int .i64 e,.int .i64 f] ty (0,0))):
  Calls Try.prog 80 #[.slice (some ⟨k,0,none⟩) 6 6] W fun en w'=>en= .returned (.int .i64 (Au a b c d e f))/\w'=W:=by
 have c0:W.cell? ⟨k,0,none⟩=some (.int .i64 a):=by simp[World.cell?,hk]
 have c1:W.cell? ⟨k,1,none⟩=some (.int .i64 b):=by simp[World.cell?,hk]
 have c2:W.cell? ⟨k,2,none⟩=some (.int .i64 c):=by simp[World.cell?,hk]
 have c3:W.cell? ⟨k,3,none⟩=some (.int .i64 d):=by simp[World.cell?,hk]
 have c4:W.cell? ⟨k,4,none⟩=some (.int .i64 e):=by simp[World.cell?,hk]
 have c5:W.cell? ⟨k,5,none⟩=some (.int .i64 f):=by simp[World.cell?,hk]
 go_enter Try.func80,Try.ntmps80
 go_wp2
 refine wp_loop_rounds 7 ?_;repeat' (first|go_ret| (rw[rounds_succ];go_wp2))
 all_goals
  simp only[Au,cond_true,cond_false, *];exact⟨rfl,trivial⟩
theorem IJ (w:World) (A B C:Obj):(((w.alloc A).alloc B).alloc C).drew.heap[w.heap.size+1+1]? =some C:=by
 have h:=heap_alloc2_new (w.alloc A) B C
 have e:(w.alloc A).heap.size=w.heap.size+1:=by
  show(w.heap.push A).size=_
  simp
 rwa [e]at h
theorem Kw (x y:Sx.Key) (W:World):Calls Try.prog 70 #[.agg (Sx.bn x).toArray,.agg (Sx.bn y).toArray] W fun en w'=>en= .returned (.int .i64 (Au (fX x.kind y.kind) (fX x.oid y.oid) (fX x.count y.count) (fX x.call y.call) (fX x.rights y.rights) (fX x.value y.value)))/\∃q os',w'=grow (W.drewN q) os':=by
 have h1:=fun x y W'=>JZ x y W'
 have h2:=fun x y W'=>JR x y W'
 have h3:=fun x y W'=>Km x y W'
 have h4:=fun x y W'=>KE x y W'
 simp only[Sx.bn,Sx.i64];go_enter Try.func70,Try.ntmps70
 go_wp2
 go_region_held3 (fun w'=>w'.cell? ⟨W.heap.size,0,none⟩=some (.int .i64 x.kind)/\w'.cell? ⟨W.heap.size,1,none⟩=some (.int .i64 x.oid)/\w'.cell? ⟨W.heap.size,2,none⟩=some (.int .i64 x.count)/\w'.cell? ⟨W.heap.size,3,none⟩=some (.int .i64 x.call)/\w'.cell? ⟨W.heap.size,4,none⟩=some (.int .i64 x.rights)/\w'.cell? ⟨W.heap.size,5,none⟩=some (.int .i64 x.value)/\w'.cell? ⟨W.heap.size+1,0,none⟩=some (.int .i64 y.kind)/\w'.cell? ⟨W.heap.size+1,1,none⟩=some (.int .i64 y.oid)/\w'.cell? ⟨W.heap.size+1,2,none⟩=some (.int .i64 y.count)/\w'.cell? ⟨W.heap.size+1,3,none⟩=some (.int .i64 y.call)/\w'.cell? ⟨W.heap.size+1,4,none⟩=some (.int .i64 y.rights)/\w'.cell? ⟨W.heap.size+1,5,none⟩=some (.int .i64 y.value)) (go_keep)
  (first
   | (go_at_call 81;refine(h1 _ _ _).mono ?_;rintro e w' ⟨rfl,rfl⟩)
   | (go_at_call 82;refine(h2 _ _ _).mono ?_;rintro e w' ⟨rfl,rfl⟩)
   | (go_at_call 83;refine(h3 _ _ _).mono ?_;rintro e w' ⟨rfl,rfl⟩)
   | (go_at_call 84;refine(h4 _ _ _).mono ?_;rintro e w' ⟨rfl,rfl⟩)
   | (go_at_call 80;refine(EY _ _ _ _ _ _ _ _ _ (IJ _ _ _ _)).mono ?_;rintro e w' ⟨rfl,rfl⟩))
 all_goals go_wp2
 all_goals go_ret
 all_goals exact⟨rfl,(1:Nat),_,by rw[alloc_eq_grow,alloc_eq_grow,alloc_eq_grow,grow_grow,grow_grow];rfl⟩
abbrev Lq (x:Sx.Key):Value:= .agg #[.int .i64 x.kind,.int .i64 x.oid,.int .i64 x.count,.int .i64 x.call,.int .i64 x.rights]
theorem yy (w:World) (os:Array Obj) (n:Nat):(grow w os).drewN n=grow (w.drewN n) os:=rfl
theorem Ay (w:World) (n m:Nat):(w.drewN n).drewN m=w.drewN (n+m):=by
 unfold World.drewN;simp[Nat.add_assoc]
theorem BJ {w:World} {os:Array Obj} {n:Nat} {a:Addr} {v:Value} (h:w.cell? a=some v):(grow (w.drewN n) os).cell? a=some v:=by
 have hlt:=block_lt_of_cell h;unfold World.cell? at h⊢
 have e:(grow (w.drewN n) os).heap[a.block]? =w.heap[a.block]? :=by
  show(w.heap++os)[a.block]? =_
  rw[Array.getElem?_append_left hlt]
 rw[e];exact h
theorem Gs {w:World} {os:Array Obj} {a:Addr} {v:Value} (h:w.cell? a=some v):(grow w os).cell? a=some v:=BJ (n:=0) h
theorem Gk {w:World} {n:Nat} {a:Addr} {v:Value} (h:w.cell? a=some v):(w.drewN n).cell? a=some v:=h
theorem Mn (w:World) (t:Nat) (f:Nat×Nat) (B:Obj) {c:Array Value} {i:Nat} {v:Value} (h:c[i]? =some v):((w.alloc (.cells c t f)).alloc B).cell? ⟨w.heap.size,i,none⟩=some v:=by
 unfold World.cell?;rw[heap_alloc2_old];exact h
theorem Mm (w:World) (t:Nat) (f:Nat×Nat) (A:Obj) {c:Array Value} {i:Nat} {v:Value} (h:c[i]? =some v):((w.alloc A).alloc (.cells c t f)).cell? ⟨w.heap.size+1,i,none⟩=some v:=by
 unfold World.cell?;rw[heap_alloc2_new];exact h
theorem Kq (x y:Sx.Key) (W:World):Calls Try.prog 53 #[Lq x,Lq y] W fun en w'=>en= .returned (.int .i64 (Au (fX x.kind y.kind) (fX x.oid y.oid) (fX x.count y.count) (fX x.call y.call) (fX x.rights y.rights) 0))/\∃q os',w'=grow (W.drewN q) os':=by
 have h1:=fun a b c d e W'=>Jw a b c d e W'
 have h2:=fun W'=>Kw {x with value:=0} {y with value:=0} W'
 have h3:fX 0 0=0:=rfl;simp only[Sx.bn,Sx.i64,h3]at h2;unfold Lq;go_enter Try.func53,Try.ntmps53
 go_wp2
 go_region_held3 (fun w'=>w'.cell? ⟨W.heap.size,0,none⟩=some (.int .i64 x.kind)/\w'.cell? ⟨W.heap.size,1,none⟩=some (.int .i64 x.oid)/\w'.cell? ⟨W.heap.size,2,none⟩=some (.int .i64 x.count)/\w'.cell? ⟨W.heap.size,3,none⟩=some (.int .i64 x.call)/\w'.cell? ⟨W.heap.size,4,none⟩=some (.int .i64 x.rights)/\w'.cell? ⟨W.heap.size+1,0,none⟩=some (.int .i64 y.kind)/\w'.cell? ⟨W.heap.size+1,1,none⟩=some (.int .i64 y.oid)/\w'.cell? ⟨W.heap.size+1,2,none⟩=some (.int .i64 y.count)/\w'.cell? ⟨W.heap.size+1,3,none⟩=some (.int .i64 y.call)/\w'.cell? ⟨W.heap.size+1,4,none⟩=some (.int .i64 y.rights)) (first|go_keep| (and_intros<;>(repeat(first|exact Mn _ _ _ _ rfl|exact Mm _ _ _ _ rfl|apply BJ|apply Gs|apply Gk))))
  (first
   | (go_at_call 37;refine(h1 _ _ _ _ _ _).mono ?_;rintro e w' ⟨rfl,q,os,rfl⟩)
   | (go_at_call 70;refine(h2 _).mono ?_;rintro e w' ⟨rfl,q,os,rfl⟩))
 all_goals go_wp2
 all_goals go_ret
 all_goals exact⟨rfl,_,_,by simp only[alloc_eq_grow,yy,Ay,grow_grow];rfl⟩
def IC:Go.Shelf.Ren:=⟨fun|6=>68|15=>79|14=>78|28=>98|29=>99|20=>90|21=>91|22=>92|23=>93|24=>94|25=>95|26=>96|27=>97|46=>104|47=>105|48=>106|49=>107|50=>108|57=>109|n=>n,
 fun|22=>39|24=>43|25=>102|3=>3|39=>133|0=>0|53=>148|55=>150|4=>4|46=>142|45=>141|50=>82|5=>5|9=>9|66=>155|70=>159|76=>161|77=>162|n=>n,fun n=>n⟩
theorem DD:SlLaysF0.n6 Try.prog IC where
 mixed:=by kernel_rfl
 f6:=⟨Try.f68.name,by decide,Try.func68.trans (congrArg some (by kernel_rfl))⟩
 f14:=⟨Try.f78.name,by decide,Try.func78.trans (congrArg some (by kernel_rfl))⟩
 f15:=Try.func79.trans (congrArg some (by kernel_rfl))
 f20:=⟨Try.f90.name,by decide,Try.func90.trans (congrArg some (by kernel_rfl))⟩
 f21:=⟨Try.f91.name,by decide,Try.func91.trans (congrArg some (by kernel_rfl))⟩
 f22:=⟨Try.f92.name,by decide,Try.func92.trans (congrArg some (by kernel_rfl))⟩
 f23:=⟨Try.f93.name,by decide,Try.func93.trans (congrArg some (by kernel_rfl))⟩
 f24:=⟨Try.f94.name,by decide,Try.func94.trans (congrArg some (by kernel_rfl))⟩
 f25:=⟨Try.f95.name,by decide,Try.func95.trans (congrArg some (by kernel_rfl))⟩
 f26:=⟨Try.f96.name,by decide,Try.func96.trans (congrArg some (by kernel_rfl))⟩
 f27:=⟨Try.f97.name,by decide,Try.func97.trans (congrArg some (by kernel_rfl))⟩
 f28:=Try.func98.trans (congrArg some (by kernel_rfl))
 f29:=Try.func99.trans (congrArg some (by kernel_rfl))
 f46:=⟨Try.f104.name,by decide,Try.func104.trans (congrArg some (by kernel_rfl))⟩
 f47:=Try.func105.trans (congrArg some (by kernel_rfl))
 f48:=Try.func106.trans (congrArg some (by kernel_rfl))
 f49:=⟨Try.f107.name,by decide,Try.func107.trans (congrArg some (by kernel_rfl))⟩
 f50:=⟨Try.f108.name,by decide,Try.func108.trans (congrArg some (by kernel_rfl))⟩
 f57:=⟨Try.f109.name,by decide,Try.func109.trans (congrArg some (by kernel_rfl))⟩
 t0:=Try.underlying0
 a0:=Try.isAgg0
 z0:=Try.sizeOf0
 v0:=Try.zeroValue0
 t3:=Try.underlying3
 a3:=Try.isAgg3
 z3:=Try.sizeOf3
 v3:=Try.zeroValue3
 t4:=Try.underlying4
 a4:=Try.isAgg4
 z4:=Try.sizeOf4
 v4:=Try.zeroValue4
 t5:=Try.underlying5
 a5:=Try.isAgg5
 z5:=Try.sizeOf5
 v5:=Try.zeroValue5
 t9:=Try.underlying9
 a9:=Try.isAgg9
 z9:=Try.sizeOf9
 v9:=Try.zeroValue9
 t22:=Try.underlying39
 a22:=Try.isAgg39
 z22:=Try.sizeOf39
 v22:=Try.zeroValue39
 t25:=Try.underlying102
 a25:=Try.isAgg102
 z25:=Try.sizeOf102
 v25:=Try.zeroValue102
 t39:=Try.underlying133
 a39:=Try.isAgg133
 z39:=Try.sizeOf133
 v39:=Try.zeroValue133
 t45:=Try.underlying141
 a45:=Try.isAgg141
 z45:=Try.sizeOf141
 v45:=Try.zeroValue141
 t46:=Try.underlying142
 a46:=Try.isAgg142
 z46:=Try.sizeOf142
 v46:=Try.zeroValue142
 t50:=Try.underlying82
 a50:=Try.isAgg82
 z50:=Try.sizeOf82
 v50:=Try.zeroValue82
 t53:=Try.underlying148
 a53:=Try.isAgg148
 z53:=Try.sizeOf148
 v53:=Try.zeroValue148
 t55:=Try.underlying150
 a55:=Try.isAgg150
 z55:=Try.sizeOf150
 v55:=Try.zeroValue150
 t66:=Try.underlying155
 a66:=Try.isAgg155
 z66:=Try.sizeOf155
 v66:=Try.zeroValue155
 t70:=Try.underlying159
 a70:=Try.isAgg159
 z70:=Try.sizeOf159
 v70:=Try.zeroValue159
 t76:=Try.underlying161
 a76:=Try.isAgg161
 z76:=Try.sizeOf161
 v76:=Try.zeroValue161
 t77:=Try.underlying162
 a77:=Try.isAgg162
 z77:=Try.sizeOf162
 v77:=Try.zeroValue162
end Go.Proofs.Ytmfbohanboiklaa
