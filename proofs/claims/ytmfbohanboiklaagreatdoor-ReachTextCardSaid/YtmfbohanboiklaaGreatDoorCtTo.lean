import Derived.Test.YtmfbohanboiklaaGreatDoorSxF
import Derived.Test.YtmfbohanboiklaaGreatDoorProg
import Derived.WalkSpells
import Derived.StillTactics
import Derived.Laws.Pointers
import Derived.Laws.Rows
import Derived.Deep.RegionHeld3
import Derived.Deep.Draws
import Derived.Shelf.SlSortCmp.NoneTotal
import Derived.KernelRfl
set_option linter.unusedSimpArgs false
set_option linter.unusedVariables false
namespace Go.Proofs.YtmfbohanboiklaaGreatDoor
open Go.Sort Go.Shelf Go.Proofs
instance fenW:Go.Sx.Fen:=⟨False⟩
set_option maxRecDepth 100000
set_option maxHeartbeats 4000000
def gh(x y:Int):Int:=if x<y then -1 else if y<x then 1 else 0
theorem Hz(x:Int)(W:World):Calls Tryz.prog 97 #[.int .i64 x] W fun e w'=>e= .returned (.bool false)/\w'=W:=by
 go_enter Tryz.func97,Tryz.ntmps97
 go_wp2
 go_ret
 simp
theorem H4(x:Int)(W:World):Calls Tryz.prog 98 #[.int .i64 x] W fun e w'=>e= .returned (.bool false)/\w'=W:=by
 go_enter Tryz.func98,Tryz.ntmps98
 go_wp2
 go_ret
 simp
theorem HL(x:Int)(W:World):Calls Tryz.prog 99 #[.int .i64 x] W fun e w'=>e= .returned (.bool false)/\w'=W:=by
 go_enter Tryz.func99,Tryz.ntmps99
 go_wp2
 go_ret
 simp
theorem Ir(x:Int)(W:World):Calls Tryz.prog 100 #[.int .i64 x] W fun e w'=>e= .returned (.bool false)/\w'=W:=by
 go_enter Tryz.func100,Tryz.ntmps100
 go_wp2
 go_ret
 simp
theorem Kg(x y:Int)(W:World):Calls Tryz.prog 76 #[.int .i64 x,.int .i64 y] W fun e w'=>e= .returned (.int .i64 (gh x y))/\w'=W:=by
 have h0:=fun z W'=>Hz z W'
 unfold gh;go_enter Tryz.func76,Tryz.ntmps76
 go_wp2_with (go_at_call 97;refine(h0 _ _).mono ?_;rintro e w' ⟨rfl,rfl⟩)
 all_goals(go_ret;first| (simp;done)| (simp;grind))
theorem JE(x y:Int)(W:World):Calls Tryz.prog 77 #[.int .i64 x,.int .i64 y] W fun e w'=>e= .returned (.int .i64 (gh x y))/\w'=W:=by
 have h0:=fun z W'=>H4 z W'
 unfold gh;go_enter Tryz.func77,Tryz.ntmps77
 go_wp2_with (go_at_call 98;refine(h0 _ _).mono ?_;rintro e w' ⟨rfl,rfl⟩)
 all_goals(go_ret;first| (simp;done)| (simp;grind))
theorem JT(x y:Int)(W:World):Calls Tryz.prog 78 #[.int .i64 x,.int .i64 y] W fun e w'=>e= .returned (.int .i64 (gh x y))/\w'=W:=by
 have h0:=fun z W'=>HL z W'
 unfold gh;go_enter Tryz.func78,Tryz.ntmps78
 go_wp2_with (go_at_call 99;refine(h0 _ _).mono ?_;rintro e w' ⟨rfl,rfl⟩)
 all_goals(go_ret;first| (simp;done)| (simp;grind))
theorem J4(x y:Int)(W:World):Calls Tryz.prog 79 #[.int .i64 x,.int .i64 y] W fun e w'=>e= .returned (.int .i64 (gh x y))/\w'=W:=by
 have h0:=fun z W'=>Ir z W'
 unfold gh;go_enter Tryz.func79,Tryz.ntmps79
 go_wp2_with (go_at_call 100;refine(h0 _ _).mono ?_;rintro e w' ⟨rfl,rfl⟩)
 all_goals(go_ret;first| (simp;done)| (simp;grind))
theorem Jr(a b c d e:Int)(W:World):Calls Tryz.prog 15 #[.agg #[.int .i64 a,.int .i64 b,.int .i64 c,.int .i64 d,.int .i64 e]] W fun en w'=>en= .returned (.agg #[.int .i64 a,.int .i64 b,.int .i64 c,.int .i64 d,.int .i64 e,.int .i64 0])/\∃q os',w'=grow (W.drewN q) os':=by
 go_enter Tryz.func15,Tryz.ntmps15
 go_wp2
 refine bodyPost_ret (results_cell_row rfl _ _ (W.heap.size+1) 32 _ (0,0) _ rfl (heap_alloc2_new _ _ _) Tryz.underlying32 rfl (by kernel_rfl)) rfl ?_
 exact⟨rfl,(0:Nat),_,by rw[alloc_eq_grow,alloc_eq_grow,grow_grow];rfl⟩
def A9(a b c d e f:Int):Int:=bif a != 0 then a else bif b != 0 then b else bif c != 0 then c else bif d != 0 then d else bif e != 0 then e else bif f != 0 then f else 0
theorem Fy(a b c d e f:Int)(W:World)(k:Nat)(ty:Nat)(hk:W.heap[k]? =some (.cells #[.int .i64 a,.int .i64 b,.int .i64 c,.int .i64 d,.int .i64 e,.int .i64 f] ty (0,0))):
  Calls Tryz.prog 75 #[.slice (some ⟨k,0,none⟩) 6 6] W fun en w'=>en= .returned (.int .i64 (A9 a b c d e f))/\w'=W:=by
 have c0:W.cell? ⟨k,0,none⟩=some (.int .i64 a):=by simp[World.cell?,hk]
 have c1:W.cell? ⟨k,1,none⟩=some (.int .i64 b):=by simp[World.cell?,hk]
 have c2:W.cell? ⟨k,2,none⟩=some (.int .i64 c):=by simp[World.cell?,hk]
 have c3:W.cell? ⟨k,3,none⟩=some (.int .i64 d):=by simp[World.cell?,hk]
 have c4:W.cell? ⟨k,4,none⟩=some (.int .i64 e):=by simp[World.cell?,hk]
 have c5:W.cell? ⟨k,5,none⟩=some (.int .i64 f):=by simp[World.cell?,hk]
 go_enter Tryz.func75,Tryz.ntmps75
 go_wp2
 refine wp_loop_rounds 7 ?_;repeat' (first|go_ret| (rw[rounds_succ];go_wp2))
 all_goals
  simp only[A9,cond_true,cond_false, *];exact⟨rfl,trivial⟩
theorem Hx(w:World)(A B C:Obj):(((w.alloc A).alloc B).alloc C).drew.heap[w.heap.size+1+1]? =some C:=by
 have h:=heap_alloc2_new (w.alloc A) B C
 have e:(w.alloc A).heap.size=w.heap.size+1:=by
  show(w.heap.push A).size=_
  simp
 rwa [e]at h
theorem JS(x y:Sx.Key)(W:World):Calls Tryz.prog 62 #[.agg (Sx.bK x).toArray,.agg (Sx.bK y).toArray] W fun en w'=>en= .returned (.int .i64 (A9 (gh x.kind y.kind) (gh x.oid y.oid) (gh x.count y.count) (gh x.call y.call) (gh x.rights y.rights) (gh x.value y.value)))/\∃q os',w'=grow (W.drewN q) os':=by
 have h1:=fun x y W'=>Kg x y W'
 have h2:=fun x y W'=>JE x y W'
 have h3:=fun x y W'=>JT x y W'
 have h4:=fun x y W'=>J4 x y W'
 simp only[Sx.bK,Sx.i64];go_enter Tryz.func62,Tryz.ntmps62
 go_wp2
 go_region_held3 (fun w'=>w'.cell? ⟨W.heap.size,0,none⟩=some (.int .i64 x.kind)/\w'.cell? ⟨W.heap.size,1,none⟩=some (.int .i64 x.oid)/\w'.cell? ⟨W.heap.size,2,none⟩=some (.int .i64 x.count)/\w'.cell? ⟨W.heap.size,3,none⟩=some (.int .i64 x.call)/\w'.cell? ⟨W.heap.size,4,none⟩=some (.int .i64 x.rights)/\w'.cell? ⟨W.heap.size,5,none⟩=some (.int .i64 x.value)/\w'.cell? ⟨W.heap.size+1,0,none⟩=some (.int .i64 y.kind)/\w'.cell? ⟨W.heap.size+1,1,none⟩=some (.int .i64 y.oid)/\w'.cell? ⟨W.heap.size+1,2,none⟩=some (.int .i64 y.count)/\w'.cell? ⟨W.heap.size+1,3,none⟩=some (.int .i64 y.call)/\w'.cell? ⟨W.heap.size+1,4,none⟩=some (.int .i64 y.rights)/\w'.cell? ⟨W.heap.size+1,5,none⟩=some (.int .i64 y.value)) (go_keep)
  (first
   | (go_at_call 76;refine(h1 _ _ _).mono ?_;rintro e w' ⟨rfl,rfl⟩)
   | (go_at_call 77;refine(h2 _ _ _).mono ?_;rintro e w' ⟨rfl,rfl⟩)
   | (go_at_call 78;refine(h3 _ _ _).mono ?_;rintro e w' ⟨rfl,rfl⟩)
   | (go_at_call 79;refine(h4 _ _ _).mono ?_;rintro e w' ⟨rfl,rfl⟩)
   | (go_at_call 75;refine(Fy _ _ _ _ _ _ _ _ _ (Hx _ _ _ _)).mono ?_;rintro e w' ⟨rfl,rfl⟩))
 all_goals go_wp2
 all_goals go_ret
 all_goals exact⟨rfl,(1:Nat),_,by rw[alloc_eq_grow,alloc_eq_grow,alloc_eq_grow,grow_grow,grow_grow];rfl⟩
abbrev Lx(x:Sx.Key):Value:= .agg #[.int .i64 x.kind,.int .i64 x.oid,.int .i64 x.count,.int .i64 x.call,.int .i64 x.rights]
theorem yC(w:World)(os:Array Obj)(n:Nat):(grow w os).drewN n=grow (w.drewN n) os:=rfl
theorem An(w:World)(n m:Nat):(w.drewN n).drewN m=w.drewN (n+m):=by
 unfold World.drewN;simp[Nat.add_assoc]
theorem BL{w:World}{os:Array Obj}{n:Nat}{a:Addr}{v:Value}(h:w.cell? a=some v):(grow (w.drewN n) os).cell? a=some v:=by
 have hlt:=block_lt_of_cell h;unfold World.cell? at h⊢
 have e:(grow (w.drewN n) os).heap[a.block]? =w.heap[a.block]? :=by
  show(w.heap++os)[a.block]? =_
  rw[Array.getElem?_append_left hlt]
 rw[e];exact h
theorem EX{w:World}{os:Array Obj}{a:Addr}{v:Value}(h:w.cell? a=some v):(grow w os).cell? a=some v:=BL (n:=0) h
theorem FM{w:World}{n:Nat}{a:Addr}{v:Value}(h:w.cell? a=some v):(w.drewN n).cell? a=some v:=h
theorem Mg(w:World)(t:Nat)(f:Nat×Nat)(B:Obj){c:Array Value}{i:Nat}{v:Value}(h:c[i]? =some v):((w.alloc (.cells c t f)).alloc B).cell? ⟨w.heap.size,i,none⟩=some v:=by
 unfold World.cell?;rw[heap_alloc2_old];exact h
theorem Ma(w:World)(t:Nat)(f:Nat×Nat)(A:Obj){c:Array Value}{i:Nat}{v:Value}(h:c[i]? =some v):((w.alloc A).alloc (.cells c t f)).cell? ⟨w.heap.size+1,i,none⟩=some v:=by
 unfold World.cell?;rw[heap_alloc2_new];exact h
theorem Jq(x y:Sx.Key)(W:World):Calls Tryz.prog 42 #[Lx x,Lx y] W fun en w'=>en= .returned (.int .i64 (A9 (gh x.kind y.kind) (gh x.oid y.oid) (gh x.count y.count) (gh x.call y.call) (gh x.rights y.rights) 0))/\∃q os',w'=grow (W.drewN q) os':=by
 have h1:=fun a b c d e W'=>Jr a b c d e W'
 have h2:=fun W'=>JS {x with value:=0} {y with value:=0} W'
 have h3:gh 0 0=0:=rfl;simp only[Sx.bK,Sx.i64,h3]at h2;unfold Lx;go_enter Tryz.func42,Tryz.ntmps42
 go_wp2
 go_region_held3 (fun w'=>w'.cell? ⟨W.heap.size,0,none⟩=some (.int .i64 x.kind)/\w'.cell? ⟨W.heap.size,1,none⟩=some (.int .i64 x.oid)/\w'.cell? ⟨W.heap.size,2,none⟩=some (.int .i64 x.count)/\w'.cell? ⟨W.heap.size,3,none⟩=some (.int .i64 x.call)/\w'.cell? ⟨W.heap.size,4,none⟩=some (.int .i64 x.rights)/\w'.cell? ⟨W.heap.size+1,0,none⟩=some (.int .i64 y.kind)/\w'.cell? ⟨W.heap.size+1,1,none⟩=some (.int .i64 y.oid)/\w'.cell? ⟨W.heap.size+1,2,none⟩=some (.int .i64 y.count)/\w'.cell? ⟨W.heap.size+1,3,none⟩=some (.int .i64 y.call)/\w'.cell? ⟨W.heap.size+1,4,none⟩=some (.int .i64 y.rights)) (first|go_keep| (and_intros<;>(repeat(first|exact Mg _ _ _ _ rfl|exact Ma _ _ _ _ rfl|apply BL|apply EX|apply FM))))
  (first
   | (go_at_call 15;refine(h1 _ _ _ _ _ _).mono ?_;rintro e w' ⟨rfl,q,os,rfl⟩)
   | (go_at_call 62;refine(h2 _).mono ?_;rintro e w' ⟨rfl,q,os,rfl⟩))
 all_goals go_wp2
 all_goals go_ret
 all_goals exact⟨rfl,_,_,by simp only[alloc_eq_grow,yC,An,grow_grow];rfl⟩
def Il:Go.Shelf.Ren:=⟨fun|6=>60|15=>74|14=>73|28=>96|29=>66|20=>88|21=>89|22=>90|23=>91|24=>92|25=>93|26=>94|27=>95|46=>101|47=>102|48=>103|49=>104|50=>105|57=>106|n=>n,
 fun|22=>22|24=>26|25=>92|3=>3|39=>130|0=>0|53=>127|55=>107|4=>4|46=>152|45=>151|50=>113|5=>5|9=>9|66=>162|70=>166|76=>168|77=>169|n=>n,fun n=>n⟩
theorem BD:SlLaysF0.n6 Tryz.prog Il where
 mixed:=by kernel_rfl
 f6:=⟨Tryz.f60.name,by decide,Tryz.func60.trans (congrArg some (by kernel_rfl))⟩
 f14:=⟨Tryz.f73.name,by decide,Tryz.func73.trans (congrArg some (by kernel_rfl))⟩
 f15:=Tryz.func74.trans (congrArg some (by kernel_rfl))
 f20:=⟨Tryz.f88.name,by decide,Tryz.func88.trans (congrArg some (by kernel_rfl))⟩
 f21:=⟨Tryz.f89.name,by decide,Tryz.func89.trans (congrArg some (by kernel_rfl))⟩
 f22:=⟨Tryz.f90.name,by decide,Tryz.func90.trans (congrArg some (by kernel_rfl))⟩
 f23:=⟨Tryz.f91.name,by decide,Tryz.func91.trans (congrArg some (by kernel_rfl))⟩
 f24:=⟨Tryz.f92.name,by decide,Tryz.func92.trans (congrArg some (by kernel_rfl))⟩
 f25:=⟨Tryz.f93.name,by decide,Tryz.func93.trans (congrArg some (by kernel_rfl))⟩
 f26:=⟨Tryz.f94.name,by decide,Tryz.func94.trans (congrArg some (by kernel_rfl))⟩
 f27:=⟨Tryz.f95.name,by decide,Tryz.func95.trans (congrArg some (by kernel_rfl))⟩
 f28:=Tryz.func96.trans (congrArg some (by kernel_rfl))
 f29:=Tryz.func66.trans (congrArg some (by kernel_rfl))
 f46:=⟨Tryz.f101.name,by decide,Tryz.func101.trans (congrArg some (by kernel_rfl))⟩
 f47:=Tryz.func102.trans (congrArg some (by kernel_rfl))
 f48:=Tryz.func103.trans (congrArg some (by kernel_rfl))
 f49:=⟨Tryz.f104.name,by decide,Tryz.func104.trans (congrArg some (by kernel_rfl))⟩
 f50:=⟨Tryz.f105.name,by decide,Tryz.func105.trans (congrArg some (by kernel_rfl))⟩
 f57:=⟨Tryz.f106.name,by decide,Tryz.func106.trans (congrArg some (by kernel_rfl))⟩
 t0:=Tryz.underlying0
 a0:=Tryz.isAgg0
 z0:=Tryz.sizeOf0
 v0:=Tryz.zeroValue0
 t3:=Tryz.underlying3
 a3:=Tryz.isAgg3
 z3:=Tryz.sizeOf3
 v3:=Tryz.zeroValue3
 t4:=Tryz.underlying4
 a4:=Tryz.isAgg4
 z4:=Tryz.sizeOf4
 v4:=Tryz.zeroValue4
 t5:=Tryz.underlying5
 a5:=Tryz.isAgg5
 z5:=Tryz.sizeOf5
 v5:=Tryz.zeroValue5
 t9:=Tryz.underlying9
 a9:=Tryz.isAgg9
 z9:=Tryz.sizeOf9
 v9:=Tryz.zeroValue9
 t22:=Tryz.underlying22
 a22:=Tryz.isAgg22
 z22:=Tryz.sizeOf22
 v22:=Tryz.zeroValue22
 t25:=Tryz.underlying92
 a25:=Tryz.isAgg92
 z25:=Tryz.sizeOf92
 v25:=Tryz.zeroValue92
 t39:=Tryz.underlying130
 a39:=Tryz.isAgg130
 z39:=Tryz.sizeOf130
 v39:=Tryz.zeroValue130
 t45:=Tryz.underlying151
 a45:=Tryz.isAgg151
 z45:=Tryz.sizeOf151
 v45:=Tryz.zeroValue151
 t46:=Tryz.underlying152
 a46:=Tryz.isAgg152
 z46:=Tryz.sizeOf152
 v46:=Tryz.zeroValue152
 t50:=Tryz.underlying113
 a50:=Tryz.isAgg113
 z50:=Tryz.sizeOf113
 v50:=Tryz.zeroValue113
 t53:=Tryz.underlying127
 a53:=Tryz.isAgg127
 z53:=Tryz.sizeOf127
 v53:=Tryz.zeroValue127
 t55:=Tryz.underlying107
 a55:=Tryz.isAgg107
 z55:=Tryz.sizeOf107
 v55:=Tryz.zeroValue107
 t66:=Tryz.underlying162
 a66:=Tryz.isAgg162
 z66:=Tryz.sizeOf162
 v66:=Tryz.zeroValue162
 t70:=Tryz.underlying166
 a70:=Tryz.isAgg166
 z70:=Tryz.sizeOf166
 v70:=Tryz.zeroValue166
 t76:=Tryz.underlying168
 a76:=Tryz.isAgg168
 z76:=Tryz.sizeOf168
 v76:=Tryz.zeroValue168
 t77:=Tryz.underlying169
 a77:=Tryz.isAgg169
 z77:=Tryz.sizeOf169
 v77:=Tryz.zeroValue169
end Go.Proofs.YtmfbohanboiklaaGreatDoor
