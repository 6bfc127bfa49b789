import Derived.Test.YtmfbohanboiklaaGreatMb15
import Derived.Test.YtmfbohanboiklaaGreatProg
import Derived.WalkSpells
import Derived.StillTactics
import Derived.Laws.Pointers
import Derived.Laws.Rows
import Derived.Deep.RegionHeld3
import Derived.Deep.Draws
import Derived.Shelf.SlSortCmp.NoneTotal
import Derived.KernelRfl
set_option linter.unusedSimpArgs false
set_option linter.unusedVariables false
set_option maxRecDepth 100000
namespace Go.Proofs.YtmfbohanboiklaaGreat
open Go.Sort Go.Shelf Go.Proofs
instance fenW:Go.Sx.Fen:=⟨False⟩
set_option maxHeartbeats 4000000
def lP(x y:Int):Int:=if x<y then -1 else if y<x then 1 else 0
theorem Xl(x:Int)(W:World):Calls Tryz.prog 127 #[.int .i64 x] W fun e w'=>e= .returned (.bool false)/\w'=W:=by
 go_enter Tryz.func127,Tryz.ntmps127
 go_wp2
 go_ret
 simp
theorem Xi(x:Int)(W:World):Calls Tryz.prog 128 #[.int .i64 x] W fun e w'=>e= .returned (.bool false)/\w'=W:=by
 go_enter Tryz.func128,Tryz.ntmps128
 go_wp2
 go_ret
 simp
theorem Ws(x:Int)(W:World):Calls Tryz.prog 129 #[.int .i64 x] W fun e w'=>e= .returned (.bool false)/\w'=W:=by
 go_enter Tryz.func129,Tryz.ntmps129
 go_wp2
 go_ret
 simp
theorem Vj(x:Int)(W:World):Calls Tryz.prog 130 #[.int .i64 x] W fun e w'=>e= .returned (.bool false)/\w'=W:=by
 go_enter Tryz.func130,Tryz.ntmps130
 go_wp2
 go_ret
 simp
theorem YH(x y:Int)(W:World):Calls Tryz.prog 102 #[.int .i64 x,.int .i64 y] W fun e w'=>e= .returned (.int .i64 (lP x y))/\w'=W:=by
 have h0:=fun z W'=>Xl z W'
 unfold lP;go_enter Tryz.func102,Tryz.ntmps102
 go_wp2_with (go_at_call 127;refine(h0 _ _).mono ?_;rintro e w' ⟨rfl,rfl⟩)
 all_goals(go_ret;first| (simp;done)| (simp;grind))
theorem Z7(x y:Int)(W:World):Calls Tryz.prog 103 #[.int .i64 x,.int .i64 y] W fun e w'=>e= .returned (.int .i64 (lP x y))/\w'=W:=by
 have h0:=fun z W'=>Xi z W'
 unfold lP;go_enter Tryz.func103,Tryz.ntmps103
 go_wp2_with (go_at_call 128;refine(h0 _ _).mono ?_;rintro e w' ⟨rfl,rfl⟩)
 all_goals(go_ret;first| (simp;done)| (simp;grind))
theorem ZX(x y:Int)(W:World):Calls Tryz.prog 104 #[.int .i64 x,.int .i64 y] W fun e w'=>e= .returned (.int .i64 (lP x y))/\w'=W:=by
 have h0:=fun z W'=>Ws z W'
 unfold lP;go_enter Tryz.func104,Tryz.ntmps104
 go_wp2_with (go_at_call 129;refine(h0 _ _).mono ?_;rintro e w' ⟨rfl,rfl⟩)
 all_goals(go_ret;first| (simp;done)| (simp;grind))
theorem Zn(x y:Int)(W:World):Calls Tryz.prog 105 #[.int .i64 x,.int .i64 y] W fun e w'=>e= .returned (.int .i64 (lP x y))/\w'=W:=by
 have h0:=fun z W'=>Vj z W'
 unfold lP;go_enter Tryz.func105,Tryz.ntmps105
 go_wp2_with (go_at_call 130;refine(h0 _ _).mono ?_;rintro e w' ⟨rfl,rfl⟩)
 all_goals(go_ret;first| (simp;done)| (simp;grind))
theorem Yy(a b c d e:Int)(W:World):Calls Tryz.prog 33 #[.agg #[.int .i64 a,.int .i64 b,.int .i64 c,.int .i64 d,.int .i64 e]] W fun en w'=>en= .returned (.agg #[.int .i64 a,.int .i64 b,.int .i64 c,.int .i64 d,.int .i64 e,.int .i64 0])/\∃q os',w'=grow (W.drewN q) os':=by
 go_enter Tryz.func33,Tryz.ntmps33
 go_wp2
 refine bodyPost_ret (results_cell_row rfl _ _ (W.heap.size+1) 38 _ (0,0) _ rfl (heap_alloc2_new _ _ _) Tryz.underlying38 rfl (by kernel_rfl)) rfl ?_
 exact⟨rfl,(0:Nat),_,by rw[alloc_eq_grow,alloc_eq_grow,grow_grow];rfl⟩
def Kh(a b c d e f:Int):Int:=bif a != 0 then a else bif b != 0 then b else bif c != 0 then c else bif d != 0 then d else bif e != 0 then e else bif f != 0 then f else 0
theorem Sy(a b c d e f:Int)(W:World)(k:Nat)(ty:Nat)(hk:W.heap[k]? =some (.cells #[.int .i64 a,.int .i64 b,.int .i64 c,.int .i64 d,.int .i64 e,.int .i64 f] ty (0,0))):
  Calls Tryz.prog 101 #[.slice (some ⟨k,0,none⟩) 6 6] W fun en w'=>en= .returned (.int .i64 (Kh a b c d e f))/\w'=W:=by
 have c0:W.cell? ⟨k,0,none⟩=some (.int .i64 a):=by simp[World.cell?,hk]
 have c1:W.cell? ⟨k,1,none⟩=some (.int .i64 b):=by simp[World.cell?,hk]
 have c2:W.cell? ⟨k,2,none⟩=some (.int .i64 c):=by simp[World.cell?,hk]
 have c3:W.cell? ⟨k,3,none⟩=some (.int .i64 d):=by simp[World.cell?,hk]
 have c4:W.cell? ⟨k,4,none⟩=some (.int .i64 e):=by simp[World.cell?,hk]
 have c5:W.cell? ⟨k,5,none⟩=some (.int .i64 f):=by simp[World.cell?,hk]
 go_enter Tryz.func101,Tryz.ntmps101
 go_wp2
 refine wp_loop_rounds 7 ?_;repeat' (first|go_ret| (rw[rounds_succ];go_wp2))
 all_goals
  simp only[Kh,cond_true,cond_false, *];exact⟨rfl,trivial⟩
theorem VE(w:World)(A B C:Obj):(((w.alloc A).alloc B).alloc C).drew.heap[w.heap.size+1+1]? =some C:=by
 have h:=heap_alloc2_new (w.alloc A) B C
 have e:(w.alloc A).heap.size=w.heap.size+1:=by
  show(w.heap.push A).size=_
  simp
 rwa [e]at h
theorem Za(x y:Sx.Key)(W:World):Calls Tryz.prog 76 #[.agg (Sx.c8 x).toArray,.agg (Sx.c8 y).toArray] W fun en w'=>en= .returned (.int .i64 (Kh (lP x.kind y.kind) (lP x.oid y.oid) (lP x.count y.count) (lP x.call y.call) (lP x.rights y.rights) (lP x.value y.value)))/\∃q os',w'=grow (W.drewN q) os':=by
 have h1:=fun x y W'=>YH x y W'
 have h2:=fun x y W'=>Z7 x y W'
 have h3:=fun x y W'=>ZX x y W'
 have h4:=fun x y W'=>Zn x y W'
 simp only[Sx.c8,Sx.i64];go_enter Tryz.func76,Tryz.ntmps76
 go_wp2
 go_region_held3 (fun w'=>w'.cell? ⟨W.heap.size,0,none⟩=some (.int .i64 x.kind)/\w'.cell? ⟨W.heap.size,1,none⟩=some (.int .i64 x.oid)/\w'.cell? ⟨W.heap.size,2,none⟩=some (.int .i64 x.count)/\w'.cell? ⟨W.heap.size,3,none⟩=some (.int .i64 x.call)/\w'.cell? ⟨W.heap.size,4,none⟩=some (.int .i64 x.rights)/\w'.cell? ⟨W.heap.size,5,none⟩=some (.int .i64 x.value)/\w'.cell? ⟨W.heap.size+1,0,none⟩=some (.int .i64 y.kind)/\w'.cell? ⟨W.heap.size+1,1,none⟩=some (.int .i64 y.oid)/\w'.cell? ⟨W.heap.size+1,2,none⟩=some (.int .i64 y.count)/\w'.cell? ⟨W.heap.size+1,3,none⟩=some (.int .i64 y.call)/\w'.cell? ⟨W.heap.size+1,4,none⟩=some (.int .i64 y.rights)/\w'.cell? ⟨W.heap.size+1,5,none⟩=some (.int .i64 y.value)) (go_keep)
  (first
   | (go_at_call 102;refine(h1 _ _ _).mono ?_;rintro e w' ⟨rfl,rfl⟩)
   | (go_at_call 103;refine(h2 _ _ _).mono ?_;rintro e w' ⟨rfl,rfl⟩)
   | (go_at_call 104;refine(h3 _ _ _).mono ?_;rintro e w' ⟨rfl,rfl⟩)
   | (go_at_call 105;refine(h4 _ _ _).mono ?_;rintro e w' ⟨rfl,rfl⟩)
   | (go_at_call 101;refine(Sy _ _ _ _ _ _ _ _ _ (VE _ _ _ _)).mono ?_;rintro e w' ⟨rfl,rfl⟩))
 all_goals go_wp2
 all_goals go_ret
 all_goals exact⟨rfl,(1:Nat),_,by rw[alloc_eq_grow,alloc_eq_grow,alloc_eq_grow,grow_grow,grow_grow];rfl⟩
abbrev cpI(x:Sx.Key):Value:= .agg #[.int .i64 x.kind,.int .i64 x.oid,.int .i64 x.count,.int .i64 x.call,.int .i64 x.rights]
theorem Fu(w:World)(os:Array Obj)(n:Nat):(grow w os).drewN n=grow (w.drewN n) os:=rfl
theorem Jc(w:World)(n m:Nat):(w.drewN n).drewN m=w.drewN (n+m):=by
 unfold World.drewN;simp[Nat.add_assoc]
theorem L8{w:World}{os:Array Obj}{n:Nat}{a:Addr}{v:Value}(h:w.cell? a=some v):(grow (w.drewN n) os).cell? a=some v:=by
 have hlt:=block_lt_of_cell h;unfold World.cell? at h⊢
 have e:(grow (w.drewN n) os).heap[a.block]? =w.heap[a.block]? :=by
  show(w.heap++os)[a.block]? =_
  rw[Array.getElem?_append_left hlt]
 rw[e];exact h
theorem Rc{w:World}{os:Array Obj}{a:Addr}{v:Value}(h:w.cell? a=some v):(grow w os).cell? a=some v:=L8 (n:=0) h
theorem QM{w:World}{n:Nat}{a:Addr}{v:Value}(h:w.cell? a=some v):(w.drewN n).cell? a=some v:=h
theorem c2a(w:World)(t:Nat)(f:Nat×Nat)(B:Obj){c:Array Value}{i:Nat}{v:Value}(h:c[i]? =some v):((w.alloc (.cells c t f)).alloc B).cell? ⟨w.heap.size,i,none⟩=some v:=by
 unfold World.cell?;rw[heap_alloc2_old];exact h
theorem c2b(w:World)(t:Nat)(f:Nat×Nat)(A:Obj){c:Array Value}{i:Nat}{v:Value}(h:c[i]? =some v):((w.alloc A).alloc (.cells c t f)).cell? ⟨w.heap.size+1,i,none⟩=some v:=by
 unfold World.cell?;rw[heap_alloc2_new];exact h
theorem Zd(x y:Sx.Key)(W:World):Calls Tryz.prog 54 #[cpI x,cpI y] W fun en w'=>en= .returned (.int .i64 (Kh (lP x.kind y.kind) (lP x.oid y.oid) (lP x.count y.count) (lP x.call y.call) (lP x.rights y.rights) 0))/\∃q os',w'=grow (W.drewN q) os':=by
 have h1:=fun a b c d e W'=>Yy a b c d e W'
 have h2:=fun W'=>Za {x with value:=0} {y with value:=0} W'
 have h3:lP 0 0=0:=rfl;simp only[Sx.c8,Sx.i64,h3]at h2;unfold cpI;go_enter Tryz.func54,Tryz.ntmps54
 go_wp2
 go_region_held3 (fun w'=>w'.cell? ⟨W.heap.size,0,none⟩=some (.int .i64 x.kind)/\w'.cell? ⟨W.heap.size,1,none⟩=some (.int .i64 x.oid)/\w'.cell? ⟨W.heap.size,2,none⟩=some (.int .i64 x.count)/\w'.cell? ⟨W.heap.size,3,none⟩=some (.int .i64 x.call)/\w'.cell? ⟨W.heap.size,4,none⟩=some (.int .i64 x.rights)/\w'.cell? ⟨W.heap.size+1,0,none⟩=some (.int .i64 y.kind)/\w'.cell? ⟨W.heap.size+1,1,none⟩=some (.int .i64 y.oid)/\w'.cell? ⟨W.heap.size+1,2,none⟩=some (.int .i64 y.count)/\w'.cell? ⟨W.heap.size+1,3,none⟩=some (.int .i64 y.call)/\w'.cell? ⟨W.heap.size+1,4,none⟩=some (.int .i64 y.rights)) (first|go_keep| (and_intros<;>(repeat(first|exact c2a _ _ _ _ rfl|exact c2b _ _ _ _ rfl|apply L8|apply Rc|apply QM))))
  (first
   | (go_at_call 33;refine(h1 _ _ _ _ _ _).mono ?_;rintro e w' ⟨rfl,q,os,rfl⟩)
   | (go_at_call 76;refine(h2 _).mono ?_;rintro e w' ⟨rfl,q,os,rfl⟩))
 all_goals go_wp2
 all_goals go_ret
 all_goals exact⟨rfl,_,_,by simp only[alloc_eq_grow,Fu,Jc,grow_grow];rfl⟩
def Vv:Go.Shelf.Ren:=⟨fun|6=>74|15=>100|14=>99|28=>125|29=>126|20=>117|21=>118|22=>119|23=>120|24=>121|25=>122|26=>123|27=>124|46=>179|47=>180|48=>181|49=>182|50=>183|57=>221|n=>n,
 fun|22=>48|24=>74|25=>121|3=>3|39=>184|0=>0|53=>211|55=>213|4=>4|46=>205|45=>204|50=>88|5=>5|9=>9|66=>231|70=>235|76=>276|77=>277|n=>n,fun n=>n⟩
theorem Pz:SlLaysF0.n6 Tryz.prog Vv where
 mixed:=by kernel_rfl
 f6:=⟨Tryz.f74.name,by decide,Tryz.func74.trans (congrArg some (by kernel_rfl))⟩
 f14:=⟨Tryz.f99.name,by decide,Tryz.func99.trans (congrArg some (by kernel_rfl))⟩
 f15:=Tryz.func100.trans (congrArg some (by kernel_rfl))
 f20:=⟨Tryz.f117.name,by decide,Tryz.func117.trans (congrArg some (by kernel_rfl))⟩
 f21:=⟨Tryz.f118.name,by decide,Tryz.func118.trans (congrArg some (by kernel_rfl))⟩
 f22:=⟨Tryz.f119.name,by decide,Tryz.func119.trans (congrArg some (by kernel_rfl))⟩
 f23:=⟨Tryz.f120.name,by decide,Tryz.func120.trans (congrArg some (by kernel_rfl))⟩
 f24:=⟨Tryz.f121.name,by decide,Tryz.func121.trans (congrArg some (by kernel_rfl))⟩
 f25:=⟨Tryz.f122.name,by decide,Tryz.func122.trans (congrArg some (by kernel_rfl))⟩
 f26:=⟨Tryz.f123.name,by decide,Tryz.func123.trans (congrArg some (by kernel_rfl))⟩
 f27:=⟨Tryz.f124.name,by decide,Tryz.func124.trans (congrArg some (by kernel_rfl))⟩
 f28:=Tryz.func125.trans (congrArg some (by kernel_rfl))
 f29:=Tryz.func126.trans (congrArg some (by kernel_rfl))
 f46:=⟨Tryz.f179.name,by decide,Tryz.func179.trans (congrArg some (by kernel_rfl))⟩
 f47:=Tryz.func180.trans (congrArg some (by kernel_rfl))
 f48:=Tryz.func181.trans (congrArg some (by kernel_rfl))
 f49:=⟨Tryz.f182.name,by decide,Tryz.func182.trans (congrArg some (by kernel_rfl))⟩
 f50:=⟨Tryz.f183.name,by decide,Tryz.func183.trans (congrArg some (by kernel_rfl))⟩
 f57:=⟨Tryz.f221.name,by decide,Tryz.func221.trans (congrArg some (by kernel_rfl))⟩
 t0:=Tryz.underlying0
 a0:=Tryz.isAgg0
 z0:=Tryz.sizeOf0
 v0:=Tryz.zeroValue0
 t3:=Tryz.underlying3
 a3:=Tryz.isAgg3
 z3:=Tryz.sizeOf3
 v3:=Tryz.zeroValue3
 t4:=Tryz.underlying4
 a4:=Tryz.isAgg4
 z4:=Tryz.sizeOf4
 v4:=Tryz.zeroValue4
 t5:=Tryz.underlying5
 a5:=Tryz.isAgg5
 z5:=Tryz.sizeOf5
 v5:=Tryz.zeroValue5
 t9:=Tryz.underlying9
 a9:=Tryz.isAgg9
 z9:=Tryz.sizeOf9
 v9:=Tryz.zeroValue9
 t22:=Tryz.underlying48
 a22:=Tryz.isAgg48
 z22:=Tryz.sizeOf48
 v22:=Tryz.zeroValue48
 t25:=Tryz.underlying121
 a25:=Tryz.isAgg121
 z25:=Tryz.sizeOf121
 v25:=Tryz.zeroValue121
 t39:=Tryz.underlying184
 a39:=Tryz.isAgg184
 z39:=Tryz.sizeOf184
 v39:=Tryz.zeroValue184
 t45:=Tryz.underlying204
 a45:=Tryz.isAgg204
 z45:=Tryz.sizeOf204
 v45:=Tryz.zeroValue204
 t46:=Tryz.underlying205
 a46:=Tryz.isAgg205
 z46:=Tryz.sizeOf205
 v46:=Tryz.zeroValue205
 t50:=Tryz.underlying88
 a50:=Tryz.isAgg88
 z50:=Tryz.sizeOf88
 v50:=Tryz.zeroValue88
 t53:=Tryz.underlying211
 a53:=Tryz.isAgg211
 z53:=Tryz.sizeOf211
 v53:=Tryz.zeroValue211
 t55:=Tryz.underlying213
 a55:=Tryz.isAgg213
 z55:=Tryz.sizeOf213
 v55:=Tryz.zeroValue213
 t66:=Tryz.underlying231
 a66:=Tryz.isAgg231
 z66:=Tryz.sizeOf231
 v66:=Tryz.zeroValue231
 t70:=Tryz.underlying235
 a70:=Tryz.isAgg235
 z70:=Tryz.sizeOf235
 v70:=Tryz.zeroValue235
 t76:=Tryz.underlying276
 a76:=Tryz.isAgg276
 z76:=Tryz.sizeOf276
 v76:=Tryz.zeroValue276
 t77:=Tryz.underlying277
 a77:=Tryz.isAgg277
 z77:=Tryz.sizeOf277
 v77:=Tryz.zeroValue277
end Go.Proofs.YtmfbohanboiklaaGreat
namespace Go.Sx
structure T5 where
 a:Int
 b:Int
 c:Int
 d:Int
 e:Int
 deriving Inhabited
def T5.key(x:T5):Key:=⟨x.a,x.b,x.c,x.d,x.e,0⟩
def T5.cp(x:T5):Cp:= [x.a,x.b,x.c,x.d,x.e]
def lB(l:Cp):T5:=⟨aM l 0 0,aM l 1 0,aM l 2 0,aM l 3 0,aM l 4 0⟩
theorem Hk{l:Cp}(h:l.length=5):(lB l).cp=l:=by
 match l,h with
 | [a,b,c,d,e],_=>rfl
theorem Uo(x:T5):lB x.cp=x:=rfl
theorem WA{l:Cp}(h:l.length=5):ez (fK l)=l:=by
 match l,h with
 | [a,b,c,d,e],_=>rfl
def p6(x y:T5):Prop:=x.a<y.a\/(x.a=y.a/\(x.b<y.b\/(x.b=y.b/\(x.c<y.c\/(x.c=y.c/\(x.d<y.d\/(x.d=y.d/\x.e<y.e)))))))
theorem ZC{a b:Int}:k8 a b=0↔a=b:=by
 unfold k8;split
 ·omega
 ·split<;>omega
theorem Ej{a b:Int}:k8 a b<0↔a<b:=by
 unfold k8;split
 ·omega
 ·split<;>omega
theorem OP(x y:T5):DW x.key y.key<0↔p6 x y:=by
 unfold DW T5.key p6;simp only[ne_eq,ZC];by_cases h1:x.a=y.a
 ·rw[aq (by simpa using h1)]
  by_cases h2:x.b=y.b
  ·rw[aq (by simpa using h2)]
   by_cases h3:x.c=y.c
   ·rw[aq (by simpa using h3)]
    by_cases h4:x.d=y.d
    ·rw[aq (by simpa using h4)]
     by_cases h5:x.e=y.e
     ·rw[aq (by simpa using h5)]
      have:k8 0 0=0:=rfl;omega
     ·rw[ar h5,Ej];omega
    ·rw[ar h4,Ej];omega
   ·rw[ar h3,Ej];omega
  ·rw[ar h2,Ej];omega
 ·rw[ar h1,Ej];omega
theorem EX(x:T5):¬p6 x x:=by unfold p6;omega
theorem ue{x y z:T5}(h:p6 x y)(k:p6 y z):p6 x z:=by unfold p6 at *;omega
theorem tH{x y:T5}(h:¬p6 x y)(k:¬p6 y x):x=y:=by
 have:x.a=y.a/\x.b=y.b/\x.c=y.c/\x.d=y.d/\x.e=y.e:=by unfold p6 at *;omega
 cases x;cases y;simp_all
theorem uG{x y:Cp}:kU x y=true↔p6 (lB x) (lB y):=by
 unfold kU;rw[ah];exact OP (lB x) (lB y)
theorem Gu{x y:Cp}(hx:x.length=5)(hy:y.length=5)(h:kU x y=false)(k:kU y x=false):x=y:=by
 have h:¬kU x y=true:=by simp[h]
 have k:¬kU y x=true:=by simp[k]
 rw[uG]at h k;have:=congrArg T5.cp (tH h k);rwa [Hk hx,Hk hy]at this
theorem xy{x y z:Cp}(h:kU x y=true)(k:kU y z=true):kU x z=true:=by
 rw[uG]at *;exact ue h k
theorem PK(x:Cp):kU x x=false:=by
 have:¬kU x x=true:=by rw[uG];exact EX _
 simpa using this
def uI(l:List Cp):Prop:=l.Pairwise fun x y=>kU x y=true
theorem Jw(l:List Cp)(c:Cp):(CU l c).Perm (c::l):=by
 unfold CU;refine List.perm_middle.trans ?_;rw[List.takeWhile_append_dropWhile]
theorem MR{l:List Cp}{c:Cp}(hl:uI l)(h5:∀x∈l,x.length=5)(hc:c.length=5)(hn:c∉l):uI (CU l c):=by
 unfold CU;have htd:=List.takeWhile_append_dropWhile (p:=fun x=>kU x c) (l:=l)
 have hpw:(l.takeWhile (fun x=>kU x c)++l.dropWhile (fun x=>kU x c)).Pairwise fun x y=>kU x y=true:=by rw[htd];exact hl
 obtain⟨p1,p2,p3⟩:=List.pairwise_append.1 hpw
 have ht:∀x∈l.takeWhile (fun x=>kU x c),kU x c=true:=fun x hx=>by
  have:=List.all_takeWhile (p:=fun x=>kU x c) (l:=l)
  exact List.all_eq_true.1 this x hx
 have hd:∀y∈l.dropWhile (fun x=>kU x c),kU c y=true:=by
  cases hdw:l.dropWhile (fun x=>kU x c)with
  |nil=>simp
  |cons z r=>
   have hz0:kU z c=false:=by
    have:=List.head_dropWhile_not (fun x=>kU x c) (l:=l) (by rw[hdw];simp)
    simpa[hdw]using this
   have hzl:z∈l:=by rw[<-htd,hdw];simp
   have hz:kU c z=true:=by
    refine Decidable.byContradiction fun hcz=>?_
    have:=Gu (h5 z hzl) hc hz0 (by simpa using hcz)
    exact hn (this▸hzl)
   intro y hy;rcases List.mem_cons.1 hy with rfl|hy
   ·exact hz
   ·rw[hdw]at p2;exact xy hz ((List.pairwise_cons.1 p2).1 y hy)
 unfold uI;rw[List.pairwise_append];refine⟨p1,List.pairwise_cons.2 ⟨hd,p2⟩,fun x hx y hy=>?_⟩
 rcases List.mem_cons.1 hy with rfl|hy
 ·exact ht x hx
 ·exact p3 x hx y hy
theorem Mi:∀(l acc:List Cp),uI acc->(∀x∈acc,x.length=5)->(∀x∈l,x.length=5)->l.Nodup->(∀x∈l,x∉acc)->uI (l.foldl CU acc)/\(l.foldl CU acc).Perm (l++acc)
 | [],acc,h1,_,_,_,_=>⟨h1,List.Perm.refl _⟩
 |c::l,acc,h1,h2,h3,h4,h5=>by
  have hc:=h3 c (by simp)
  have hn:=h5 c (by simp)
  rw[List.nodup_cons]at h4;have hp:=Jw acc c
  obtain⟨g1,g2⟩:=Mi l (CU acc c) (MR h1 h2 hc hn) (fun x hx=>by
    rcases List.mem_cons.1 (hp.mem_iff.1 hx)with rfl|hx
    ·exact hc
    ·exact h2 x hx) (fun x hx=>h3 x (by simp[hx])) h4.2 (fun x hx hx'=>by
    rcases List.mem_cons.1 (hp.mem_iff.1 hx')with rfl|hx'
    ·exact h4.1 hx
    ·exact h5 x (by simp[hx]) hx')
  exact⟨g1,g2.trans ((hp.append_left l).trans (List.perm_middle))⟩
theorem rQ{l:List Cp}(h5:∀x∈l,x.length=5)(hn:l.Nodup):uI (ra l)/\(ra l).Perm l:=by
 obtain⟨h1,h2⟩:=Mi l [] List.Pairwise.nil (by simp) h5 hn (by simp)
 rw[List.append_nil]at h2;exact⟨h1,h2⟩
theorem OB{l m:List Cp}(hl:uI l)(hm:uI m)(h:l.Perm m):l=m:=
 List.Perm.eq_of_pairwise (le:=fun x y=>kU x y=true) (fun a b _ _ h1 h2=>by have:=xy h1 h2;rw[PK]at this;simp at this) hl hm h
theorem Jl{l m:List Cp}(h5:∀x∈l,x.length=5)(hn:l.Nodup)(h:l.Perm m):ra l=ra m:=by
 obtain⟨a1,a2⟩:=rQ h5 hn;obtain⟨b1,b2⟩:=rQ (fun x hx=>h5 x (h.mem_iff.2 hx)) (h.nodup_iff.1 hn)
 exact OB a1 b1 (a2.trans (h.trans b2.symm))
theorem JF{l:List Cp}(h5:∀x∈l,x.length=5)(hn:l.Nodup)(le:T5->T5->Bool)(hle:∀x y,le x y=true↔ ¬p6 y x):((l.map lB).mergeSort le).map T5.cp=ra l:=by
 have hp:(((l.map lB).mergeSort le).map T5.cp).Perm l:=by
  refine((List.mergeSort_perm _ _).map _).trans ?_;rw[List.map_map]
  have:l.map (T5.cp∘lB)=l:=by
   conv=>rhs;rw[<-List.map_id l]
   exact List.map_congr_left fun x hx=>Hk (h5 x hx)
  rw[this]
 have hpw:=List.pairwise_mergeSort (le:=le) (fun a b c h1 h2=>by
   rw[hle]at *;intro hca;rcases Classical.em (p6 a b)with h|h
   ·exact h2 (ue hca h)
   ·have:=tH h h1;subst this;exact h2 hca) (fun a b=>by
   rcases Classical.em (p6 b a)with h|h
   ·have:le b a=true:=(hle _ _).2 fun h'=>EX _ (ue h h')
    simp[this]
   ·have:le a b=true:=(hle _ _).2 h;simp[this]) (l.map lB)
 obtain⟨a1,a2⟩:=rQ h5 hn;have hnd:(((l.map lB).mergeSort le).map T5.cp).Nodup:=hp.nodup_iff.2 hn;refine OB ?_ a1 (hp.trans a2.symm);unfold uI;rw[List.pairwise_map];have hnd':((l.map lB).mergeSort le).Pairwise (· ≠ ·):=(List.pairwise_map.1 hnd).imp fun h e=>h (congrArg _ e)
 refine(hpw.and hnd').imp fun{x y} ⟨h,hne⟩=>?_
 rw[uG,Uo,Uo];rw[hle]at h;exact Classical.byContradiction fun hh=>hne (tH hh h)
def Vl(v:V):Option Nat:=
 match v with
 | .fn g caps=>match caps with
   | []=>some g
   |_::_=>none
 |_=>none
theorem Js{v:V}{g:Nat}(h:Vl v=some g):v= .fn g []:=by
 unfold Vl at h;split at h
 ·split at h
  ·simp only[aa]at h;subst h;rfl
  ·simp at h
 ·simp at h
def BJ(q:List Cp):Prop:=q.Nodup/\(∀x∈q,x.length=5)/\q.length<=1000000
def N5:kr:=fun args res K=>
 match args with
 | [a,f]=>match a with
   | .sa k=>match Vl f with
     |some g=>match aN res k with
      | .arr own esz t=>match own with
        |some e=>match t with
         | .qs n q=>if g==54&&esz==5&&n==5 then BJ q/\K (.tp []) (bQ res k (.arr (some e) 5 (.qs 5 (ra q))))else False
         |_=>False
        |none=>False
      |_=>False
     |none=>False
   |_=>False
 |_=>False
end Go.Sx
namespace Go.Proofs.YtmfbohanboiklaaGreat
open Go.Sx Go.Sort Go.Shelf Go.Proofs
def nW(x:T5):List Value:= [i64 x.a,i64 x.b,i64 x.c,i64 x.d,i64 x.e]
def HG(x y:T5):Int:=DW x.key y.key
theorem XJ(a x:Int):(bif a != 0 then a else x)=if a≠0 then a else x:=by
 cases h:(a != 0)with
 |true=>simp only[cond_true];rw[ar (by simpa using h)]
 |false=>simp only[cond_false];rw[aq (by simpa using h)]
theorem Ua(x y:T5):Kh (lP x.a y.a) (lP x.b y.b) (lP x.c y.c) (lP x.d y.d) (lP x.e y.e) 0=HG x y:=by
 unfold Kh HG DW T5.key;simp only[bne_self_eq_false,cond_false];have e:∀a b,lP a b=k8 a b:=fun _ _=>rfl
 simp only[e,show k8 0 0=0 from rfl];simp only[XJ]
theorem aad(blk off size:Nat)(w:World):CmpLays Tryz.prog 54 #[] nW 5 HG blk off size w:=fun m os dk hs x y=>by
 have h:=Zd x.key y.key (sortWorldK nW 5 w blk off m dk os);refine h.mono fun e w' ⟨he,hw⟩=>⟨?_,hw⟩
 rw[he,<-Ua];rfl
theorem ltT(x y:T5):ltOf HG x y=true↔p6 x y:=by
 unfold ltOf HG;rw[ah,OP]
theorem Tc(x y:T5):ltOf HG x y=false↔ ¬p6 x y:=by rw[<-ltT];simp
theorem aal:SWO (ltOf HG) where
 irrefl x:=by rw[Tc];exact EX x
 trans x y z h1 h2:=by rw[ltT]at *;exact ue h1 h2
 ntrans x y z h1 h2:=by rw[Tc]at *;unfold p6 at *;omega
theorem Nr{β:Type}(F:Nat->β):∀n:Nat,(List.range (n*5)).map F=(List.range n).flatMap fun j=>(List.range 5).map fun y=>F (j*5+y)
 |0=>rfl
 |n+1=>by
  rw[show(n+1)*5=n*5+5 by omega,List.range_add,List.map_append,Nr F n,List.range_succ (n:=n),List.flatMap_append]
  simp
theorem tF{α β:Type}{f g:α->List β}:∀{l:List α},(∀x∈l,f x=g x)->l.flatMap f=l.flatMap g
 | [],_=>rfl
 |x::l,h=>by rw[List.flatMap_cons,List.flatMap_cons,h x (by simp),tF fun y hy=>h y (by simp[hy])]
theorem BK(D:Array T5):(Go.Sort.flatK nW 5 D).toList=(TL.qs 5 (D.toList.map T5.cp)).cells:=by
 have e:(Go.Sort.flatK nW 5 D).toList=(List.range (D.size*5)).map fun t=>(nW D[t / 5]!)[t%5]! :=by
  unfold Go.Sort.flatK;rw[Array.toList_map,Array.toList_range]
 rw[e,Nr];unfold TL.cells;show _=(List.range (aJ (D.toList.map T5.cp))).flatMap _
 have hl:aJ (D.toList.map T5.cp)=D.size:=by simp[aJ]
 rw[hl];refine tF fun j hj=>?_
 have hj:j<D.size:=by simpa using hj
 show _=Sx.cells Env.zero (.ag (qL (D.toList.map T5.cp) j 0 5))
 unfold Sx.cells;simp only[den,Value.cells,vj]
 have hq:(D.toList.map T5.cp).getD j []=D[j]!.cp:=by
  rw[an,List.getElem?_map,getElem!_pos D j hj];simp[hj]
 refine List.map_congr_left fun y hy=>?_
 have hy:y<5:=by simpa using hy
 have h1:(j*5+y) / 5=j:=by omega
 have h2:(j*5+y)%5=y:=by omega
 rw[h1,h2];unfold gS;rw[hq,Nat.zero_add];unfold nW T5.cp;match y,hy with
 |0,_=>rfl
 |1,_=>rfl
 |2,_=>rfl
 |3,_=>rfl
 |4,_=>rfl
theorem P6(F cur:Array Value)(h:F.size<=cur.size):(putCells id 0 F cur).toList.take F.size=F.toList/\(putCells id 0 F cur).size=cur.size:=by
 have hs:(putCells id 0 F cur).size=cur.size:=by unfold putCells;simp
 refine⟨List.ext_getElem? fun i=>?_,hs⟩
 rw[List.getElem?_take];by_cases hi:i<F.size
 ·rw[ar hi];unfold putCells;have hc:i<cur.size:=by omega
  simp[hi,hc]
 ·rw[aq hi];symm
  simpa using Nat.le_of_not_lt hi
theorem J4{w:World}{g e:Nat}{cur:Array Value}(hb:w.heap[g]? =some (.cells cur e (0,0)))(m:Nat)(dk:Array T5)(os:Array Go.Obj):
  (sortWorldK nW 5 w g 0 m dk os).heap[g]? =some (.cells (putCells id 0 (Go.Sort.flatK nW 5 dk) cur) e (0,0))/\(∀b,b<w.heap.size->b≠g->(sortWorldK nW 5 w g 0 m dk os).heap[b]? =w.heap[b]?)/\w.heap.size<=(sortWorldK nW 5 w g 0 m dk os).heap.size:=by
 have hg:=(Array.getElem?_eq_some_iff.1 hb).1;have e0:(sortWorldK nW 5 w g 0 m dk os).heap=(w.heap.modify g (onCells (putCells id 0 (Go.Sort.flatK nW 5 dk))))++os:=rfl;rw[e0];refine⟨?_,fun b hlt hne=>?_,by simp⟩
 ·rw[Array.getElem?_append_left (by simpa using hg),Array.getElem?_modify,ar rfl,hb];rfl
 ·rw[Array.getElem?_append_left (by simpa using hlt),Array.getElem?_modify,aq (Ne.symm hne)]
theorem SP{q M:List Cp}(h5:∀x∈q,x.length=5)(hM:∀x∈M,x∈q)(hq:∀j,j<(TL.qs 5 q).len->ok (fun _=>False) ((TL.qs 5 q).get j)):∀j,j<(TL.qs 5 M).len->ok (fun _=>False) ((TL.qs 5 M).get j)/\cz ((TL.qs 5 M).get j)=false/\eH ((TL.qs 5 M).get j)=5:=fun j hj=>by
 have hj:j<M.length:=hj;have hm:M[j]∈q:=hM _ (List.getElem_mem hj);obtain⟨i,hi,he⟩:=List.getElem_of_mem hm;have hok:=hq i hi
 have e:∀c,gS M j c=gS q i c:=fun c=>by
  have h1:M.getD j []=q.getD i []:=by rw[an,List.getElem?_eq_getElem hj,an,List.getElem?_eq_getElem hi,he]
  unfold gS;rw[h1]
 have e2:(TL.qs 5 M).get j=(TL.qs 5 q).get i:=congrArg V.ag (yW e 5 0);rw[e2];refine⟨hok,rfl,?_⟩;show qa (qL q i 0 5)=5
 exact Ga _ _
theorem Tk:k7 Tryz.prog 74 N5:=by
 intro args res K KP hh;unfold N5 at hh;split at hh
 case h_2=>exact hh.elim
 split at hh
 case h_2=>exact hh.elim
 rename_i k;split at hh
 case h_2=>exact hh.elim
 rename_i g hg;have hg:=Js hg;subst hg;split at hh
 case h_2=>exact hh.elim
 rename_i own esz t hr;split at hh
 case h_2=>exact hh.elim
 rename_i e;split at hh
 case h_2=>exact hh.elim
 rename_i n q;split at hh
 case isFalse=>exact hh.elim
 rename_i hc;simp only[af,ai]at hc;obtain⟨⟨rfl,rfl⟩,rfl⟩:=hc;obtain⟨⟨hnd,h5,hsm⟩,hK⟩:=hh;intro J fps w0 F0 w hH hargs;have hk:known res k:=by unfold known;rw[hr];simp
 have hho:=hH.holds k hk;rw[hr]at hho;obtain⟨c1,c2,c3,c4,c5,c6,c7⟩:=hho;rcases c7 with⟨c7,_⟩|⟨e',ce,hrow,hfp⟩
 ·simp at c7
 have ce:=ce e rfl;subst ce;have hlen:(TL.qs 5 q).len=q.length:=rfl;obtain⟨s1,s2⟩:=rQ h5 hnd;have hMlen:(ra q).length=q.length:=s2.length_eq
 have hcell:(TL.qs 5 q).cells=(Go.Sort.flatK nW 5 (q.map lB).toArray).toList:=by
  rw[BK]
  have:(q.map lB).toArray.toList.map T5.cp=q:=by
   rw[List.map_map];conv=>rhs;rw[<-List.map_id q]
   exact List.map_congr_left fun x hx=>Hk (h5 x hx)
  rw[this]
 have hel:=SP h5 (fun x hx=>s2.mem_iff.1 hx) fun j hj=>(c1 j hj).1
 have fin:∀w',w'.os=w.os->w'.tape=w.tape->w'.output=w.output->w.heap.size<=w'.heap.size->(∀b,b<w.heap.size->¬fps k b->w'.heap[b]? =w.heap[b]?)->w'.ownsRow 0 e 5 (J.sl k) q.length (TL.qs 5 (ra q)).cells->
   ∃x ρ' fps' res',bn ρ' fps' res' (known res') w0 F0 w'/\Sx.Good J res ρ' res'/\ok (known res') x/\(.returned (.tuple #[])=Ending.returned (den ρ' x)/\K x res'):=fun w' a1 a2 a3 a4 a5 a6=>by
  obtain⟨fps',f1,f2,f3⟩:=hH.Ha (ρ':=J) (w':=w') [] k (.arr (some e) 5 (.qs 5 (ra q))) [] (fps k) (by simp) (by simp) hk (by simp) (by simp) (Env.agree.refl _ _)
   ⟨hel,by rw[c2,hlen,<-hMlen];rfl,by show(ra q).length<=_;rw[hMlen];exact c3,c4,fun h=>c5 (by show 0<q.length;rw[<-hMlen];exact h),fun h=>c6 (by show 0<q.length;rw[<-hMlen];exact h),.inr ⟨e,by simp,by
    show w'.ownsRow 0 e 5 (J.sl k) (ra q).length _
    rw[hMlen];exact a6,hfp⟩⟩
   (fun b hb=> .inl hb) a1 a2 a3 a4 (fun b hb hn _=>a5 b hb hn)
  have hres:cq [] (bQ res k (.arr (some e) 5 (.qs 5 (ra q))))++ []=bQ res k (.arr (some e) 5 (.qs 5 (ra q))):=by rw[List.append_nil];rfl
  rw[hres]at f1 f3;exact⟨.tp [],J,fps',_,f1,⟨f2,f3⟩,trivial,rfl,hK⟩
 have hargs':(bI J [.sa k,.fn 54 []]).toArray= #[J.sl k,.func (.func 54) #[] #[]]:=rfl;rw[hargs'];rcases hrow.2 with⟨hv,hn0⟩|⟨g,cap,cur,hv,_,hgc,hnc,hcm,hcs,htk⟩
 ·have hq0:q= []:=List.length_eq_zero_iff.1 hn0;rw[hv];refine MO (fun h:False=>h) ((AnyF.slices_SortFunc_none Pz none 0 _ w).mono fun en w' ⟨he,hw⟩=>?_)
  subst hw
  obtain⟨x,ρ',fps',res',f1,f2,f3,f4,f5⟩:=fin w' rfl rfl rfl (Nat.le_refl _) (fun _ _ _=>rfl) (by
   have:ra q=q:=by rw[hq0];rfl
   rw[this];exact hrow)
  exact⟨x,ρ',fps',res',f1,f2,f3,.inl ⟨by rw[he,f4],f5⟩⟩
 ·rw[hv]
  have hfg:fps k g:=by
   have hsa:J.sa k=some ⟨g,0,none⟩:=by
    have:Value.slice (J.sa k) (J.sn k) (J.cap k)= .slice (some ⟨g,0,none⟩) (TL.qs 5 q).len cap:=hv;simp only[Value.slice.injEq]at this;exact this.1
   exact hfp _ hsa
  have hds:(q.map lB).toArray.size=q.length:=by simp
  have hFs:(Go.Sort.flatK nW 5 (q.map lB).toArray).size=q.length*5:=by rw[size_flatK,hds]
  have hle:q.length*5<=cur.size:=by rw[hcs];exact Nat.mul_le_mul_right _ hnc
  have hH5:HoldsK nW 5 w g 0 (q.map lB).toArray:=fun j hj=>by
   rw[hFs]at hj;refine⟨?_,?_⟩
   ·unfold World.cell?;simp only[Nat.zero_add,hgc]
    have h1:cur[j]? =(Go.Sort.flatK nW 5 (q.map lB).toArray)[j]? :=by
     have h2:(cur.toList.take (q.length*5))[j]? =(Go.Sort.flatK nW 5 (q.map lB).toArray).toList[j]? :=by
      rw[<-hcell,<-htk];rfl
     rw[List.getElem?_take,ar hj]at h2;simpa using h2
    simp only[Option.isSome_none,Bool.false_eq_true,if_false,h1,id];rw[getElem!_pos _ j (by rw[hFs];exact hj),Array.getElem?_eq_getElem]
   ·unfold World.frozen?;simp[hgc]
  have hlt:=(Array.getElem?_eq_some_iff.1 hgc).1
  have hcon:=AnyQ.slices_SortFunc_total Pz 5 (Tryz.isAgg74) (Tryz.sizeOf74) nW (fun _=>rfl) (fun x v hv=>by simp[nW,i64]at hv;rcases hv with rfl|rfl|rfl|rfl|rfl<;>rfl) HG aal 54 #[] g 0 cap (q.map lB).toArray w
   (enters_of Tryz.func54 (by kernel_rfl) rfl) (aad g 0 _ w) hH5 hlt (by rw[hds];omega) (fun x y h1 h2=>by rw[Tc]at h1 h2;exact tH h1 h2)
  rw[hds]at hcon;refine MO (fun h:False=>h) (hcon.mono fun en w' ⟨he,m,os,hw⟩=>?_)
  have hmg:=JF h5 hnd (fun x y=> !(ltOf HG) y x) (fun x y=>by rw[Bool.not_eq_true',Tc])
  have hdl:(q.map lB).toArray.toList=q.map lB:=rfl;rw[hdl]at hw;obtain⟨k1,k2,k3⟩:=J4 hgc m ((q.map lB).mergeSort fun x y=> !(ltOf HG) y x).toArray os
  have hms:((q.map lB).mergeSort fun x y=> !(ltOf HG) y x).toArray.size=q.length:=by simp[List.length_mergeSort]
  have hF2:(Go.Sort.flatK nW 5 ((q.map lB).mergeSort fun x y=> !(ltOf HG) y x).toArray).size=q.length*5:=by rw[size_flatK,hms]
  obtain⟨t1,t2⟩:=P6 (Go.Sort.flatK nW 5 ((q.map lB).mergeSort fun x y=> !(ltOf HG) y x).toArray) cur (by rw[hF2];exact hle)
  obtain⟨x,ρ',fps',res',f1,f2,f3,f4,f5⟩:=fin w' (by rw[hw];rfl) (by rw[hw];rfl) (by rw[hw];rfl) (by rw[hw];exact k3) (fun b hb hn=>by
    rw[hw];exact k2 b hb fun e=>hn (e▸hfg)) (by
   refine⟨?_,.inr ⟨g,cap,_,hv,Nat.zero_le _,by rw[hw];exact k1,hnc,hcm,by rw[t2];exact hcs,?_⟩⟩
   ·rw[<-hmg,<-hF2];have:=congrArg List.length (BK ((q.map lB).mergeSort fun x y=> !(ltOf HG) y x).toArray)
    simp only[Array.length_toList]at this;exact this.symm
   ·rw[<-hF2,t1,BK,<-hmg])
  exact⟨x,ρ',fps',res',f1,f2,f3,.inl ⟨by rw[he,f4],f5⟩⟩
end Go.Proofs.YtmfbohanboiklaaGreat
namespace Go.Sx
def S1(l:List Gh):cR:= {γ:=Unit,head:=fun U _=>U,inv:=fun _=>True,μ:=fun _=>0,pre:=l}
abbrev XF:Type:=List (Cp×Int)×Nat
def bL(g:XF):List Cp:=(g.1.map (·.1)).drop g.2
def j8(L:List Obj)(oid:Int)(g:XF):Prop:=g.1.map (·.1)=oy L oid g.2/\g.2<=g.1.length/\pS (g.1,bL g) (16+17*(g.2:Int))/\aP L
def n9(g:XF):Nat:=10000-g.2
def l9(D:List (Cp×Int))(S:List Nat):List Cp:=S.map fun q=> [fE D q 0,fE D q 1,fE D q 2,fE D q 3,fE D q 4]
def nS(D:List (Cp×Int))(S:List Nat):Prop:=S.Nodup/\∀q∈S,q<D.length
def vE(S:List Nat):Nat:=1000000-S.length
def WG(res:List aQ)(m:Nat):List (Cp×Int):=
 match aN res m with
 | .ms _ D=>D
 |_=> []
def lpK(ka:List Nat)(c ty m i:Nat):cR:=
 {γ:=List Nat,head:=fun U g=> {U with slots:=Ko ka [] 0 U.slots,res:=bQ (bQ U.res c (.blk ty (.sa U.res.length))) i (.mi m (aJ (WG U.res m)) g)++ [.arr (some zG) 5 (.qs 5 (l9 (WG U.res m) g))]},
  inv:=fun _=>True,pin:=some fun U g=>nS (WG U.res m) g,μ:=vE,pre:= [.bv c zG 5 (.qs 5 [])],ext:=XN c,prs:=fun _=> [.bv c zG 5 (.qs 5 [])]}
def Mk(o:Option (List Obj)):Prop:=match o with|some L=>aP L|none=>True
def Z6(o:Option (List Obj)):Prop:=match o with|some L=>aP L|none=>False
def Yt:Ct:=WJ (bM (VI tS eS) (bM iA jx)) (fun x=>some (Z6 x.1)) (fun _ n=> .sa n) fun x _=> [.arr (some zG) 5 (.qs 5 (pZ (ye x.1) x.2.1))]
theorem Zx{L:List Obj}(hL:aP L)(oid:Int):j8 L oid ((kq L ([],[]) oid false 16).1,0)/\(kq L ([],[]) oid false 16).2=bL ((kq L ([],[]) oid false 16).1,0):=by
 have h1:(kq L ([],[]) oid false 16).1.map (·.1)=oy L oid 0:=by unfold kq;rw[qE];rfl
 have h2:(kq L ([],[]) oid false 16).2=bL ((kq L ([],[]) oid false 16).1,0):=(uv (S:=([],[])) (n:=0) (f:=wN L oid false) rfl (Nat.zero_le _) (16:Int).toNat).1;refine⟨⟨h1,Nat.zero_le _,?_,hL⟩,h2⟩;have h3:=pE (f:=wN L oid false) G4 (16:Int).toNat;show pS ((kq L ([],[]) oid false 16).1,bL ((kq L ([],[]) oid false 16).1,0)) _
 rw[<-h2];exact gq h3 (by show(0:Int)+((16:Int).toNat:Int)<=_;omega)
theorem EZ{L:List Obj}{oid:Int}{g:XF}(h:j8 L oid g):g.2<=g.1.length/\g.1.length<=8192/\pS (g.1,bL g) 200000:=by
 obtain⟨h1,h2,h3,h4⟩:=h
 have hl:g.1.length<=8192:=by
  have:=RS (oid:=oid) (jC h4).2 g.2;rw[<-h1]at this;simpa using this
 exact⟨h2,hl,gq h3 (by omega)⟩
theorem Uy{L:List Obj}{oid:Int}{g:XF}(h:j8 L oid g)(hn:¬bL g= []):g.2<g.1.length/\(∀c,gS (bL g) 0 c=aM (qc (oy L oid g.2) g.2) c 0)/\qc (oy L oid g.2) g.2∈oy L oid g.2:=by
 have hlt:g.2<g.1.length:=by
  refine Decidable.byContradiction fun hh=>hn ?_
  unfold bL;exact List.drop_eq_nil_of_le (by simp;omega)
 have hlt':g.2<(oy L oid g.2).length:=by rw[<-h.1];simpa using hlt
 refine⟨hlt,fun c=>?_,?_⟩
 ·unfold gS bL qc aM;rw[h.1];simp[an]
 ·unfold qc aM;rw[an,List.getElem?_eq_getElem hlt'];exact List.getElem_mem hlt'
theorem of_next{L:List Obj}{oid:Int}{g:XF}(h:j8 L oid g)(hn:¬bL g= [])(T:CS)(hT:T=La L (g.1,zF (bL g)) (fK (qc (oy L oid g.2) g.2))):
  j8 L oid (T.1,g.2+1)/\n9 (T.1,g.2+1)<n9 g/\T.2=bL (T.1,g.2+1):=by
 obtain⟨hlt,_,_⟩:=Uy h hn;obtain⟨b1,b2,b3⟩:=EZ h;obtain⟨h1,h2,h3,h4⟩:=h;have hlt':g.2<(oy L oid g.2).length:=by rw[<-h1];simpa using hlt
 have hk:T.1.map (·.1)=oy L oid (g.2+1):=by
  rw[hT,DQ,oy,ar hlt',h1]
 have hl:T.2=bL (T.1,g.2+1):=by
  rw[hT];refine Mb (n:=g.2+1) ?_ hlt;show zF (bL g)=_
  unfold zF bL;rw[List.tail_drop]
 have hlen:g.2+1<=T.1.length:=by
  have:=(RM L (g.1.map (·.1)) (fK (qc (oy L oid g.2) g.2))).length_le;have e:=congrArg List.length (DQ L (g.1,zF (bL g)) (fK (qc (oy L oid g.2) g.2)));rw[<-hT,List.length_map]at e;rw[List.length_map]at this;have e:T.1.length=(Qp L (g.1.map (·.1)) (fK (qc (oy L oid g.2) g.2))).length:=e;omega
 refine⟨⟨hk,hlen,?_,h4⟩,?_,hl⟩
 ·have hc:pS (g.1,zF (bL g)) (16+17*(g.2:Int)):=⟨h3.1,by
   have:=h3.2.1;show((zF (bL g)).length:Int)<=_
   unfold zF;rw[List.length_tail];have h0:((bL g).length:Int)<=16+17*(g.2:Int):=this;omega,h3.2.2⟩
  have:=RW (L:=L) (k:=fK (qc (oy L oid g.2) g.2)) hc;rw[<-hT]at this;show pS (T.1,bL (T.1,g.2+1)) _
  rw[<-hl];exact gq this (by show _<=16+17*((g.2+1:Nat):Int);omega)
 ·unfold n9;show 10000-(g.2+1)<10000-g.2
  omega
theorem Xv{D:List (Cp×Int)}(h5:∀x∈D.map (·.1),x.length=5){q:Nat}(hq:q<D.length): [fE D q 0,fE D q 1,fE D q 2,fE D q 3,fE D q 4]=(D.map (·.1))[q]'(by simpa using hq):=by
 have e:∀c,fE D q c=aM ((D.map (·.1))[q]'(by simpa using hq)) c 0:=fun c=>by
  unfold fE aM;rw[an (l:=D),List.getElem?_eq_getElem hq];simp
 simp only[e];have hl:=h5 _ (List.getElem_mem (by simpa using hq))
 generalize (D.map (·.1))[q]'(by simpa using hq)=x at hl
 exact WA hl
theorem Lw{D:List (Cp×Int)}(h5:∀x∈D.map (·.1),x.length=5){S:List Nat}(hS:nS D S)(hall:∀q,q<D.length->q∈S):(l9 D S).Perm (D.map (·.1)):=by
 have hp:S.Perm (List.range D.length):=(List.perm_ext_iff_of_nodup hS.1 List.nodup_range).2 fun a=>by
  rw[List.mem_range];exact⟨hS.2 a,hall a⟩
 refine(hp.map _).trans ?_
 have:(List.range D.length).map (fun q=> [fE D q 0,fE D q 1,fE D q 2,fE D q 3,fE D q 4])=D.map (·.1):=by
  refine List.ext_getElem (by simp) fun i h1 h2=>?_
  have hi:i<D.length:=by simpa using h2
  rw[List.getElem_map,List.getElem_range];exact Xv h5 hi
 rw[this]
theorem HJ{S:List Nat}{q:Nat}:Qk S q=true↔q∈S:=by unfold Qk;simp
theorem Hc(S:List Nat)(q:Nat):uP (cE S q)=q:=by
 unfold uP cE aM;simp[an]
theorem QE{D:List (Cp×Int)}{S:List Nat}{q:Nat}(hS:nS D S)(hD:D.length<=8192)(hq:q<D.length)(hn:Qk S q=false):
  nS D (cE S q)/\vE (cE S q)<vE S/\jU (aJ (l9 D S)) 40/\Wo (aJ D) D (cE S q)/\cE (l9 D S) [fE D q 0,fE D q 1,fE D q 2,fE D q 3,fE D q 4]=l9 D (cE S q):=by
 have hm:q∉S:=fun h=>by rw[HJ.2 h]at hn;simp at hn
 have hl:S.length<=D.length:=by
  have:=yd S (List.range D.length) hS.1 fun x hx=>by rw[List.mem_range];exact hS.2 x hx
  simpa using this
 refine⟨⟨?_,?_⟩,?_,?_,⟨rfl,?_,?_⟩,?_⟩
 ·unfold cE;rw[List.nodup_append];exact⟨hS.1,by simp,fun a ha b hb=>by simp at hb;subst hb;exact fun e=>hm (e▸ha)⟩
 ·intro x hx;unfold cE at hx;rcases List.mem_append.1 hx with hx|hx
  ·exact hS.2 x hx
  ·simp at hx;subst hx;exact hq
 ·unfold vE cE;simp;omega
 ·unfold jU l9 aJ;simp only[maxLen,List.length_map];omega
 ·unfold aJ cE;simp
 ·rw[Hc];exact hq
 ·unfold cE l9;simp
theorem WX{L:List Obj}{oid:Int}{g:XF}(h:j8 L oid g)(h0:bL g= []){S:List Nat}(hS:nS g.1 S)(hall:∀q,q<g.1.length->Qk S q=true):BJ (l9 g.1 S)/\ra (l9 g.1 S)=pZ L oid:=by
 obtain⟨b1,b2,b3⟩:=EZ h
 have hle:g.1.length<=g.2:=by
  unfold bL at h0;have:=List.drop_eq_nil_iff.1 h0;simpa using this
 have hrc:QJ L oid=g.1.map (·.1):=by
  rw[h.1];refine Ht (by omega) ?_
  rw[<-h.1];simpa using hle
 have h5:∀x∈g.1.map (·.1),x.length=5:=fun x hx=>(Qa (L:=L) (oid:=oid) (n:=g.2) (by rw[<-h.1];exact hx)).2.1
 have hp:=Lw h5 hS fun q hq=>HJ.1 (hall q hq)
 have hn:(g.1.map (·.1)).Nodup:=by rw[h.1];exact rV L oid _
 have h5':∀x∈l9 g.1 S,x.length=5:=fun x hx=>h5 x (hp.mem_iff.1 hx)
 have hn':=hp.nodup_iff.2 hn;refine⟨⟨hn',h5',?_⟩,?_⟩
 ·have:=hp.length_eq;rw[this,List.length_map];omega
 ·unfold pZ;rw[hrc];exact Jl h5' hn' hp
theorem ZA{L:List Obj}{oid:Int}{n:Nat}{c:Cp}(h:c∈oy L oid n)(hk:(fK c).kind=2):Ww (fK c).rights:=by
 have:=gL (Qa h).1;rw[hk]at this;exact⟨this.1,by simpa[ea]using this.2⟩
end Go.Sx
namespace Go.Proofs.YtmfbohanboiklaaGreat
open Go.Sx
theorem WO(L:List Sx.Obj)(oid:Int)(hL:aP L):
 aw (pS ([],[]) 900000/\(∃g,j8 L oid g/\L=L/\(kq L ([],[]) oid false 16).fst=g.fst/\(kq L ([],[]) oid false 16).snd=bL g/\([2,5]:List Int)=[2,5])/\∀(g:List (Cp×Int)×Nat),j8 L oid g->au (decide (bK (aJ (bL g))=0)) (aw (aw (aw (aw (aw (∀(r0:Loop),(∃g_1,nS g.fst g_1/\L=L/\([2,5]:List Int)=[2,5]/\g.fst=g.fst/\bL g=bL g/\r0=r0/\aJ g.fst=aJ g.fst/\[]=g_1/\[]=l9 g.fst g_1)/\∀(g_1:List Nat),nS g.fst g_1->Y9 (aJ g.fst) g.fst/\(∀(q:Nat),q.succ.le (aJ g.fst)->Qk g_1 q=false->Wo (aJ g.fst) g.fst (cE g_1 q)/\r0=r0/\r0=r0/\jU (aJ (l9 g.fst g_1)) 40/\r0=r0/\∃g',nS g.fst g'/\vE g'<vE g_1/\L=L/\([2,5]:List Int)=[2,5]/\g.fst=g.fst/\bL g=bL g/\r0=r0/\aJ g.fst=aJ g.fst/\cE g_1 q=g'/\cE (l9 g.fst g_1) [fE g.fst (uP (cE g_1 q)) 0,fE g.fst (uP (cE g_1 q)) 1,fE g.fst (uP (cE g_1 q)) 2,fE g.fst (uP (cE g_1 q)) 3,fE g.fst (uP (cE g_1 q)) 4]=l9 g.fst g')/\((∀(q:Nat),q.succ.le (aJ g.fst)->Qk g_1 q=true)->aw (BJ (l9 g.fst g_1)/\∀(nid:Nat),some (V.sa nid)=some (V.sa nid)/\some [aQ.arr (some zG) 5 (TL.qs 5 (ra (l9 g.fst g_1)))]=some [aQ.arr (some zG) 5 (TL.qs 5 (pZ L oid))])))))))) (((0:Int)<=0/\(0:Int)< ↑(aJ (bL g)))/\Int.toNat 0<aJ (bL g)/\ZG (bL g)/\au (decide (gS (bL g) (Int.toNat 0) 0=2)||decide (gS (bL g) (Int.toNat 0) 0=5)) (au (decide (gS (bL g) (Int.toNat 0) 0=2)) (aw ((pS (g.fst,zF (bL g)) 800000/\Ww (gS (bL g) (Int.toNat 0) 4))/\∃g',j8 L oid g'/\n9 g'<n9 g/\L=L/\(ET L (g.fst,zF (bL g)) (Key.mk (gS (bL g) (Int.toNat 0) 0) (gS (bL g) (Int.toNat 0) 1) (gS (bL g) (Int.toNat 0) 2) (gS (bL g) (Int.toNat 0) 3) (gS (bL g) (Int.toNat 0) 4) 0)).fst=g'.fst/\(ET L (g.fst,zF (bL g)) (Key.mk (gS (bL g) (Int.toNat 0) 0) (gS (bL g) (Int.toNat 0) 1) (gS (bL g) (Int.toNat 0) 2) (gS (bL g) (Int.toNat 0) 3) (gS (bL g) (Int.toNat 0) 4) 0)).snd=bL g'/\([2,5]:List Int)=[2,5])) (au (decide (gS (bL g) (Int.toNat 0) 0=5)) (aw (pS (g.fst,zF (bL g)) 800000/\∃g',j8 L oid g'/\n9 g'<n9 g/\L=L/\(Qo L (g.fst,zF (bL g)) (Key.mk (gS (bL g) (Int.toNat 0) 0) (gS (bL g) (Int.toNat 0) 1) (gS (bL g) (Int.toNat 0) 2) (gS (bL g) (Int.toNat 0) 3) (gS (bL g) (Int.toNat 0) 4) 0)).fst=g'.fst/\(Qo L (g.fst,zF (bL g)) (Key.mk (gS (bL g) (Int.toNat 0) 0) (gS (bL g) (Int.toNat 0) 1) (gS (bL g) (Int.toNat 0) 2) (gS (bL g) (Int.toNat 0) 3) (gS (bL g) (Int.toNat 0) 4) 0)).snd=bL g'/\([2,5]:List Int)=[2,5])) False)) (∃ g',j8 L oid g'/\n9 g'<n9 g/\L=L/\g.fst=g'.fst/\zF (bL g)=bL g'/\([2,5]:List Int)=[2,5]))):=by
 delta au aw
 obtain⟨i1,i2⟩:=Zx hL oid;refine⟨rfl,gq G4 (by omega),⟨_,i1,rfl,rfl,i2,rfl⟩,fun g hg=>?_⟩
 have hz:bK (aJ (bL g))=0↔bL g= []:=by
  show(((bL g).length:Nat):Int)=0↔_
  rw[<-List.length_eq_zero_iff];omega
 obtain⟨b1,b2,b3⟩:=EZ hg;refine⟨fun h0=>⟨rfl,rfl,rfl,rfl,rfl,fun r0=>⟨⟨[],⟨by simp,by simp⟩,rfl,rfl,rfl,rfl,rfl,rfl,rfl,rfl⟩,fun S hS=>⟨rfl,fun q hq hn=>?_,fun hall=>?_⟩⟩⟩,fun h0=>?_⟩
 ·obtain⟨k1,k2,k3,k4,k5⟩:=QE hS b2 hq hn;rw[Hc];exact⟨k4,rfl,rfl,k3,rfl,_,k1,k2,rfl,rfl,rfl,rfl,rfl,rfl,rfl,k5⟩
 ·obtain⟨e1,e2⟩:=WX hg (hz.1 (ak h0)) hS hall;exact⟨rfl,e1,fun nid=>⟨rfl,by rw[e2]⟩⟩
 have hne:¬bL g= []:=fun h=>aj h0 (hz.2 h)
 obtain⟨a1,a2,a3⟩:=Uy hg hne
 have hpos:0<aJ (bL g):=by
  show 0<(bL g).length
  cases h:bL g with
  |nil=>exact absurd h hne
  |cons x l=>simp
 have e0:Int.toNat 0=0:=rfl
 have hkey:(Key.mk (gS (bL g) 0 0) (gS (bL g) 0 1) (gS (bL g) 0 2) (gS (bL g) 0 3) (gS (bL g) 0 4) 0:Sx.Key)=fK (qc (oy L oid g.2) g.2):=by
  simp only[a2];rfl
 have hkd:gS (bL g) 0 0=(fK (qc (oy L oid g.2) g.2)).kind:=a2 0
 have hb8:pS (g.1,zF (bL g)) 800000:=⟨by show((g.1.length:Nat):Int)<=_;omega,by
  have h1:((bL g).length:Int)<=200000:=b3.2.1;show((zF (bL g)).length:Int)<=_
  unfold zF;rw[List.length_tail];omega,fun p hp=>by have:=b3.2.2 p hp;omega⟩
 simp only[e0,hkey];rw[hkd];refine⟨⟨by omega,by omega⟩,hpos,hpos,fun hc=>⟨fun h2=>⟨trivial,⟨hb8,?_⟩,?_⟩,fun h2=>⟨fun h5=>⟨trivial,hb8,?_⟩,fun h5=>?_⟩⟩,fun hc=>?_⟩
 ·have:=ZA a3 (ak h2);have e4:gS (bL g) 0 4=(fK (qc (oy L oid g.2) g.2)).rights:=a2 4;rw[e4];exact this
 ·obtain⟨n1,n2,n3⟩:=of_next hg hne (ET L (g.1,zF (bL g)) (fK (qc (oy L oid g.2) g.2))) (by unfold La;rw[ar (ak h2)])
  exact⟨_,n1,n2,trivial,rfl,n3,trivial⟩
 ·obtain⟨n1,n2,n3⟩:=of_next hg hne (Qo L (g.1,zF (bL g)) (fK (qc (oy L oid g.2) g.2))) (by unfold La;rw[aq (aj h2),ar (ak h5)])
  exact⟨_,n1,n2,trivial,rfl,n3,trivial⟩
 ·rw[h2,h5]at hc;simp at hc
 ·have h2:¬(fK (qc (oy L oid g.2) g.2)).kind=2:=fun h=>by rw[h]at hc;simp at hc
  have h5:¬(fK (qc (oy L oid g.2) g.2)).kind=5:=fun h=>by rw[h]at hc;simp at hc
  obtain⟨n1,n2,n3⟩:=of_next hg hne (g.1,zF (bL g)) (by unfold La;rw[aq h2,aq h5])
  exact⟨_,n1,n2,trivial,rfl,n3,trivial⟩
theorem MG:dq Tryz.prog 28 Yt:=TA (π:=fun _=> [11]) (aZ (BQ tS eS) (aZ fk dg)) (fun _=>by simp) (fun _ _=>rfl) fun a hq _=>by
  obtain⟨o,oid,_⟩:=a;cases o with
  |none=>exact hq.elim
  |some L=>exact bV (inl:=(abE [52,73,98,53,1000000+75])) (ann:=(kb [(28,4,lpT [0,5,6] (fun _=> []) (fun g=> [(2,.cset Zb zG 5 (.lp 0 0) g.1 (bL g))]) (j8 L oid) n9),(28,3000003,S1 [.sht 2 zG]),(28,4000004,S1 [.opn 2]),(28,3000009,S1 [.sht 2 zG]),(3000+75,1,lpK [0,1,5] 7 tCl 4 10)])) aO (aV vM (aV Pe (aV Pr (aV Tk aU)))) (WO L oid hq) (by kernel_rfl)
end Go.Proofs.YtmfbohanboiklaaGreat
namespace Go.Sx
def lX(L:List Obj)(oid:Int):Bool:=decide (cj L oid=0)
def Gl(R:List Obj->Int->List Cp):kr:=KO (bM (VI tS eS) (bM iA jx)) (fun x=>Mk x.1) (fun x=>lX (ye x.1) x.2.1) (fun x=> .tp [Ui,.it .i64 (cj (ye x.1) x.2.1)]) (fun _ n=> .tp [.sa n,.ci .i64 0]) fun x=> .arr (some zG) 5 (.qs 5 (R (ye x.1) x.2.1))
def Uw:kr:=Gl pZ
end Go.Sx
namespace Go.Proofs.YtmfbohanboiklaaGreat
open Go.Sx
theorem Sl(L:List Sx.Obj)(oid:Int)(hL:aP L):
 au (!decide (cj L oid=0)) (lX L oid=false/\Value.slice none 0 0=Value.slice none 0 0/\cj L oid=cj L oid) (aP L/\lX L oid=true/\∀(nid:Nat),some (V.tp [V.sa nid,V.ci IntKind.i64 0])=some (V.tp [V.sa nid,V.ci IntKind.i64 0])/\some [aQ.arr (some zG) 5 (TL.qs 5 (pZ L oid))]=some [aQ.arr (some zG) 5 (TL.qs 5 (pZ L oid))]):=by
 delta au
 unfold lX;refine⟨fun h=>⟨by simpa using h,rfl,rfl⟩,fun h=>⟨hL,by simpa using h,fun nid=>⟨rfl,rfl⟩⟩⟩
theorem RE(oid:Int):
 au (!decide (cj [] oid=0)) (lX [] oid=false/\Value.slice none 0 0=Value.slice none 0 0/\cj [] oid=cj [] oid) (False/\lX [] oid=true/\∀(nid:Nat),some (V.tp [V.sa nid,V.ci IntKind.i64 0])=some (V.tp [V.sa nid,V.ci IntKind.i64 0])/\some [aQ.arr (some zG) 5 (TL.qs 5 (pZ [] oid))]=some [aQ.arr (some zG) 5 (TL.qs 5 (pZ [] oid))]):=by
 delta au
 unfold lX;refine⟨fun h=>⟨by simpa using h,rfl,rfl⟩,fun h=>?_⟩
 rw[pB]at h;simp at h
theorem U8:k7 Tryz.prog 13 Uw:=by
 unfold Uw Gl
 refine yZ (aZ (BQ tS eS) (aZ fk dg)) (fun _=>rfl) (fun _=>by simp) fun a hq _=>by
  obtain⟨o,oid,_⟩:=a;cases o with
  |none=>exact bV (inl:=cg) (ann:=bj) (aH eT (aH MG aO)) aU (RE oid) (by kernel_rfl)
  |some L=>exact bV (inl:=cg) (ann:=bj) (aH eT (aH MG aO)) aU (Sl L oid hq) (by kernel_rfl)
end Go.Proofs.YtmfbohanboiklaaGreat
namespace Go.Sx
def aac(U:St)(t:Nat):Nat:=
 match b9 U.slots t with
 | .v x=>match x with
   | .sa j=>j
   |_=>1000000
 |_=>1000000
def YO(a b:Key):Bool:=(bc a&&bc b)&&(decide (a.kind=0)||ER a b||(nK a.kind&&decide (a.kind=b.kind)&&decide (a.oid=b.oid)&&decide (a.count=b.count)&&decide (bw .andNot .i64 b.rights a.rights=0)))
abbrev tn:List Obj:= [Obj.mk 1 free.count free.calls (free.slots.put 4 (Key.mk 2 1 void.count void.call 2 void.value)) free.bytes,Obj.mk 1 free.count free.calls ((free.slots.put 0 (Key.mk 3 2 void.count void.call void.rights void.value)).put 1 (Key.mk 9 void.oid void.count void.call void.rights void.value)) free.bytes,Obj.mk 2 free.count free.calls free.slots free.bytes,free]
theorem zQ:eI tn=true:=by kernel_rfl
theorem T7:pZ tn 0= [[2,1,0,0,2],[3,2,0,0,1]]:=by
 have e:oy tn 0 2= [[2,1,0,0,2],[3,2,0,0,1]]:=by kernel_rfl
 unfold pZ;rw[Ht (n:=2) (by omega) (by rw[e];decide),e]
 decide
end Go.Sx
namespace Go.Proofs.YtmfbohanboiklaaGreat
open Go.Sx
theorem OS(M:List Sx.Obj):
 true=true/\true=true/\∀(r0:Loop),(∃g,pJ [] M g/\aK []=aK []/\0=g/\M=M/\false=false/\0=g/\Value.pointer none=Value.pointer none/\r0=r0)/\∀(g:Int),pJ
  [] M g->(decide (g<aK [])=true->False)/\(decide (g<aK [])=false->decide (g=bK (aJ M))=lV [] M):=by
 refine⟨rfl,rfl,fun r0=>⟨⟨0,⟨by omega,by unfold aJ;omega,by omega,fun j hj=>by omega⟩,by(repeat' apply And.intro)<;>rfl⟩,fun g hg=>⟨fun hlt=>?_,fun _=>Bh hg (by simp only[aJ,List.length_nil];exact hg.1)⟩⟩⟩
 have h0:g<0:=ak hlt;exact absurd hg.1 (by omega)
theorem Nt(M:List Sx.Obj):aL Tryz.prog 12 [jZ,.sa 0] [.ro (.arr none 163 (.ob M))] (qh (.bo (lV [] M))) (fun _ _=>False):=bG (inl:=(abE [27])) (ann:=(kb [(4000+48,1,Vm [0,1,5] (fun g=> [(6,.it .i64 g)]) 3 (fun g=> .blk 3 (.it .i64 g)) (pJ [] M) 0)])) (aH bE aO) (OS M) (by kernel_rfl)
theorem MX(L M:List Sx.Obj)(hL:L.length<=9223372036854775807):
 true=true/\true=true/\∀(r0:Loop),(∃g,pJ L M g/\aK L=aK L/\0=g/\M=M/\L=L/\false=false/\0=g/\r0=r0)/\∀(g:Int),pJ L M g->au (decide (g<aK L)) ((0<=g/\g< ↑(aJ L))/\g.toNat<aJ L/\g.toNat<aJ L/\r0=r0/\r0=r0/\((!(!decide (g=g)||decide (bK (aJ M)<=g)))=true->0<=g/\g< ↑(aJ M))/\((!(!decide (g=g)||decide (bK (aJ M)<=g)))=true->g.toNat<aJ M)/\au (!decide (g=g)||decide (bK (aJ M)<=g)|| !Cv (aM L g.toNat free) (aM M g.toNat free)) (r0=r0/\false=lV L M) (az (g+1)/\r0=r0/\az (g+1)/\∃g',pJ L M g'/\(bK (aJ L)-g').toNat<(bK (aJ L)-g).toNat/\aK L=aK L/\g+1=g'/\M=M/\L=L/\false=false/\g+1=g'/\r0=r0)) (decide (g=bK (aJ M))=lV L M):=by
 delta au az
 refine⟨rfl,rfl,fun r0=>⟨⟨0,⟨by omega,by unfold aJ;omega,by omega,fun j hj=>by omega⟩,by(repeat' apply And.intro)<;>rfl⟩,fun g hg=>⟨fun hlt=>?_,fun hge=>?_⟩⟩⟩
 ·have hg':=hg;obtain⟨g0,g1,g2,g3⟩:=hg;have hlt:g<aK L:=ak hlt;have hle:=lO L;have hlm:=lO M;have hq:aK L=(L.length:Int):=rfl;rw[hq]at hlt;have hz:∀b:Bool,(!decide (g=g)||b)=b:=by simp
  rw[hz];refine⟨⟨g0,by omega⟩,by omega,by omega,rfl,rfl,fun h=>?_,fun h=>?_,fun h=>⟨rfl,?_⟩,fun h=>?_⟩
  ·have h:¬(bK (aJ M)<=g):=by simpa using h
   rw[gG]at h;exact⟨g0,by omega⟩
  ·have h:¬(bK (aJ M)<=g):=by simpa using h
   rw[gG]at h;omega
  ·unfold lV;symm
   rw[decide_eq_false_iff_not];rintro rfl
   rw[Bool.or_eq_true,ah,gG]at h;rcases h with h|h
   ·omega
   ·simp[Cv]at h
  ·rw[Bool.or_eq_false_iff,decide_eq_false_iff_not,gG]at h;obtain⟨h1,h2⟩:=h;have h2:aM L g.toNat free=aM M g.toNat free:=by simpa[Cv]using h2
   have hr:bg IntKind.i64 (g+1):=by simp only[bg,ck];omega
   refine⟨hr,rfl,hr,g+1,⟨by omega,by omega,by omega,fun j hj=>?_⟩,by rw[gG];omega,by(repeat' apply And.intro)<;>rfl⟩
   by_cases e:(j:Int)<g
   ·exact g3 j e
   ·rw[show j=g.toNat by omega];exact h2
 ·have hge:¬g<aK L:=aj hge;exact Bh hg (by unfold aK at hge;omega)
theorem Qt:dq Tryz.prog 12 Wp:=
 Sf (fun _ _=>rfl) (fun M _ _=>Nt M) (fun L M _ hL _ _=>bG (inl:=(abE [27])) (ann:=(kb [(4000+48,1,Vm [0,1,5] (fun g=> [(6,.it .i64 g)]) 6 (fun g=> .blk 3 (.it .i64 g)) (pJ L M) (bK (aJ L)))])) (aH bE aO) (MX L M hL) (by kernel_rfl))
theorem W5:k7 Tryz.prog 20 (Xq Wz):=Tq UG
theorem QL(l:List Sx.Obj):
 au (decide (20<bK (aJ l))|| !eI l) (nV l=false/\Value.pointer none=Value.pointer none) (true=true/\(eI l=false->nV l=false/\Value.pointer none=Value.pointer none)/\(eI l=true->nV l=true/\∀(nid:Nat),some (V.lp nid 0)=some (V.lp nid 0)/\some [aQ.store tS eS l]=some [aQ.store tS eS l])):=by
 delta au
 refine⟨fun h=>⟨?_,rfl⟩,fun h=>⟨rfl,fun hr=>⟨?_,rfl⟩,fun hr=>⟨?_,fun nid=>⟨rfl,rfl⟩⟩⟩⟩
 ·unfold nV;unfold bK at h;rw[Bool.or_eq_true,ah,Bool.not_eq_true']at h;rcases h with h|h
  ·rw[decide_eq_false (by omega)];rfl
  ·rw[h];simp
 ·unfold nV;rw[hr];simp
 ·unfold nV;unfold bK at h;rw[hr]at h⊢;rw[Bool.and_true,ah];simp at h;omega
theorem R6:k7 Tryz.prog 6 Wn:=
 yZ (aZ Ft dg) (fun _=>rfl) (fun _=>by simp) fun a _ hok=>by
  obtain⟨l,_⟩:=a;exact bV (inl:=cg) (ann:=bj) (aH P3 aO) (aV UG aU) (QL l) (by kernel_rfl)
theorem Nu(R:List Sx.Obj->Int->List Cp)(hR:R tn 0= [[2,1,0,0,2],[3,2,0,0,1]]):
 aw ((eI tn=false->aw (Mk none/\(lX [] 0=false->au (!decide (cj [] 0=0)&&false) False (false=true))/\(lX [] 0=true->(decide (bK (aJ (R [] 0))=2)=true->(0:Int)<=0/\(0:Int)< ↑(aJ (R [] 0)))/\(decide (bK (aJ (R [] 0))=2)=true->Int.toNat 0<aJ (R [] 0))/\((decide (bK (aJ (R [] 0))=2)&&decide (gS (R [] 0) (Int.toNat 0) 0=2))=true->(0:Int)<=1/\(1:Int)< ↑(aJ (R [] 0)))/\((decide (bK (aJ (R [] 0))=2)&&decide (gS (R [] 0) (Int.toNat 0) 0=2))=true->Int.toNat 1<aJ (R [] 0))/\(decide (bK (aJ (R [] 0))=2)&&decide (gS (R [] 0) (Int.toNat 0) 0=2)&&(decide (gS (R [] 0) (Int.toNat 1) 0=3)&&(decide (gS (R [] 0) (Int.toNat 1) 1=2)&&(decide (gS (R [] 0) (Int.toNat 1) 2=0)&&(decide (gS (R [] 0) (Int.toNat 1) 3=0)&&(decide (gS (R [] 0) (Int.toNat 1) 4=1)&&true))))))=true)))/\(eI tn=true->aw (Mk (some tn)/\(lX tn 0=false->au (!decide (cj tn 0=0)&&false) False (false=true))/\(lX tn 0=true->(decide (bK (aJ (R tn 0))=2)=true->(0:Int)<=0/\(0:Int)< ↑(aJ (R tn 0)))/\(decide (bK (aJ (R tn 0))=2)=true->Int.toNat 0<aJ (R tn 0))/\((decide (bK (aJ (R tn 0))=2)&&decide (gS (R tn 0) (Int.toNat 0) 0=2))=true->(0:Int)<=1/\(1:Int)< ↑(aJ (R tn 0)))/\((decide (bK (aJ (R tn 0))=2)&&decide (gS (R tn 0) (Int.toNat 0) 0=2))=true->Int.toNat 1<aJ (R tn 0))/\(decide (bK (aJ (R tn 0))=2)&&decide (gS (R tn 0) (Int.toNat 0) 0=2)&&(decide (gS (R tn 0) (Int.toNat 1) 0=3)&&(decide (gS (R tn 0) (Int.toNat 1) 1=2)&&(decide (gS (R tn 0) (Int.toNat 1) 2=0)&&(decide (gS (R tn 0) (Int.toNat 1) 3=0)&&(decide (gS (R tn 0) (Int.toNat 1) 4=1)&&true))))))=true)))):=by
 delta au aw
 refine⟨rfl,fun h=>absurd (h.symm.trans zQ) (by decide),fun _=>⟨rfl,zQ,fun h=>absurd (h.symm.trans (by kernel_rfl:lX tn 0=true)) (by decide),fun _=>?_⟩⟩
 rw[hR];decide
theorem J3(R:List Sx.Obj->Int->List Cp)(hR:R tn 0= [[2,1,0,0,2],[3,2,0,0,1]])(hc_wofR:k7 Tryz.prog 13 (Gl R)):aL Tryz.prog 7 [] [] (qh (.bo true)) (fun _ _=>False):=bV (inl:=cg) (ann:=bj) aO (aV W5 (aV hc_wofR aU)) (Nu R hR) (by kernel_rfl)
theorem Ox:dq Tryz.prog 7 Ry:=V0 rfl (J3 pZ T7 U8)
end Go.Proofs.YtmfbohanboiklaaGreat
namespace Go.Sx
end Go.Sx
namespace Go.Proofs.YtmfbohanboiklaaGreat
open Go.Sx
end Go.Proofs.YtmfbohanboiklaaGreat
namespace Go.Sx
def dA(L:List Obj)(p:kY):List Int:=
 if(aJ L:Int)<4 then[]else if dF p 0=true/\p.kind=1/\¬aJ (bz L)=0 then(if oR L p=true then[cN L p,(c9 L p).oid]else[cN L p])else[]
theorem S2{L:List Obj}{p:kY}(h:(aJ L:Int)<4):dA L p= []:=by unfold dA;rw[ar h]
theorem PL{L:List Obj}{p:kY}(h:¬p.kind=1):dA L p= []:=by
 unfold dA;split
 ·rfl
 ·rw[aq fun hh=>h hh.2.1]
theorem Lt{L:List Obj}{p:kY}(hk:p.kind=1)(h:¬(dF p 0=true/\¬aJ (bz L)=0)):dA L p= []/\(!decide (me 0 p=0)||decide ((bf L 0 p).out=1))=true:=by
 refine⟨?_,?_⟩
 ·unfold dA;split
  ·rfl
  ·rw[aq fun hh=>h ⟨hh.1,hh.2.2⟩]
 ·unfold me bf;by_cases hr:dF p 0=true
  ·have hn:aJ (bz L)=0:=Decidable.byContradiction fun hn=>h ⟨hr,hn⟩
   rw[ar hr,ar hr,aq (by omega),ar hn];rfl
  ·rw[aq hr];rfl
theorem Ce{L:List Obj}{p:kY}(h4:¬(aJ L:Int)<4)(hk:p.kind=1)(hr:dF p 0=true)(hn:¬aJ (bz L)=0):
  (bf L 0 p).proc=cN L p/\(!decide (me 0 p=0)||decide ((bf L 0 p).out=1))=false/\dA L p=if oR L p=true then[cN L p,(c9 L p).oid]else[cN L p]:=by
 refine⟨?_,?_,by unfold dA;rw[aq h4,ar ⟨hr,hk,hn⟩]⟩
 ·unfold bf;rw[ar hr,aq (by omega),aq hn]
  split
  ·split<;>rfl
  ·rfl
 ·unfold me bf;rw[ar hr,ar hr,aq (by omega),aq hn]
  split
  ·split<;>rfl
  ·rfl
open Go.RowKit (Below)
def I8:List V->Option (List Int)
 | []=>some []
 |x::l=>match x with
  | .it k n=>match k with
    | .i64=>(I8 l).map (n:: ·)
    |_=>none
  | .ci k n=>match k with
    | .i64=>(I8 l).map (n:: ·)
    |_=>none
  |_=>none
def HM(x:V):Option (List Int):=
 match x with
 | .ag l=>I8 l
 | .it k n=>match k with
   | .i64=>some [n]
   |_=>none
 | .ci k n=>match k with
   | .i64=>some [n]
   |_=>none
 |_=>none
theorem Am(l:List Int):(TL.it .i64 l).cells=l.map fun n=>Value.int .i64 n:=by
 have key:∀l:List Int,(List.range l.length).flatMap (fun j=>cells Env.zero (V.it .i64 (aM l j 0)))=l.map fun n=>Value.int .i64 n:=fun l=>by
  induction l with
  |nil=>rfl
  |cons n l ih=>
   rw[List.length_cons,List.range_succ_eq_map,List.flatMap_cons,List.flatMap_map,List.map_cons,<-ih];rfl
 exact key l
theorem vz{N:Nat->Prop}:∀{xs:List V} {l:List Int},I8 xs=some l->fc N xs->(∀J,bp J xs=l.map fun n=>Value.int .i64 n)/\∀n∈l,ck .i64 n
 | [],l,h,_=>by
   simp only[I8,aa]at h;subst h;exact⟨fun J=>rfl,fun n hn=>by simp at hn⟩
 |x::xs,l,h,hx=>by
  unfold I8 at h;split at h
  ·rename_i k n;split at h
   ·obtain⟨m,hm,rfl⟩:=Option.map_eq_some_iff.1 h;obtain⟨a,b⟩:=vz hm hx.2;refine⟨fun J=>?_,fun q hq=>?_⟩
    ·rw[List.map_cons,<-a J];rfl
    ·rcases List.mem_cons.1 hq with rfl|hq
     ·exact hx.1
     ·exact b q hq
   ·simp at h
  ·rename_i k n;split at h
   ·obtain⟨m,hm,rfl⟩:=Option.map_eq_some_iff.1 h;obtain⟨a,b⟩:=vz hm hx.2;refine⟨fun J=>?_,fun q hq=>?_⟩
    ·rw[List.map_cons,<-a J];rfl
    ·rcases List.mem_cons.1 hq with rfl|hq
     ·exact hx.1
     ·exact b q hq
   ·simp at h
  ·simp at h
theorem FC{x:V}{l:List Int}{N:Nat->Prop}(h:HM x=some l)(hx:ok N x):(∀J,cells J x=(TL.it .i64 l).cells)/\∀n∈l,ck .i64 n:=by
 rw[Am];unfold HM at h;split at h
 ·obtain⟨a,b⟩:=vz h hx.1;exact⟨fun J=>by rw[di,a J],b⟩
 ·split at h
  ·simp only[aa]at h;subst h;exact⟨fun J=>rfl,fun n hn=>by rw[List.mem_singleton.1 hn];exact hx⟩
  ·simp at h
 ·split at h
  ·simp only[aa]at h;subst h;exact⟨fun J=>rfl,fun n hn=>by rw[List.mem_singleton.1 hn];exact hx⟩
  ·simp at h
 ·simp at h
section
variable {J:Env} {fps:Nat->Nat->Prop} {w0 w:World} {F0:Nat->Prop}
abbrev abC(k e:Nat)(res:List aQ)(L:List Int):=cq [k] res++[.arr (some e) 1 (.it .i64 L)]
theorem IL{res:List aQ}{k n e:Nat}{x:V}{L:List Int}(hH:bn J fps res (known res) w0 F0 w)(hr:aN res k= .blk e x)(hl:HM x=some L)(hn:n=L.length)(hs:n<=1000):
 ∃fps',bn (J.fI res.length (some ⟨J.num k,0,none⟩) n n) fps' (abC k e res L) (known (abC k e res L)) w0 F0 w/\Env.agree (known res) J (J.fI res.length (some ⟨J.num k,0,none⟩) n n)/\(∀i,known res i->known (abC k e res L) i)/\known (abC k e res L) res.length:=by
 delta abC
 have hk:known res k:=by unfold known;rw[hr];simp
 have hh:=hH.holds k hk;rw[hr]at hh;obtain⟨h1,_,h3,h4⟩:=hh;obtain⟨hcells,hwf⟩:=FC hl h1;have hcells:=hcells J;have hnk:¬known res res.length:=fun hk=>by have:=aW hk;omega
 have hlen:(TL.it .i64 L).cells.length=n*1:=by
  rw[Am,List.length_map,hn,Nat.mul_one]
 have hag:=pk (N:=known res) J (i:=res.length) (a:=some ⟨J.num k,0,none⟩) (n:=n) (cap:=n) hnk
 exact hH.oe (ρ':=J.fI res.length (some ⟨J.num k,0,none⟩) n n) (w':=w) [k] (.arr (some e) 1 (.it .i64 L)) [] (fun x=>x=J.num k) (by simp) (by simpa using hk) (by simp) hag
  (by
   refine⟨fun j hj=>⟨?_,rfl,rfl⟩,by simp[Env.fI,TL.len,hn,aJ],by simp only[TL.len,aJ];omega,fun a ha=>by simp[Env.fI]at ha⊢;exact ha.symm,fun _=>by simp[Env.fI],fun _=>by simp[Env.fI],.inr ⟨e,fun e' he=>by simpa using he.symm,?_,fun a ha=>by simp[Env.fI]at ha;rw[<-ha]⟩⟩
   ·refine hwf _ ?_;have hj:j<L.length:=hj;unfold aM;rw[an,List.getElem?_eq_getElem hj];exact List.getElem_mem hj
   rw[show(J.fI res.length (some ⟨J.num k,0,none⟩) n n).sl res.length= .slice (some ⟨J.num k,0,none⟩) n n by simp[Env.sl,Env.fI]]
   rw[hcells]at h4;refine⟨by rw[hlen,hn];rfl,.inr ⟨_,_,_,by rw[hn];rfl,Nat.zero_le _,h4,by rw[show(TL.it .i64 L).len=L.length from rfl];exact Nat.le_refl _,by simp only[maxLen];rw[<-hn];omega,by rw[<-hn];simpa using hlen,?_⟩⟩
   have hh:(TL.it .i64 L).len*1=n*1:=by rw[hn];rfl
   rw[hh];exact List.take_of_length_le (by simpa using Nat.le_of_eq hlen))
  (fun x hx=> .inl ⟨k,by simp,by rw[hx];exact h3⟩) rfl rfl rfl (Nat.le_refl _) (fun _ _ _=>rfl)
abbrev abD(e:Nat)(res:List aQ):=cq [] res++[.arr (some e) 1 (.it .i64 [])]
theorem Ju{res:List aQ}(e:Nat)(hH:bn J fps res (known res) w0 F0 w):
 ∃fps',bn (J.ek res.length) fps' (abD e res) (known (abD e res)) w0 F0 w/\Env.agree (known res) J (J.ek res.length)/\(∀i,known res i->known (abD e res) i)/\known (abD e res) res.length:=by
 delta abD
 have hnk:¬known res res.length:=fun hk=>by have:=aW hk;omega
 have hag:Env.agree (known res) J (J.ek res.length):=ua hnk
 exact hH.oe (ρ':=J.ek res.length) (w':=w) [] (.arr (some e) 1 (.it .i64 [])) [] (fun _=>False) (by simp) (by simp) (by simp) hag
  (by
   have hs:(J.ek res.length).sl res.length= .slice none 0 0:=by simp[Env.sl,Env.ek]
   refine⟨fun j hj=>absurd hj (Nat.not_lt_zero _),by simp[Env.ek,TL.len,aJ],by simp[TL.len,aJ],by simp[Env.ek],fun hj=>absurd hj (Nat.lt_irrefl 0),fun hj=>absurd hj (Nat.lt_irrefl 0),.inr ⟨e,by simp,?_,by simp[Env.ek]⟩⟩
   rw[hs];exact World.ownsRow_nil w 0 e 1)
  (fun x hx=>hx.elim) rfl rfl rfl (Nat.le_refl _) (fun _ _ _=>rfl)
end
def Zj(e:Nat)(ps:List Int)(v:V)(r:List aQ):Prop:=
 match v with
 | .nl x=>match x with
   | .slice a b c=>match a with
     |none=>if b==0&&c==0 then ps= []else False
     |some _=>False
   |_=>False
 | .sc k n c=>match aN r k with
   | .blk e' x=>match HM x with
     |some l=>if n==l.length&&c==n&&e'==e&&Nat.ble n 1000 then l=ps else False
     |none=>False
   |_=>False
 |_=>False
theorem Hf{e:Nat}{ps:List Int}{x0:V}{r:List aQ}{j:Nat}(h:aN r j= .arr (some e) 1 (.it .i64 ps)):Bt true x0 (fun n=> .sa n) (.arr (some e) 1 (.it .i64 ps)) (.sa j) r:=by
 have hk:iG r j=true:=cB.2 (by unfold known;rw[h];simp)
 refine⟨rfl,fun nid=>⟨?_,?_⟩⟩
 ·simp[fy,idxOf]
 ·simp[IJ,hk,h,jo,gd]
theorem aL.V5[Fen]{P:Program}{f:Nat}{args:List V}{res:List aQ}{ps:List Int}{e:Nat}{x0:V}{KP:V->List aQ->Prop}(h:aL P f args res (Zj e ps) KP):
  aL P f args res (Bt true x0 (fun n=> .sa n) (.arr (some e) 1 (.it .i64 ps))) KP:=by
 intro J fps w0 F0 w hH hargs;refine(h J fps w0 F0 w hH hargs).mono fun en w' ⟨x,ρ',fps',res',g1,g2,g3,g4⟩=>?_
 rcases g4 with⟨rfl,hk⟩|g4
 case inr=>exact⟨x,ρ',fps',res',g1,g2,g3,.inr g4⟩
 unfold Zj at hk;split at hk
 ·split at hk
  case h_2=>exact hk.elim
  rename_i a b c;split at hk
  case h_2=>exact hk.elim
  split at hk
  case isFalse=>exact hk.elim
  rename_i hbc;simp only[af,ai]at hbc;obtain⟨rfl,rfl⟩:=hbc;subst hk;obtain⟨fps'',m1,m2,m3,m4⟩:=Ju e g1;refine⟨.sa res'.length,_,fps'',_,m1,g2.trans ⟨m2,m3⟩,m4,.inl ⟨by rw[pI];rfl,Hf ?_⟩⟩
  rw[bZ,iE,aq (by omega),Nat.sub_self]
  rfl
 ·rename_i k n c;split at hk
  case h_2=>exact hk.elim
  rename_i e' y hr;split at hk
  case h_2=>exact hk.elim
  rename_i l hl;split at hk
  case isFalse=>exact hk.elim
  rename_i hb;simp only[af,ai,Nat.ble_eq]at hb;obtain⟨⟨⟨h1,rfl⟩,rfl⟩,h2⟩:=hb;subst hk;obtain⟨fps'',m1,m2,m3,m4⟩:=IL g1 hr hl h1 h2;refine⟨.sa res'.length,_,fps'',_,m1,g2.trans ⟨m2,m3⟩,m4,.inl ⟨?_,Hf ?_⟩⟩
  ·simp[den,Env.fI]
  ·rw[bZ,iE,aq (by omega),Nat.sub_self]
   rfl
 ·exact hk.elim
abbrev tIn:Nat:=3
abbrev aar:Type:=Option (List Obj)×OpT×Unit
def Md(x:aar):Prop:=Z6 x.1/\aR (Dm x.2.1).data
def hMn{α:Type}(B:ky α)(Q:α->Prop)(F1:α->Nat->V)(new:α->aQ):kr:=fun args res K=>
 match B.rd res args with
 |some (_,a)=>Q a/\K (F1 a res.length) (res++ [new a])
 |none=>False
theorem PN[Fen]{P:Program}{f:Nat}{α:Type}{B:ky α}{Q:α->Prop}{F0:α->V}{F1:α->Nat->V}{new:α->aQ}(h:k7 P f (KO B Q (fun _=>true) F0 F1 new)):k7 P f (hMn B Q F1 new):=fun args res K KP hh=>by
 refine h args res K KP ?_;unfold hMn at hh;unfold KO;split at hh
 ·rename_i q a ha;rw[ha];exact⟨hh.1,fun e=>by simp at e,fun _=>hh.2⟩
 ·exact hh.elim
def Uz:kr:=hMn (bM (VI tS eS) GN) Md (fun _ n=> .sa n) fun x=> .arr (some tIn) 1 (.it .i64 (dA (ye x.1) (Dm x.2.1)))
def B4(L:List Obj)(p:kY)(g:Int):Prop:=0<=g/\g<(aJ (bz L):Int)/\aM (bz L) g.toNat 0=cN L p
theorem Ie(L:List Obj):∀(k:Nat),∀x∈dw L (k:Int),0<=x/\x<(k:Int)
 |0,x,h=>by rw[show((0:Nat):Int)=0 from rfl,u9]at h;simp at h
 |k+1,x,h=>by
  rw[show((k+1:Nat):Int)=(k:Int)+1 by omega,vv L (by omega)]at h
  have ih:=Ie L k x;split at h
  ·unfold cE at h;rcases List.mem_append.1 h with h|h
   ·have:=ih h;omega
   ·simp only[List.mem_singleton]at h;omega
  ·have:=ih h;omega
theorem NA{L:List Obj}{p:kY}(hL:aP L)(h0:¬aJ (bz L)=0):0<=cN L p/\cN L p<(aJ L:Int):=by
 obtain⟨_,_,_,f4⟩:=vJ (p:=p) hL h0
 have hlt:((p.proc.tmod (aJ (bz L):Int)+(aJ (bz L):Int)).tmod (aJ (bz L):Int)).toNat<(bz L).length:=by
  have:aJ (bz L)=(bz L).length:=rfl;omega
 have hm:cN L p∈bz L:=by
  unfold cN aM;rw[an,List.getElem?_eq_getElem hlt];exact List.getElem_mem _
 exact Ie L (aJ L) _ hm
theorem WB{L:List Obj}{p:kY}(hL:aP L)(h0:¬aJ (bz L)=0):(p.proc.tmod (aJ (bz L):Int)<0->B4 L p (p.proc.tmod (aJ (bz L):Int)+(aJ (bz L):Int)))/\(¬p.proc.tmod (aJ (bz L):Int)<0->B4 L p (p.proc.tmod (aJ (bz L):Int))):=by
 have hN:(0:Int)<(aJ (bz L):Int):=by omega
 have hb:=Int.tmod_lt_of_pos p.proc hN;have hb2:=Int.lt_tmod_of_pos p.proc hN;unfold B4 cN;generalize p.proc.tmod (aJ (bz L):Int)=x at *
 refine⟨fun h=>⟨by omega,by omega,?_⟩,fun h=>⟨by omega,by omega,?_⟩⟩
 ·rw[Int.tmod_eq_of_lt (by omega) (by omega)]
 ·rw[Int.tmod_eq_emod_of_nonneg (by omega),Int.add_emod_right,Int.emod_eq_of_lt (by omega) hb]
end Go.Sx
namespace Go.Proofs.YtmfbohanboiklaaGreat
open Go.Sx
abbrev abk(L:List Sx.Obj)(p:kY):=aI L ((aS L (bf L 0 p).proc).slots.at (4+p.reg).toNat)
theorem Sn(L:List Sx.Obj)(p:kY)(hL:aP L)(hs:aR p.data):
 aw (au (decide (aK L=0)) (dA L p=[]) (au (decide (aK L<4)||false||false) (dA L p=[]) (aw ((aJ L).le 1000/\au (bN L) (au (!decide (p.kind=1)) (dA L p=[]) (aw False)) (au (!decide (p.kind=1)) (dA L p=[]) (aw ((aP L/\aR p.data/\ly 0)/\au (!decide (me 0 p=0)||decide ((bf L 0 p).out=1)) (dA L p=[]) (bg IntKind.i64 (4+p.reg)/\(0<=4+p.reg/\4+p.reg< ↑16)/\au (decide ((abk L p).kind=6)||decide ((abk L p).kind=7)) ([(bf L 0 p).proc,(abk L p).oid]=dA L p) ([(bf L 0 p).proc]=dA L p))))))))):=by
 delta au abk aw
 obtain⟨l1,l2⟩:=jC hL;have es:aK L=(aJ L:Int):=rfl;have hsn:bN L=false:=decide_eq_false (by unfold aJ;omega)
 have h0:decide (aK L=0)=false:=decide_eq_false (by rw[es];unfold aJ;omega)
 rw[h0,hsn];refine⟨rfl,fun h=>by simp at h,fun _=>⟨fun h=>S2 ?_,fun h4=>⟨rfl,(by show L.length<=1000;omega),fun h=>by simp at h,fun _=>⟨fun hk=>PL ?_,fun hk=>⟨rfl,⟨hL,hs,by unfold ly;omega⟩,fun hd=>?_,fun hd=>?_⟩⟩⟩⟩⟩
 ·rw[es]at h;simpa using h
 ·simpa using hk
 ·have hk:p.kind=1:=by simpa using hk
  have h4:¬(aJ L:Int)<4:=by rw[es]at h4;simpa using h4
  by_cases hh:dF p 0=true/\¬aJ (bz L)=0
  ·rw[(Ce h4 hk hh.1 hh.2).2.1]at hd;simp at hd
  ·exact(Lt hk hh).1
 ·have hk:p.kind=1:=by simpa using hk
  have h4:¬(aJ L:Int)<4:=by rw[es]at h4;simpa using h4
  by_cases hh:dF p 0=true/\¬aJ (bz L)=0
  ·obtain⟨p1,p2,p3⟩:=Ce h4 hk hh.1 hh.2;rw[p1]
   have hg:0<=p.reg/\p.reg<12:=by
    have hr:=hh.1;unfold dF at hr;rw[aq (by omega)]at hr
    simp only[af,ah,sT]at hr;omega
   refine⟨by simp only[bg,ck];omega,⟨by omega,by omega⟩,fun hc=>?_,fun hc=>?_⟩
   ·have hc:oR L p=true:=hc;rw[p3,ar hc];rfl
   ·have hc:oR L p=false:=hc;rw[p3,hc];rfl
  ·rw[(Lt hk hh).2]at hd;simp at hd
theorem WL:k7 Tryz.prog 11 Uz:=by
 unfold Uz
 refine PN (F0:=fun _=>Ui) (yZ (aZ (BQ tS eS) FH) (fun _=>rfl) (fun _=>by simp) fun a hq _=>by
  obtain⟨o,p,_⟩:=a;obtain⟨h1,h2⟩:=hq;cases o with
  |none=>exact h1.elim
  |some L=>exact aL.V5 (bV (inl:=(abE [16])) (ann:=bj) (aH bE (aH eT (aH fV aO))) (aV xx (aV TS aU)) (Sn L (Dm p) h1 h2) (by kernel_rfl)))
end Go.Proofs.YtmfbohanboiklaaGreat
namespace Go.Sx
section
variable {L:List Obj} {i:Int} {k:Key} {md:Int} {m:bP}
end
def rlO(o o':Obj):Prop:=(o'.kind=o.kind/\o'.count=o.count/\o.calls<=o'.calls)\/(o.kind=0/\o'.kind=3/\o'.count=o.count)\/(o.kind=0/\(o'.kind=1\/o'.kind=2)/\o'.count=o.count+1)\/((o.kind=1\/o.kind=2)/\o'.kind=0/\o'.count=o.count)
def rlL(L M:List Obj):Prop:=M.length=L.length/\∀j,j<L.length->rlO (aM L j free) (aM M j free)
section
variable {L:List Obj} {k v:Key} {i n:Int} {m:bP} {s:ByteArray}
end
def kz(k:Key):Key:= {k with value:=0}
def AuC(L:List Obj)(X:List Int)(k:Key):Prop:=∃x∈X,∃d,UB L x d/\YO (kz k) (fK d)=true
def Own(ps:List Int)(k:Key):Prop:=5<=k.kind/\k.kind<=7/\k.oid∈ps
def Gv(L:List Obj)(ps:List Int)(v:Key):Prop:=qe (aI L v)=true->AuC L ps (aI L v)\/Own ps v
def slR(L:List Obj)(ps:List Int)(o o':Obj):Prop:=∀i,i<16->o'.slots.at i=o.slots.at i\/Gv L ps (o'.slots.at i)
structure aaD(L M:List Obj)(ps:List Int):Prop where
 fc:aP L
 okM:aP M
 rl:rlL L M
 calls:∀j,j<L.length->(aM M j free).calls=(aM L j free).calls\/¬(aM M j free).kind=(aM L j free).kind\/(j:Int)∈ps
 sl:∀j,j<L.length->slR L ps (aM L j free) (aM M j free)
section
variable {L M:List Obj} {ps:List Int} (hS:aaD L M ps) {X:List Int} (hX:∀x∈ps,x∈X)
include hS hX
end
section
variable {L:List Obj} {ps:List Int}
def Hd(L:List Obj)(x:Int)(k:Key):Prop:=qe k=true->UB L x (ez k)
variable {x:Int} (hx:x∈ps)
include hx
end
section
variable {L:List Obj} (hL:aP L) {x:Int} (h0:0<=x) (h1:x<(L.length:Int))
include h0 h1
end
def wQ(x:List kY)(g:Int):Prop:=0<=g/\g<=(aJ x:Int)/\(aJ x:Int)<=20
def aap(U:St)(t:Nat):kY:=
 match b9 U.slots t with
 | .v x=>match x with
   | .lp b _=>match aN U.res b with
     | .blk _ c=>match IP GN [c]with
       |some y=>Dm y.1
       |none=>zC
     |_=>zC
   |_=>zC
 |_=>zC
def aab(ka:List Nat)(t:Nat)(Lf:St->List Int):cR:=
 {γ:=Unit,head:=fun U _=> {U with slots:=Ko ka [(t,.sa U.res.length)] 0 U.slots,res:=bQ U.res (aac U t) .gone++ [.arr (some tIn) 1 (.it .i64 (Lf U))]},
  inv:=fun _=>True,μ:=fun _=>0,pre:= [.al t],ext:=Zt t}
def sb(g:Int):Prop:=0<=g/\g<=5
theorem Sq{L:List Obj}{p:kY}:(dA L p).length<=2:=by
 unfold dA;(repeat' split)<;>simp
def QS:kr:=hMn (bM Wl jx) (fun x=>gr x.1) (fun _ n=> .sa n) fun x=> .arr (some tI) 1 (.it .i64 (dw x.1 (bK (aJ x.1))))
abbrev bO(x:List kY)(g:Int):kY:=aM x g.toNat zC
abbrev oW(L:List Obj)(p:kY):Int:=p.proc.tmod (bK (aJ (bz L)))
abbrev zT(L:List Obj)(i:Int):Int:=aM (bz L) i.toNat 0
abbrev X9(L:List Obj)(p:kY)(i:Int):Key:=aI L ((aM L i.toNat free).slots.at (4+p.reg).toNat)
abbrev Xw(L:List Obj)(p:kY)(i:Int):Bool:=decide ((X9 L p i).kind=6)||decide ((X9 L p i).kind=7)
theorem Ve{L:List Obj}{p:kY}(hL:aP L)(h4:4<=bK (aJ L))(hk:p.kind=1)(hr:dF p 0=true)(h0:¬aJ (bz L)=0):
  (Xw L p (cN L p)=true->cE (cE [] (cN L p)) (X9 L p (cN L p)).oid=dA L p)/\(Xw L p (cN L p)=false->cE [] (cN L p)=dA L p):=by
 obtain⟨i0,i1⟩:=NA (p:=p) hL h0;have h4':¬(aJ L:Int)<4:=by unfold bK at h4;omega
 have eK:c9 L p=X9 L p (cN L p):=by unfold c9;rw[fH i0 i1]
 have eC:oR L p=Xw L p (cN L p):=by unfold oR;rw[eK]
 rw[(Ce h4' hk hr h0).2.2,eC,eK];exact⟨fun h=>by rw[ar h];rfl,fun h=>by rw[aq (by rw[h];exact Bool.false_ne_true)];rfl⟩
theorem Yh{L:List Obj}{p:kY}(h:(decide (4<=bK (aJ L))&&decide (p.kind=1)&&dF p 0&&decide (0<bK (aJ (bz L))))=false): []=dA L p:=by
 unfold dA;split
 ·rfl
 ·rename_i h4;rw[aq];rintro⟨a,b,c⟩
  rw[decide_eq_true (show 4<=bK (aJ L) by unfold bK;omega),decide_eq_true b,a,decide_eq_true (show 0<bK (aJ (bz L)) by unfold bK;omega)]at h
  simp at h
end Go.Sx
namespace Go.Proofs.YtmfbohanboiklaaGreat
open Go.Sx
theorem Jb(p:kY)(n:Int)(hs:aR p.data)(hn:ly n):
 au (decide (p.kind=2)) (((decide (0<=p.val)&&decide (p.val<=1099511627776))=true->az (n+p.val))/\(decide (0<=p.val)&&decide (p.val<=1099511627776)&&decide (n+p.val<=4611686018427387904))=dF p n) (((decide (p.kind=1)&&decide (1<=p.mode)&&decide (p.mode<=3))=true->az (du p.data))/\(decide (p.kind=1)&&decide (1<=p.mode)&&decide (p.mode<=3)&&decide (du p.data<=32)&&decide (0<=p.reg)&&decide (p.reg<=11)&&decide (-1<=p.s0)&&decide (p.s0<=11)&&decide (-1<=p.s1)&&decide (p.s1<=11)&&decide (-1<=p.s2)&&decide (p.s2<=11))=dF p n):=by
 delta au az
 unfold dF;refine⟨fun hk=>⟨fun hv=>?_,?_⟩,fun hk=>⟨fun _=>?_,?_⟩⟩
 ·simp only[af,ah]at hv;unfold ly at hn;simp only[bg,ck];omega
 ·rw[ar (ak hk)];congr 1;exact decide_eq_decide.2 (by omega)
 ·unfold aR at hs;simp only[bg,ck,du];omega
 ·rw[aq (aj hk)];unfold gP sT;rw[Bool.eq_iff_iff];simp only[af,Bool.or_eq_true,ah];omega
theorem JS[Fen]:dq Tryz.prog 9 Eh:=
 kf (aZ FE (aZ fk dg)) (fun _=>rfl) fun a hq hok=>by
  obtain⟨x,n,_⟩:=a;exact bG (inl:=cg) (ann:=(kb [(9,5,UM 4)])) aO (Jb (Dm x) n hq.1 hq.2) (by kernel_rfl)
theorem K5[Fen]:k7 Tryz.prog 8 QS:=PN Qr
abbrev abl(L:List Sx.Obj)(x:List kY)(g:Int):=oW L (bO x g)+bK (aJ (bz L))
theorem Ml(L:List Sx.Obj)(x:List kY)(hx:Oa x):
 aw (True/\(nV L=false->true=true)/\(nV L=true->au (decide (20<bK (aJ x))) (true=true) ((∃g,wQ x g/\0=g/\L=L/\aJ x=aJ x/\(p9 x=p9 x)/\L=L)/\∀(g:Int),wQ x g->au (decide (g<bK (aJ x))) ((0<=g/\g< ↑(aJ x))/\g.toNat<aJ x/\az (du (bO x g).data)/\au (decide (100<du (bO x g).data)) (true=true) (aw (gr L/\(((decide (4<=bK (aJ L))&&decide ((bO x g).kind=1))=true->aR (bO x g).data/\ly 0)/\au (decide (4<=bK (aJ L))&&decide ((bO x g).kind=1)&&dF (bO x g) 0&&decide (0<bK (aJ (bz L)))) ((Gg (bK (aJ (bz L)))/\az (oW L (bO x g)))/\au (decide (oW L (bO x g)<0)) (az (abl L x g)/\(0<=oW L (bO x g)+bK (aJ (bz L))/\oW L (bO x g)+bK (aJ (bz L))< ↑(aJ (bz L)))/\(abl L x g).toNat<aJ (bz L)/\jU (aJ ([]:List Int)) 8/\(0<=oW L (bO x g)+bK (aJ (bz L))/\oW L (bO x g)+bK (aJ (bz L))< ↑(aJ (bz L)))/\(abl L x g).toNat<aJ (bz L)/\az (4+(bO x g).reg)/\(0<=zT L (abl L x g)/\zT L (abl L x g)< ↑(aJ L))/\(0<=4+(bO x g).reg/\4+(bO x g).reg< ↑16)/\(zT L (abl L x g)).toNat<aJ L/\au (Xw L (bO x g) (zT L (abl L x g))) (jU (aJ (cE [] (zT L (abl L x g)))) 8/\∃g_1:Unit,True/\g=g/\L=L/\aJ x=aJ x/\(p9 x=p9 x)/\L=L/\(bO x g).kind=(bO x g).kind/\(bO x g).proc=(bO x g).proc/\(bO x g).reg=(bO x g).reg/\(bO x g).mode=(bO x g).mode/\(bO x g).code=(bO x g).code/\(bO x g).data=(bO x g).data/\(bO x g).s0=(bO x g).s0/\(bO x g).s1=(bO x g).s1/\(bO x g).s2=(bO x g).s2/\(bO x g).num=(bO x g).num/\(bO x g).val=(bO x g).val/\bz L=bz L/\cE (cE [] (zT L (abl L x g))) (X9 L (bO x g) (zT L (abl L x g))).oid=dA L (bO x g)) (∃g_1:Unit,True/\g=g/\L=L/\aJ x=aJ x/\(p9 x=p9 x)/\L=L/\(bO x g).kind=(bO x g).kind/\(bO x g).proc=(bO x g).proc/\(bO x g).reg=(bO x g).reg/\(bO x g).mode=(bO x g).mode/\(bO x g).code=(bO x g).code/\(bO x g).data=(bO x g).data/\(bO x g).s0=(bO x g).s0/\(bO x g).s1=(bO x g).s1/\(bO x g).s2=(bO x g).s2/\(bO x g).num=(bO x g).num/\(bO x g).val=(bO x g).val/\bz L=bz L/\cE [] (zT L (abl L x g))=dA L (bO x g))) ((0<=oW L (bO x g)/\oW L (bO x g)< ↑(aJ (bz L)))/\(oW L (bO x g)).toNat<aJ (bz L)/\jU (aJ ([]:List Int)) 8/\(0<=oW L (bO x g)/\oW L (bO x g)< ↑(aJ (bz L)))/\(oW L (bO x g)).toNat<aJ (bz L)/\az (4+(bO x g).reg)/\(0<=zT L (oW L (bO x g))/\zT L (oW L (bO x g))< ↑(aJ L))/\(0<=4+(bO x g).reg/\4+(bO x g).reg< ↑16)/\(zT L (oW L (bO x g))).toNat<aJ L/\au (Xw L (bO x g) (zT L (oW L (bO x g)))) (jU (aJ (cE [] (zT L (oW L (bO x g))))) 8/\∃g_1:Unit,True/\g=g/\L=L/\aJ x=aJ x/\(p9 x=p9 x)/\L=L/\(bO x g).kind=(bO x g).kind/\(bO x g).proc=(bO x g).proc/\(bO x g).reg=(bO x g).reg/\(bO x g).mode=(bO x g).mode/\(bO x g).code=(bO x g).code/\(bO x g).data=(bO x g).data/\(bO x g).s0=(bO x g).s0/\(bO x g).s1=(bO x g).s1/\(bO x g).s2=(bO x g).s2/\(bO x g).num=(bO x g).num/\(bO x g).val=(bO x g).val/\bz L=bz L/\cE (cE [] (zT L (oW L (bO x g)))) (X9 L (bO x g) (zT L (oW L (bO x g)))).oid=dA L (bO x g)) (∃g_1:Unit,True/\g=g/\L=L/\aJ x=aJ x/\(p9 x=p9 x)/\L=L/\(bO x g).kind=(bO x g).kind/\(bO x g).proc=(bO x g).proc/\(bO x g).reg=(bO x g).reg/\(bO x g).mode=(bO x g).mode/\(bO x g).code=(bO x g).code/\(bO x g).data=(bO x g).data/\(bO x g).s0=(bO x g).s0/\(bO x g).s1=(bO x g).s1/\(bO x g).s2=(bO x g).s2/\(bO x g).num=(bO x g).num/\(bO x g).val=(bO x g).val/\bz L=bz L/\cE [] (zT L (oW L (bO x g)))=dA L (bO x g)))) (∃g_1:Unit,True/\g=g/\L=L/\aJ x=aJ x/\(p9 x=p9 x)/\L=L/\(bO x g).kind=(bO x g).kind/\(bO x g).proc=(bO x g).proc/\(bO x g).reg=(bO x g).reg/\(bO x g).mode=(bO x g).mode/\(bO x g).code=(bO x g).code/\(bO x g).data=(bO x g).data/\(bO x g).s0=(bO x g).s0/\(bO x g).s1=(bO x g).s1/\(bO x g).s2=(bO x g).s2/\(bO x g).num=(bO x g).num/\(bO x g).val=(bO x g).val/\bz L=bz L/\[]=dA L (bO x g)))/\∀(g_1:Unit),True->aw (Md (some L,((bO x g).kind,(bO x g).proc,(bO x g).reg,(bO x g).mode,(bO x g).code,(bO x g).data,((bO x g).s0,(bO x g).s1,(bO x g).s2,PUnit.unit),(bO x g).num,(bO x g).val,PUnit.unit),PUnit.unit)/\au (!decide (bK (aJ (dA L (bO x g)))=bK (aJ (dA L (bO x g))))) (false=true) ((∃g_2,sb g_2/\g=g/\0=g_2/\L=L/\aJ x=aJ x/\(p9 x=p9 x)/\L=L/\(bO x g).kind=(bO x g).kind/\(bO x g).proc=(bO x g).proc/\(bO x g).reg=(bO x g).reg/\(bO x g).mode=(bO x g).mode/\(bO x g).code=(bO x g).code/\(bO x g).data=(bO x g).data/\(bO x g).s0=(bO x g).s0/\(bO x g).s1=(bO x g).s1/\(bO x g).s2=(bO x g).s2/\(bO x g).num=(bO x g).num/\(bO x g).val=(bO x g).val/\bz L=bz L/\dA L (bO x g)=dA L (bO x g)/\dA L (bO x g)=dA L (bO x g))/\∀(g_2:Int),sb g_2->au (decide (g_2<bK (aJ (dA L (bO x g))))) ((0<=g_2/\g_2< ↑(aJ (dA L (bO x g))))/\g_2.toNat<aJ (dA L (bO x g))/\(0<=g_2/\g_2< ↑(aJ (dA L (bO x g))))/\g_2.toNat<aJ (dA L (bO x g))/\au (!decide (aM (dA L (bO x g)) g_2.toNat 0=aM (dA L (bO x g)) g_2.toNat 0)) (false=true) (az (g_2+1)/\∃g',sb g'/\(10-g').toNat<(10-g_2).toNat/\g=g/\g_2+1=g'/\L=L/\aJ x=aJ x/\(p9 x=p9 x)/\L=L/\(bO x g).kind=(bO x g).kind/\(bO x g).proc=(bO x g).proc/\(bO x g).reg=(bO x g).reg/\(bO x g).mode=(bO x g).mode/\(bO x g).code=(bO x g).code/\(bO x g).data=(bO x g).data/\(bO x g).s0=(bO x g).s0/\(bO x g).s1=(bO x g).s1/\(bO x g).s2=(bO x g).s2/\(bO x g).num=(bO x g).num/\(bO x g).val=(bO x g).val/\bz L=bz L/\dA L (bO x g)=dA L (bO x g)/\dA L (bO x g)=dA L (bO x g))) (az (g+1)/\∃g',wQ x g'/\(bK (aJ x)-g').toNat<(bK (aJ x)-g).toNat/\g+1=g'/\L=L/\aJ x=aJ x/\(p9 x=p9 x)/\L=L)))))) ((lV L L&&true)=true)))):=by
 delta au abl az aw
 have eL:bK (aJ L)=(L.length:Int):=rfl;have eX:bK (aJ x)=(x.length:Int):=rfl;refine⟨rfl,trivial,fun _=>rfl,fun hM=>⟨fun _=>rfl,fun hs=>?_⟩⟩
 have hL:aP L:=by unfold nV at hM;simp only[af]at hM;exact hM.2
 have hs:=aj hs;obtain⟨l1,l2⟩:=jC hL;refine⟨⟨0,⟨by omega,Int.natCast_nonneg _,by unfold aJ;omega⟩,rfl,rfl,rfl,rfl,rfl⟩,fun g hg=>⟨fun hlt=>?_,fun hge=>by rw[mG];rfl⟩⟩
 have hlt:=ak hlt;obtain⟨h0,h1,h2⟩:=hg;have hj:g.toNat<x.length:=by omega
 have hz:aR (bO x g).data:=hx _ hj;have hz':du (bO x g).data<=9223372036854775807:=hz;have hz0:0<=du (bO x g).data:=Int.natCast_nonneg _
 refine⟨⟨h0,hlt⟩,hj,by simp only[bg,ck];omega,fun _=>rfl,fun _=>⟨rfl,by show L.length<=1000;omega,⟨fun _=>⟨hz,by unfold ly;omega⟩,fun hc=>?_,fun hc=>?_⟩,fun _ _=>⟨rfl,⟨hL,hz⟩,fun h=>?_,fun _=>⟨⟨0,by unfold sb;omega,rfl,rfl,rfl,rfl,rfl,rfl,rfl,rfl,rfl,rfl,rfl,rfl,rfl,rfl,rfl,rfl,rfl,rfl,rfl,rfl⟩,fun g_2 hg2=>⟨fun hl2=>?_,fun _=>⟨by simp only[bg,ck];omega,g+1,⟨by omega,by show g+1<=(x.length:Int);omega,h2⟩,by omega,rfl,rfl,rfl,rfl,rfl⟩⟩⟩⟩⟩⟩
 ·simp only[af,ah]at hc;obtain⟨⟨⟨c1,c2⟩,c3⟩,c4⟩:=hc;have hN:¬aJ (bz L)=0:=by unfold bK at c4;omega
  obtain⟨f1,f2,f3,_⟩:=vJ (p:=bO x g) hL hN;obtain⟨i0,i1⟩:=NA (p:=bO x g) hL hN;obtain⟨a0,a1⟩:=WB (p:=bO x g) hL hN;obtain⟨_,⟨r0,r1⟩,_⟩:=AF c3 c2;obtain⟨p0,p1⟩:=Ve hL c1 c2 c3 hN;have hf:∀l:List Int,l.length<=1->jU (aJ l) 8:=fun l h=>by unfold jU aJ;simp only[maxLen];omega
  refine⟨⟨f2,?_⟩,fun hb=>?_,fun hb=>?_⟩
  ·show ck IntKind.i64 ((bO x g).proc.tmod (aJ (bz L):Int));simp only[ck];omega
  ·obtain⟨b0,b1,b2⟩:=a0 (ak hb);have b2:zT L (oW L (bO x g)+bK (aJ (bz L)))=cN L (bO x g):=b2;have b0':0<=oW L (bO x g)+bK (aJ (bz L)):=b0;have b1':oW L (bO x g)+bK (aJ (bz L))< ↑(aJ (bz L)):=b1;rw[b2]
   refine⟨?_,⟨b0',b1'⟩,by omega,hf _ (by simp),⟨b0',b1'⟩,by omega,by simp only[bg,ck];omega,⟨i0,i1⟩,⟨by omega,by omega⟩,by omega,fun hC=>⟨hf _ (by unfold cE;simp),(),trivial,rfl,rfl,rfl,rfl,rfl,rfl,rfl,rfl,rfl,rfl,rfl,rfl,rfl,rfl,rfl,rfl,rfl,p0 hC⟩,fun hC=>⟨(),trivial,rfl,rfl,rfl,rfl,rfl,rfl,rfl,rfl,rfl,rfl,rfl,rfl,rfl,rfl,rfl,rfl,rfl,p1 hC⟩⟩
   show ck IntKind.i64 ((bO x g).proc.tmod (aJ (bz L):Int)+(aJ (bz L):Int));simp only[ck];omega
  ·obtain⟨b0,b1,b2⟩:=a1 (aj hb);have b2:zT L (oW L (bO x g))=cN L (bO x g):=b2;have b0':0<=oW L (bO x g):=b0;have b1':oW L (bO x g)< ↑(aJ (bz L)):=b1;rw[b2]
   exact⟨⟨b0',b1'⟩,by omega,hf _ (by simp),⟨b0',b1'⟩,by omega,by simp only[bg,ck];omega,⟨i0,i1⟩,⟨by omega,by omega⟩,by omega,fun hC=>⟨hf _ (by unfold cE;simp),(),trivial,rfl,rfl,rfl,rfl,rfl,rfl,rfl,rfl,rfl,rfl,rfl,rfl,rfl,rfl,rfl,rfl,rfl,p0 hC⟩,fun hC=>⟨(),trivial,rfl,rfl,rfl,rfl,rfl,rfl,rfl,rfl,rfl,rfl,rfl,rfl,rfl,rfl,rfl,rfl,rfl,p1 hC⟩⟩
 ·exact⟨(),trivial,rfl,rfl,rfl,rfl,rfl,rfl,rfl,rfl,rfl,rfl,rfl,rfl,rfl,rfl,rfl,rfl,rfl,Yh hc⟩
 ·simp at h
 ·have hl2:=ak hl2;have hp:=Sq (L:=L) (p:=bO x g);obtain⟨k0,k1⟩:=hg2;have hl3:g_2<((dA L (bO x g)).length:Int):=hl2
  refine⟨⟨k0,hl2⟩,by show g_2.toNat<(dA L (bO x g)).length;omega,⟨k0,hl2⟩,by show g_2.toNat<(dA L (bO x g)).length;omega,fun h=>by simp at h,fun _=>⟨by simp only[bg,ck];omega,g_2+1,by unfold sb;omega,by omega,rfl,rfl,rfl,rfl,rfl,rfl,rfl,rfl,rfl,rfl,rfl,rfl,rfl,rfl,rfl,rfl,rfl,rfl,rfl,rfl⟩⟩
theorem Ly(L:List Sx.Obj)(x:List kY)(hx:Oa x):aL Tryz.prog 3 [.sa 0,.sa 1] [.ro (.arr none 163 (.ob L)),.ro (.arr none 11 (Jq x))] (qh (.bo true)) (fun _ _=>False):=
 bV (inl:=cg) (ann:=(kb [(3,5,X2 [0,1,5] (fun g=> [(6,.it .i64 g)]) (wQ x) (bK (aJ x))),(3,3000011,S1 [.sl 8 tIn 1 (.it .i64 [])]),(3,2000020,aab [0,1,5,6,7] 8 (fun U=>dA L (aap U 7))),(3,24,X2 [0,1,5,6,7,8,12] (fun g=> [(13,.it .i64 g)]) sb 10)])) (aH Ox (aH Qt (aH JS (aH Nv aO)))) (aV R6 (aV K5 (aV WL aU))) (Ml L x hx) (by kernel_rfl)
end Go.Proofs.YtmfbohanboiklaaGreat
