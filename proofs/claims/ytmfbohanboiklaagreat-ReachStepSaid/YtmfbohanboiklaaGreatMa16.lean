import Derived.Test.YtmfbohanboiklaaGreatMa15
import Derived.Test.YtmfbohanboiklaaGreatProg
import Derived.WalkSpells
import Derived.StillTactics
import Derived.Laws.Pointers
import Derived.Laws.Rows
import Derived.Deep.RegionHeld3
import Derived.Deep.Draws
import Derived.Shelf.SlSortCmp.NoneTotal
import Derived.KernelRfl
set_option linter.unusedSimpArgs false
set_option linter.unusedVariables false
set_option maxRecDepth 100000
namespace Go.Proofs.YtmfbohanboiklaaGreat
open Go.Sort Go.Shelf Go.Proofs
instance fenW:Go.Sx.Fen:=⟨False⟩
set_option maxHeartbeats 4000000
def mE(x y:Int):Int:=if x<y then -1 else if y<x then 1 else 0
theorem ZM(x:Int)(W:World):Calls Tryz.prog 127 #[.int .i64 x] W fun e w'=>e= .returned (.bool false)/\w'=W:=by
 go_enter Tryz.func127,Tryz.ntmps127
 go_wp2
 go_ret
 simp
theorem Z2(x:Int)(W:World):Calls Tryz.prog 128 #[.int .i64 x] W fun e w'=>e= .returned (.bool false)/\w'=W:=by
 go_enter Tryz.func128,Tryz.ntmps128
 go_wp2
 go_ret
 simp
theorem XO(x:Int)(W:World):Calls Tryz.prog 129 #[.int .i64 x] W fun e w'=>e= .returned (.bool false)/\w'=W:=by
 go_enter Tryz.func129,Tryz.ntmps129
 go_wp2
 go_ret
 simp
theorem XX(x:Int)(W:World):Calls Tryz.prog 130 #[.int .i64 x] W fun e w'=>e= .returned (.bool false)/\w'=W:=by
 go_enter Tryz.func130,Tryz.ntmps130
 go_wp2
 go_ret
 simp
theorem abk(x y:Int)(W:World):Calls Tryz.prog 102 #[.int .i64 x,.int .i64 y] W fun e w'=>e= .returned (.int .i64 (mE x y))/\w'=W:=by
 have h0:=fun z W'=>ZM z W'
 unfold mE;go_enter Tryz.func102,Tryz.ntmps102
 go_wp2_with (go_at_call 127;refine(h0 _ _).mono ?_;rintro e w' ⟨rfl,rfl⟩)
 all_goals(go_ret;first| (simp;done)| (simp;grind))
theorem aci(x y:Int)(W:World):Calls Tryz.prog 103 #[.int .i64 x,.int .i64 y] W fun e w'=>e= .returned (.int .i64 (mE x y))/\w'=W:=by
 have h0:=fun z W'=>Z2 z W'
 unfold mE;go_enter Tryz.func103,Tryz.ntmps103
 go_wp2_with (go_at_call 128;refine(h0 _ _).mono ?_;rintro e w' ⟨rfl,rfl⟩)
 all_goals(go_ret;first| (simp;done)| (simp;grind))
theorem ab7(x y:Int)(W:World):Calls Tryz.prog 104 #[.int .i64 x,.int .i64 y] W fun e w'=>e= .returned (.int .i64 (mE x y))/\w'=W:=by
 have h0:=fun z W'=>XO z W'
 unfold mE;go_enter Tryz.func104,Tryz.ntmps104
 go_wp2_with (go_at_call 129;refine(h0 _ _).mono ?_;rintro e w' ⟨rfl,rfl⟩)
 all_goals(go_ret;first| (simp;done)| (simp;grind))
theorem abN(x y:Int)(W:World):Calls Tryz.prog 105 #[.int .i64 x,.int .i64 y] W fun e w'=>e= .returned (.int .i64 (mE x y))/\w'=W:=by
 have h0:=fun z W'=>XX z W'
 unfold mE;go_enter Tryz.func105,Tryz.ntmps105
 go_wp2_with (go_at_call 130;refine(h0 _ _).mono ?_;rintro e w' ⟨rfl,rfl⟩)
 all_goals(go_ret;first| (simp;done)| (simp;grind))
theorem acH(a b c d e:Int)(W:World):Calls Tryz.prog 33 #[.agg #[.int .i64 a,.int .i64 b,.int .i64 c,.int .i64 d,.int .i64 e]] W fun en w'=>en= .returned (.agg #[.int .i64 a,.int .i64 b,.int .i64 c,.int .i64 d,.int .i64 e,.int .i64 0])/\∃q os',w'=grow (W.drewN q) os':=by
 go_enter Tryz.func33,Tryz.ntmps33
 go_wp2
 refine bodyPost_ret (results_cell_row rfl _ _ (W.heap.size+1) 38 _ (0,0) _ rfl (heap_alloc2_new _ _ _) Tryz.underlying38 rfl (by kernel_rfl)) rfl ?_
 exact⟨rfl,(0:Nat),_,by rw[alloc_eq_grow,alloc_eq_grow,grow_grow];rfl⟩
def K8(a b c d e f:Int):Int:=bif a != 0 then a else bif b != 0 then b else bif c != 0 then c else bif d != 0 then d else bif e != 0 then e else bif f != 0 then f else 0
theorem UZ(a b c d e f:Int)(W:World)(k:Nat)(ty:Nat)(hk:W.heap[k]? =some (.cells #[.int .i64 a,.int .i64 b,.int .i64 c,.int .i64 d,.int .i64 e,.int .i64 f] ty (0,0))):
  Calls Tryz.prog 101 #[.slice (some ⟨k,0,none⟩) 6 6] W fun en w'=>en= .returned (.int .i64 (K8 a b c d e f))/\w'=W:=by
 have c0:W.cell? ⟨k,0,none⟩=some (.int .i64 a):=by simp[World.cell?,hk]
 have c1:W.cell? ⟨k,1,none⟩=some (.int .i64 b):=by simp[World.cell?,hk]
 have c2:W.cell? ⟨k,2,none⟩=some (.int .i64 c):=by simp[World.cell?,hk]
 have c3:W.cell? ⟨k,3,none⟩=some (.int .i64 d):=by simp[World.cell?,hk]
 have c4:W.cell? ⟨k,4,none⟩=some (.int .i64 e):=by simp[World.cell?,hk]
 have c5:W.cell? ⟨k,5,none⟩=some (.int .i64 f):=by simp[World.cell?,hk]
 go_enter Tryz.func101,Tryz.ntmps101
 go_wp2
 refine wp_loop_rounds 7 ?_;repeat' (first|go_ret| (rw[rounds_succ];go_wp2))
 all_goals
  simp only[K8,cond_true,cond_false, *];exact⟨rfl,trivial⟩
theorem Y0(w:World)(A B C:Obj):(((w.alloc A).alloc B).alloc C).drew.heap[w.heap.size+1+1]? =some C:=by
 have h:=heap_alloc2_new (w.alloc A) B C
 have e:(w.alloc A).heap.size=w.heap.size+1:=by
  show(w.heap.push A).size=_
  simp
 rwa [e]at h
theorem abt(x y:Sx.Key)(W:World):Calls Tryz.prog 76 #[.agg (Sx.dv x).toArray,.agg (Sx.dv y).toArray] W fun en w'=>en= .returned (.int .i64 (K8 (mE x.kind y.kind) (mE x.oid y.oid) (mE x.count y.count) (mE x.call y.call) (mE x.rights y.rights) (mE x.value y.value)))/\∃q os',w'=grow (W.drewN q) os':=by
 have h1:=fun x y W'=>abk x y W'
 have h2:=fun x y W'=>aci x y W'
 have h3:=fun x y W'=>ab7 x y W'
 have h4:=fun x y W'=>abN x y W'
 simp only[Sx.dv,Sx.i64];go_enter Tryz.func76,Tryz.ntmps76
 go_wp2
 go_region_held3 (fun w'=>w'.cell? ⟨W.heap.size,0,none⟩=some (.int .i64 x.kind)/\w'.cell? ⟨W.heap.size,1,none⟩=some (.int .i64 x.oid)/\w'.cell? ⟨W.heap.size,2,none⟩=some (.int .i64 x.count)/\w'.cell? ⟨W.heap.size,3,none⟩=some (.int .i64 x.call)/\w'.cell? ⟨W.heap.size,4,none⟩=some (.int .i64 x.rights)/\w'.cell? ⟨W.heap.size,5,none⟩=some (.int .i64 x.value)/\w'.cell? ⟨W.heap.size+1,0,none⟩=some (.int .i64 y.kind)/\w'.cell? ⟨W.heap.size+1,1,none⟩=some (.int .i64 y.oid)/\w'.cell? ⟨W.heap.size+1,2,none⟩=some (.int .i64 y.count)/\w'.cell? ⟨W.heap.size+1,3,none⟩=some (.int .i64 y.call)/\w'.cell? ⟨W.heap.size+1,4,none⟩=some (.int .i64 y.rights)/\w'.cell? ⟨W.heap.size+1,5,none⟩=some (.int .i64 y.value)) (go_keep)
  (first
   | (go_at_call 102;refine(h1 _ _ _).mono ?_;rintro e w' ⟨rfl,rfl⟩)
   | (go_at_call 103;refine(h2 _ _ _).mono ?_;rintro e w' ⟨rfl,rfl⟩)
   | (go_at_call 104;refine(h3 _ _ _).mono ?_;rintro e w' ⟨rfl,rfl⟩)
   | (go_at_call 105;refine(h4 _ _ _).mono ?_;rintro e w' ⟨rfl,rfl⟩)
   | (go_at_call 101;refine(UZ _ _ _ _ _ _ _ _ _ (Y0 _ _ _ _)).mono ?_;rintro e w' ⟨rfl,rfl⟩))
 all_goals go_wp2
 all_goals go_ret
 all_goals exact⟨rfl,(1:Nat),_,by rw[alloc_eq_grow,alloc_eq_grow,alloc_eq_grow,grow_grow,grow_grow];rfl⟩
abbrev cpI(x:Sx.Key):Value:= .agg #[.int .i64 x.kind,.int .i64 x.oid,.int .i64 x.count,.int .i64 x.call,.int .i64 x.rights]
theorem H3(w:World)(os:Array Obj)(n:Nat):(grow w os).drewN n=grow (w.drewN n) os:=rfl
theorem KW(w:World)(n m:Nat):(w.drewN n).drewN m=w.drewN (n+m):=by
 unfold World.drewN;simp[Nat.add_assoc]
theorem PH{w:World}{os:Array Obj}{n:Nat}{a:Addr}{v:Value}(h:w.cell? a=some v):(grow (w.drewN n) os).cell? a=some v:=by
 have hlt:=block_lt_of_cell h;unfold World.cell? at h⊢
 have e:(grow (w.drewN n) os).heap[a.block]? =w.heap[a.block]? :=by
  show(w.heap++os)[a.block]? =_
  rw[Array.getElem?_append_left hlt]
 rw[e];exact h
theorem U3{w:World}{os:Array Obj}{a:Addr}{v:Value}(h:w.cell? a=some v):(grow w os).cell? a=some v:=PH (n:=0) h
theorem VA{w:World}{n:Nat}{a:Addr}{v:Value}(h:w.cell? a=some v):(w.drewN n).cell? a=some v:=h
theorem c2a(w:World)(t:Nat)(f:Nat×Nat)(B:Obj){c:Array Value}{i:Nat}{v:Value}(h:c[i]? =some v):((w.alloc (.cells c t f)).alloc B).cell? ⟨w.heap.size,i,none⟩=some v:=by
 unfold World.cell?;rw[heap_alloc2_old];exact h
theorem c2b(w:World)(t:Nat)(f:Nat×Nat)(A:Obj){c:Array Value}{i:Nat}{v:Value}(h:c[i]? =some v):((w.alloc A).alloc (.cells c t f)).cell? ⟨w.heap.size+1,i,none⟩=some v:=by
 unfold World.cell?;rw[heap_alloc2_new];exact h
theorem acf(x y:Sx.Key)(W:World):Calls Tryz.prog 54 #[cpI x,cpI y] W fun en w'=>en= .returned (.int .i64 (K8 (mE x.kind y.kind) (mE x.oid y.oid) (mE x.count y.count) (mE x.call y.call) (mE x.rights y.rights) 0))/\∃q os',w'=grow (W.drewN q) os':=by
 have h1:=fun a b c d e W'=>acH a b c d e W'
 have h2:=fun W'=>abt {x with value:=0} {y with value:=0} W'
 have h3:mE 0 0=0:=rfl;simp only[Sx.dv,Sx.i64,h3]at h2;unfold cpI;go_enter Tryz.func54,Tryz.ntmps54
 go_wp2
 go_region_held3 (fun w'=>w'.cell? ⟨W.heap.size,0,none⟩=some (.int .i64 x.kind)/\w'.cell? ⟨W.heap.size,1,none⟩=some (.int .i64 x.oid)/\w'.cell? ⟨W.heap.size,2,none⟩=some (.int .i64 x.count)/\w'.cell? ⟨W.heap.size,3,none⟩=some (.int .i64 x.call)/\w'.cell? ⟨W.heap.size,4,none⟩=some (.int .i64 x.rights)/\w'.cell? ⟨W.heap.size+1,0,none⟩=some (.int .i64 y.kind)/\w'.cell? ⟨W.heap.size+1,1,none⟩=some (.int .i64 y.oid)/\w'.cell? ⟨W.heap.size+1,2,none⟩=some (.int .i64 y.count)/\w'.cell? ⟨W.heap.size+1,3,none⟩=some (.int .i64 y.call)/\w'.cell? ⟨W.heap.size+1,4,none⟩=some (.int .i64 y.rights)) (first|go_keep| (and_intros<;>(repeat(first|exact c2a _ _ _ _ rfl|exact c2b _ _ _ _ rfl|apply PH|apply U3|apply VA))))
  (first
   | (go_at_call 33;refine(h1 _ _ _ _ _ _).mono ?_;rintro e w' ⟨rfl,q,os,rfl⟩)
   | (go_at_call 76;refine(h2 _).mono ?_;rintro e w' ⟨rfl,q,os,rfl⟩))
 all_goals go_wp2
 all_goals go_ret
 all_goals exact⟨rfl,_,_,by simp only[alloc_eq_grow,H3,KW,grow_grow];rfl⟩
def Zz:Go.Shelf.Ren:=⟨fun|6=>74|15=>100|14=>99|28=>125|29=>126|20=>117|21=>118|22=>119|23=>120|24=>121|25=>122|26=>123|27=>124|46=>179|47=>180|48=>181|49=>182|50=>183|57=>221|n=>n,
 fun|22=>48|24=>74|25=>121|3=>3|39=>184|0=>0|53=>211|55=>213|4=>4|46=>205|45=>204|50=>88|5=>5|9=>9|66=>231|70=>235|76=>276|77=>277|n=>n,fun n=>n⟩
theorem Nn:SlLaysF0.n6 Tryz.prog Zz where
 mixed:=by kernel_rfl
 f6:=⟨Tryz.f74.name,by decide,Tryz.func74.trans (congrArg some (by kernel_rfl))⟩
 f14:=⟨Tryz.f99.name,by decide,Tryz.func99.trans (congrArg some (by kernel_rfl))⟩
 f15:=Tryz.func100.trans (congrArg some (by kernel_rfl))
 f20:=⟨Tryz.f117.name,by decide,Tryz.func117.trans (congrArg some (by kernel_rfl))⟩
 f21:=⟨Tryz.f118.name,by decide,Tryz.func118.trans (congrArg some (by kernel_rfl))⟩
 f22:=⟨Tryz.f119.name,by decide,Tryz.func119.trans (congrArg some (by kernel_rfl))⟩
 f23:=⟨Tryz.f120.name,by decide,Tryz.func120.trans (congrArg some (by kernel_rfl))⟩
 f24:=⟨Tryz.f121.name,by decide,Tryz.func121.trans (congrArg some (by kernel_rfl))⟩
 f25:=⟨Tryz.f122.name,by decide,Tryz.func122.trans (congrArg some (by kernel_rfl))⟩
 f26:=⟨Tryz.f123.name,by decide,Tryz.func123.trans (congrArg some (by kernel_rfl))⟩
 f27:=⟨Tryz.f124.name,by decide,Tryz.func124.trans (congrArg some (by kernel_rfl))⟩
 f28:=Tryz.func125.trans (congrArg some (by kernel_rfl))
 f29:=Tryz.func126.trans (congrArg some (by kernel_rfl))
 f46:=⟨Tryz.f179.name,by decide,Tryz.func179.trans (congrArg some (by kernel_rfl))⟩
 f47:=Tryz.func180.trans (congrArg some (by kernel_rfl))
 f48:=Tryz.func181.trans (congrArg some (by kernel_rfl))
 f49:=⟨Tryz.f182.name,by decide,Tryz.func182.trans (congrArg some (by kernel_rfl))⟩
 f50:=⟨Tryz.f183.name,by decide,Tryz.func183.trans (congrArg some (by kernel_rfl))⟩
 f57:=⟨Tryz.f221.name,by decide,Tryz.func221.trans (congrArg some (by kernel_rfl))⟩
 t0:=Tryz.underlying0
 a0:=Tryz.isAgg0
 z0:=Tryz.sizeOf0
 v0:=Tryz.zeroValue0
 t3:=Tryz.underlying3
 a3:=Tryz.isAgg3
 z3:=Tryz.sizeOf3
 v3:=Tryz.zeroValue3
 t4:=Tryz.underlying4
 a4:=Tryz.isAgg4
 z4:=Tryz.sizeOf4
 v4:=Tryz.zeroValue4
 t5:=Tryz.underlying5
 a5:=Tryz.isAgg5
 z5:=Tryz.sizeOf5
 v5:=Tryz.zeroValue5
 t9:=Tryz.underlying9
 a9:=Tryz.isAgg9
 z9:=Tryz.sizeOf9
 v9:=Tryz.zeroValue9
 t22:=Tryz.underlying48
 a22:=Tryz.isAgg48
 z22:=Tryz.sizeOf48
 v22:=Tryz.zeroValue48
 t25:=Tryz.underlying121
 a25:=Tryz.isAgg121
 z25:=Tryz.sizeOf121
 v25:=Tryz.zeroValue121
 t39:=Tryz.underlying184
 a39:=Tryz.isAgg184
 z39:=Tryz.sizeOf184
 v39:=Tryz.zeroValue184
 t45:=Tryz.underlying204
 a45:=Tryz.isAgg204
 z45:=Tryz.sizeOf204
 v45:=Tryz.zeroValue204
 t46:=Tryz.underlying205
 a46:=Tryz.isAgg205
 z46:=Tryz.sizeOf205
 v46:=Tryz.zeroValue205
 t50:=Tryz.underlying88
 a50:=Tryz.isAgg88
 z50:=Tryz.sizeOf88
 v50:=Tryz.zeroValue88
 t53:=Tryz.underlying211
 a53:=Tryz.isAgg211
 z53:=Tryz.sizeOf211
 v53:=Tryz.zeroValue211
 t55:=Tryz.underlying213
 a55:=Tryz.isAgg213
 z55:=Tryz.sizeOf213
 v55:=Tryz.zeroValue213
 t66:=Tryz.underlying231
 a66:=Tryz.isAgg231
 z66:=Tryz.sizeOf231
 v66:=Tryz.zeroValue231
 t70:=Tryz.underlying235
 a70:=Tryz.isAgg235
 z70:=Tryz.sizeOf235
 v70:=Tryz.zeroValue235
 t76:=Tryz.underlying276
 a76:=Tryz.isAgg276
 z76:=Tryz.sizeOf276
 v76:=Tryz.zeroValue276
 t77:=Tryz.underlying277
 a77:=Tryz.isAgg277
 z77:=Tryz.sizeOf277
 v77:=Tryz.zeroValue277
end Go.Proofs.YtmfbohanboiklaaGreat
namespace Go.Sx
structure T5 where
 a:Int
 b:Int
 c:Int
 d:Int
 e:Int
 deriving Inhabited
def T5.key(x:T5):Key:=⟨x.a,x.b,x.c,x.d,x.e,0⟩
def T5.cp(x:T5):Cp:= [x.a,x.b,x.c,x.d,x.e]
def mb(l:Cp):T5:=⟨aL l 0 0,aL l 1 0,aL l 2 0,aL l 3 0,aL l 4 0⟩
theorem KB{l:Cp}(h:l.length=5):(mb l).cp=l:=by
 match l,h with
 | [a,b,c,d,e],_=>rfl
theorem Xp(x:T5):mb x.cp=x:=rfl
theorem aan{l:Cp}(h:l.length=5):ef (cq l)=l:=by
 match l,h with
 | [a,b,c,d,e],_=>rfl
def qN(x y:T5):Prop:=x.a<y.a\/(x.a=y.a/\(x.b<y.b\/(x.b=y.b/\(x.c<y.c\/(x.c=y.c/\(x.d<y.d\/(x.d=y.d/\x.e<y.e)))))))
theorem abS{a b:Int}:lS a b=0↔a=b:=by
 unfold lS;split
 ·omega
 ·split<;>omega
theorem Eo{a b:Int}:lS a b<0↔a<b:=by
 unfold lS;split
 ·omega
 ·split<;>omega
theorem OW(x y:T5):FH x.key y.key<0↔qN x y:=by
 unfold FH T5.key qN;simp only[ne_eq,abS];by_cases h1:x.a=y.a
 ·rw[aq (by simpa using h1)]
  by_cases h2:x.b=y.b
  ·rw[aq (by simpa using h2)]
   by_cases h3:x.c=y.c
   ·rw[aq (by simpa using h3)]
    by_cases h4:x.d=y.d
    ·rw[aq (by simpa using h4)]
     by_cases h5:x.e=y.e
     ·rw[aq (by simpa using h5)]
      have:lS 0 0=0:=rfl;omega
     ·rw[ar h5,Eo];omega
    ·rw[ar h4,Eo];omega
   ·rw[ar h3,Eo];omega
  ·rw[ar h2,Eo];omega
 ·rw[ar h1,Eo];omega
theorem HC(x:T5):¬qN x x:=by unfold qN;omega
theorem vx{x y z:T5}(h:qN x y)(k:qN y z):qN x z:=by unfold qN at *;omega
theorem uA{x y:T5}(h:¬qN x y)(k:¬qN y x):x=y:=by
 have:x.a=y.a/\x.b=y.b/\x.c=y.c/\x.d=y.d/\x.e=y.e:=by unfold qN at *;omega
 cases x;cases y;simp_all
theorem vJ{x y:Cp}:lR x y=true↔qN (mb x) (mb y):=by
 unfold lR;rw[ah];exact OW (mb x) (mb y)
theorem Ha{x y:Cp}(hx:x.length=5)(hy:y.length=5)(h:lR x y=false)(k:lR y x=false):x=y:=by
 have h:¬lR x y=true:=by simp[h]
 have k:¬lR y x=true:=by simp[k]
 rw[vJ]at h k;have:=congrArg T5.cp (uA h k);rwa [KB hx,KB hy]at this
theorem Ak{x y z:Cp}(h:lR x y=true)(k:lR y z=true):lR x z=true:=by
 rw[vJ]at *;exact vx h k
theorem Ng(x:Cp):lR x x=false:=by
 have:¬lR x x=true:=by rw[vJ];exact HC _
 simpa using this
def uG(l:List Cp):Prop:=l.Pairwise fun x y=>lR x y=true
theorem LA(l:List Cp)(c:Cp):(Es l c).Perm (c::l):=by
 unfold Es;refine List.perm_middle.trans ?_;rw[List.takeWhile_append_dropWhile]
theorem Oc{l:List Cp}{c:Cp}(hl:uG l)(h5:∀x∈l,x.length=5)(hc:c.length=5)(hn:c∉l):uG (Es l c):=by
 unfold Es;have htd:=List.takeWhile_append_dropWhile (p:=fun x=>lR x c) (l:=l)
 have hpw:(l.takeWhile (fun x=>lR x c)++l.dropWhile (fun x=>lR x c)).Pairwise fun x y=>lR x y=true:=by rw[htd];exact hl
 obtain⟨p1,p2,p3⟩:=List.pairwise_append.1 hpw
 have ht:∀x∈l.takeWhile (fun x=>lR x c),lR x c=true:=fun x hx=>by
  have:=List.all_takeWhile (p:=fun x=>lR x c) (l:=l)
  exact List.all_eq_true.1 this x hx
 have hd:∀y∈l.dropWhile (fun x=>lR x c),lR c y=true:=by
  cases hdw:l.dropWhile (fun x=>lR x c)with
  |nil=>simp
  |cons z r=>
   have hz0:lR z c=false:=by
    have:=List.head_dropWhile_not (fun x=>lR x c) (l:=l) (by rw[hdw];simp)
    simpa[hdw]using this
   have hzl:z∈l:=by rw[<-htd,hdw];simp
   have hz:lR c z=true:=by
    refine Decidable.byContradiction fun hcz=>?_
    have:=Ha (h5 z hzl) hc hz0 (by simpa using hcz)
    exact hn (this▸hzl)
   intro y hy;rcases List.mem_cons.1 hy with rfl|hy
   ·exact hz
   ·rw[hdw]at p2;exact Ak hz ((List.pairwise_cons.1 p2).1 y hy)
 unfold uG;rw[List.pairwise_append];refine⟨p1,List.pairwise_cons.2 ⟨hd,p2⟩,fun x hx y hy=>?_⟩
 rcases List.mem_cons.1 hy with rfl|hy
 ·exact ht x hx
 ·exact p3 x hx y hy
theorem Pk:∀(l acc:List Cp),uG acc->(∀x∈acc,x.length=5)->(∀x∈l,x.length=5)->l.Nodup->(∀x∈l,x∉acc)->uG (l.foldl Es acc)/\(l.foldl Es acc).Perm (l++acc)
 | [],acc,h1,_,_,_,_=>⟨h1,List.Perm.refl _⟩
 |c::l,acc,h1,h2,h3,h4,h5=>by
  have hc:=h3 c (by simp)
  have hn:=h5 c (by simp)
  rw[List.nodup_cons]at h4;have hp:=LA acc c
  obtain⟨g1,g2⟩:=Pk l (Es acc c) (Oc h1 h2 hc hn) (fun x hx=>by
    rcases List.mem_cons.1 (hp.mem_iff.1 hx)with rfl|hx
    ·exact hc
    ·exact h2 x hx) (fun x hx=>h3 x (by simp[hx])) h4.2 (fun x hx hx'=>by
    rcases List.mem_cons.1 (hp.mem_iff.1 hx')with rfl|hx'
    ·exact h4.1 hx
    ·exact h5 x (by simp[hx]) hx')
  exact⟨g1,g2.trans ((hp.append_left l).trans (List.perm_middle))⟩
theorem mh{l:List Cp}(h5:∀x∈l,x.length=5)(hn:l.Nodup):uG (qO l)/\(qO l).Perm l:=by
 obtain⟨h1,h2⟩:=Pk l [] List.Pairwise.nil (by simp) h5 hn (by simp)
 rw[List.append_nil]at h2;exact⟨h1,h2⟩
theorem RB{l m:List Cp}(hl:uG l)(hm:uG m)(h:l.Perm m):l=m:=
 List.Perm.eq_of_pairwise (le:=fun x y=>lR x y=true) (fun a b _ _ h1 h2=>by have:=Ak h1 h2;rw[Ng]at this;simp at this) hl hm h
theorem LL{l m:List Cp}(h5:∀x∈l,x.length=5)(hn:l.Nodup)(h:l.Perm m):qO l=qO m:=by
 obtain⟨a1,a2⟩:=mh h5 hn;obtain⟨b1,b2⟩:=mh (fun x hx=>h5 x (h.mem_iff.2 hx)) (h.nodup_iff.1 hn)
 exact RB a1 b1 (a2.trans (h.trans b2.symm))
theorem Qn{l:List Cp}(h5:∀x∈l,x.length=5)(hn:l.Nodup){x:Cp}:x∈qO l↔x∈l:=(mh h5 hn).2.mem_iff
theorem Lz{l:List Cp}(h5:∀x∈l,x.length=5)(hn:l.Nodup)(le:T5->T5->Bool)(hle:∀x y,le x y=true↔ ¬qN y x):((l.map mb).mergeSort le).map T5.cp=qO l:=by
 have hp:(((l.map mb).mergeSort le).map T5.cp).Perm l:=by
  refine((List.mergeSort_perm _ _).map _).trans ?_;rw[List.map_map]
  have:l.map (T5.cp∘mb)=l:=by
   conv=>rhs;rw[<-List.map_id l]
   exact List.map_congr_left fun x hx=>KB (h5 x hx)
  rw[this]
 have hpw:=List.pairwise_mergeSort (le:=le) (fun a b c h1 h2=>by
   rw[hle]at *;intro hca;rcases Classical.em (qN a b)with h|h
   ·exact h2 (vx hca h)
   ·have:=uA h h1;subst this;exact h2 hca) (fun a b=>by
   rcases Classical.em (qN b a)with h|h
   ·have:le b a=true:=(hle _ _).2 fun h'=>HC _ (vx h h')
    simp[this]
   ·have:le a b=true:=(hle _ _).2 h;simp[this]) (l.map mb)
 obtain⟨a1,a2⟩:=mh h5 hn;have hnd:(((l.map mb).mergeSort le).map T5.cp).Nodup:=hp.nodup_iff.2 hn;refine RB ?_ a1 (hp.trans a2.symm);unfold uG;rw[List.pairwise_map];have hnd':((l.map mb).mergeSort le).Pairwise (· ≠ ·):=(List.pairwise_map.1 hnd).imp fun h e=>h (congrArg _ e)
 refine(hpw.and hnd').imp fun{x y} ⟨h,hne⟩=>?_
 rw[vJ,Xp,Xp];rw[hle]at h;exact Classical.byContradiction fun hh=>hne (uA hh h)
def XS(v:V):Option Nat:=
 match v with
 | .fn g caps=>match caps with
   | []=>some g
   |_::_=>none
 |_=>none
theorem K3{v:V}{g:Nat}(h:XS v=some g):v= .fn g []:=by
 unfold XS at h;split at h
 ·split at h
  ·simp only[aa]at h;subst h;rfl
  ·simp at h
 ·simp at h
def Ee(q:List Cp):Prop:=q.Nodup/\(∀x∈q,x.length=5)/\q.length<=1000000
def Qq:lg:=fun args res K=>
 match args with
 | [a,f]=>match a with
   | .sa k=>match XS f with
     |some g=>match aN res k with
      | .arr own esz t=>match own with
        |some e=>match t with
         | .qs n q=>if g==54&&esz==5&&n==5 then Ee q/\K (.tp []) (bR res k (.arr (some e) 5 (.qs 5 (qO q))))else False
         |_=>False
        |none=>False
      |_=>False
     |none=>False
   |_=>False
 |_=>False
end Go.Sx
namespace Go.Proofs.YtmfbohanboiklaaGreat
open Go.Sx Go.Sort Go.Shelf Go.Proofs
def o9(x:T5):List Value:= [i64 x.a,i64 x.b,i64 x.c,i64 x.d,i64 x.e]
def Kg(x y:T5):Int:=FH x.key y.key
theorem ZV(a x:Int):(bif a != 0 then a else x)=if a≠0 then a else x:=by
 cases h:(a != 0)with
 |true=>simp only[cond_true];rw[ar (by simpa using h)]
 |false=>simp only[cond_false];rw[aq (by simpa using h)]
theorem Ug(x y:T5):K8 (mE x.a y.a) (mE x.b y.b) (mE x.c y.c) (mE x.d y.d) (mE x.e y.e) 0=Kg x y:=by
 unfold K8 Kg FH T5.key;simp only[bne_self_eq_false,cond_false];have e:∀a b,mE a b=lS a b:=fun _ _=>rfl
 simp only[e,show lS 0 0=0 from rfl];simp only[ZV]
theorem adp(blk off size:Nat)(w:World):CmpLays Tryz.prog 54 #[] o9 5 Kg blk off size w:=fun m os dk hs x y=>by
 have h:=acf x.key y.key (sortWorldK o9 5 w blk off m dk os);refine h.mono fun e w' ⟨he,hw⟩=>⟨?_,hw⟩
 rw[he,<-Ug];rfl
theorem ltT(x y:T5):ltOf Kg x y=true↔qN x y:=by
 unfold ltOf Kg;rw[ah,OW]
theorem VT(x y:T5):ltOf Kg x y=false↔ ¬qN x y:=by rw[<-ltT];simp
theorem acY:SWO (ltOf Kg) where
 irrefl x:=by rw[VT];exact HC x
 trans x y z h1 h2:=by rw[ltT]at *;exact vx h1 h2
 ntrans x y z h1 h2:=by rw[VT]at *;unfold qN at *;omega
theorem MR{β:Type}(F:Nat->β):∀n:Nat,(List.range (n*5)).map F=(List.range n).flatMap fun j=>(List.range 5).map fun y=>F (j*5+y)
 |0=>rfl
 |n+1=>by
  rw[show(n+1)*5=n*5+5 by omega,List.range_add,List.map_append,MR F n,List.range_succ (n:=n),List.flatMap_append]
  simp
theorem ux{α β:Type}{f g:α->List β}:∀{l:List α},(∀x∈l,f x=g x)->l.flatMap f=l.flatMap g
 | [],_=>rfl
 |x::l,h=>by rw[List.flatMap_cons,List.flatMap_cons,h x (by simp),ux fun y hy=>h y (by simp[hy])]
theorem C0(D:Array T5):(Go.Sort.flatK o9 5 D).toList=(TL.qs 5 (D.toList.map T5.cp)).cells:=by
 have e:(Go.Sort.flatK o9 5 D).toList=(List.range (D.size*5)).map fun t=>(o9 D[t / 5]!)[t%5]! :=by
  unfold Go.Sort.flatK;rw[Array.toList_map,Array.toList_range]
 rw[e,MR];unfold TL.cells;show _=(List.range (aK (D.toList.map T5.cp))).flatMap _
 have hl:aK (D.toList.map T5.cp)=D.size:=by simp[aK]
 rw[hl];refine ux fun j hj=>?_
 have hj:j<D.size:=by simpa using hj
 show _=Sx.cells Env.zero (.ag (qL (D.toList.map T5.cp) j 0 5))
 unfold Sx.cells;simp only[den,Value.cells,wZ]
 have hq:(D.toList.map T5.cp).getD j []=D[j]!.cp:=by
  rw[an,List.getElem?_map,getElem!_pos D j hj];simp[hj]
 refine List.map_congr_left fun y hy=>?_
 have hy:y<5:=by simpa using hy
 have h1:(j*5+y) / 5=j:=by omega
 have h2:(j*5+y)%5=y:=by omega
 rw[h1,h2];unfold gy;rw[hq,Nat.zero_add];unfold o9 T5.cp;match y,hy with
 |0,_=>rfl
 |1,_=>rfl
 |2,_=>rfl
 |3,_=>rfl
 |4,_=>rfl
theorem NZ(F cur:Array Value)(h:F.size<=cur.size):(putCells id 0 F cur).toList.take F.size=F.toList/\(putCells id 0 F cur).size=cur.size:=by
 have hs:(putCells id 0 F cur).size=cur.size:=by unfold putCells;simp
 refine⟨List.ext_getElem? fun i=>?_,hs⟩
 rw[List.getElem?_take];by_cases hi:i<F.size
 ·rw[ar hi];unfold putCells;have hc:i<cur.size:=by omega
  simp[hi,hc]
 ·rw[aq hi];symm
  simpa using Nat.le_of_not_lt hi
theorem Mb{w:World}{g e:Nat}{cur:Array Value}(hb:w.heap[g]? =some (.cells cur e (0,0)))(m:Nat)(dk:Array T5)(os:Array Go.Obj):
  (sortWorldK o9 5 w g 0 m dk os).heap[g]? =some (.cells (putCells id 0 (Go.Sort.flatK o9 5 dk) cur) e (0,0))/\(∀b,b<w.heap.size->b≠g->(sortWorldK o9 5 w g 0 m dk os).heap[b]? =w.heap[b]?)/\w.heap.size<=(sortWorldK o9 5 w g 0 m dk os).heap.size:=by
 have hg:=(Array.getElem?_eq_some_iff.1 hb).1;have e0:(sortWorldK o9 5 w g 0 m dk os).heap=(w.heap.modify g (onCells (putCells id 0 (Go.Sort.flatK o9 5 dk))))++os:=rfl;rw[e0];refine⟨?_,fun b hlt hne=>?_,by simp⟩
 ·rw[Array.getElem?_append_left (by simpa using hg),Array.getElem?_modify,ar rfl,hb];rfl
 ·rw[Array.getElem?_append_left (by simpa using hlt),Array.getElem?_modify,aq (Ne.symm hne)]
theorem VD{q M:List Cp}(h5:∀x∈q,x.length=5)(hM:∀x∈M,x∈q)(hq:∀j,j<(TL.qs 5 q).len->ok (fun _=>False) ((TL.qs 5 q).get j)):∀j,j<(TL.qs 5 M).len->ok (fun _=>False) ((TL.qs 5 M).get j)/\cE ((TL.qs 5 M).get j)=false/\fe ((TL.qs 5 M).get j)=5:=fun j hj=>by
 have hj:j<M.length:=hj;have hm:M[j]∈q:=hM _ (List.getElem_mem hj);obtain⟨i,hi,he⟩:=List.getElem_of_mem hm;have hok:=hq i hi
 have e:∀c,gy M j c=gy q i c:=fun c=>by
  have h1:M.getD j []=q.getD i []:=by rw[an,List.getElem?_eq_getElem hj,an,List.getElem?_eq_getElem hi,he]
  unfold gy;rw[h1]
 have e2:(TL.qs 5 M).get j=(TL.qs 5 q).get i:=congrArg V.ag (zw e 5 0);rw[e2];refine⟨hok,rfl,?_⟩;show qQ (qL q i 0 5)=5
 exact Hz _ _
theorem Uc:l5 Tryz.prog 74 Qq:=by
 intro args res K KP hh;unfold Qq at hh;split at hh
 case h_2=>exact hh.elim
 split at hh
 case h_2=>exact hh.elim
 rename_i k;split at hh
 case h_2=>exact hh.elim
 rename_i g hg;have hg:=K3 hg;subst hg;split at hh
 case h_2=>exact hh.elim
 rename_i own esz t hr;split at hh
 case h_2=>exact hh.elim
 rename_i e;split at hh
 case h_2=>exact hh.elim
 rename_i n q;split at hh
 case isFalse=>exact hh.elim
 rename_i hc;simp only[af,ai]at hc;obtain⟨⟨rfl,rfl⟩,rfl⟩:=hc;obtain⟨⟨hnd,h5,hsm⟩,hK⟩:=hh;intro J fps w0 F0 w hH hargs;have hk:known res k:=by unfold known;rw[hr];simp
 have hho:=hH.holds k hk;rw[hr]at hho;obtain⟨c1,c2,c3,c4,c5,c6,c7⟩:=hho;rcases c7 with⟨c7,_⟩|⟨e',ce,hrow,hfp⟩
 ·simp at c7
 have ce:=ce e rfl;subst ce;have hlen:(TL.qs 5 q).len=q.length:=rfl;obtain⟨s1,s2⟩:=mh h5 hnd;have hMlen:(qO q).length=q.length:=s2.length_eq
 have hcell:(TL.qs 5 q).cells=(Go.Sort.flatK o9 5 (q.map mb).toArray).toList:=by
  rw[C0]
  have:(q.map mb).toArray.toList.map T5.cp=q:=by
   rw[List.map_map];conv=>rhs;rw[<-List.map_id q]
   exact List.map_congr_left fun x hx=>KB (h5 x hx)
  rw[this]
 have hel:=VD h5 (fun x hx=>s2.mem_iff.1 hx) fun j hj=>(c1 j hj).1
 have fin:∀w',w'.os=w.os->w'.tape=w.tape->w'.output=w.output->w.heap.size<=w'.heap.size->(∀b,b<w.heap.size->¬fps k b->w'.heap[b]? =w.heap[b]?)->w'.ownsRow 0 e 5 (J.sl k) q.length (TL.qs 5 (qO q)).cells->
   ∃x ρ' fps' res',bp ρ' fps' res' (known res') w0 F0 w'/\Sx.Good J res ρ' res'/\ok (known res') x/\(.returned (.tuple #[])=Ending.returned (den ρ' x)/\K x res'):=fun w' a1 a2 a3 a4 a5 a6=>by
  obtain⟨fps',f1,f2,f3⟩:=hH.Kl (ρ':=J) (w':=w') [] k (.arr (some e) 5 (.qs 5 (qO q))) [] (fps k) (by simp) (by simp) hk (by simp) (by simp) (Env.agree.refl _ _)
   ⟨hel,by rw[c2,hlen,<-hMlen];rfl,by show(qO q).length<=_;rw[hMlen];exact c3,c4,fun h=>c5 (by show 0<q.length;rw[<-hMlen];exact h),fun h=>c6 (by show 0<q.length;rw[<-hMlen];exact h),.inr ⟨e,by simp,by
    show w'.ownsRow 0 e 5 (J.sl k) (qO q).length _
    rw[hMlen];exact a6,hfp⟩⟩
   (fun b hb=> .inl hb) a1 a2 a3 a4 (fun b hb hn _=>a5 b hb hn)
  have hres:cA [] (bR res k (.arr (some e) 5 (.qs 5 (qO q))))++ []=bR res k (.arr (some e) 5 (.qs 5 (qO q))):=by rw[List.append_nil];rfl
  rw[hres]at f1 f3;exact⟨.tp [],J,fps',_,f1,⟨f2,f3⟩,trivial,rfl,hK⟩
 have hargs':(bG J [.sa k,.fn 54 []]).toArray= #[J.sl k,.func (.func 54) #[] #[]]:=rfl;rw[hargs'];rcases hrow.2 with⟨hv,hn0⟩|⟨g,cap,cur,hv,_,hgc,hnc,hcm,hcs,htk⟩
 ·have hq0:q= []:=List.length_eq_zero_iff.1 hn0;rw[hv];refine SH (fun h:False=>h) ((AnyF.slices_SortFunc_none Nn none 0 _ w).mono fun en w' ⟨he,hw⟩=>?_)
  subst hw
  obtain⟨x,ρ',fps',res',f1,f2,f3,f4,f5⟩:=fin w' rfl rfl rfl (Nat.le_refl _) (fun _ _ _=>rfl) (by
   have:qO q=q:=by rw[hq0];rfl
   rw[this];exact hrow)
  exact⟨x,ρ',fps',res',f1,f2,f3,.inl ⟨by rw[he,f4],f5⟩⟩
 ·rw[hv]
  have hfg:fps k g:=by
   have hsa:J.sa k=some ⟨g,0,none⟩:=by
    have:Value.slice (J.sa k) (J.sn k) (J.cap k)= .slice (some ⟨g,0,none⟩) (TL.qs 5 q).len cap:=hv;simp only[Value.slice.injEq]at this;exact this.1
   exact hfp _ hsa
  have hds:(q.map mb).toArray.size=q.length:=by simp
  have hFs:(Go.Sort.flatK o9 5 (q.map mb).toArray).size=q.length*5:=by rw[size_flatK,hds]
  have hle:q.length*5<=cur.size:=by rw[hcs];exact Nat.mul_le_mul_right _ hnc
  have hH5:HoldsK o9 5 w g 0 (q.map mb).toArray:=fun j hj=>by
   rw[hFs]at hj;refine⟨?_,?_⟩
   ·unfold World.cell?;simp only[Nat.zero_add,hgc]
    have h1:cur[j]? =(Go.Sort.flatK o9 5 (q.map mb).toArray)[j]? :=by
     have h2:(cur.toList.take (q.length*5))[j]? =(Go.Sort.flatK o9 5 (q.map mb).toArray).toList[j]? :=by
      rw[<-hcell,<-htk];rfl
     rw[List.getElem?_take,ar hj]at h2;simpa using h2
    simp only[Option.isSome_none,Bool.false_eq_true,if_false,h1,id];rw[getElem!_pos _ j (by rw[hFs];exact hj),Array.getElem?_eq_getElem]
   ·unfold World.frozen?;simp[hgc]
  have hlt:=(Array.getElem?_eq_some_iff.1 hgc).1
  have hcon:=AnyQ.slices_SortFunc_total Nn 5 (Tryz.isAgg74) (Tryz.sizeOf74) o9 (fun _=>rfl) (fun x v hv=>by simp[o9,i64]at hv;rcases hv with rfl|rfl|rfl|rfl|rfl<;>rfl) Kg acY 54 #[] g 0 cap (q.map mb).toArray w
   (enters_of Tryz.func54 (by kernel_rfl) rfl) (adp g 0 _ w) hH5 hlt (by rw[hds];omega) (fun x y h1 h2=>by rw[VT]at h1 h2;exact uA h1 h2)
  rw[hds]at hcon;refine SH (fun h:False=>h) (hcon.mono fun en w' ⟨he,m,os,hw⟩=>?_)
  have hmg:=Lz h5 hnd (fun x y=> !(ltOf Kg) y x) (fun x y=>by rw[Bool.not_eq_true',VT])
  have hdl:(q.map mb).toArray.toList=q.map mb:=rfl;rw[hdl]at hw;obtain⟨k1,k2,k3⟩:=Mb hgc m ((q.map mb).mergeSort fun x y=> !(ltOf Kg) y x).toArray os
  have hms:((q.map mb).mergeSort fun x y=> !(ltOf Kg) y x).toArray.size=q.length:=by simp[List.length_mergeSort]
  have hF2:(Go.Sort.flatK o9 5 ((q.map mb).mergeSort fun x y=> !(ltOf Kg) y x).toArray).size=q.length*5:=by rw[size_flatK,hms]
  obtain⟨t1,t2⟩:=NZ (Go.Sort.flatK o9 5 ((q.map mb).mergeSort fun x y=> !(ltOf Kg) y x).toArray) cur (by rw[hF2];exact hle)
  obtain⟨x,ρ',fps',res',f1,f2,f3,f4,f5⟩:=fin w' (by rw[hw];rfl) (by rw[hw];rfl) (by rw[hw];rfl) (by rw[hw];exact k3) (fun b hb hn=>by
    rw[hw];exact k2 b hb fun e=>hn (e▸hfg)) (by
   refine⟨?_,.inr ⟨g,cap,_,hv,Nat.zero_le _,by rw[hw];exact k1,hnc,hcm,by rw[t2];exact hcs,?_⟩⟩
   ·rw[<-hmg,<-hF2];have:=congrArg List.length (C0 ((q.map mb).mergeSort fun x y=> !(ltOf Kg) y x).toArray)
    simp only[Array.length_toList]at this;exact this.symm
   ·rw[<-hF2,t1,C0,<-hmg])
  exact⟨x,ρ',fps',res',f1,f2,f3,.inl ⟨by rw[he,f4],f5⟩⟩
end Go.Proofs.YtmfbohanboiklaaGreat
namespace Go.Sx
def XN(l:List Gh):di:= {γ:=Unit,head:=fun U _=>U,inv:=fun _=>True,μ:=fun _=>0,pre:=l}
abbrev OfG:Type:=List (Cp×Int)×Nat
def bL(g:OfG):List Cp:=(g.1.map (·.1)).drop g.2
def kQ(L:List Obj)(oid:Int)(g:OfG):Prop:=g.1.map (·.1)=l8 L oid g.2/\g.2<=g.1.length/\qK (g.1,bL g) (16+17*(g.2:Int))/\aO L
def oW(g:OfG):Nat:=10000-g.2
def mV(D:List (Cp×Int))(S:List Nat):List Cp:=S.map fun q=> [fW D q 0,fW D q 1,fW D q 2,fW D q 3,fW D q 4]
def oK(D:List (Cp×Int))(S:List Nat):Prop:=S.Nodup/\∀q∈S,q<D.length
def wY(S:List Nat):Nat:=1000000-S.length
def aaT(res:List aS)(m:Nat):List (Cp×Int):=
 match aN res m with
 | .ms _ D=>D
 |_=> []
def lpK(lq:List Nat)(c ty m i:Nat):di:=
 {γ:=List Nat,head:=fun U g=> {U with slots:=M9 lq [] 0 U.slots,res:=bR (bR U.res c (.blk ty (.sa U.res.length))) i (.mi m (aK (aaT U.res m)) g)++ [.arr (some xh) 5 (.qs 5 (mV (aaT U.res m) g))]},
  inv:=fun _=>True,pin:=some fun U g=>oK (aaT U.res m) g,μ:=wY,pre:= [.bv c xh 5 (.qs 5 [])],ext:=aac c,prs:=fun _=> [.bv c xh 5 (.qs 5 [])]}
def O1(o:Option (List Obj)):Prop:=match o with|some L=>aO L|none=>True
def VX(o:Option (List Obj)):Prop:=match o with|some L=>aO L|none=>False
def abm:Ct:=X2 (bJ (Vt tS eS) (bJ iA jP)) (fun x=>some (VX x.1)) (fun _ n=> .sa n) fun x _=> [.arr (some xh) 5 (.qs 5 (bz (vP x.1) x.2.1))]
theorem ab2{L:List Obj}(hL:aO L)(oid:Int):kQ L oid ((la L ([],[]) oid false 16).1,0)/\(la L ([],[]) oid false 16).2=bL ((la L ([],[]) oid false 16).1,0):=by
 have h1:(la L ([],[]) oid false 16).1.map (·.1)=l8 L oid 0:=by unfold la;rw[rj];rfl
 have h2:(la L ([],[]) oid false 16).2=bL ((la L ([],[]) oid false 16).1,0):=(u6 (S:=([],[])) (n:=0) (f:=nz L oid false) rfl (Nat.zero_le _) (16:Int).toNat).1;refine⟨⟨h1,Nat.zero_le _,?_,hL⟩,h2⟩;have h3:=p6 (f:=nz L oid false) J7 (16:Int).toNat;show qK ((la L ([],[]) oid false 16).1,bL ((la L ([],[]) oid false 16).1,0)) _
 rw[<-h2];exact gX h3 (by show(0:Int)+((16:Int).toNat:Int)<=_;omega)
theorem H5{L:List Obj}{oid:Int}{g:OfG}(h:kQ L oid g):g.2<=g.1.length/\g.1.length<=8192/\qK (g.1,bL g) 200000:=by
 obtain⟨h1,h2,h3,h4⟩:=h
 have hl:g.1.length<=8192:=by
  have:=uF (oid:=oid) (fJ h4).2 g.2;rw[<-h1]at this;simpa using this
 exact⟨h2,hl,gX h3 (by omega)⟩
theorem Xn{L:List Obj}{oid:Int}{g:OfG}(h:kQ L oid g)(hn:¬bL g= []):g.2<g.1.length/\(∀c,gy (bL g) 0 c=aL (kM (l8 L oid g.2) g.2) c 0)/\kM (l8 L oid g.2) g.2∈l8 L oid g.2:=by
 have hlt:g.2<g.1.length:=by
  refine Decidable.byContradiction fun hh=>hn ?_
  unfold bL;exact List.drop_eq_nil_of_le (by simp;omega)
 have hlt':g.2<(l8 L oid g.2).length:=by rw[<-h.1];simpa using hlt
 refine⟨hlt,fun c=>?_,?_⟩
 ·unfold gy bL kM aL;rw[h.1];simp[an]
 ·unfold kM aL;rw[an,List.getElem?_eq_getElem hlt'];exact List.getElem_mem hlt'
theorem of_next{L:List Obj}{oid:Int}{g:OfG}(h:kQ L oid g)(hn:¬bL g= [])(T:CS)(hT:T=QT L (g.1,AU (bL g)) (cq (kM (l8 L oid g.2) g.2))):
  kQ L oid (T.1,g.2+1)/\oW (T.1,g.2+1)<oW g/\T.2=bL (T.1,g.2+1):=by
 obtain⟨hlt,_,_⟩:=Xn h hn;obtain⟨b1,b2,b3⟩:=H5 h;obtain⟨h1,h2,h3,h4⟩:=h;have hlt':g.2<(l8 L oid g.2).length:=by rw[<-h1];simpa using hlt
 have hk:T.1.map (·.1)=l8 L oid (g.2+1):=by
  rw[hT,F7,l8,ar hlt',h1]
 have hl:T.2=bL (T.1,g.2+1):=by
  rw[hT];refine Qg (n:=g.2+1) ?_ hlt;show AU (bL g)=_
  unfold AU bL;rw[List.tail_drop]
 have hlen:g.2+1<=T.1.length:=by
  have:=(Ko L (g.1.map (·.1)) (cq (kM (l8 L oid g.2) g.2))).length_le;have e:=congrArg List.length (F7 L (g.1,AU (bL g)) (cq (kM (l8 L oid g.2) g.2)));rw[<-hT,List.length_map]at e;rw[List.length_map]at this;have e:T.1.length=(SY L (g.1.map (·.1)) (cq (kM (l8 L oid g.2) g.2))).length:=e;omega
 refine⟨⟨hk,hlen,?_,h4⟩,?_,hl⟩
 ·have hc:qK (g.1,AU (bL g)) (16+17*(g.2:Int)):=⟨h3.1,by
   have:=h3.2.1;show((AU (bL g)).length:Int)<=_
   unfold AU;rw[List.length_tail];have h0:((bL g).length:Int)<=16+17*(g.2:Int):=this;omega,h3.2.2⟩
  have:=TE (L:=L) (k:=cq (kM (l8 L oid g.2) g.2)) hc;rw[<-hT]at this;show qK (T.1,bL (T.1,g.2+1)) _
  rw[<-hl];exact gX this (by show _<=16+17*((g.2+1:Nat):Int);omega)
 ·unfold oW;show 10000-(g.2+1)<10000-g.2
  omega
theorem Y8{D:List (Cp×Int)}(h5:∀x∈D.map (·.1),x.length=5){q:Nat}(hq:q<D.length): [fW D q 0,fW D q 1,fW D q 2,fW D q 3,fW D q 4]=(D.map (·.1))[q]'(by simpa using hq):=by
 have e:∀c,fW D q c=aL ((D.map (·.1))[q]'(by simpa using hq)) c 0:=fun c=>by
  unfold fW aL;rw[an (l:=D),List.getElem?_eq_getElem hq];simp
 simp only[e];have hl:=h5 _ (List.getElem_mem (by simpa using hq))
 generalize (D.map (·.1))[q]'(by simpa using hq)=x at hl
 exact aan hl
theorem QI{D:List (Cp×Int)}(h5:∀x∈D.map (·.1),x.length=5){S:List Nat}(hS:oK D S)(hall:∀q,q<D.length->q∈S):(mV D S).Perm (D.map (·.1)):=by
 have hp:S.Perm (List.range D.length):=(List.perm_ext_iff_of_nodup hS.1 List.nodup_range).2 fun a=>by
  rw[List.mem_range];exact⟨hS.2 a,hall a⟩
 refine(hp.map _).trans ?_
 have:(List.range D.length).map (fun q=> [fW D q 0,fW D q 1,fW D q 2,fW D q 3,fW D q 4])=D.map (·.1):=by
  refine List.ext_getElem (by simp) fun i h1 h2=>?_
  have hi:i<D.length:=by simpa using h2
  rw[List.getElem_map,List.getElem_range];exact Y8 h5 hi
 rw[this]
theorem Iz{S:List Nat}{q:Nat}:SS S q=true↔q∈S:=by unfold SS;simp
theorem JW(S:List Nat)(q:Nat):uH (dn S q)=q:=by
 unfold uH dn aL;simp[an]
theorem U5{D:List (Cp×Int)}{S:List Nat}{q:Nat}(hS:oK D S)(hD:D.length<=8192)(hq:q<D.length)(hn:SS S q=false):
  oK D (dn S q)/\wY (dn S q)<wY S/\lr (aK (mV D S)) 40/\ZC (aK D) D (dn S q)/\dn (mV D S) [fW D q 0,fW D q 1,fW D q 2,fW D q 3,fW D q 4]=mV D (dn S q):=by
 have hm:q∉S:=fun h=>by rw[Iz.2 h]at hn;simp at hn
 have hl:S.length<=D.length:=by
  have:=An S (List.range D.length) hS.1 fun x hx=>by rw[List.mem_range];exact hS.2 x hx
  simpa using this
 refine⟨⟨?_,?_⟩,?_,?_,⟨rfl,?_,?_⟩,?_⟩
 ·unfold dn;rw[List.nodup_append];exact⟨hS.1,by simp,fun a ha b hb=>by simp at hb;subst hb;exact fun e=>hm (e▸ha)⟩
 ·intro x hx;unfold dn at hx;rcases List.mem_append.1 hx with hx|hx
  ·exact hS.2 x hx
  ·simp at hx;subst hx;exact hq
 ·unfold wY dn;simp;omega
 ·unfold lr mV aK;simp only[maxLen,List.length_map];omega
 ·unfold aK dn;simp
 ·rw[JW];exact hq
 ·unfold dn mV;simp
theorem XZ{L:List Obj}{oid:Int}{g:OfG}(h:kQ L oid g)(h0:bL g= []){S:List Nat}(hS:oK g.1 S)(hall:∀q,q<g.1.length->SS S q=true):Ee (mV g.1 S)/\qO (mV g.1 S)=bz L oid:=by
 obtain⟨b1,b2,b3⟩:=H5 h
 have hle:g.1.length<=g.2:=by
  unfold bL at h0;have:=List.drop_eq_nil_iff.1 h0;simpa using this
 have hrc:vF L oid=g.1.map (·.1):=by
  rw[h.1];refine Dc (by omega) ?_
  rw[<-h.1];simpa using hle
 have h5:∀x∈g.1.map (·.1),x.length=5:=fun x hx=>(AE (L:=L) (oid:=oid) (n:=g.2) (by rw[<-h.1];exact hx)).2.1
 have hp:=QI h5 hS fun q hq=>Iz.1 (hall q hq)
 have hn:(g.1.map (·.1)).Nodup:=by rw[h.1];exact py L oid _
 have h5':∀x∈mV g.1 S,x.length=5:=fun x hx=>h5 x (hp.mem_iff.1 hx)
 have hn':=hp.nodup_iff.2 hn;refine⟨⟨hn',h5',?_⟩,?_⟩
 ·have:=hp.length_eq;rw[this,List.length_map];omega
 ·unfold bz;rw[hrc];exact LL h5' hn' hp
theorem acq{L:List Obj}{oid:Int}{n:Nat}{c:Cp}(h:c∈l8 L oid n)(hk:(cq c).kind=2):aaY (cq c).rights:=by
 have:=ga (AE h).1;rw[hk]at this;exact⟨this.1,by simpa[dg]using this.2⟩
end Go.Sx
namespace Go.Proofs.YtmfbohanboiklaaGreat
open Go.Sx
theorem XQ(L:List Sx.Obj)(oid:Int)(hL:aO L):
 aw (qK ([],[]) 900000/\(∃g,kQ L oid g/\L=L/\(la L ([],[]) oid false 16).fst=g.fst/\(la L ([],[]) oid false 16).snd=bL g/\([2,5]:List Int)=[2,5])/\∀(g:List (Cp×Int)×Nat),kQ L oid g->au (decide (bV (aK (bL g))=0)) (aw (aw (aw (aw (aw (∀(r0:Loop),(∃g_1,oK g.fst g_1/\L=L/\([2,5]:List Int)=[2,5]/\g.fst=g.fst/\bL g=bL g/\r0=r0/\aK g.fst=aK g.fst/\[]=g_1/\[]=mV g.fst g_1)/\∀(g_1:List Nat),oK g.fst g_1->abr (aK g.fst) g.fst/\(∀(q:Nat),q.succ.le (aK g.fst)->SS g_1 q=false->ZC (aK g.fst) g.fst (dn g_1 q)/\r0=r0/\r0=r0/\lr (aK (mV g.fst g_1)) 40/\r0=r0/\∃g',oK g.fst g'/\wY g'<wY g_1/\L=L/\([2,5]:List Int)=[2,5]/\g.fst=g.fst/\bL g=bL g/\r0=r0/\aK g.fst=aK g.fst/\dn g_1 q=g'/\dn (mV g.fst g_1) [fW g.fst (uH (dn g_1 q)) 0,fW g.fst (uH (dn g_1 q)) 1,fW g.fst (uH (dn g_1 q)) 2,fW g.fst (uH (dn g_1 q)) 3,fW g.fst (uH (dn g_1 q)) 4]=mV g.fst g')/\((∀(q:Nat),q.succ.le (aK g.fst)->SS g_1 q=true)->aw (Ee (mV g.fst g_1)/\∀(nid:Nat),some (V.sa nid)=some (V.sa nid)/\some [aS.arr (some xh) 5 (TL.qs 5 (qO (mV g.fst g_1)))]=some [aS.arr (some xh) 5 (TL.qs 5 (bz L oid))])))))))) (((0:Int)<=0/\(0:Int)< ↑(aK (bL g)))/\Int.toNat 0<aK (bL g)/\abJ (bL g)/\au (decide (gy (bL g) (Int.toNat 0) 0=2)||decide (gy (bL g) (Int.toNat 0) 0=5)) (au (decide (gy (bL g) (Int.toNat 0) 0=2)) (aw ((qK (g.fst,AU (bL g)) 800000/\aaY (gy (bL g) (Int.toNat 0) 4))/\∃g',kQ L oid g'/\oW g'<oW g/\L=L/\(GM L (g.fst,AU (bL g)) (Key.mk (gy (bL g) (Int.toNat 0) 0) (gy (bL g) (Int.toNat 0) 1) (gy (bL g) (Int.toNat 0) 2) (gy (bL g) (Int.toNat 0) 3) (gy (bL g) (Int.toNat 0) 4) 0)).fst=g'.fst/\(GM L (g.fst,AU (bL g)) (Key.mk (gy (bL g) (Int.toNat 0) 0) (gy (bL g) (Int.toNat 0) 1) (gy (bL g) (Int.toNat 0) 2) (gy (bL g) (Int.toNat 0) 3) (gy (bL g) (Int.toNat 0) 4) 0)).snd=bL g'/\([2,5]:List Int)=[2,5])) (au (decide (gy (bL g) (Int.toNat 0) 0=5)) (aw (qK (g.fst,AU (bL g)) 800000/\∃g',kQ L oid g'/\oW g'<oW g/\L=L/\(SP L (g.fst,AU (bL g)) (Key.mk (gy (bL g) (Int.toNat 0) 0) (gy (bL g) (Int.toNat 0) 1) (gy (bL g) (Int.toNat 0) 2) (gy (bL g) (Int.toNat 0) 3) (gy (bL g) (Int.toNat 0) 4) 0)).fst=g'.fst/\(SP L (g.fst,AU (bL g)) (Key.mk (gy (bL g) (Int.toNat 0) 0) (gy (bL g) (Int.toNat 0) 1) (gy (bL g) (Int.toNat 0) 2) (gy (bL g) (Int.toNat 0) 3) (gy (bL g) (Int.toNat 0) 4) 0)).snd=bL g'/\([2,5]:List Int)=[2,5])) False)) (∃ g',kQ L oid g'/\oW g'<oW g/\L=L/\g.fst=g'.fst/\AU (bL g)=bL g'/\([2,5]:List Int)=[2,5]))):=by
 delta au aw
 obtain⟨i1,i2⟩:=ab2 hL oid;refine⟨rfl,gX J7 (by omega),⟨_,i1,rfl,rfl,i2,rfl⟩,fun g hg=>?_⟩
 have hz:bV (aK (bL g))=0↔bL g= []:=by
  show(((bL g).length:Nat):Int)=0↔_
  rw[<-List.length_eq_zero_iff];omega
 obtain⟨b1,b2,b3⟩:=H5 hg;refine⟨fun h0=>⟨rfl,rfl,rfl,rfl,rfl,fun r0=>⟨⟨[],⟨by simp,by simp⟩,rfl,rfl,rfl,rfl,rfl,rfl,rfl,rfl⟩,fun S hS=>⟨rfl,fun q hq hn=>?_,fun hall=>?_⟩⟩⟩,fun h0=>?_⟩
 ·obtain⟨k1,k2,k3,k4,k5⟩:=U5 hS b2 hq hn;rw[JW];exact⟨k4,rfl,rfl,k3,rfl,_,k1,k2,rfl,rfl,rfl,rfl,rfl,rfl,rfl,k5⟩
 ·obtain⟨e1,e2⟩:=XZ hg (hz.1 (ak h0)) hS hall;exact⟨rfl,e1,fun nid=>⟨rfl,by rw[e2]⟩⟩
 have hne:¬bL g= []:=fun h=>aj h0 (hz.2 h)
 obtain⟨a1,a2,a3⟩:=Xn hg hne
 have hpos:0<aK (bL g):=by
  show 0<(bL g).length
  cases h:bL g with
  |nil=>exact absurd h hne
  |cons x l=>simp
 have e0:Int.toNat 0=0:=rfl
 have hkey:(Key.mk (gy (bL g) 0 0) (gy (bL g) 0 1) (gy (bL g) 0 2) (gy (bL g) 0 3) (gy (bL g) 0 4) 0:Sx.Key)=cq (kM (l8 L oid g.2) g.2):=by
  simp only[a2];rfl
 have hkd:gy (bL g) 0 0=(cq (kM (l8 L oid g.2) g.2)).kind:=a2 0
 have hb8:qK (g.1,AU (bL g)) 800000:=⟨by show((g.1.length:Nat):Int)<=_;omega,by
  have h1:((bL g).length:Int)<=200000:=b3.2.1;show((AU (bL g)).length:Int)<=_
  unfold AU;rw[List.length_tail];omega,fun p hp=>by have:=b3.2.2 p hp;omega⟩
 simp only[e0,hkey];rw[hkd];refine⟨⟨by omega,by omega⟩,hpos,hpos,fun hc=>⟨fun h2=>⟨trivial,⟨hb8,?_⟩,?_⟩,fun h2=>⟨fun h5=>⟨trivial,hb8,?_⟩,fun h5=>?_⟩⟩,fun hc=>?_⟩
 ·have:=acq a3 (ak h2);have e4:gy (bL g) 0 4=(cq (kM (l8 L oid g.2) g.2)).rights:=a2 4;rw[e4];exact this
 ·obtain⟨n1,n2,n3⟩:=of_next hg hne (GM L (g.1,AU (bL g)) (cq (kM (l8 L oid g.2) g.2))) (by unfold QT;rw[ar (ak h2)])
  exact⟨_,n1,n2,trivial,rfl,n3,trivial⟩
 ·obtain⟨n1,n2,n3⟩:=of_next hg hne (SP L (g.1,AU (bL g)) (cq (kM (l8 L oid g.2) g.2))) (by unfold QT;rw[aq (aj h2),ar (ak h5)])
  exact⟨_,n1,n2,trivial,rfl,n3,trivial⟩
 ·rw[h2,h5]at hc;simp at hc
 ·have h2:¬(cq (kM (l8 L oid g.2) g.2)).kind=2:=fun h=>by rw[h]at hc;simp at hc
  have h5:¬(cq (kM (l8 L oid g.2) g.2)).kind=5:=fun h=>by rw[h]at hc;simp at hc
  obtain⟨n1,n2,n3⟩:=of_next hg hne (g.1,AU (bL g)) (by unfold QT;rw[aq h2,aq h5])
  exact⟨_,n1,n2,trivial,rfl,n3,trivial⟩
theorem GS:dO Tryz.prog 28 abm:=Wc (π:=fun _=> [11]) (ba (wj tS eS) (ba fx dq)) (fun _=>by simp) (fun _ _=>rfl) fun a hq _=>by
  obtain⟨o,oid,_⟩:=a;cases o with
  |none=>exact hq.elim
  |some L=>exact bU (inl:=(aeq [52,73,98,53,1000000+75])) (ann:=(lf [(28,4,lpT [0,5,6] (fun _=> []) (fun g=> [(2,.cset tSt xh 5 (.lp 0 0) g.1 (bL g))]) (kQ L oid) oW),(28,3000003,XN [.sht 2 xh]),(28,4000004,XN [.opn 2]),(28,3000009,XN [.sht 2 xh]),(3000+75,1,lpK [0,1,5] 7 tCl 4 10)])) aP (aW wW (aW NT (aW Oj (aW Uc aT)))) (XQ L oid hq) (by kernel_rfl)
end Go.Proofs.YtmfbohanboiklaaGreat
namespace Go.Sx
def rQs(l:TL):Option (List Cp):=
 match l with
 | .qs n l=>if n==5 then some l else none
 |_=>none
theorem Zw:∀l x,rQs l=some x->l=TL.qs 5 x:=fun l x h=>by
 unfold rQs at h;split at h
 ·split at h
  ·rename_i hn;have hn:=ai.1 hn;subst hn;simp only[aa]at h;subst h;rfl
  ·simp at h
 ·simp at h
def qsA:Arg (List Cp):=laA 5 rQs (TL.qs 5)
theorem Zf:lU qsA:=NR Zw
def QS(l:List Cp):Prop:=∀x∈l,x.length=5
def wO(l:List Cp):Prop:=QS l/\l.length<=1000000
def mT(L:List Obj)(oid:Int):Bool:=decide (bH L oid=0)
def HZ(R:List Obj->Int->List Cp):lg:=QB (bJ (Vt tS eS) (bJ iA jP)) (fun x=>O1 x.1) (fun x=>mT (vP x.1) x.2.1) (fun x=> .tp [V5,.it .i64 (bH (vP x.1) x.2.1)]) (fun _ n=> .tp [.sa n,.ci .i64 0]) fun x=> .arr (some xh) 5 (.qs 5 (R (vP x.1) x.2.1))
def Xo:lg:=HZ bz
theorem at_mem{l:List Cp}{j:Nat}(h:j<l.length):kM l j∈l/\l[j]? =some (kM l j):=by
 unfold kM aL;rw[an,List.getElem?_eq_getElem h];exact⟨List.getElem_mem h,rfl⟩
end Go.Sx
namespace Go.Proofs.YtmfbohanboiklaaGreat
open Go.Sx
theorem Wq(L:List Sx.Obj)(oid:Int)(hL:aO L):
 au (!decide (bH L oid=0)) (mT L oid=false/\Value.slice none 0 0=Value.slice none 0 0/\bH L oid=bH L oid) (aO L/\mT L oid=true/\∀(nid:Nat),some (V.tp [V.sa nid,V.ci IntKind.i64 0])=some (V.tp [V.sa nid,V.ci IntKind.i64 0])/\some [aS.arr (some xh) 5 (TL.qs 5 (bz L oid))]=some [aS.arr (some xh) 5 (TL.qs 5 (bz L oid))]):=by
 delta au
 unfold mT;refine⟨fun h=>⟨by simpa using h,rfl,rfl⟩,fun h=>⟨hL,by simpa using h,fun nid=>⟨rfl,rfl⟩⟩⟩
theorem TR(oid:Int):
 au (!decide (bH [] oid=0)) (mT [] oid=false/\Value.slice none 0 0=Value.slice none 0 0/\bH [] oid=bH [] oid) (False/\mT [] oid=true/\∀(nid:Nat),some (V.tp [V.sa nid,V.ci IntKind.i64 0])=some (V.tp [V.sa nid,V.ci IntKind.i64 0])/\some [aS.arr (some xh) 5 (TL.qs 5 (bz [] oid))]=some [aS.arr (some xh) 5 (TL.qs 5 (bz [] oid))]):=by
 delta au
 unfold mT;refine⟨fun h=>⟨by simpa using h,rfl,rfl⟩,fun h=>?_⟩
 rw[qi]at h;simp at h
theorem X7:l5 Tryz.prog 13 Xo:=by
 unfold Xo HZ
 refine zY (ba (wj tS eS) (ba fx dq)) (fun _=>rfl) (fun _=>by simp) fun a hq _=>by
  obtain⟨o,oid,_⟩:=a;cases o with
  |none=>exact bU (inl:=cH) (ann:=bn) (aH fi (aH GS aP)) aT (TR oid) (by kernel_rfl)
  |some L=>exact bU (inl:=cH) (ann:=bn) (aH fi (aH GS aP)) aT (Wq L oid hq) (by kernel_rfl)
end Go.Proofs.YtmfbohanboiklaaGreat
namespace Go.Sx
def oI(g:Int):Prop:=0<=g/\g<=9000
def lV(a b:Key):Bool:=(aR a&&aR b)&&(decide (a.kind=0)||A4 a b||(mW a.kind&&decide (a.kind=b.kind)&&decide (a.oid=b.oid)&&decide (a.count=b.count)&&decide (bu .andNot .i64 b.rights a.rights=0)))
def acT:Ct:=Xm rK rK fun a b=> .bo (lV a b)
def mR(k:Key)(l:List Cp):Bool:=l.any fun x=>lV (cq (ef k)) (cq x)
def ZR:Ct:=FN (bJ V0 (bJ qsA jP)) (fun x=>some (wO x.2.1)) fun x=> .bo (mR (G0 x.1) x.2.1)
def yg(k:Key)(l:List Cp)(g:Int):Prop:=0<=g/\g<=(aK l:Int)/\∀j:Nat,(j:Int)<g->lV (cq (ef k)) (cq (kM l j))=false
def rIs(l:TL):Option (List Int):=
 match l with
 | .it k x=>match k with
   | .i64=>some x
   |_=>none
 |_=>none
theorem X6:∀l x,rIs l=some x->l=TL.it .i64 x:=fun l x h=>by
 unfold rIs at h;split at h
 ·split at h
  ·simp only[aa]at h;subst h;rfl
  ·simp at h
 ·simp at h
def isA:Arg (List Int):=laA 1 rIs (TL.it .i64)
theorem QK:lU isA:=NR X6
def pQ(l:List Int)(n:Int):Bool:=decide (n∈l)
def I7(l:List Int):Prop:=l.length<=1000
def YX:Ct:=FN (bJ isA (bJ iA jP)) (fun x=>some (I7 x.1)) fun x=> .bo (pQ x.1 x.2.1)
def yz(l:List Int)(n:Int)(g:Int):Prop:=0<=g/\g<=(aK l:Int)/\∀j:Nat,(j:Int)<g->aL l j 0≠n
def fT(oid:Int)(ps:List Int):List Int:=oid::ps
def fO(L:List Obj)(oid:Int)(ps:List Int)(g:Int):List Cp:=((fT oid ps).take g.toNat).flatMap (bz L)
def Gy(L M:List Obj)(oid:Int)(ps:List Int)(c:Cp):Bool:= !mR (cq c) (fO L oid ps ((fT oid ps).length:Int))&&(!bc (cq c)||(decide ((aQ M (cq c).oid).count<=(aQ L (cq c).oid).count)&& !((decide ((cq c).kind=6)||decide ((cq c).kind=7)||decide ((cq c).kind=5))&&pQ ps (cq c).oid)))
def jO(L M:List Obj)(oid:Int)(ps:List Int)(g:Int):List Cp:=((bz M oid).take g.toNat).filter (Gy L M oid ps)
def yF(ps:List Int)(L:List Obj)(oid:Int)(g:Int):Prop:=0<=g/\g<=(aK ps:Int)+1/\∀j:Nat,(j:Int)<g->bH L (aL (fT oid ps) j 0)=0
theorem IJ{L:List Obj}{k:Key}(h:bH L k.oid=0)(i:Nat):e9 L k (i:Int)=nz L k.oid (du k) i:=by
 unfold e9 jV nz aQ;rw[ar h,oS];simp
theorem zF{L:List Obj}{k:Key}(h:bc (aI L k)=true):bH L (aI L k).oid=0:=by
 unfold aI at h⊢;split
 ·rename_i hc;rw[ar hc]at h;exact absurd h (by decide)
 ·rename_i hc;rw[aq hc]at h;simp only[Bool.or_eq_true,af,Bool.not_eq_true',not_or,not_and]at hc;have:=hc.2 h;simp only[Bool.not_eq_false]at this;unfold bk at this;simp only[af,ah]at this;exact this.1.2
theorem VI{L:List Obj}{oid:Int}{w:Bool}{i:Nat}(h:bc (nz L oid w i)=true):bH L (nz L oid w i).oid=0:=by
 unfold nz at h⊢;split
 ·rename_i hw;rw[ar hw]at h;have hk:=gx L ((aQ L oid).slots.at i);have hwk:ea (aI L ((aQ L oid).slots.at i))=gH (aI L ((aQ L oid).slots.at i)):=oS _ _;rw[hwk]at h⊢
  have ho:(gH (aI L ((aQ L oid).slots.at i))).oid=(aI L ((aQ L oid).slots.at i)).oid/\bc (aI L ((aQ L oid).slots.at i))=true:=by
   unfold gH at h⊢;unfold bc at *;rw[hk];split
   ·rename_i h2;exact⟨rfl,by simp[cG,h2]⟩
   ·split
    ·rename_i h3;exact⟨rfl,by simp[cG,h3]⟩
    ·split
     ·rename_i h8;rw[aq (by omega),aq (by omega),ar h8,hk]at h
      exact⟨rfl,h⟩
     ·rename_i a b c;rw[aq a,aq b,aq c]at h;exact absurd h (by decide)
  rw[ho.1];exact zF ho.2
 ·rename_i hw;rw[aq hw]at h;exact zF h
theorem TO{L:List Obj}{oid:Int}:∀c,Gb L oid c->cG (cq c).kind=true->bH L (cq c).oid=0:=by
 intro c h
 have key:∀o w i,cG (cq (ef (nz L o w i))).kind=true->bH L (cq (ef (nz L o w i))).oid=0:=fun o w i h=>by
  refine VI (w:=w) (i:=i) (oid:=o) ?_;unfold bc;rw[Dz];exact h
 induction h with
 |base i hi h1=>exact key _ _ _
 |step c d hc hd ih=>
  obtain⟨k,h1,rfl,⟨h2,⟨i,hi,rfl⟩|⟨hr,rfl⟩⟩|⟨h2,⟨i,hi,rfl⟩|rfl⟩⟩:=hd
  ·exact key _ _ _
  ·exact fun _=>ih (by rw[h2];rfl)
  ·exact key _ _ _
  ·exact fun _=>ih (by rw[h2];rfl)
abbrev uu:List Obj:= [Obj.mk 1 free.count free.calls (free.slots.put 4 (Key.mk 2 1 void.count void.call 2 void.value)) free.bytes,Obj.mk 1 free.count free.calls ((free.slots.put 0 (Key.mk 3 2 void.count void.call void.rights void.value)).put 1 (Key.mk 9 void.oid void.count void.call void.rights void.value)) free.bytes,Obj.mk 2 free.count free.calls free.slots free.bytes,free]
theorem Bj:fc uu=true:=by kernel_rfl
theorem Tb:bz uu 0= [[2,1,0,0,2],[3,2,0,0,1]]:=by
 have e:l8 uu 0 2= [[2,1,0,0,2],[3,2,0,0,1]]:=by kernel_rfl
 unfold bz;rw[Dc (n:=2) (by omega) (by rw[e];decide),e]
 decide
theorem OV{L:List Obj}(hL:aO L)(oid:Int):wO (bz L oid):=by
 have h5:∀x∈vF L oid,x.length=5:=fun x hx=>(AE hx).2.1
 have hp:=(mh h5 (zb L oid)).2;refine⟨fun x hx=>h5 x (hp.mem_iff.1 hx),?_⟩
 have:=hp.length_eq;unfold bz;rw[this];have:(vF L oid).length<=8192:=uF (fJ hL).2 _;omega
end Go.Sx
namespace Go.Proofs.YtmfbohanboiklaaGreat
open Go.Sx
theorem Ze:l5 Tryz.prog 20 (Yg Zx):=VK Xs
theorem S2(l:List Sx.Obj):
 au (decide (20<bV (aK l))|| !fc l) (oX l=false/\Value.pointer none=Value.pointer none) (true=true/\(fc l=false->oX l=false/\Value.pointer none=Value.pointer none)/\(fc l=true->oX l=true/\∀(nid:Nat),some (V.lp nid 0)=some (V.lp nid 0)/\some [aS.store tS eS l]=some [aS.store tS eS l])):=by
 delta au
 refine⟨fun h=>⟨?_,rfl⟩,fun h=>⟨rfl,fun hr=>⟨?_,rfl⟩,fun hr=>⟨?_,fun nid=>⟨rfl,rfl⟩⟩⟩⟩
 ·unfold oX;unfold bV at h;rw[Bool.or_eq_true,ah,Bool.not_eq_true']at h;rcases h with h|h
  ·rw[decide_eq_false (by omega)];rfl
  ·rw[h];simp
 ·unfold oX;rw[hr];simp
 ·unfold oX;unfold bV at h;rw[hr]at h⊢;rw[Bool.and_true,ah];simp at h;omega
theorem V4:l5 Tryz.prog 6 ZE:=
 zY (ba YW dq) (fun _=>rfl) (fun _=>by simp) fun a _ hok=>by
  obtain⟨l,_⟩:=a;exact bU (inl:=cH) (ann:=bn) (aH Pt aP) (aW Xs aT) (S2 l) (by kernel_rfl)
theorem PA(R:List Sx.Obj->Int->List Cp)(hR:R uu 0= [[2,1,0,0,2],[3,2,0,0,1]]):
 aw ((fc uu=false->aw (O1 none/\(mT [] 0=false->au (!decide (bH [] 0=0)&&false) False (false=true))/\(mT [] 0=true->(decide (bV (aK (R [] 0))=2)=true->(0:Int)<=0/\(0:Int)< ↑(aK (R [] 0)))/\(decide (bV (aK (R [] 0))=2)=true->Int.toNat 0<aK (R [] 0))/\((decide (bV (aK (R [] 0))=2)&&decide (gy (R [] 0) (Int.toNat 0) 0=2))=true->(0:Int)<=1/\(1:Int)< ↑(aK (R [] 0)))/\((decide (bV (aK (R [] 0))=2)&&decide (gy (R [] 0) (Int.toNat 0) 0=2))=true->Int.toNat 1<aK (R [] 0))/\(decide (bV (aK (R [] 0))=2)&&decide (gy (R [] 0) (Int.toNat 0) 0=2)&&(decide (gy (R [] 0) (Int.toNat 1) 0=3)&&(decide (gy (R [] 0) (Int.toNat 1) 1=2)&&(decide (gy (R [] 0) (Int.toNat 1) 2=0)&&(decide (gy (R [] 0) (Int.toNat 1) 3=0)&&(decide (gy (R [] 0) (Int.toNat 1) 4=1)&&true))))))=true)))/\(fc uu=true->aw (O1 (some uu)/\(mT uu 0=false->au (!decide (bH uu 0=0)&&false) False (false=true))/\(mT uu 0=true->(decide (bV (aK (R uu 0))=2)=true->(0:Int)<=0/\(0:Int)< ↑(aK (R uu 0)))/\(decide (bV (aK (R uu 0))=2)=true->Int.toNat 0<aK (R uu 0))/\((decide (bV (aK (R uu 0))=2)&&decide (gy (R uu 0) (Int.toNat 0) 0=2))=true->(0:Int)<=1/\(1:Int)< ↑(aK (R uu 0)))/\((decide (bV (aK (R uu 0))=2)&&decide (gy (R uu 0) (Int.toNat 0) 0=2))=true->Int.toNat 1<aK (R uu 0))/\(decide (bV (aK (R uu 0))=2)&&decide (gy (R uu 0) (Int.toNat 0) 0=2)&&(decide (gy (R uu 0) (Int.toNat 1) 0=3)&&(decide (gy (R uu 0) (Int.toNat 1) 1=2)&&(decide (gy (R uu 0) (Int.toNat 1) 2=0)&&(decide (gy (R uu 0) (Int.toNat 1) 3=0)&&(decide (gy (R uu 0) (Int.toNat 1) 4=1)&&true))))))=true)))):=by
 delta au aw
 refine⟨rfl,fun h=>absurd (h.symm.trans Bj) (by decide),fun _=>⟨rfl,Bj,fun h=>absurd (h.symm.trans (by kernel_rfl:mT uu 0=true)) (by decide),fun _=>?_⟩⟩
 rw[hR];decide
theorem K6(R:List Sx.Obj->Int->List Cp)(hR:R uu 0= [[2,1,0,0,2],[3,2,0,0,1]])(hc_wofR:l5 Tryz.prog 13 (HZ R)):aM Tryz.prog 7 [] [] (sX (.bo true)) (fun _ _=>False):=bU (inl:=cH) (ann:=bn) aP (aW Ze (aW hc_wofR aT)) (PA R hR) (by kernel_rfl)
theorem Qf:dO Tryz.prog 7 TV:=aai rfl (K6 bz Tb X7)
theorem Z0(x y:Sx.Key):
 au (!aR x|| !aR y) (false=lV x y) (au (decide (x.kind=0)||A4 x y) (true=lV x y) ((mW x.kind&&decide (x.kind=y.kind)&&decide (x.oid=y.oid)&&decide (x.count=y.count)&&decide (bu BinOp.andNot IntKind.i64 y.rights x.rights=0))=lV x y)):=by
 delta au
 unfold lV;refine⟨fun h=>?_,fun h=>⟨fun h2=>?_,fun h2=>?_⟩⟩
 ·cases hx:aR x<;>cases hy:aR y<;>simp[hx,hy]at h⊢
 ·have hb:(aR x&&aR y)=true:=by cases hx:aR x<;>cases hy:aR y<;>simp[hx,hy]at h⊢
  rw[hb,h2];rfl
 ·have hb:(aR x&&aR y)=true:=by cases hx:aR x<;>cases hy:aR y<;>simp[hx,hy]at h⊢
  rw[hb,h2,Bool.true_and,Bool.false_or]
theorem aaB[Fen]:dO Tryz.prog 57 acT:=tZ iF iF (fun _ _=>rfl) fun a b _ _=>bP (inl:=cH) (ann:=bn) (aH wL aP) (Z0 a b) (by kernel_rfl)
theorem Yj(k:Sx.Key)(l:List Cp)(h5:wO l):
 aw (aw ((∃g,yg k l g/\bV (aK l)=bV (aK l)/\0=g/\l=l/\k.kind=k.kind/\k.oid=k.oid/\k.count=k.count/\k.call=k.call/\k.rights=k.rights)/\∀(g: Int),yg k l g->au (decide (g<bV (aK l))) ((0<=g/\g< ↑(aK l))/\g.toNat<aK l/\aw (aw (aw (au (lV (Key.mk k.kind k.oid k.count k.call k.rights void.value) (Key.mk (gy l g.toNat 0) (gy l g.toNat 1) (gy l g.toNat 2) (gy l g.toNat 3) (gy l g.toNat 4) void.value)) (decide (0<=g)=mR k l) (bh IntKind.i64 (g+1)/\∃g',yg k l g'/\(bV (aK l)-g').toNat<(bV (aK l)-g).toNat/\bV (aK l)=bV (aK l)/\g+1=g'/\l=l/\k.kind=k.kind/\k.oid=k.oid/\k.count=k.count/\k.call=k.call/\k.rights=k.rights))))) (false=mR k l))):=by
 delta au aw
 have e1:bV (aK l)=(l.length:Int):=rfl;rw[e1];have hb:=h5.2;refine⟨rfl,rfl,⟨0,⟨by omega,Int.natCast_nonneg _,fun j hj=>by omega⟩,rfl,rfl,rfl,rfl,rfl,rfl,rfl,rfl⟩,fun g hg=>⟨fun hlt=>?_,fun hge=>?_⟩⟩
 ·have hlt:=ak hlt;obtain⟨h0,h1,h2⟩:=hg;have hj:g.toNat<l.length:=by omega
  refine⟨⟨h0,hlt⟩,hj,rfl,rfl,rfl,fun hw=>?_,fun hw=>⟨by simp only[bh,cB];omega,g+1,⟨by omega,by show g+1<=(l.length:Int);omega,fun j hj'=>?_⟩,by omega,rfl,rfl,rfl,rfl,rfl,rfl,rfl,rfl⟩⟩
  ·rw[decide_eq_true h0];symm
   unfold mR;rw[List.any_eq_true];exact⟨kM l g.toNat,(at_mem hj).1,hw⟩
  ·by_cases hjg:(j:Int)<g
   ·exact h2 j hjg
   ·have:j=g.toNat:=by omega
    subst this;exact hw
 ·have hge:=aj hge;obtain⟨h0,h1,h2⟩:=hg;symm
  unfold mR;rw[List.any_eq_false];intro x hx;obtain⟨j,hj,rfl⟩:=List.getElem_of_mem hx;have hm:=(at_mem hj).2;rw[List.getElem?_eq_getElem hj]at hm;rw[Option.some.inj hm,h2 j (by omega)]
  simp
theorem Y6[Fen](k:Sx.Key)(l:List Cp)(h5:wO l):aM Tryz.prog 31 [ade k,.sa 0] [.ro (.arr none 5 (.qs 5 l))] (sX (.bo (mR k l))) (fun _ _=>False):=
 bP (inl:=(aeq [55,77,56,33])) (ann:=(lf [(77,2,WX [0,1,7] (fun g=> [(8,.it .i64 g)]) (yg k l) (bV (aK l)))])) (aH aaB aP) (Yj k l h5) (by kernel_rfl)
theorem Yx[Fen]:dO Tryz.prog 31 ZR:=kW (ba Dq (ba Zf dq)) (fun _=>rfl) fun a hq _=>by
  obtain⟨x,l,_⟩:=a;exact Y6 (G0 x) l hq
end Go.Proofs.YtmfbohanboiklaaGreat
namespace Go.Sx
def uk(L:List Obj)(oid:Int)(ps:List Int):Bool:=(fT oid ps).all fun n=>decide (bH L n=0)
def pD(L M:List Obj)(oid:Int)(ps:List Int):Bool:=decide (aK L=aK M)&&uk L oid ps
def xu(L M:List Obj)(oid:Int)(ps:List Int):Int:=if aK L=aK M then(if uk L oid ps=true then 0 else 4)else 2
def vR(L M:List Obj)(oid:Int)(ps:List Int):List Cp:=(bz M oid).filter (Gy L M oid ps)
def Cz(ps:List Int):Prop:=ps.length<=100
abbrev NwX:Type:=Option (List Obj)×Option (List Obj)×Int×List Int×Unit
def nwA:lb NwX:=bJ (Vt tS eS) (bJ (Vt tS eS) (bJ iA (bJ isA jP)))
def WZ(x:NwX):Prop:=VX x.1/\VX x.2.1/\Cz x.2.2.2.1
def P8:lg:=QB nwA WZ (fun x=>pD (vP x.1) (vP x.2.1) x.2.2.1 x.2.2.2.1) (fun x=> .tp [V5,.it .i64 (xu (vP x.1) (vP x.2.1) x.2.2.1 x.2.2.2.1)]) (fun _ n=> .tp [.sa n,.ci .i64 0]) fun x=> .arr (some xh) 5 (.qs 5 (vR (vP x.1) (vP x.2.1) x.2.2.1 x.2.2.2.1))
theorem CY{L:List Obj}(hL:aO L)(oid:Int):(bz L oid).length<=8192:=by
 have h5:∀x∈vF L oid,x.length=5:=fun x hx=>(AE hx).2.1
 have hp:=(mh h5 (zb L oid)).2;have:=hp.length_eq;unfold bz;rw[this];exact uF (fJ hL).2 _
theorem DX{L:List Obj}(hL:aO L){oid:Int}{c:Cp}:c∈bz L oid↔Gb L oid c:=by
 rw[<-aaJ (fJ hL).2];exact Qn (fun x hx=>(AE hx).2.1) (zb L oid)
theorem rF(oid:Int)(ps:List Int):(fT oid ps).length=ps.length+1:=rfl
theorem D2{L:List Obj}(hL:aO L){oid:Int}{ps:List Int}(hp:Cz ps)(g:Int):QS (fO L oid ps g)/\(fO L oid ps g).length<=830000:=by
 unfold fO;refine⟨fun x hx=>?_,?_⟩
 ·obtain⟨n,_,h⟩:=List.mem_flatMap.1 hx;exact(OV hL n).1 x h
 ·have key:∀l:List Int,(l.flatMap (bz L)).length<=l.length*8192:=fun l=>by
   induction l with
   |nil=>simp
   |cons a l ih=>
    rw[List.flatMap_cons,List.length_append,List.length_cons];have:=CY hL a;omega
  have:=key ((fT oid ps).take g.toNat)
  have h2:((fT oid ps).take g.toNat).length<=101:=by
   have:(fT oid ps).length=ps.length+1:=rfl;rw[List.length_take];unfold Cz at hp;omega
  omega
theorem PR{L:List Obj}(hL:aO L){oid:Int}{ps:List Int}(hp:Cz ps)(g:Int):wO (fO L oid ps g):=⟨(D2 hL hp g).1,by have:=(D2 (oid:=oid) hL hp g).2;omega⟩
theorem Vl{L:List Obj}(hL:aO L){oid:Int}{ps:List Int}(hp:Cz ps)(g n:Int):BI (aK (fO L oid ps g)) (aK (bz L n)) 40:=by
 have h1:=(D2 (oid:=oid) hL hp g).2;have h2:=CY hL n;unfold BI aK;have:maxLen≥1000000:=by decide
 omega
theorem PO{L:List Obj}{oid:Int}{ps:List Int}{g:Int}(h0:0<=g)(h1:g.toNat<(fT oid ps).length):jf (fO L oid ps g) (bz L (aL (fT oid ps) g.toNat 0))=fO L oid ps (g+1):=by
 unfold fO jf;have e:(g+1).toNat=g.toNat+1:=by omega
 unfold aL;rw[e,List.take_add_one,List.flatMap_append,an,List.getElem?_eq_getElem h1];simp
theorem TH{L:List Obj}{oid:Int}{ps:List Int}{g:Int}(h:((fT oid ps).length:Int)<=g):fO L oid ps g=fO L oid ps ((fT oid ps).length:Int):=by
 unfold fO;rw[List.take_of_length_le (by omega),List.take_of_length_le (by omega)]
theorem aaV{l:List Cp}{j:Nat}(h:j<l.length):kM l j=l[j]:=by
 unfold kM aL;rw[an,List.getElem?_eq_getElem h];rfl
theorem Rr{L M:List Obj}{oid:Int}{ps:List Int}{g:Int}(h0:0<=g)(h1:g.toNat<(bz M oid).length):jO L M oid ps (g+1)=if Gy L M oid ps (kM (bz M oid) g.toNat)=true then dn (jO L M oid ps g) (kM (bz M oid) g.toNat)else jO L M oid ps g:=by
 unfold jO dn;have e:(g+1).toNat=g.toNat+1:=by omega
 rw[e,List.take_add_one,List.filter_append,List.getElem?_eq_getElem h1,aaV h1];split<;>rename_i h<;>simp[List.filter_cons,h]
theorem S8{L M:List Obj}{oid:Int}{ps:List Int}{g:Int}(h:((bz M oid).length:Int)<=g):jO L M oid ps g=vR L M oid ps:=by
 unfold jO vR;rw[List.take_of_length_le (by omega)]
theorem Kh{L M:List Obj}(hM:aO M){oid:Int}{ps:List Int}{g:Int}:lr (aK (jO L M oid ps g)) 40:=by
 have h1:(jO L M oid ps g).length<=8192:=by
  unfold jO;refine Nat.le_trans (List.length_filter_le _ _) ?_;rw[List.length_take];have:=CY hM oid;omega
 unfold lr aK;have:maxLen≥1000000:=by decide
 omega
theorem MX{L:List Obj}{oid:Int}{ps:List Int}:uk L oid ps=true↔bH L oid=0/\∀p∈ps,bH L p=0:=by
 unfold uk fT;simp[List.all_eq_true]
abbrev nD(l:List Cp)(g:Int):Key:=⟨gy l g.toNat 0,gy l g.toNat 1,gy l g.toNat 2,gy l g.toNat 3,gy l g.toNat 4,0⟩
theorem UR(l:List Cp)(g:Int):nD l g=cq (kM l g.toNat):=rfl
theorem Yf{M:List Obj}(hM:aO M){oid g:Int}(h:g.toNat<(bz M oid).length):aR (nD (bz M oid) g)=true/\(cG (nD (bz M oid) g).kind=true->bH M (nD (bz M oid) g).oid=0)/\ [(nD (bz M oid) g).kind,(nD (bz M oid) g).oid,(nD (bz M oid) g).count,(nD (bz M oid) g).call,(nD (bz M oid) g).rights]=kM (bz M oid) g.toNat:=by
 have hm:=DX hM |>.1 (at_mem h).1
 rw[UR];obtain⟨a,b,c,d⟩:=pZ _ hm;exact⟨a,TO _ hm,c⟩
theorem abq{L:List Obj}(hL:aO L){n:Int}(h:¬bH L n=0):bH L n=4:=by
 obtain⟨l1,l2⟩:=fJ hL;unfold bH aK at h⊢;rw[aq (by omega)]at h⊢
 split at h
 ·rename_i h2;rw[ar h2]
 ·exact absurd rfl h
theorem Rm{L M:List Obj}{oid:Int}{ps:List Int}{g:Int}:Gy L M oid ps (kM (bz M oid) g.toNat)=(!mR (nD (bz M oid) g) (fO L oid ps ((fT oid ps).length:Int))&&(!bc (nD (bz M oid) g)||(decide ((aQ M (nD (bz M oid) g).oid).count<=(aQ L (nD (bz M oid) g).oid).count)&& !((decide ((nD (bz M oid) g).kind=6)||decide ((nD (bz M oid) g).kind=7)||decide ((nD (bz M oid) g).kind=5))&&pQ ps (nD (bz M oid) g).oid)))):=rfl
theorem L7{a b:Key}(ha:aR a=true)(hb:aR b=true):decide (bu .andNot .i64 b.rights a.rights=0)=decide (bM a.rights b.rights=a.rights):=by
 have f8:∀{a:Int},(0<=a/\a<=7)->∃x:Fin 8,a=(x.val:Int):=fun{a} h=>⟨⟨a.toNat,by omega⟩,(Int.toNat_of_nonneg h.1).symm⟩
 have key:∀x y:Fin 8,decide (bu .andNot .i64 (y.val:Int) (x.val:Int)=0)=decide (bM (x.val:Int) (y.val:Int)=(x.val:Int)):=by decide+kernel
 obtain⟨x,hx⟩:=f8 (ie ha);obtain⟨y,hy⟩:=f8 (ie hb);rw[hx,hy];exact key x y
end Go.Sx
namespace Go.Proofs.YtmfbohanboiklaaGreat
open Go.Sx
theorem U6(l:List Int)(n:Int)(hs:I7 l):
 true=true/\(∃g,yz l n g/\n=n/\bV (aK l)=bV (aK l)/\0=g/\l=l)/\∀(g:Int),yz l n g->au (decide (g<bV (aK l))) ((0<=g/\g< ↑(aK l))/\g.toNat<aK l/\au (decide (n=aL l g.toNat 0)) (decide (0<=g)=pQ l n) (bh IntKind.i64 (g+1)/\∃g',yz l n g'/\(bV (aK l)-g').toNat<(bV (aK l)-g).toNat/\n=n/\bV (aK l)=bV (aK l)/\g+1=g'/\l=l)) (false=pQ l n):=by
 delta au
 have e1:bV (aK l)=(l.length:Int):=rfl;rw[e1];refine⟨rfl,⟨0,⟨by omega,Int.natCast_nonneg _,fun j hj=>by omega⟩,by(repeat' apply And.intro)<;>rfl⟩,fun g hg=>⟨fun hlt=>?_,fun hge=>?_⟩⟩
 ·have hlt:=ak hlt;obtain⟨h0,h1,h2⟩:=hg;have hs:l.length<=1000:=hs;have hj:g.toNat<l.length:=by omega
  refine⟨⟨h0,hlt⟩,hj,fun hw=>?_,fun hw=>⟨by simp only[bh,cB];omega,g+1,⟨by omega,by show g+1<=(l.length:Int);omega,fun j hj'=>?_⟩,by omega,by(repeat' apply And.intro)<;>rfl⟩⟩
  ·rw[decide_eq_true h0];symm
   refine decide_eq_true ?_;rw[ak hw];unfold aL;rw[an,List.getElem?_eq_getElem hj];exact List.getElem_mem hj
  ·by_cases hjg:(j:Int)<g
   ·exact h2 j hjg
   ·have:j=g.toNat:=by omega
    subst this;exact fun e=>aj hw e.symm
 ·have hge:=aj hge;obtain⟨h0,h1,h2⟩:=hg;symm
  refine decide_eq_false fun hm=>?_
  obtain⟨j,hj,e⟩:=List.getElem_of_mem hm;refine h2 j (by omega) ?_
  unfold aL;rw[an,List.getElem?_eq_getElem hj];exact e
theorem Tk(l:List Int)(n:Int)(hs:I7 l):aM Tryz.prog 34 [.sa 0,.it .i64 n] [.ro (.arr none 1 (.it .i64 l))] (sX (.bo (pQ l n))) (fun _ _=>False):=
 bP (inl:=(aeq [59])) (ann:=(lf [(59,2,WX [0,1,7] (fun g=> [(8,.it .i64 g)]) (yz l n) (bV (aK l)))])) aP (U6 l n hs) (by kernel_rfl)
theorem VG:dO Tryz.prog 34 YX:=kW (ba QK (ba fx dq)) (fun _=>rfl) fun a hq _=>by
  obtain⟨l,n,_⟩:=a;exact Tk l n hq
abbrev adX(M:List Sx.Obj)(oid:Int)(g_1: Int):=decide ((nD (bz M oid) g_1).kind=6)||decide ((nD (bz M oid) g_1).kind=7)||decide ((nD (bz M oid) g_1).kind=5)
theorem T4(L M:List Sx.Obj)(oid:Int)(ps:List Int)(hL:aO L)(hM:aO M)(hp:Cz ps):
 au (decide (aJ L=0)||decide (aJ M=0)) (pD L M oid ps=false/\Value.slice none 0 0=Value.slice none 0 0/\1=xu L M oid ps) (au (!decide (aJ L=aJ M)) (pD L M oid ps=false/\Value.slice none 0 0=Value.slice none 0 0/\2=xu L M oid ps) (BI (aK [oid]) (aK ps) 8/\(∃g,yF ps L oid g/\oid=oid/\bV (aK (jf [oid] ps))=bV (aK (jf [oid] ps))/\0=g/\L=L/\M=M/\ps=ps/\jf [oid] ps=jf [oid] ps/\[]=fO L oid ps g)/\∀(g:Int),yF ps L oid g->au (decide (g<bV (aK (jf [oid] ps)))) ((0<=g/\g< ↑(aK (jf [oid] ps)))/\g.toNat<aK (jf [oid] ps)/\au (!decide (bH L (aL (jf [oid] ps) g.toNat 0)=0)) (pD L M oid ps=false/\Value.slice none 0 0=Value.slice none 0 0/\bH L (aL (jf [oid] ps) g.toNat 0)=xu L M oid ps) (aO L/\BI (aK (fO L oid ps g)) (aK (bz L (aL (jf [oid] ps) g.toNat 0))) 40/\az (g+1)/\∃g',yF ps L oid g'/\(bV (aK ps)+2-g').toNat<(bV (aK ps)+2-g).toNat/\oid=oid/\bV (aK (jf [oid] ps))=bV (aK (jf [oid] ps))/\g+1=g'/\L=L/\M=M/\ps=ps/\jf [oid] ps=jf [oid] ps/\jf (fO L oid ps g) (bz L (aL (jf [oid] ps) g.toNat 0))=fO L oid ps g')) (aO M/\(∃g_1,oI g_1/\bV (aK (bz M oid))=bV (aK (bz M oid))/\0=g_1/\L=L/\M=M/\ps=ps/\jf [oid] ps=jf [oid] ps/\fO L oid ps g=fO L oid ps g/\bz M oid=bz M oid/\[]=jO L M oid ps g_1)/\∀(g_1: Int),oI g_1->au (decide (g_1<bV (aK (bz M oid)))) ((0<=g_1/\g_1< ↑(aK (bz M oid)))/\g_1.toNat<aK (bz M oid)/\true=true/\wO (fO L oid ps g)/\au (mR (nD (bz M oid) g_1) (fO L oid ps g)) (az (g_1+1)/\∃g',oI g'/\(10000-g').toNat<(10000-g_1).toNat/\bV (aK (bz M oid))=bV (aK (bz M oid))/\g_1+1=g'/\L=L/\M=M/\ps=ps/\jf [oid] ps=jf [oid] ps/\fO L oid ps g=fO L oid ps g/\bz M oid=bz M oid/\jO L M oid ps g_1=jO L M oid ps g') (true=true/\au (!bc (nD (bz M oid) g_1)) (lr (aK (jO L M oid ps g_1)) 40/\az (g_1+1)/\∃g',oI g'/\(10000-g').toNat<(10000-g_1).toNat/\bV (aK (bz M oid))=bV (aK (bz M oid))/\g_1+1=g'/\L=L/\M=M/\ps=ps/\jf [oid] ps=jf [oid] ps/\fO L oid ps g=fO L oid ps g/\bz M oid=bz M oid/\dn (jO L M oid ps g_1) [(nD (bz M oid) g_1).kind,(nD (bz M oid) g_1).oid,(nD (bz M oid) g_1).count,(nD (bz M oid) g_1).call,(nD (bz M oid) g_1).rights]=jO L M oid ps g') ((((adX M oid g_1)&&decide ((aQ M ((nD (bz M oid) g_1).oid)).count<=(aQ L ((nD (bz M oid) g_1).oid)).count))=true->I7 ps)/\au (decide ((aQ M ((nD (bz M oid) g_1).oid)).count<=(aQ L ((nD (bz M oid) g_1).oid)).count)&& !((adX M oid g_1)&&pQ ps ((nD (bz M oid) g_1).oid))) (lr (aK (jO L M oid ps g_1)) 40/\az (g_1+1)/\∃g',oI g'/\(10000-g').toNat<(10000-g_1).toNat/\bV (aK (bz M oid))=bV (aK (bz M oid))/\g_1+1=g'/\L=L/\M=M/\ps=ps/\jf [oid] ps=jf [oid] ps/\fO L oid ps g=fO L oid ps g/\bz M oid=bz M oid/\dn (jO L M oid ps g_1) [(nD (bz M oid) g_1).kind,(nD (bz M oid) g_1).oid,(nD (bz M oid) g_1).count,(nD (bz M oid) g_1).call,(nD (bz M oid) g_1).rights]=jO L M oid ps g') (az (g_1+1)/\∃g',oI g'/\(10000-g').toNat<(10000-g_1).toNat/\bV (aK (bz M oid))=bV (aK (bz M oid))/\g_1+1=g'/\L=L/\M=M/\ps=ps/\jf [oid] ps=jf [oid] ps/\fO L oid ps g=fO L oid ps g/\bz M oid=bz M oid/\jO L M oid ps g_1=jO L M oid ps g')))) (pD L M oid ps=true/\∀(nid:Nat),some (V.tp [V.sa nid,V.ci IntKind.i64 0])=some (V.tp [V.sa nid,V.ci IntKind.i64 0])/\some [aS.arr (some xh) 5 (TL.qs 5 (jO L M oid ps g_1))]=some [aS.arr (some xh) 5 (TL.qs 5 (vR L M oid ps))])))):=by
 delta au adX az
 obtain⟨l1,l2⟩:=fJ hL;obtain⟨m1,m2⟩:=fJ hM;have z1:decide (aJ L=0)=false:=decide_eq_false (by unfold aJ aK;omega)
 have z2:decide (aJ M=0)=false:=decide_eq_false (by unfold aJ aK;omega)
 have hp':ps.length<=100:=hp;have eA:jf [oid] ps=fT oid ps:=rfl;have eN:bV (aK (fT oid ps))=(ps.length:Int)+1:=by unfold bV aK;rw[rF];omega
 have eP:bV (aK ps)=(ps.length:Int):=rfl;have eR:bV (aK (bz M oid))=((bz M oid).length:Int):=rfl;rw[z1,z2,eA,eN,eP,eR];refine⟨fun h=>by simp at h,fun _=>⟨fun h=>?_,fun h=>?_⟩⟩
 ·have h:¬aK L=aK M:=fun e=>by simp[aJ,e]at h
  exact⟨by unfold pD;simp[h],rfl,by unfold xu;rw[aq h]⟩
 have hlm:aK L=aK M:=by
  have h':aJ L=aJ M:=by simpa using h
  unfold aJ at h';omega
 have hmx:maxLen≥1000000:=by decide
 refine⟨by unfold BI aK;simp only[List.length_cons,List.length_nil];omega,⟨0,⟨by omega,by unfold aK;omega,fun j hj=>by omega⟩,rfl,rfl,rfl,rfl,rfl,rfl,rfl,rfl⟩,fun g hg=>⟨fun hlt=>?_,fun hge=>?_⟩⟩
 ·have hlt:=ak hlt;obtain⟨h0,h1,h2⟩:=hg;have hj:g.toNat<(fT oid ps).length:=by rw[rF];omega
  have hm:aL (fT oid ps) g.toNat 0∈fT oid ps:=by
   unfold aL;rw[an,List.getElem?_eq_getElem hj];exact List.getElem_mem hj
  refine⟨⟨h0,by unfold aK;rw[rF];omega⟩,hj,fun hn=>?_,fun hn=>?_⟩
  ·have hn:¬bH L (aL (fT oid ps) g.toNat 0)=0:=by simpa using hn
   have ha:uk L oid ps=false:=by
    unfold uk;rw[List.all_eq_false];exact⟨_,hm,by simpa using hn⟩
   refine⟨by unfold pD;rw[ha,Bool.and_false],rfl,?_⟩
   unfold xu;rw[ar hlm,ha,aq (by simp)]
   exact abq hL hn
  ·have hn:bH L (aL (fT oid ps) g.toNat 0)=0:=by simpa using hn
   refine⟨hL,Vl hL hp _ _,by simp only[bh,cB];omega,g+1,⟨by omega,by unfold aK;omega,fun j hj'=>?_⟩,by omega,rfl,rfl,rfl,rfl,rfl,rfl,rfl,PO h0 hj⟩
   by_cases hjg:(j:Int)<g
   ·exact h2 j hjg
   ·have:j=g.toNat:=by omega
    subst this;exact hn
 ·have hge:=aj hge;obtain⟨h0,h1,h2⟩:=hg;have hT:fO L oid ps g=fO L oid ps ((fT oid ps).length:Int):=TH (by rw[rF];omega)
  rw[hT];have h8:=CY hM oid;refine⟨hM,⟨0,⟨by omega,by omega⟩,rfl,rfl,rfl,rfl,rfl,rfl,rfl,rfl,rfl⟩,fun g_1 hg1=>⟨fun hlt=>?_,fun hge1=>?_⟩⟩
  ·have hlt:=ak hlt;obtain⟨k0,k1⟩:=hg1;have hj:g_1.toNat<(bz M oid).length:=by omega
   obtain⟨c1,c2,c3⟩:=Yf hM hj;have hN:=Rr (L:=L) (ps:=ps) k0 hj;rw[Rm]at hN
   have hno:∀X,X=jO L M oid ps (g_1+1)->bh IntKind.i64 (g_1+1)/\∃g',oI g'/\(10000-g').toNat<(10000-g_1).toNat/\((bz M oid).length:Int)=((bz M oid).length:Int)/\g_1+1=g'/\L=L/\M=M/\ps=ps/\fT oid ps=fT oid ps/\fO L oid ps ((fT oid ps).length:Int)=fO L oid ps ((fT oid ps).length:Int)/\bz M oid=bz M oid/\X=jO L M oid ps g':=fun X hX=>
    ⟨by simp only[bh,cB];omega,g_1+1,⟨by omega,by omega⟩,by omega,rfl,rfl,rfl,rfl,rfl,rfl,rfl,rfl,hX⟩
   refine⟨⟨k0,hlt⟩,hj,rfl,PR hL hp _,fun hc=>hno _ ?_,fun hc=>⟨rfl,fun hn=>⟨Kh hM,hno _ ?_⟩,fun hn=>⟨fun _=>(by show ps.length<=1000;omega),fun hb=>⟨Kh hM,hno _ ?_⟩,fun hb=>hno _ ?_⟩⟩⟩
   ·rw[hN,hc];rfl
   ·rw[hN,hc,hn,c3];rfl
   ·rw[hN,hc,hn,hb,c3];rfl
   ·rw[hN,hc,hn,hb];rfl
  ·have hge1:=aj hge1
   refine⟨by
    unfold pD;rw[decide_eq_true hlm,Bool.true_and];unfold uk;rw[List.all_eq_true];intro x hx;obtain⟨j,hj,rfl⟩:=List.getElem_of_mem hx;have:=h2 j (by rw[rF]at hj;omega)
    unfold aL at this;rw[an,List.getElem?_eq_getElem hj]at this;exact decide_eq_true this,fun nid=>⟨rfl,?_⟩⟩
   rw[S8 (by omega)]
theorem VZ:l5 Tryz.prog 15 P8:=by
 unfold P8
 refine zY (ba (wj tS eS) (ba (wj tS eS) (ba fx (ba QK dq)))) (fun _=>rfl) (fun _=>by simp) fun a hq _=>by
  obtain⟨o,o',oid,ps,_⟩:=a;obtain⟨h1,h2,h3⟩:=hq;cases o with
  |none=>exact h1.elim
  |some L=>
   cases o' with
   |none=>exact h2.elim
   |some M=>exact bU (inl:=(aeq [30,33])) (ann:=(lf [(15,8,lpV [2,4,5,7,11,39,40] (fun g=> [(41,.it .i64 g)]) 9 tCl xh 5 (fun g=> .qs 5 (fO L oid ps g)) (yF ps L oid) (DE (bV (aK ps)) 2)),(15,18,lpS [4,5,7,11,16,63,64] (fun g=> [(65,.it .i64 g)]) 17 xh 5 (fun g=> .qs 5 (jO L M oid ps g)) oI 10000)])) (aH bF (aH fi (aH GS (aH Yx (aH dC (aH VG aP)))))) aT (T4 L M oid ps h1 h2 h3) (by kernel_rfl)
end Go.Proofs.YtmfbohanboiklaaGreat
namespace Go.Sx
def jy(L:List Obj)(p:lz):List Int:=
 if(aK L:Int)<4 then[]else if dW p 0=true/\p.kind=1/\¬aK (dV L)=0 then(if pO L p=true then[cL L p,(cF L p).oid]else[cL L p])else[]
theorem VN{L:List Obj}{p:lz}(h:(aK L:Int)<4):jy L p= []:=by unfold jy;rw[ar h]
theorem OL{L:List Obj}{p:lz}(h:¬p.kind=1):jy L p= []:=by
 unfold jy;split
 ·rfl
 ·rw[aq fun hh=>h hh.2.1]
theorem NN{L:List Obj}{p:lz}(hk:p.kind=1)(h:¬(dW p 0=true/\¬aK (dV L)=0)):jy L p= []/\(!decide (nc 0 p=0)||decide ((bg L 0 p).out=1))=true:=by
 refine⟨?_,?_⟩
 ·unfold jy;split
  ·rfl
  ·rw[aq fun hh=>h ⟨hh.1,hh.2.2⟩]
 ·unfold nc bg;by_cases hr:dW p 0=true
  ·have hn:aK (dV L)=0:=Decidable.byContradiction fun hn=>h ⟨hr,hn⟩
   rw[ar hr,ar hr,aq (by omega),ar hn];rfl
  ·rw[aq hr];rfl
theorem Ji{L:List Obj}{p:lz}(h4:¬(aK L:Int)<4)(hk:p.kind=1)(hr:dW p 0=true)(hn:¬aK (dV L)=0):
  (bg L 0 p).proc=cL L p/\(!decide (nc 0 p=0)||decide ((bg L 0 p).out=1))=false/\jy L p=if pO L p=true then[cL L p,(cF L p).oid]else[cL L p]:=by
 refine⟨?_,?_,by unfold jy;rw[aq h4,ar ⟨hr,hk,hn⟩]⟩
 ·unfold bg;rw[ar hr,aq (by omega),aq hn]
  split
  ·split<;>rfl
  ·rfl
 ·unfold nc bg;rw[ar hr,ar hr,aq (by omega),aq hn]
  split
  ·split<;>rfl
  ·rfl
open Go.RowKit (Below)
def LH:List V->Option (List Int)
 | []=>some []
 |x::l=>match x with
  | .it k n=>match k with
    | .i64=>(LH l).map (n:: ·)
    |_=>none
  | .ci k n=>match k with
    | .i64=>(LH l).map (n:: ·)
    |_=>none
  |_=>none
def Jg(x:V):Option (List Int):=
 match x with
 | .ag l=>LH l
 | .it k n=>match k with
   | .i64=>some [n]
   |_=>none
 | .ci k n=>match k with
   | .i64=>some [n]
   |_=>none
 |_=>none
theorem Cl(l:List Int):(TL.it .i64 l).cells=l.map fun n=>Value.int .i64 n:=by
 have key:∀l:List Int,(List.range l.length).flatMap (fun j=>cells Env.zero (V.it .i64 (aL l j 0)))=l.map fun n=>Value.int .i64 n:=fun l=>by
  induction l with
  |nil=>rfl
  |cons n l ih=>
   rw[List.length_cons,List.range_succ_eq_map,List.flatMap_cons,List.flatMap_map,List.map_cons,<-ih];rfl
 exact key l
theorem wE{N:Nat->Prop}:∀{xs:List V} {l:List Int},LH xs=some l->fq N xs->(∀J,br J xs=l.map fun n=>Value.int .i64 n)/\∀n∈l,cB .i64 n
 | [],l,h,_=>by
   simp only[LH,aa]at h;subst h;exact⟨fun J=>rfl,fun n hn=>by simp at hn⟩
 |x::xs,l,h,hx=>by
  unfold LH at h;split at h
  ·rename_i k n;split at h
   ·obtain⟨m,hm,rfl⟩:=Option.map_eq_some_iff.1 h;obtain⟨a,b⟩:=wE hm hx.2;refine⟨fun J=>?_,fun q hq=>?_⟩
    ·rw[List.map_cons,<-a J];rfl
    ·rcases List.mem_cons.1 hq with rfl|hq
     ·exact hx.1
     ·exact b q hq
   ·simp at h
  ·rename_i k n;split at h
   ·obtain⟨m,hm,rfl⟩:=Option.map_eq_some_iff.1 h;obtain⟨a,b⟩:=wE hm hx.2;refine⟨fun J=>?_,fun q hq=>?_⟩
    ·rw[List.map_cons,<-a J];rfl
    ·rcases List.mem_cons.1 hq with rfl|hq
     ·exact hx.1
     ·exact b q hq
   ·simp at h
  ·simp at h
theorem HK{x:V}{l:List Int}{N:Nat->Prop}(h:Jg x=some l)(hx:ok N x):(∀J,cells J x=(TL.it .i64 l).cells)/\∀n∈l,cB .i64 n:=by
 rw[Cl];unfold Jg at h;split at h
 ·obtain⟨a,b⟩:=wE h hx.1;exact⟨fun J=>by rw[dF,a J],b⟩
 ·split at h
  ·simp only[aa]at h;subst h;exact⟨fun J=>rfl,fun n hn=>by rw[List.mem_singleton.1 hn];exact hx⟩
  ·simp at h
 ·split at h
  ·simp only[aa]at h;subst h;exact⟨fun J=>rfl,fun n hn=>by rw[List.mem_singleton.1 hn];exact hx⟩
  ·simp at h
 ·simp at h
section
variable {J:Env} {fps:Nat->Nat->Prop} {w0 w:World} {F0:Nat->Prop}
abbrev aeo(k e:Nat)(res:List aS)(L:List Int):=cA [k] res++[.arr (some e) 1 (.it .i64 L)]
theorem Lc{res:List aS}{k n e:Nat}{x:V}{L:List Int}(hH:bp J fps res (known res) w0 F0 w)(hr:aN res k= .blk e x)(hl:Jg x=some L)(hn:n=L.length)(hs:n<=1000):
 ∃fps',bp (J.gj res.length (some ⟨J.num k,0,none⟩) n n) fps' (aeo k e res L) (known (aeo k e res L)) w0 F0 w/\Env.agree (known res) J (J.gj res.length (some ⟨J.num k,0,none⟩) n n)/\(∀i,known res i->known (aeo k e res L) i)/\known (aeo k e res L) res.length:=by
 delta aeo
 have hk:known res k:=by unfold known;rw[hr];simp
 have hh:=hH.holds k hk;rw[hr]at hh;obtain⟨h1,_,h3,h4⟩:=hh;obtain⟨hcells,hwf⟩:=HK hl h1;have hcells:=hcells J;have hnk:¬known res res.length:=fun hk=>by have:=aY hk;omega
 have hlen:(TL.it .i64 L).cells.length=n*1:=by
  rw[Cl,List.length_map,hn,Nat.mul_one]
 have hag:=pR (N:=known res) J (i:=res.length) (a:=some ⟨J.num k,0,none⟩) (n:=n) (cap:=n) hnk
 exact hH.pb (ρ':=J.gj res.length (some ⟨J.num k,0,none⟩) n n) (w':=w) [k] (.arr (some e) 1 (.it .i64 L)) [] (fun x=>x=J.num k) (by simp) (by simpa using hk) (by simp) hag
  (by
   refine⟨fun j hj=>⟨?_,rfl,rfl⟩,by simp[Env.gj,TL.len,hn,aK],by simp only[TL.len,aK];omega,fun a ha=>by simp[Env.gj]at ha⊢;exact ha.symm,fun _=>by simp[Env.gj],fun _=>by simp[Env.gj],.inr ⟨e,fun e' he=>by simpa using he.symm,?_,fun a ha=>by simp[Env.gj]at ha;rw[<-ha]⟩⟩
   ·refine hwf _ ?_;have hj:j<L.length:=hj;unfold aL;rw[an,List.getElem?_eq_getElem hj];exact List.getElem_mem hj
   rw[show(J.gj res.length (some ⟨J.num k,0,none⟩) n n).sl res.length= .slice (some ⟨J.num k,0,none⟩) n n by simp[Env.sl,Env.gj]]
   rw[hcells]at h4;refine⟨by rw[hlen,hn];rfl,.inr ⟨_,_,_,by rw[hn];rfl,Nat.zero_le _,h4,by rw[show(TL.it .i64 L).len=L.length from rfl];exact Nat.le_refl _,by simp only[maxLen];rw[<-hn];omega,by rw[<-hn];simpa using hlen,?_⟩⟩
   have hh:(TL.it .i64 L).len*1=n*1:=by rw[hn];rfl
   rw[hh];exact List.take_of_length_le (by simpa using Nat.le_of_eq hlen))
  (fun x hx=> .inl ⟨k,by simp,by rw[hx];exact h3⟩) rfl rfl rfl (Nat.le_refl _) (fun _ _ _=>rfl)
abbrev aep(e:Nat)(res:List aS):=cA [] res++[.arr (some e) 1 (.it .i64 [])]
theorem Ms{res:List aS}(e:Nat)(hH:bp J fps res (known res) w0 F0 w):
 ∃fps',bp (J.eJ res.length) fps' (aep e res) (known (aep e res)) w0 F0 w/\Env.agree (known res) J (J.eJ res.length)/\(∀i,known res i->known (aep e res) i)/\known (aep e res) res.length:=by
 delta aep
 have hnk:¬known res res.length:=fun hk=>by have:=aY hk;omega
 have hag:Env.agree (known res) J (J.eJ res.length):=vK hnk
 exact hH.pb (ρ':=J.eJ res.length) (w':=w) [] (.arr (some e) 1 (.it .i64 [])) [] (fun _=>False) (by simp) (by simp) (by simp) hag
  (by
   have hs:(J.eJ res.length).sl res.length= .slice none 0 0:=by simp[Env.sl,Env.eJ]
   refine⟨fun j hj=>absurd hj (Nat.not_lt_zero _),by simp[Env.eJ,TL.len,aK],by simp[TL.len,aK],by simp[Env.eJ],fun hj=>absurd hj (Nat.lt_irrefl 0),fun hj=>absurd hj (Nat.lt_irrefl 0),.inr ⟨e,by simp,?_,by simp[Env.eJ]⟩⟩
   rw[hs];exact World.ownsRow_nil w 0 e 1)
  (fun x hx=>hx.elim) rfl rfl rfl (Nat.le_refl _) (fun _ _ _=>rfl)
end
def abd(e:Nat)(ps:List Int)(v:V)(r:List aS):Prop:=
 match v with
 | .nl x=>match x with
   | .slice a b c=>match a with
     |none=>if b==0&&c==0 then ps= []else False
     |some _=>False
   |_=>False
 | .sc k n c=>match aN r k with
   | .blk e' x=>match Jg x with
     |some l=>if n==l.length&&c==n&&e'==e&&Nat.ble n 1000 then l=ps else False
     |none=>False
   |_=>False
 |_=>False
theorem IB{e:Nat}{ps:List Int}{x0:V}{r:List aS}{j:Nat}(h:aN r j= .arr (some e) 1 (.it .i64 ps)):GG true x0 (fun n=> .sa n) (.arr (some e) 1 (.it .i64 ps)) (.sa j) r:=by
 have hk:jl r j=true:=cI.2 (by unfold known;rw[h];simp)
 refine⟨rfl,fun nid=>⟨?_,?_⟩⟩
 ·simp[fP,idxOf]
 ·simp[Mt,hk,h,jY,gB]
theorem aM.Z8[Fen]{P:Program}{f:Nat}{args:List V}{res:List aS}{ps:List Int}{e:Nat}{x0:V}{KP:V->List aS->Prop}(h:aM P f args res (abd e ps) KP):
  aM P f args res (GG true x0 (fun n=> .sa n) (.arr (some e) 1 (.it .i64 ps))) KP:=by
 intro J fps w0 F0 w hH hargs;refine(h J fps w0 F0 w hH hargs).mono fun en w' ⟨x,ρ',fps',res',g1,g2,g3,g4⟩=>?_
 rcases g4 with⟨rfl,hk⟩|g4
 case inr=>exact⟨x,ρ',fps',res',g1,g2,g3,.inr g4⟩
 unfold abd at hk;split at hk
 ·split at hk
  case h_2=>exact hk.elim
  rename_i a b c;split at hk
  case h_2=>exact hk.elim
  split at hk
  case isFalse=>exact hk.elim
  rename_i hbc;simp only[af,ai]at hbc;obtain⟨rfl,rfl⟩:=hbc;subst hk;obtain⟨fps'',m1,m2,m3,m4⟩:=Ms e g1;refine⟨.sa res'.length,_,fps'',_,m1,g2.trans ⟨m2,m3⟩,m4,.inl ⟨by rw[qx];rfl,IB ?_⟩⟩
  rw[ca,jg,aq (by omega),Nat.sub_self]
  rfl
 ·rename_i k n c;split at hk
  case h_2=>exact hk.elim
  rename_i e' y hr;split at hk
  case h_2=>exact hk.elim
  rename_i l hl;split at hk
  case isFalse=>exact hk.elim
  rename_i hb;simp only[af,ai,Nat.ble_eq]at hb;obtain⟨⟨⟨h1,rfl⟩,rfl⟩,h2⟩:=hb;subst hk;obtain⟨fps'',m1,m2,m3,m4⟩:=Lc g1 hr hl h1 h2;refine⟨.sa res'.length,_,fps'',_,m1,g2.trans ⟨m2,m3⟩,m4,.inl ⟨?_,IB ?_⟩⟩
  ·simp[den,Env.gj]
  ·rw[ca,jg,aq (by omega),Nat.sub_self]
   rfl
 ·exact hk.elim
abbrev tIn:Nat:=3
abbrev adh:Type:=Option (List Obj)×OpT×Unit
def QN(x:adh):Prop:=VX x.1/\aU (Iv x.2.1).data
def hMn{α:Type}(B:lb α)(Q:α->Prop)(F1:α->Nat->V)(new:α->aS):lg:=fun args res K=>
 match B.rd res args with
 |some (_,a)=>Q a/\K (F1 a res.length) (res++ [new a])
 |none=>False
theorem aal[Fen]{P:Program}{f:Nat}{α:Type}{B:lb α}{Q:α->Prop}{F0:α->V}{F1:α->Nat->V}{new:α->aS}(h:l5 P f (QB B Q (fun _=>true) F0 F1 new)):l5 P f (hMn B Q F1 new):=fun args res K KP hh=>by
 refine h args res K KP ?_;unfold hMn at hh;unfold QB;split at hh
 ·rename_i q a ha;rw[ha];exact⟨hh.1,fun e=>by simp at e,fun _=>hh.2⟩
 ·exact hh.elim
def Xk:lg:=hMn (bJ (Vt tS eS) LW) QN (fun _ n=> .sa n) fun x=> .arr (some tIn) 1 (.it .i64 (jy (vP x.1) (Iv x.2.1)))
theorem TQ{L:List Obj}{i:Int}{m:bK}(hL:aO L):aO (ko L i m):=by
 unfold ko;split
 ·rename_i hE
  have hm:jL L m=true/\c9 L i=1:=by
   unfold kK at hE;split at hE
   ·omega
   ·split at hE
    ·omega
    ·split at hE
     ·omega
     ·rename_i h1 h2;exact⟨by simpa using h1,by omega⟩
  obtain⟨a,b,c,d⟩:=uf (uQ.1.1 (by omega:0<=c9 L i))
  obtain⟨f0,f1,f2⟩:=DO (by have:=fJ hL;omega:0<L.length) m
  exact lk hL (HE (dA hL i.toNat (by omega)) d f0 f1 f2 (zk (by omega)))
 ·exact hL
theorem aaK{L:List Obj}{n:Int}{p:lz}(hL:aO L):aO (gV L n p):=by
 unfold gV;split
 ·split
  ·exact Zj hL
  ·unfold BS;have h1:aO (iK L n p):=QY hL;split
   ·split
    ·exact TQ h1
    ·split
     ·exact HX h1
     ·exact h1
   ·exact h1
 ·exact hL
theorem ZL{n:Int}{p:lz}(hn:ku n):ku (oq n p):=by
 unfold oq;split
 ·rename_i h;obtain⟨hr,hk⟩:=h;unfold dW at hr;rw[ar hk]at hr;simp only[af,ah]at hr;unfold ku at hn⊢;omega
 ·exact hn
theorem I2(L:List Obj):∀(k:Nat),∀x∈fH L (k:Int),0<=x/\x<(k:Int)
 |0,x,h=>by rw[show((0:Nat):Int)=0 from rfl,Bd]at h;simp at h
 |k+1,x,h=>by
  rw[show((k+1:Nat):Int)=(k:Int)+1 by omega,BF L (by omega)]at h
  have ih:=I2 L k x;split at h
  ·unfold dn at h;rcases List.mem_append.1 h with h|h
   ·have:=ih h;omega
   ·simp only[List.mem_singleton]at h;omega
  ·have:=ih h;omega
theorem Oy{L:List Obj}{p:lz}(hL:aO L)(h0:¬aK (dV L)=0):0<=cL L p/\cL L p<(aK L:Int):=by
 obtain⟨_,_,_,f4⟩:=CF (p:=p) hL h0
 have hlt:((p.proc.tmod (aK (dV L):Int)+(aK (dV L):Int)).tmod (aK (dV L):Int)).toNat<(dV L).length:=by
  have:aK (dV L)=(dV L).length:=rfl;omega
 have hm:cL L p∈dV L:=by
  unfold cL aL;rw[an,List.getElem?_eq_getElem hlt];exact List.getElem_mem _
 exact I2 L (aK L) _ hm
def rdM(res:List aS)(a:V):Option (Nat×Nat×Int×List Obj):=
 match a with
 | .lp b off=>match cC res b with
   | .blk t c=>match SZ c with
     |some q=>match cC res q.1 with
      | .store ts e L=>if off==0&&t==Hh&&ts==tS&&e==eS then some (b,q.1,q.2,L)else none
      |_=>none
     |none=>none
   |_=>none
 |_=>none
theorem P0{res:List aS}{a:V}{b s:Nat}{n:Int}{L:List Obj}(h:rdM res a=some (b,s,n,L)):a= .lp b 0/\(cC res b= .blk Hh (xJ s n)\/cC res b= .blk Hh (.ag [.lp s 0,.ci .i64 n]))/\cC res s= .store tS eS L:=by
 unfold rdM at h;split at h
 case h_2=>simp at h
 split at h
 case h_2=>simp at h
 rename_i hb;split at h
 case h_2=>simp at h
 rename_i q hq;split at h
 case h_2=>simp at h
 rename_i hs;split at h
 case isFalse=>simp at h
 rename_i hc;simp only[af,ai]at hc;obtain⟨⟨⟨rfl,rfl⟩,rfl⟩,rfl⟩:=hc;simp only[aa,ae]at h;obtain⟨rfl,rfl,rfl,rfl⟩:=h;obtain⟨y,rfl,hy⟩:=CG (s:=q.1) (n:=q.2) hq;refine⟨rfl,?_,hs⟩;rw[hb];cases y<;>simp[rI,toInt]at hy
 all_goals(obtain⟨rfl,hn⟩:=hy;subst hn;first|exact .inl rfl|exact .inr rfl)
def ctM(Q:List Obj->Option Prop)(x:Int->Nat->V)(new:List Obj->List aS):Ct:=fun res nid args=>match args with
 | [a]=>match rdM res a with
   |some r=>some (Q r.2.2.2,x r.2.2.1 nid,new r.2.2.2)
   |none=>none
 |_=>none
theorem aaX[Fen]{P:Program}{f:Nat}{π:List Nat}{Q:List Obj->Option Prop}{x:Int->Nat->V}{new:List Obj->List aS}(hnd:π.Nodup)(hy:∀L,yfr (new L)=true)
  (h:∀n L,cM (Q L)->aM P f [.lp 0 0] [.ro (.blk Hh (xJ 1 n)),.ro (.store tS eS L)] (fun v r=>xy π (x n) (fun _=>new L) v r) (fun _ _=>False)):dO P f (ctM Q x new):=by
 intro J fps res K w0 F0 w nid args q y new' hH hargs hg hq hfr;unfold ctM at hg;split at hg
 case h_2=>simp at hg
 split at hg<;>simp only[aa,ae,reduceCtorEq]at hg
 rename_i r hr;obtain⟨b,s,n,L⟩:=r;obtain⟨rfl,rfl,rfl⟩:=hg;obtain⟨rfl,hb,hs⟩:=P0 hr;refine⟨?_,fun k hk=>vY (hy L) k hk⟩
 have hne:b≠s:=fun e=>by rcases hb with hb|hb<;>rw[e,hs]at hb<;>simp at hb
 have hfr:∀b,b<w0.heap.size->¬F0 b->w.heap[b]? =w0.heap[b]? /\¬(fun _:Nat=>False) b:=fun b hb hF=>⟨hH.same b hb hF,fun h=>h⟩
 have hv:Env.via (fun p=>if p=b then some 0 else if p=s then some 1 else none) J (J.pull fun i=>if i=0 then b else s):=rf fun p i hp=>by
  split at hp<;>(try split at hp)<;>simp only[aa,reduceCtorEq]at hp<;>subst hp<;>simp[*]
 have hkn:∀i,known [.ro (.blk Hh (xJ 1 n)),.ro (.store tS eS L)] i↔i=0\/i=1:=fun i=>by
  match i with
  |0=>simp[known,aN]
  |1=>simp[known,aN]
  |i+2=>simp[known,aN]
 have hrep:bp (J.pull fun i=>if i=0 then b else s) (fun _ _=>False) [.ro (.blk Hh (xJ 1 n)),.ro (.store tS eS L)] (known [.ro (.blk Hh (xJ 1 n)),.ro (.store tS eS L)]) w (fun _=>False) w:=by
  refine⟨fun i hi=>hi,Nat.le_refl _,rfl,rfl,rfl,fun i hi=>?_,fun i b hi h=>h.elim,fun i j b hi hj hne h=>h.elim,fun i b hi h=>h.elim,fun _ _ _=>rfl⟩
  have gen:∀p j r,cC res p=r->r≠ .yet->(fun p=>if p=b then some 0 else if p=s then some 1 else none) p=some j->∃fp:Nat->Prop,(gB (fun p=>if p=b then some 0 else if p=s then some 1 else none) r).holds (known [.ro (.blk Hh (xJ 1 n)),.ro (.store tS eS L)]) (J.pull fun i=>if i=0 then b else s) j fp w (fun _=>False) w/\∀b,fp b->b<w.heap.size/\¬(fun _=>False) b:=by
   intro p j r hr hy hp;obtain⟨fp,g1,g2⟩:=(pB.look hr hy).2 J fps K w0 F0 w hH;refine⟨fp,iN hv (fun p i hp _=>?_) hp _ _ _ (aS.tY hH.old hfr _ _ g1),fun c hc=>⟨?_,fun h=>h⟩⟩
   ·rw[hkn];split at hp<;>(try split at hp)<;>simp only[aa,reduceCtorEq]at hp<;>subst hp<;>simp
   ·rcases g2 c hc with⟨j,hj,hf⟩|⟨hl,_⟩
    ·exact hH.lt j c hj hf
    ·exact Nat.lt_of_lt_of_le hl hH.old
  rcases(hkn i).1 hi with rfl|rfl
  ·rcases hb with hb|hb<;>obtain⟨fp,h1,h2⟩:=gen b 0 _ hb (by simp) (by simp)<;>simp only[gB,xJ,fP,eY,if_true,aq (Ne.symm hne)]at h1<;>exact⟨fp,h1,h2⟩
  ·obtain⟨fp,h1,h2⟩:=gen s 1 _ hs (by simp) (by simp[Ne.symm hne])
   exact⟨fp,h1,h2⟩
 have hd:bG J [.lp b 0]=bG (J.pull fun i=>if i=0 then b else s) [.lp 0 0]:=by simp[bG,den,Env.pull]
 rw[hd];refine(h n L hq _ _ _ _ _ hrep ⟨(hkn 0).2 (.inl rfl),trivial⟩).mono fun e w' ⟨v,ρ1,fps1,r,g1,g2,g3,g4⟩=>?_
 rcases g4 with⟨rfl,hN⟩|⟨_,hF⟩
 ·exact⟨_,rfl,tQ (new:=fun _=>new L) hnd g1 g3 hN⟩
 ·exact hF.elim
def abu:Ct:=ctM (fun L=>some (aK L<=1000/\bD L=false)) (fun _ nid=> .lp nid 0) fun L=> [.store tS eS L]
end Go.Sx
