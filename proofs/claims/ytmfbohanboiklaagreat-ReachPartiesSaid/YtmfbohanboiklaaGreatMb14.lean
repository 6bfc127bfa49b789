import Derived.Test.YtmfbohanboiklaaGreatMb13
set_option linter.unusedSimpArgs false
set_option linter.unusedVariables false
set_option maxRecDepth 100000
namespace Go.Proofs.YtmfbohanboiklaaGreat
open Go.Sx
open Go.RowKit (Below)
theorem SS[Fen]{P:Program}{ops:Array Oper}{Q:Exit->Act->World->Prop}(I:(Nat->Bool)->Act->World->Prop)
  (hlt:∀(i:Nat) o,ops[i]? =some o->∀e∈o.after,Region.binds .any e=true->e.on<i)
  (hstep:∀L a w (i:Nat) o,ops[i]? =some o->L i=false->(∀e∈o.after,Region.binds .any e=true->L e.on=true)->I L a w->∀K:Act->World->Prop,(∀a' w',I (ins L i) a' w'->K a' w')->wpOpIn (FF P none) 0 P ops Q i K a w)
  (hfin:∀L a w,(∀i,i<ops.size->L i=true)->I L a w->Q .normal a w):
  ∀(fuel:Nat) (listed:Array Bool) (a:Act) (w:World),listed.size=ops.size->FO listed ops.size<=fuel->I (fun k=>listed.getD k false) a w->wpAnyIn (FF P none) 0 P .any ops Q fuel listed a w:=by
 intro fuel
 have hall:∀(listed:Array Bool),listed.size=ops.size->Region.ready .any ops listed= []->∀i,i<ops.size->listed.getD i false=true:=by
  intro listed hs hnil i;induction i using Nat.strongRecOn with
  |_ i ihi=>
   intro hi;cases h:listed.getD i false with
   |true=>rfl
   |false=>
    have hio:ops[i]? =some (ops[i]'hi):=Array.getElem?_eq_getElem hi
    have:i∈Region.ready .any ops listed:=by
     rw[mem_ready];refine⟨?_,_,hio,fun e e1 e2=>ihi e.on (hlt i _ hio e e1 e2) (by have:=hlt i _ hio e e1 e2;omega)⟩
     have:i<listed.size:=by omega
     simpa[Array.getD_eq_getD_getElem?,this]using h
    rw[hnil]at this;simp at this
 induction fuel with
 |zero=>
  intro listed a w hs hc hI
  have hall0:∀i,i<ops.size->listed.getD i false=true:=fun i hi=>by
   cases h:listed.getD i false with
   |true=>rfl
   |false=>have:=nL (n:=ops.size) hs hi h;omega
  refine⟨?_,hfin _ a w hall0 hI⟩;cases hrd:Region.ready .any ops listed with
  |nil=>rfl
  |cons i l=>
   obtain⟨h1,o,h2,_⟩:=mem_ready.1 (show i∈Region.ready .any ops listed by rw[hrd];simp)
   have hisz:i<ops.size:=(Array.getElem?_eq_some_iff.1 h2).1;have:=hall0 i hisz;have hlt:i<listed.size:=by omega
   simp only[Array.getD_eq_getD_getElem?,Array.getElem?_eq_getElem hlt,Option.getD_some]at this h1;rw[this]at h1;simp at h1
 |succ fuel ih=>
  intro listed a w hs hc hI;refine⟨fun hnil=>hfin _ a w (hall listed hs hnil) hI,fun i hi=>?_⟩
  obtain⟨h1,o,h2,h3⟩:=mem_ready.1 hi;have hisz:i<ops.size:=(Array.getElem?_eq_some_iff.1 h2).1;have hl:i<listed.size:=by omega
  have hLi:listed.getD i false=false:=by simpa[Array.getD_eq_getD_getElem?,hl]using h1
  refine hstep _ a w i o h2 hLi h3 hI _ fun a' w' hI'=>?_
  exact ih _ a' w' (by simpa using hs) (by have:=nL (n:=ops.size) hs hisz hLi;omega) (by rw[Ax hl];exact hI')
abbrev tMo:Nat:=198
abbrev Y4:Nat:=201
abbrev SN:Nat:=40
abbrev R4:Nat:=154
abbrev fMc:Nat:=201
def fKo(o:Oper):Option (Int×Int):=
 match o.op with
 | .build t ps=>if t==Y4 then match ps.toList with
   | [(0,.const (.int .i64 a)),(1,.const (.int .i64 b))]=>some (a,b)
   |_=>none
   else none
 |_=>none
def jf:List Oper->Nat->Option (Int×Int)
 | [],_=>none
 |o::l,s=>match o.dst with
  |some t=>if t==s then fKo o else jf l s
  |none=>jf l s
def ES(k:Int×Int):Value:= .agg #[.int .i64 k.1,.int .i64 k.2]
def HP(b:Nat):Value:= .func (.func fMc) #[] #[.pointer (some ⟨b,0,none⟩)]
def Fe(l:List Oper)(r0 b1 b2 s:Nat):Value:=
 match jf l s with
 |some k=>ES k
 |none=>if s=15 then HP b1 else if s=17 then HP b2 else .map (some r0)
def Ed(b1 b2:Nat):Operand->Value
 | .func g=> .func (.func g) #[] #[]
 | .tmp s=>if s=15 then HP b1 else HP b2
 |_=>undef
def jQ(l:List Oper)(o:Oper):Option (Int×Int):=
 match o.op with
 | .insert _ _ (.tmp k) _=>jf l k
 |_=>none
def ub(l:List Oper)(b1 b2:Nat)(o:Oper):Option (Value×Value):=
 match o.op with
 | .insert _ _ (.tmp k) x=>match jf l k with
   |some c=>some (ES c,Ed b1 b2 x)
   |none=>none
 |_=>none
def mP(l:List Oper)(b1 b2:Nat)(L:Nat->Bool):Nat->List Oper->List (Value×Value)
 |_,[]=> []
 |i,o::m=>(match ub l b1 b2 o with
  |some p=>if L i then[p]else[]
  |none=> [])++mP l b1 b2 L (i+1) m
theorem Dx{l:List Oper}{b1 b2:Nat}{L:Nat->Bool}{p:Value×Value}:∀{m:List Oper} {i:Nat},p∈mP l b1 b2 L i m->∃(j:Nat) (o:Oper),m[j]? =some o/\L (i+j)=true/\ub l b1 b2 o=some p
 | [],i,h=>by simp[mP]at h
 |o::m,i,h=>by
  simp only[mP,List.mem_append]at h;rcases h with h|h
  ·split at h
   ·rename_i q hq;split at h
    ·rename_i hL;simp only[List.mem_singleton]at h;subst h;exact⟨0,o,rfl,hL,hq⟩
    ·simp at h
   ·simp at h
  ·obtain⟨j,o',h1,h2,h3⟩:=Dx h;exact⟨j+1,o',by simpa using h1,by rw[show i+(j+1)=i+1+j by omega];exact h2,h3⟩
theorem AG{l:List Oper}{b1 b2:Nat}{L:Nat->Bool}:∀{m:List Oper} {i:Nat},(∀(j:Nat) (o:Oper),m[j]? =some o->L (i+j)=true->ub l b1 b2 o=none)->mP l b1 b2 L i m= []
 | [],i,h=>rfl
 |o::m,i,h=>by
  simp only[mP];rw[AG fun j o' h1 h2=>h (j+1) o' (by simpa using h1) (by rw[show i+(j+1)=i+1+j by omega];exact h2)]
  split
  ·rename_i p hp;split
   ·rename_i hL;have:=h 0 o rfl hL;rw[hp]at this;simp at this
   ·rfl
  ·rfl
theorem mH{l:List Oper}{o:Oper}(h:jQ l o=none)(x y:Nat):ub l x y o=none:=by
 obtain⟨dst,op,type,pos,after,guard⟩:=o;cases op<;>try rfl
 rename_i t m k v;cases k<;>try rfl
 simp only[jQ]at h;simp only[ub,h]
theorem pc{l:List Oper}{b1 b2 c1 c2:Nat}{L L':Nat->Bool}:∀{m:List Oper} {i:Nat},(∀(j:Nat) (o:Oper),m[j]? =some o->(jQ l o).isSome=true->L (i+j)=L' (i+j)/\(L (i+j)=true->ub l b1 b2 o=ub l c1 c2 o))->mP l b1 b2 L i m=mP l c1 c2 L' i m
 | [],i,h=>rfl
 |o::m,i,h=>by
  simp only[mP]
  rw[pc (c1:=c1) (c2:=c2) (L':=L') (i:=i+1) fun j o' h1 h2=>by
   have:=h (j+1) o' (by simpa using h1) h2
   rwa [show i+(j+1)=i+1+j by omega]at this]
  congr 1
  cases hk:jQ l o with
  |none=>
   rw[mH hk,mH hk]
  |some k=>
   obtain⟨h1,h2⟩:=h 0 o rfl (by rw[hk];rfl)
   simp only[Nat.add_zero]at h1 h2;cases hL:L i with
   |true=>rw[<-h1,hL,h2 hL]
   |false=>
    rw[<-h1,hL];simp only[Bool.false_eq_true,if_false];split<;>split<;>rfl
theorem DU{l:List Oper}{b1 b2:Nat}{L:Nat->Bool}{p:Value×Value}{q:Nat}(hq:L q=false):∀{m:List Oper} {i j:Nat} {o:Oper},m[j]? =some o->i+j=q->ub l b1 b2 o=some p->(mP l b1 b2 (ins L q) i m).Perm (mP l b1 b2 L i m++ [p])
 | [],i,j,o,h,_,_=>by simp at h
 |x::m,i,0,o,h,e,hp=>by
  simp only[List.getElem?_cons_zero,aa]at h;subst h;simp only[Nat.add_zero]at e;subst e;simp only[mP,hp,ins,BEq.rfl,Bool.true_or,if_true,hq,Bool.false_eq_true,if_false,List.nil_append,List.singleton_append]
  have:mP l b1 b2 (fun k=>k==i||L k) (i+1) m=mP l b1 b2 L (i+1) m:=pc fun j o _ _=>⟨by
   have:((i+1+j)==i)=false:=by simp;omega
   simp[this],fun _=>rfl⟩
  show(p::mP l b1 b2 (fun k=>k==i||L k) (i+1) m).Perm _
  rw[this];exact(List.perm_append_singleton _ _).symm
 |x::m,i,j+1,o,h,e,hp=>by
  simp only[mP]
  have hi:ins L q i=L i:=by
   have:(i==q)=false:=by simp;omega
   simp[ins,this]
  rw[hi,List.append_assoc];exact List.Perm.append_left _ (DU hq (by simpa using h) (by omega) hp)
def GN(l:List Oper)(o:Oper):Bool:=
 match o.op with
 | .makeMap t r=>t==tMo&&r.isNone&&o.dst==some 1
 | .build _ _=>(match fKo o with|some k=>decide (ck .i64 k.1)&&decide (ck .i64 k.2)|none=>false)&&(match o.dst with|some d=>Nat.blt d 35&&jf l d==fKo o|none=>false)
 | .call c=>(match c.callee with| .value (.func g)=>g==R4|_=>false)&&(match c.args.toList with| [.const (.int .i64 n)]=>(o.dst==some 15&&n==1)||(o.dst==some 17&&n==2)|_=>false)
 | .insert t m k x=>t==tMo&&o.dst==none&&(match m with| .tmp s=>s==1|_=>false)&&(match k with| .tmp s=>(jf l s).isSome|_=>false)&&(match x with| .func _=>true| .tmp s=>s==15||s==17|_=>false)
 | .move x=>o.dst==some 34&&(match x with| .tmp s=>s==1|_=>false)
 | .assign x=>o.dst==some 0&&(match x with| .tmp s=>s==34|_=>false)
 |_=>false
def afB(l:List Oper)(t:Nat)(e:Edge):Bool:=Region.binds .any e&&(match l[e.on]? with|some o=>o.dst==some t|none=>false)
def WV(l:List Oper)(o:Oper):Bool:=o.op.operands.toList.all fun x=>match x with
 | .tmp t=>o.after.toList.any (afB l t)
 |_=>true
def ltB:Nat->List Oper->Bool
 |_,[]=>true
 |i,o::l=>o.after.toList.all (fun e=> !Region.binds .any e||Nat.blt e.on i)&&ltB (i+1) l
def vT(l:List Oper):Bool:=
 l.all (fun o=>o.guard.isNone&&GN l o&&WV l o)&&ltB 0 l&&sr (l.map fun o=>(o.dst,0))&&(jf l 1).isNone&&(jf l 15).isNone&&(jf l 17).isNone&&(jf l 34).isNone&&(jf l 0).isNone
def H7(l:List Oper):List (Int×Int):=l.filterMap (jQ l)
theorem DH:∀{l:List Oper} {i0:Nat},ltB i0 l=true->∀(i:Nat) (o:Oper),l[i]? =some o->∀e∈o.after,Region.binds .any e=true->e.on<i0+i
 | [],_,_,i,o,h,_,_,_=>by simp at h
 |x::l,i0,h,i,o,ho,e,he,hb=>by
  simp only[ltB,af,List.all_eq_true,Bool.or_eq_true,Bool.not_eq_true']at h;cases i with
  |zero=>
   simp only[List.getElem?_cons_zero,aa]at ho;subst ho;rcases h.1 e (by simpa using he)with h|h
   ·rw[hb]at h;simp at h
   ·rw[Nat.blt_eq]at h;omega
  |succ i=>
   have:=DH h.2 i o (by simpa using ho) e he hb
   omega
theorem pU{α β:Type}{f:α->Option β}:∀{l:List α},(l.filterMap f).Nodup->∀{i j:Nat} {a b:α} {x:β},l[i]? =some a->l[j]? =some b->f a=some x->f b=some x->i=j
 | [],_,i,j,a,b,x,h,_,_,_=>by simp at h
 |y::l,h,i,j,a,b,x,hi,hj,ha,hb=>by
  have key:∀{k:Nat} {c:α},l[k]? =some c->f c=some x->f y=some x->False:=fun{k c} hk hc hy=>by
   rw[List.filterMap_cons_some hy,List.nodup_cons]at h;exact h.1 (List.mem_filterMap.2 ⟨c,List.mem_of_getElem? hk,hc⟩)
  cases i with
  |zero=>
   simp only[List.getElem?_cons_zero,aa]at hi;subst hi;cases j with
   |zero=>rfl
   |succ j=>exact(key (by simpa using hj) hb ha).elim
  |succ i=>
   cases j with
   |zero=>
    simp only[List.getElem?_cons_zero,aa]at hj;subst hj;exact(key (by simpa using hi) ha hb).elim
   |succ j=>
    have:(l.filterMap f).Nodup:=by
     cases hy:f y with
     |none=>simpa[List.filterMap_cons,hy]using h
     |some z=>simp only[List.filterMap_cons,hy,List.nodup_cons]at h;exact h.2
    exact congrArg (· +1) (pU (i:=i) (j:=j) this (by simpa using hi) (by simpa using hj) ha hb)
structure zI(l:List Oper)(w0:World)(L:Nat->Bool)(a:Act)(w:World)(r0 b1 b2:Nat):Prop where
 sz:a.tmps.size=35
 df:a.defers= []
 tmp:∀(i:Nat) o d,l[i]? =some o->L i=true->o.dst=some d->a.tmps.getD d undef=Fe l r0 b1 b2 d
 bel:Below w0.heap.size w0 w
 down:∀(i:Nat) o,l[i]? =some o->L i=true->∀e∈o.after,Region.binds .any e=true->L e.on=true
 map:∀(i:Nat) o,l[i]? =some o->L i=true->o.dst=some 1->w0.heap.size<=r0/\∃es cl,w.heap[r0]? =some (.map es cl)/\(es.toList.map fun e=>(e.key,e.val)).Perm (mP l b1 b2 L 0 l)
 one:∀(i:Nat) o,l[i]? =some o->L i=true->o.dst=some 15->w0.heap.size<=b1/\w.heap[b1]? =some (.cells #[.int .i64 1] SN (0,0))
 two:∀(i:Nat) o,l[i]? =some o->L i=true->o.dst=some 17->w0.heap.size<=b2/\w.heap[b2]? =some (.cells #[.int .i64 2] SN (0,0))
theorem Bp{x y:Int}(hx:ck .i64 x)(hy:ck .i64 y)(w:World):(Instr.build Y4 #[(0,.int .i64 x),(1,.int .i64 y)]).run Tryz.prog w= .ok (ES (x,y)) w:=
 (rB (J:=Env.zero) (w:=w) (K:=fun _=>True) (C:=(Yc [] [] [] cg bj).toCtx) (t:=Y4) (parts:= [(0,.it .i64 x),(1,.it .i64 y)]) (r:= .ag [.it .i64 x,.it .i64 y]) (vl mJ) (by kernel_rfl) (by simp;exact⟨hx,hy⟩)).1
theorem Sb[Fen](n:Int):aL Tryz.prog R4 [.it .i64 n] [] (fun v r=>v= .fn fMc [.lp 0 0]/\r= [.blk SN (.it .i64 n)]) (fun _ _=>False):=
 bV aO aU (inl:=cg) (ann:=bj) (G:=(V.fn fMc [V.lp 0 0]=V.fn fMc [V.lp 0 0]/\ [aQ.blk SN (V.it .i64 n)]= [aQ.blk SN (V.it .i64 n)])) ⟨rfl,rfl⟩ (by kernel_rfl)
theorem Fh[Fen]{n:Int}(hn:ck .i64 n)(w:World):CallsIn (FF Tryz.prog none) 0 Tryz.prog R4 #[.int .i64 n] w fun e w'=>∃b,e= .returned (HP b)/\Below w.heap.size w w'/\w.heap.size<=b/\w'.heap[b]? =some (.cells #[.int .i64 n] SN (0,0)):=by
 have hE:bn Env.zero (fun _ _=>False) [] (known []) w (fun _=>False) w:=
  ⟨fun i hi=>hi,Nat.le_refl _,rfl,rfl,rfl,fun i hi=>by simp[known,aN]at hi,fun i b hi=>by simp[known,aN]at hi,fun i j b hi=>by simp[known,aN]at hi,fun i b hi=>by simp[known,aN]at hi,fun _ _ _=>rfl⟩
 have hc:=Sb n Env.zero _ w (fun _=>False) w hE ⟨hn,trivial⟩
 refine hc.mono fun e w' ⟨v,ρ1,fps1,r,g1,g2,g3,g4⟩=>?_
 rcases g4 with⟨rfl,rfl,rfl⟩|⟨_,hF⟩
 ·have hk:known [aQ.blk SN (V.it .i64 n)] 0:=by simp[known,aN]
  obtain⟨_,_,h1,h2⟩:=g1.holds 0 hk;refine⟨ρ1.num 0,by simp only[den,bI,HP];rfl,⟨g1.os,g1.tape,g1.output,g1.old,fun b hb=>g1.same b hb (fun h=>h)⟩,?_,?_⟩
  ·rcases Nat.lt_or_ge (ρ1.num 0) w.heap.size with h|h
   ·exact(g1.inF 0 _ hk h1 h).elim
   ·exact h
  ·rw[h2];simp[cells,den,Value.cells]
 ·exact hF.elim
theorem nX{l:List Oper}(hB:vT l=true){i:Nat}{o:Oper}(h:l[i]? =some o):o.guard=none/\GN l o=true/\WV l o=true:=by
 unfold vT at hB;simp only[af,List.all_eq_true]at hB;have:=hB.1.1.1.1.1.1.1 o (List.mem_of_getElem? h);exact⟨by simpa using this.1.1,this.1.2,this.2⟩
theorem Sv{l:List Oper}(hB:vT l=true){i j:Nat}{o o':Oper}{t:Nat}(h:l[i]? =some o)(h':l[j]? =some o')(hd:o.dst=some t)(hd':o'.dst=some t):i=j:=by
 unfold vT at hB;simp only[af]at hB;exact oS (t:=t) hB.1.1.1.1.1.2 (by rw[List.getElem?_map,h,Option.map_some,hd]) (by rw[List.getElem?_map,h',Option.map_some,hd'])
theorem Bx{l:List Oper}(hB:vT l=true):jf l 1=none/\jf l 15=none/\jf l 17=none/\jf l 34=none/\jf l 0=none:=by
 unfold vT at hB;simp only[af,Option.isNone_iff_eq_none]at hB;obtain⟨⟨⟨⟨⟨_,h1⟩,h2⟩,h3⟩,h4⟩,h5⟩:=hB;exact⟨h1,h2,h3,h4,h5⟩
theorem uU{l:List Oper}{o:Oper}(h:GN l o=true){d:Nat}(hd:o.dst=some d):d<35/\((∃k,jf l d=some k)\/d=1\/d=15\/d=17\/(d=34/\Operand.tmp 1∈o.op.operands)\/(d=0/\Operand.tmp 34∈o.op.operands)):=by
 obtain⟨dst,op,type,pos,after,guard⟩:=o;simp only at hd;subst hd;cases op<;>simp only[GN,Bool.false_eq_true]at h
 case move x=>
  simp only[af,ai,aa]at h;obtain⟨rfl,h⟩:=h;cases x<;>simp at h
  subst h;exact⟨by omega,.inr (.inr (.inr (.inr (.inl ⟨rfl,by simp[Op.operands]⟩))))⟩
 case assign x=>
  simp only[af,ai,aa]at h;obtain⟨rfl,h⟩:=h;cases x<;>simp at h
  subst h;exact⟨by omega,.inr (.inr (.inr (.inr (.inr ⟨rfl,by simp[Op.operands]⟩))))⟩
 case makeMap t r=>
  simp only[af,ai,aa]at h;obtain⟨_,rfl⟩:=h;exact⟨by omega,.inr (.inl rfl)⟩
 case insert t m k x=>simp at h
 case build t ps=>
  simp only[af,ai]at h;obtain⟨h1,h2,h3⟩:=h;refine⟨by rw[Nat.blt_eq]at h2;exact h2,.inl ?_⟩
  rw[h3];split at h1
  ·rename_i k hk;exact⟨k,hk⟩
  ·simp at h1
 case call c=>
  simp only[af]at h;obtain⟨_,h⟩:=h;split at h
  ·simp only[Bool.or_eq_true,af,ai,aa]at h;rcases h with⟨rfl,_⟩|⟨rfl,_⟩
   ·exact⟨by omega,.inr (.inr (.inl rfl))⟩
   ·exact⟨by omega,.inr (.inr (.inr (.inl rfl)))⟩
  ·simp at h
theorem tP{l:List Oper}{o:Oper}(h:GN l o=true){k:Int×Int}(hk:jQ l o=some k):∃s x,o.op= .insert tMo (.tmp 1) (.tmp s) x/\o.dst=none/\jf l s=some k/\((∃g,x= .func g)\/x= .tmp 15\/x= .tmp 17):=by
 obtain⟨dst,op,type,pos,after,guard⟩:=o;cases op<;>simp only[jQ,reduceCtorEq]at hk
 rename_i t m kk x;simp only[GN,af,ai]at h;obtain⟨⟨⟨⟨rfl,rfl⟩,hm⟩,hs⟩,hx⟩:=h;cases m<;>simp at hm
 subst hm;cases kk<;>simp only[reduceCtorEq]at hk
 rename_i s;refine⟨s,x,rfl,rfl,hk,?_⟩;cases x<;>simp at hx
 ·rcases hx with rfl|rfl
  ·exact .inr (.inl rfl)
  ·exact .inr (.inr rfl)
 ·exact .inl ⟨_,rfl⟩
theorem wY{l:List Oper}{o:Oper}{k:Int×Int}(hk:jQ l o=some k)(b1 b2:Nat){t s:Nat}{m x:Operand}(ho:o.op= .insert t m (.tmp s) x):ub l b1 b2 o=some (ES k,Ed b1 b2 x):=by
 unfold jQ at hk;unfold ub;rw[ho]at hk⊢;simp only at hk⊢;rw[hk]
theorem Q9{a b:Int×Int}(h:ES a=ES b):a=b:=by
 simp only[ES,Value.agg.injEq,Array.mk.injEq,List.cons.injEq,Value.int.injEq,true_and,and_true]at h;exact Prod.ext h.1 h.2
theorem Vx(a:Int×Int):ES a=fw [a.1,a.2]:=rfl
section
variable {l:List Oper} {w0:World} {L:Nat->Bool} {a:Act} {w:World} {r0 b1 b2:Nat} {i:Nat} {o:Oper}
theorem Lo(hB:vT l=true){j:Nat}{o':Oper}(h:l[j]? =some o'){t:Nat}(ht:Operand.tmp t∈o'.op.operands):∃e∈o'.after,Region.binds .any e=true/\∃o1,l[e.on]? =some o1/\o1.dst=some t:=by
 have:=(nX hB h).2.2;unfold WV at this;rw[List.all_eq_true]at this;have:=this _ (by simpa using ht)
 simp only[List.any_eq_true]at this;obtain⟨e,he,h2⟩:=this;simp only[afB,af]at h2;refine⟨e,by simpa using he,h2.1,?_⟩
 have h3:=h2.2;split at h3
 ·rename_i o1 ho1;exact⟨o1,ho1,by simpa using h3⟩
 ·simp at h3
theorem zI.dep(I:zI l w0 L a w r0 b1 b2)(hB:vT l=true){j:Nat}{o':Oper}(h:l[j]? =some o')(hj:L j=true){t:Nat}(ht:Operand.tmp t∈o'.op.operands):∃k o1,l[k]? =some o1/\o1.dst=some t/\L k=true:=by
 obtain⟨e,he,hb,o1,h1,h2⟩:=Lo hB h ht;exact⟨e.on,o1,h1,h2,I.down j o' h hj e he hb⟩
theorem zI.root(I:zI l w0 L a w r0 b1 b2)(hB:vT l=true){j:Nat}{o':Oper}(h:l[j]? =some o')(hj:L j=true){d:Nat}(hd:o'.dst=some d)(hd':d=1\/d=34\/d=0):∃k o1,l[k]? =some o1/\o1.dst=some 1/\L k=true:=by
 have step34:∀{j:Nat} {o':Oper},l[j]? =some o'->L j=true->o'.dst=some 34->∃k o1,l[k]? =some o1/\o1.dst=some 1/\L k=true:=fun{j o'} h hj hd=>by
  rcases(uU (nX hB h).2.1 hd).2 with⟨k,hk⟩|hk|hk|hk|⟨_,hk⟩|⟨hk,_⟩
  ·rw[(Bx hB).2.2.2.1]at hk;simp at hk
  ·omega
  ·omega
  ·omega
  ·exact I.dep hB h hj hk
  ·omega
 rcases hd' with rfl|rfl|rfl
 ·exact⟨j,o',h,hd,hj⟩
 ·exact step34 h hj hd
 ·rcases(uU (nX hB h).2.1 hd).2 with⟨k,hk⟩|hk|hk|hk|⟨hk,_⟩|⟨_,hk⟩
  ·rw[(Bx hB).2.2.2.2]at hk;simp at hk
  ·omega
  ·omega
  ·omega
  ·omega
  ·obtain⟨k,o1,h1,h2,h3⟩:=I.dep hB h hj hk;exact step34 h1 h3 h2
theorem xg{k:Int×Int}{s:Nat}(h:jf l s=some k):Fe l r0 b1 b2 s=ES k:=by unfold Fe;rw[h]
theorem o6{s:Nat}(h:jf l s=none)(h1:s≠15)(h2:s≠17):Fe l r0 b1 b2 s= .map (some r0):=by unfold Fe;rw[h];simp[h1,h2]
theorem w7(h:jf l 15=none):Fe l r0 b1 b2 15=HP b1:=by unfold Fe;rw[h];rfl
theorem xr(h:jf l 17=none):Fe l r0 b1 b2 17=HP b2:=by unfold Fe;rw[h];rfl
theorem zI.put(I:zI l w0 L a w r0 b1 b2)(hB:vT l=true)(ho:l[i]? =some o)(hLi:L i=false)(hdep:∀e∈o.after,Region.binds .any e=true->L e.on=true){d:Nat}(hd:o.dst=some d){v:Value}{w':World}{c0 c1 c2:Nat}
  (hv:v=Fe l c0 c1 c2 d) (hs:∀(j:Nat) o' d',l[j]? =some o'->L j=true->o'.dst=some d'->Fe l r0 b1 b2 d'=Fe l c0 c1 c2 d') (hb:Below w0.heap.size w0 w')
  (hm:∀(j:Nat) o',l[j]? =some o'->ins L i j=true->o'.dst=some 1->w0.heap.size<=c0/\∃es cl,w'.heap[c0]? =some (.map es cl)/\(es.toList.map fun e=>(e.key,e.val)).Perm (mP l c1 c2 (ins L i) 0 l))
  (h1:∀(j:Nat) o',l[j]? =some o'->ins L i j=true->o'.dst=some 15->w0.heap.size<=c1/\w'.heap[c1]? =some (.cells #[.int .i64 1] SN (0,0)))
  (h2:∀(j:Nat) o',l[j]? =some o'->ins L i j=true->o'.dst=some 17->w0.heap.size<=c2/\w'.heap[c2]? =some (.cells #[.int .i64 2] SN (0,0))):zI l w0 (ins L i) (a.put (some d) v) w' c0 c1 c2:=by
 have hd35:=(uU (nX hB ho).2.1 hd).1;refine⟨by rw[b7];exact I.sz,by simpa[Act.put]using I.df,fun j o' d' hj hL hd'=>?_,hb,fun j o' hj hL e he hbi=>?_,hm,h1,h2⟩
 ·have hp:∀s,(a.put (some d) v).tmps.getD s undef=if d=s then v else a.tmps.getD s undef:=fun s=>cc a d s v (by rw[I.sz];exact hd35)
  rw[hp];by_cases e:d=d'
  ·subst e;rw[ar rfl];exact hv
  ·rw[aq e]
   have hji:j≠i:=fun h=>by
    subst h;rw[ho]at hj;simp only[aa]at hj;subst hj;rw[hd]at hd';simp only[aa]at hd';exact e hd'
   have hLj:L j=true:=by simpa[ins,hji]using hL
   rw[I.tmp j o' d' hj hLj hd'];exact hs j o' d' hj hLj hd'
 ·by_cases hji:j=i
  ·subst hji;rw[ho]at hj;simp only[aa]at hj;subst hj;simp[ins,hdep e he hbi]
  ·have hLj:L j=true:=by simpa[ins,hji]using hL
   simp[ins,I.down j o' hj hLj e he hbi]
theorem oP(ho:l[i]? =some o)(hn:jQ l o=none){c1 c2:Nat}(hc:∀(j:Nat) o',l[j]? =some o'->L j=true->ub l b1 b2 o'=ub l c1 c2 o'):mP l b1 b2 L 0 l=mP l c1 c2 (ins L i) 0 l:=
 pc fun j o' hj hk=>by
  rw[Nat.zero_add]
  have hji:j≠i:=fun h=>by
   subst h;rw[ho]at hj;simp only[aa]at hj;subst hj;rw[hn]at hk;simp at hk
  exact⟨by simp[ins,hji],fun hL=>hc j o' hj hL⟩
end
theorem Pt[Fen]{ops:Array Oper}{l:List Oper}(hops:ops.toList=l)(hB:vT l=true)(hk:(H7 l).Nodup){w0:World}{Q:Exit->Act->World->Prop}(L:Nat->Bool)(a:Act)(w:World)(i:Nat)(o:Oper)(ho:ops[i]? =some o)(hLi:L i=false)
  (hdep:∀e∈o.after,Region.binds .any e=true->L e.on=true) (hI:∃r0 b1 b2,zI l w0 L a w r0 b1 b2) (K:Act->World->Prop) (hK:∀a' w',(∃r0 b1 b2,zI l w0 (ins L i) a' w' r0 b1 b2)->K a' w'):wpOpIn (FF Tryz.prog none) 0 Tryz.prog ops Q i K a w:=by
 obtain⟨r0,b1,b2,I⟩:=hI;have hol:l[i]? =some o:=by rw[<-hops];simpa using ho
 have hg:=(nX hB hol).1;have hop:=(nX hB hol).2.1;obtain⟨n1,n15,n17,n34,n0⟩:=Bx hB;have hsz:=I.bel.size;unfold wpOpIn;simp only[ho];rw[ar (by simp[Region.wanted,hg])]
 have hev:∀t,Operand.tmp t∈o.op.operands->∃k o1,l[k]? =some o1/\o1.dst=some t/\L k=true/\a.eval (.tmp t)=Fe l r0 b1 b2 t:=fun t ht=>by
  obtain⟨e,he,hb,o1,h1,h2⟩:=Lo hB hol ht;exact⟨e.on,o1,h1,h2,hdep e he hb,I.tmp _ _ _ h1 (hdep e he hb) h2⟩
 have notI:∀{j:Nat} {o':Oper} {t:Nat},l[j]? =some o'->L j=true->o'.dst=some t->o.dst=some t->False:=fun{j o' t} h1 h2 h3 h4=>by
  have:=Sv hB h1 hol h3 h4;rw[this,hLi]at h2;simp at h2
 have oldI:∀{j:Nat} {o':Oper} {t:Nat},l[j]? =some o'->ins L i j=true->o'.dst=some t->o.dst≠some t->L j=true:=fun{j o' t} h1 h2 h3 h4=>by
  have:j≠i:=fun e=>by
   subst e;rw[hol]at h1;simp only[aa]at h1;subst h1;exact h4 h3
  simpa[ins,this]using h2
 obtain⟨dst,op,type,pos,after,guard⟩:=o;simp only at hg;subst hg
 have about:∀(op:Op),(∀c,op≠ .call c)->∀f,(⟨dst,op,type,pos,after,none⟩:Oper).about Tryz.prog w a.eval=some f->(Tryz.prog.funcs[f]?).isSome=true:=fun op hc f hf=>by
  unfold Oper.about at hf;split at hf
  ·rename_i c hc';exact absurd hc' (hc c)
  ·simp at hf
 cases op<;>simp only[GN,Bool.false_eq_true]at hop
 case move x=>
  simp only[af,ai]at hop;obtain⟨rfl,hx⟩:=hop;cases x<;>simp at hx
  subst hx;obtain⟨k,o1,g1,g2,g3,g4⟩:=hev 1 (by simp[Op.operands])
  have hn:jQ l ⟨some 34,.move (.tmp 1),type,pos,after,none⟩=none:=rfl;refine ev (ro:=none) (by simp) (about _ (by simp)) ?_
  rw[show(execOp a.eval ⟨some 34,.move (.tmp 1),type,pos,after,none⟩).run Tryz.prog w= .ok (.value (.map (some r0))) w by simp[execOp,g4,o6 n1]]
  refine hK _ _ ⟨r0,b1,b2,I.put hB hol hLi hdep rfl (o6 n34 (by omega) (by omega)).symm (fun _ _ _ _ _ _=>rfl) I.bel (fun j o' h1 h2 h3=>?_) (fun j o' h1 h2 h3=>I.one j o' h1 (oldI h1 h2 h3 (by simp)) h3) (fun j o' h1 h2 h3=>I.two j o' h1 (oldI h1 h2 h3 (by simp)) h3)⟩
  rw[<-oP hol hn fun _ _ _ _=>rfl]
  exact I.map j o' h1 (oldI h1 h2 h3 (by simp)) h3
 case assign x=>
  simp only[af,ai]at hop;obtain⟨rfl,hx⟩:=hop;cases x<;>simp at hx
  subst hx;obtain⟨k,o1,g1,g2,g3,g4⟩:=hev 34 (by simp[Op.operands])
  have hn:jQ l ⟨some 0,.assign (.tmp 34),type,pos,after,none⟩=none:=rfl;refine ev (ro:=none) (by simp) (about _ (by simp)) ?_
  rw[show(execOp a.eval ⟨some 0,.assign (.tmp 34),type,pos,after,none⟩).run Tryz.prog w= .ok (.value (.map (some r0))) w by simp[execOp,g4,o6 n34]]
  refine hK _ _ ⟨r0,b1,b2,I.put hB hol hLi hdep rfl (o6 n0 (by omega) (by omega)).symm (fun _ _ _ _ _ _=>rfl) I.bel (fun j o' h1 h2 h3=>?_) (fun j o' h1 h2 h3=>I.one j o' h1 (oldI h1 h2 h3 (by simp)) h3) (fun j o' h1 h2 h3=>I.two j o' h1 (oldI h1 h2 h3 (by simp)) h3)⟩
  rw[<-oP hol hn fun _ _ _ _=>rfl]
  exact I.map j o' h1 (oldI h1 h2 h3 (by simp)) h3
 case build t ps=>
  simp only[af]at hop;obtain⟨h1,h2⟩:=hop;split at h1
  case h_2=>simp at h1
  rename_i c hc;split at h2
  case h_2=>simp at h2
  rename_i d;simp only[af,ah,ai]at h1 h2;have hkd:jf l d=some c:=h2.2.trans hc;unfold fKo at hc;simp only at hc;split at hc
  case isFalse=>simp at hc
  rename_i htp;have htp:=ai.1 htp;split at hc<;>simp only[aa,reduceCtorEq]at hc
  rename_i x y hps;subst hc;have hps':ps= #[(0,.const (.int .i64 x)),(1,.const (.int .i64 y))]:=by rw[<-hps]
  subst hps';have hn:jQ l ⟨some d,.build t #[(0,.const (.int .i64 x)),(1,.const (.int .i64 y))],type,pos,after,none⟩=none:=rfl;have hdn:d≠1/\d≠15/\d≠17:=⟨fun e=>by subst e;rw[n1]at hkd;simp at hkd,fun e=>by subst e;rw[n15]at hkd;simp at hkd,fun e=>by subst e;rw[n17]at hkd;simp at hkd⟩
  refine ev (ro:=none) (by simp) (about _ (by simp)) ?_
  have hr:=Bp h1.1 h1.2 w
  rw[show(execOp a.eval ⟨some d,.build t #[(0,.const (.int .i64 x)),(1,.const (.int .i64 y))],type,pos,after,none⟩).run Tryz.prog w= .ok (.value (ES (x,y))) w by
   subst htp;simp only[execOp,Sem.run_bind];rw[show(#[(0,Operand.const (.int .i64 x)),(1,.const (.int .i64 y))].map fun(i,z)=>(i,a.eval z))= #[(0,Value.int .i64 x),(1,.int .i64 y)] by apply Array.ext';simp[Act.eval],hr]
   rfl]
  refine hK _ _ ⟨r0,b1,b2,I.put hB hol hLi hdep rfl (xg hkd).symm (fun _ _ _ _ _ _=>rfl) I.bel (fun j o' h1 h2 h3=>?_) (fun j o' h1 h2 h3=>I.one j o' h1 (oldI h1 h2 h3 (by simp[hdn.2.1])) h3) (fun j o' h1 h2 h3=>I.two j o' h1 (oldI h1 h2 h3 (by simp[hdn.2.2])) h3)⟩
  rw[<-oP hol hn fun _ _ _ _=>rfl]
  exact I.map j o' h1 (oldI h1 h2 h3 (by simp[hdn.1])) h3
 case makeMap t r=>
  simp only[af,ai,Option.isNone_iff_eq_none]at hop;obtain⟨⟨rfl,rfl⟩,rfl⟩:=hop;have hn:jQ l ⟨some 1,.makeMap tMo none,type,pos,after,none⟩=none:=rfl
  have hroot:∀{j:Nat} {o':Oper} {d:Nat},l[j]? =some o'->L j=true->o'.dst=some d->(d=1\/d=34\/d=0)->False:=fun{j o' d} h1 h2 h3 h4=>by
   obtain⟨k,o1,g1,g2,g3⟩:=I.root hB h1 h2 h3 h4;exact notI g1 g3 g2 rfl
  have hno:∀(j:Nat) o',l[j]? =some o'->L j=true->jQ l o'=none:=fun j o' h1 h2=>by
   cases hc:jQ l o' with
   |none=>rfl
   |some c=>
    exfalso
    obtain⟨s,x,e1,_⟩:=tP (nX hB h1).2.1 hc;obtain⟨k,o1,g1,g2,g3⟩:=I.dep hB h1 h2 (t:=1) (by rw[e1];simp[Op.operands])
    exact notI g1 g3 g2 rfl
  refine ev (ro:=none) (by simp) (about _ (by simp)) ?_
  rw[show(execOp a.eval ⟨some 1,.makeMap tMo none,type,pos,after,none⟩).run Tryz.prog w= .ok (.value (.map (some w.heap.size))) (w.alloc (.map #[] 0)) by
   simp[execOp,show(Instr.makeMap tMo none).run Tryz.prog w= .ok (.map (some w.heap.size)) (w.alloc (.map #[] 0))from rfl]]
  have hal:=MapKept.heap_alloc w (.map #[] 0);refine hK _ _ ⟨w.heap.size,b1,b2,I.put hB hol hLi hdep rfl (o6 n1 (by omega) (by omega)).symm (fun j o' d' h1 h2 h3=>?_) (I.bel.alloc hsz _) (fun j o' h1 h2 h3=>?_) (fun j o' h1 h2 h3=>?_) (fun j o' h1 h2 h3=>?_)⟩
  ·rcases(uU (nX hB h1).2.1 h3).2 with⟨k,hk'⟩|e|e|e|⟨e,_⟩|⟨e,_⟩
   ·rw[xg hk',xg hk']
   ·exact(hroot h1 h2 h3 (.inl e)).elim
   ·rw[e,w7 n15,w7 n15]
   ·rw[e,xr n17,xr n17]
   ·exact(hroot h1 h2 h3 (.inr (.inl e))).elim
   ·exact(hroot h1 h2 h3 (.inr (.inr e))).elim
  ·refine⟨hsz, #[],0,hal.1,?_⟩
   rw[AG fun j o' hj hL=>mH (by
    rw[Nat.zero_add]at hL;by_cases e:j=i
    ·subst e;rw[hol]at hj;simp only[aa]at hj;subst hj;exact hn
    ·exact hno j o' hj (by simpa[ins,e]using hL)) _ _]
   exact List.Perm.refl _
  ·obtain⟨g1,g2⟩:=I.one j o' h1 (oldI h1 h2 h3 (by simp)) h3
   exact⟨g1,by rw[hal.2 _ (Array.getElem?_eq_some_iff.1 g2).1];exact g2⟩
  ·obtain⟨g1,g2⟩:=I.two j o' h1 (oldI h1 h2 h3 (by simp)) h3
   exact⟨g1,by rw[hal.2 _ (Array.getElem?_eq_some_iff.1 g2).1];exact g2⟩
 case call c=>
  obtain⟨callee,args,argTypes⟩:=c;simp only[af]at hop;obtain⟨h1,h2⟩:=hop;split at h1
  case h_2=>simp at h1
  rename_i g;have hgf:=ai.1 h1;subst hgf;split at h2
  case h_2=>simp at h2
  rename_i n hargs;have hargs':args= #[.const (.int .i64 n)]:=by rw[<-hargs]
  subst hargs';simp only[Bool.or_eq_true,af,ai]at h2;have hn:jQ l ⟨dst,.call ⟨.value (.func R4), #[.const (.int .i64 n)],argTypes⟩,type,pos,after,none⟩=none:=rfl;have hfd:(Tryz.prog.funcs[R4]?).isSome=true:=by kernel_rfl
  have hnr:ck .i64 n:=by rcases h2 with⟨_,rfl⟩|⟨_,rfl⟩<;>simp[ck]
  have hrun:(execOp a.eval ⟨dst,.call ⟨.value (.func R4), #[.const (.int .i64 n)],argTypes⟩,type,pos,after,none⟩).run Tryz.prog w= .ok (.enter R4 #[.int .i64 n]) w:=by
   have hcb:hJ Tryz.prog R4=true:=by kernel_rfl
   obtain⟨fn,f1,f2,f3⟩:=qp hcb;simp only[execOp,resolve,Act.eval,Deferred.ofValue,Sem.run_bind,Sem.run_pure,Result.andThen_ok,invoke,callFunc,run_program,f1,f2,f3,Bool.false_eq_true,if_false];simp[Act.eval]
  refine ev (ro:=none) (by simp) (fun f hf=>by
   have:f=R4:=by
    simp only[Oper.about,resolve,Act.eval,Deferred.ofValue,Sem.run_bind,Sem.run_pure,Result.andThen_ok,Target.leads,aa]at hf;exact hf.symm
   rw[this];exact hfd) ?_
  rw[hrun];refine⟨fun h=>by simp[FF]at h,(Fh hnr w).mono fun e w' ⟨b,he,hb,hbs,hbc⟩=>?_⟩
  subst he;have hbel:Below w0.heap.size w0 w':=⟨hb.os.trans I.bel.os,hb.tape.trans I.bel.tape,hb.output.trans I.bel.output,Nat.le_trans I.bel.size hb.size,fun c hc=>by rw[hb.block c (by omega)];exact I.bel.block c hc⟩
  have old:∀c x,w.heap[c]? =some x->w'.heap[c]? =some x:=fun c x h=>by rw[hb.block c (Array.getElem?_eq_some_iff.1 h).1];exact h
  have slotOf:∀(s:Nat),dst=some s->∀(j:Nat) o',l[j]? =some o'->L j=true->∀t m k,o'.op= .insert t m k (.tmp s)->False:=fun s hs j o' h1 h2 t m k h3=>by
   obtain⟨k,o1,g1,g2,g3⟩:=I.dep hB h1 h2 (t:=s) (by rw[h3];simp[Op.operands])
   exact notI g1 g3 g2 hs
  have cIns_ne:∀(c1 c2:Nat),(dst=some 15/\c2=b2\/dst=some 17/\c1=b1)->∀(j:Nat) o',l[j]? =some o'->L j=true->ub l b1 b2 o'=ub l c1 c2 o':=fun c1 c2 hc j o' h1 h2=>by
   cases hk':jQ l o' with
   |none=>rw[mH hk',mH hk']
   |some q=>
    obtain⟨s,x,e1,_,_,e4⟩:=tP (nX hB h1).2.1 hk';rw[wY hk' _ _ e1,wY hk' _ _ e1];rcases e4 with⟨g,rfl⟩|rfl|rfl
    ·rfl
    ·rcases hc with⟨hc,_⟩|⟨_,rfl⟩
     ·exact(slotOf 15 hc j o' h1 h2 _ _ _ e1).elim
     ·rfl
    ·rcases hc with⟨_,rfl⟩|⟨hc,_⟩
     ·rfl
     ·exact(slotOf 17 hc j o' h1 h2 _ _ _ e1).elim
  rcases h2 with⟨rfl,rfl⟩|⟨rfl,rfl⟩
  ·refine hK _ _ ⟨r0,b,b2,I.put hB hol hLi hdep rfl (w7 n15).symm (fun j o' d' h1 h2 h3=>?_) hbel (fun j o' h1 h2 h3=>?_) (fun j o' h1 h2 h3=>⟨Nat.le_trans hsz hbs,hbc⟩) (fun j o' h1 h2 h3=>?_)⟩
   ·by_cases e:d'=15
    ·subst e;exact(notI h1 h2 h3 rfl).elim
    ·unfold Fe;simp[e]
   ·obtain⟨g1,es,cl,g2,g3⟩:=I.map j o' h1 (oldI h1 h2 h3 (by simp)) h3
    exact⟨g1,es,cl,old _ _ g2,by rw[<-oP hol hn (cIns_ne b b2 (.inl ⟨rfl,rfl⟩))];exact g3⟩
   ·obtain⟨g1,g2⟩:=I.two j o' h1 (oldI h1 h2 h3 (by simp)) h3
    exact⟨g1,old _ _ g2⟩
  ·refine hK _ _ ⟨r0,b1,b,I.put hB hol hLi hdep rfl (xr n17).symm (fun j o' d' h1 h2 h3=>?_) hbel (fun j o' h1 h2 h3=>?_) (fun j o' h1 h2 h3=>?_) (fun j o' h1 h2 h3=>⟨Nat.le_trans hsz hbs,hbc⟩)⟩
   ·by_cases e:d'=17
    ·subst e;exact(notI h1 h2 h3 rfl).elim
    ·unfold Fe;simp[e]
   ·obtain⟨g1,es,cl,g2,g3⟩:=I.map j o' h1 (oldI h1 h2 h3 (by simp)) h3
    exact⟨g1,es,cl,old _ _ g2,by rw[<-oP hol hn (cIns_ne b1 b (.inr ⟨rfl,rfl⟩))];exact g3⟩
   ·obtain⟨g1,g2⟩:=I.one j o' h1 (oldI h1 h2 h3 (by simp)) h3
    exact⟨g1,old _ _ g2⟩
 case insert t m k x=>
  have hck:∃c,jQ l ⟨dst,.insert t m k x,type,pos,after,none⟩=some c:=by
   simp only[af]at hop;obtain⟨⟨_,hs⟩,_⟩:=hop;cases k<;>simp at hs
   exact Option.isSome_iff_exists.1 hs
  obtain⟨c,hck⟩:=hck;obtain⟨s,x',e1,e2,e3,e4⟩:=tP (o:=⟨dst,.insert t m k x,type,pos,after,none⟩) hop hck;simp only[Op.insert.injEq]at e1;obtain⟨rfl,rfl,rfl,rfl⟩:=e1;simp only at e2;subst e2;obtain⟨k1,o1,g1,g2,g3,g4⟩:=hev 1 (by simp[Op.operands])
  obtain⟨k2,o2,q1,q2,q3,q4⟩:=hev s (by simp[Op.operands])
  rw[o6 n1 (by omega) (by omega)]at g4
  rw[xg e3]at q4
  have hx:a.eval x=Ed b1 b2 x:=by
   rcases e4 with⟨g,rfl⟩|rfl|rfl
   ·rfl
   ·obtain⟨_,_,_,_,_,h⟩:=hev 15 (by simp[Op.operands])
    rw[h,w7 n15];rfl
   ·obtain⟨_,_,_,_,_,h⟩:=hev 17 (by simp[Op.operands])
    rw[h,xr n17];rfl
  obtain⟨m1,es,cl,m2,m3⟩:=I.map k1 o1 g1 g3 g2
  have hmem:∀e∈es.toList,∃(j:Nat) (o':Oper) (c':Int×Int),l[j]? =some o'/\L j=true/\jQ l o'=some c'/\e.key=ES c':=fun e he=>by
   have:=m3.mem_iff.1 (List.mem_map.2 ⟨e,he,rfl⟩);obtain⟨j,o',h1,h2,h3⟩:=Dx this;rw[Nat.zero_add]at h2;cases hc:jQ l o' with
   |none=>rw[mH hc]at h3;simp at h3
   |some c'=>
    obtain⟨s',x',f1,_⟩:=tP (nX hB h1).2.1 hc;rw[wY hc _ _ f1]at h3;simp only[aa,ae]at h3;exact⟨j,o',c',h1,h2,hc,h3.1.symm⟩
  have hwide:oz Tryz.prog Y4 2=true:=by kernel_rfl
  have hum:Tryz.prog.underlying tMo=some (.map Y4 171):=by kernel_rfl
  obtain⟨r,f1,f2⟩:=mj (x:= [c.1,c.2]) hwide rfl w es.toList fun e he=>by
   obtain⟨_,_,c',_,_,_,h⟩:=hmem e he;exact⟨[c'.1,c'.2],rfl,h⟩
  have hr:r=none:=by
   rcases f2 with⟨h,_⟩|⟨j,e,rfl,h1,h2⟩
   ·exact h
   ·exfalso
    obtain⟨j',o',c',h3,h4,h5,h6⟩:=hmem e (List.mem_of_getElem? h1);have:c'=c:=Q9 (h6.symm.trans h2);subst this;have:=pU hk h3 hol h5 hck;rw[this,hLi]at h4;simp at h4
  subst hr;have hck2:=mU (P:=Tryz.prog) (a:= [c.1,c.2]) hwide rfl false w;have hset:=MapKept.heap_set (w:=w) (r:=r0) (o':= .map (es.push {key:=ES c,val:=Ed b1 b2 x,born:=cl}) (cl+1)) m2
  have hrun:(execOp a.eval ⟨none,.insert tMo (.tmp 1) (.tmp s) x,type,pos,after,none⟩).run Tryz.prog w= .ok .skip {w with heap:=w.heap.setIfInBounds r0 (.map (es.push {key:=ES c,val:=Ed b1 b2 x,born:=cl}) (cl+1))}:=by
   have:(Instr.mapUpdate tMo (.map (some r0)) (ES c) (Ed b1 b2 x)).run Tryz.prog w= .ok () {w with heap:=w.heap.setIfInBounds r0 (.map (es.push {key:=ES c,val:=Ed b1 b2 x,born:=cl}) (cl+1))}:=by
    rw[Vx];simp only[Instr.mapUpdate,Sem.run_bind,bD w hum,Result.andThen_ok,MapKept.run_getObj_map m2,hck2,f1,MapKept.run_setObj_map _ m2]
   simp[execOp,g4,q4,hx,this]
  refine ev (ro:=none) (by simp) (about _ (by simp)) ?_
  rw[hrun];have hci:=wY hck b1 b2 (rfl:(⟨none,.insert tMo (.tmp 1) (.tmp s) x,type,pos,after,none⟩:Oper).op=_);have hp:=DU (l:=l) (b1:=b1) (b2:=b2) hLi (m:=l) (i:=0) hol (by omega) hci
  have old:∀b cs t,w.heap[b]? =some (Go.Obj.cells cs t (0,0))->(w.heap.setIfInBounds r0 (Go.Obj.map (es.push {key:=ES c,val:=Ed b1 b2 x,born:=cl}) (cl+1)))[b]? =some (Go.Obj.cells cs t (0,0)):=fun b cs t h=>by
   rw[hset.2 b fun e=>by rw[e,m2]at h;simp at h]
   exact h
  refine hK _ _ ⟨r0,b1,b2,I.sz,I.df,fun j o' d' h1 h2 h3=>I.tmp j o' d' h1 (oldI h1 h2 h3 (by simp)) h3,⟨I.bel.os,I.bel.tape,I.bel.output,by simpa using hsz,fun b hb=>?_⟩,fun j o' h1 h2 e he hbi=>?_,fun j o' h1 h2 h3=>⟨m1,_,_,hset.1,?_⟩,fun j o' h1 h2 h3=>?_,fun j o' h1 h2 h3=>?_⟩
  ·show(w.heap.setIfInBounds r0 _)[b]? =_
   rw[hset.2 b (by omega)]
   exact I.bel.block b hb
  ·by_cases hji:j=i
   ·subst hji;rw[hol]at h1;simp only[aa]at h1;subst h1;simp[ins,hdep e he hbi]
   ·have hLj:L j=true:=by simpa[ins,hji]using h2
    simp[ins,I.down j o' h1 hLj e he hbi]
  ·simp only[Array.toList_push,List.map_append,List.map_cons,List.map_nil];exact(List.Perm.append_right _ m3).trans hp.symm
  ·obtain⟨u1,u2⟩:=I.one j o' h1 (oldI h1 h2 h3 (by simp)) h3
   exact⟨u1,old _ _ _ u2⟩
  ·obtain⟨u1,u2⟩:=I.two j o' h1 (oldI h1 h2 h3 (by simp)) h3
   exact⟨u1,old _ _ _ u2⟩
def QG(n:Nat):Code->Option (Array Oper)
 | .region i ops _=>if i==n then some ops else none
 | .seq a b=>(QG n a).orElse fun _=>QG n b
 |_=>none
abbrev fOd:Nat:=113
noncomputable abbrev L7:Func:=Tryz.f113
noncomputable def od0:Array Oper:=(L7.body.bind (QG 0)).getD #[]
noncomputable def CE:Array Oper:=(L7.body.bind (QG 1)).getD #[]
theorem TO:L7.body=some (.seq (.region 0 od0 false) (.seq (.region 1 CE true) .ret)):=by kernel_rfl
theorem Si:od0.size=1/\∃o,od0[0]? =some o/\o.guard=none/\o.dst=some 0/\o.op= .assign (.const (.map none)):=⟨by kernel_rfl,_,rfl,rfl,rfl,rfl⟩
theorem BE:vT CE.toList=true:=by kernel_rfl
theorem MQ:(H7 CE.toList).Nodup:=ak (by kernel_rfl)
theorem TM(b1 b2:Nat):mP CE.toList b1 b2 (fun _=>true) 0 CE.toList=(([[1,1],[2,1],[2,2],[2,3],[2,4],[2,5],[2,6],[3,1],[3,2],[3,3],[3,4],[3,5],[4,1],[4,2],[4,3],[4,4],[4,5],[4,6],[5,1],[5,2],[5,3],[5,4],[5,5],[5,6],[5,7],[8,1],[8,2],[8,3],[9,1],[10,1]]:List (List Int)).map fw).zip
  (match G8 0 with| (.mq _ vs)::_=>bI (((Env.zero.bC 0 0).bC 1 b1).bC 2 b2) vs|_=> []):=by kernel_rfl
theorem SA[Fen]:aL Tryz.prog fOd [] [] (xW [0,1,2] odX G8) (fun _ _=>False):=by
 intro J fps w0 F0 w hH hargs;refine callsIn_of_wp_marks (fn:=L7) (by kernel_rfl) TO (fun _=>by show(Tryz.prog.funcs[fOd]?).isSome=true;kernel_rfl) ?_
 refine wpIn_mono (P:=Tryz.prog) (Q:=jh J [] w0 F0 (finish (Ur [] [] cg bj).toCtx (fun _ _ _ _=>False) L7 (xW [0,1,2] odX G8) (fun _ _=>False))) ?_ fun e a w hp=>wq (C:=(Ur [] [] cg bj).toCtx) (zU (by simp)) (fun _ _ _ _ _ _ _ _ h=>h.elim) hp
 refine wpIn_seq (wpIn_region ?_);obtain⟨z1,o,z2,z3,z4,z5⟩:=Si;rw[z1];refine cF (P:=Tryz.prog) z2 z3 (v:= .map none) (w':=w) (by simp[execOp,z5,Act.eval]) (by intro c;rw[z5];simp) ?_
 rw[z4];show Code.wpIn _ _ _ _ _ _ _
 refine wpIn_seq (wpIn_region_any (by kernel_rfl) ?_)
 generalize hA:Act.put _ _ _=A
 have hsz:A.tmps.size=35:=by subst hA;rw[b7];simp[bI]
 have hdf:A.defers= []:=by subst hA;rfl
 refine SS (fun L a w'=>∃r0 b1 b2,zI CE.toList {w with drawn:=w.drawn+1} L a w' r0 b1 b2) (fun i o h e he hb=>?_) (Pt rfl BE MQ) (fun L a w' hall hI=>?_) _ _ _ _ (by simp) ?_ ⟨0,0,0,?_⟩
 ·have h1:=BE;unfold vT at h1;simp only[af]at h1;have:=DH h1.1.1.1.1.1.1.2 i o (by simpa using h) e he hb
  omega
 ·obtain⟨r0,b1,b2,I⟩:=hI
  have hat:∀(i:Nat) (d:Nat),(∃o,CE.toList[i]? =some o/\o.dst=some d)->∃o,CE.toList[i]? =some o/\L i=true/\o.dst=some d:=fun i d ⟨o,h1,h2⟩=>⟨o,h1,hall i (by
   have:=(List.getElem?_eq_some_iff.1 h1).1;simpa using this),h2⟩
  obtain⟨o1,p1,p2,p3⟩:=hat 0 1 ⟨_,rfl,rfl⟩;obtain⟨o2,q1,q2,q3⟩:=hat 26 15 ⟨_,rfl,rfl⟩;obtain⟨o3,s1,s2,s3⟩:=hat 29 17 ⟨_,rfl,rfl⟩;obtain⟨o4,t1,t2,t3⟩:=hat 64 0 ⟨_,rfl,rfl⟩;obtain⟨m1,es,cl,m2,m3⟩:=I.map 0 o1 p1 p2 p3;obtain⟨u1,u2⟩:=I.one 26 o2 q1 q2 q3;obtain⟨v1,v2⟩:=I.two 29 o3 s1 s2 s3;have ht:=I.tmp 64 o4 0 t1 t2 t3;rw[o6 (Bx BE).2.2.2.2 (by omega) (by omega)]at ht
  have hL:mP CE.toList b1 b2 L 0 CE.toList=mP CE.toList b1 b2 (fun _=>true) 0 CE.toList:=pc fun j o h _=>⟨by
   rw[Nat.zero_add];exact hall j (by have:=(List.getElem?_eq_some_iff.1 h).1;simpa using this),fun _=>rfl⟩
  rw[hL,TM]at m3;refine wpIn_ret ?_;have hne1:r0≠b1:=fun e=>by rw[e,u2]at m2;simp at m2
  have hne2:r0≠b2:=fun e=>by rw[e,v2]at m2;simp at m2
  have hne3:b1≠b2:=fun e=>by rw[e,v2]at u2;simp at u2
  have hbel:Below w.heap.size w w':=⟨I.bel.os,I.bel.tape,I.bel.output,I.bel.size,I.bel.block⟩;have hnk:∀i,¬known ([]:List aQ) i:=fun i h=>by simp[known,aN]at h
  have hkn:∀i,known (G8 0) i↔i<3:=fun i=>by
   unfold known G8;rcases i with _|_|_|i<;>simp[aN]
  have hgrow:kW (known []) J (((J.bC 0 r0).bC 1 b1).bC 2 b2) 0 (G8 0) w0 F0 w w':=by
   refine⟨hbel,fun j hj=>?_,fun k b=>b=(((J.bC 0 r0).bC 1 b1).bC 2 b2).num k,fun k hk=>?_,fun k l b hk hl hne h1 h2=>?_⟩
   ·have:¬j<3:=fun h=>hj ⟨by omega,by show j<0+3;omega⟩
    have e0:j≠0:=by omega
    have e1:j≠1:=by omega
    have e2:j≠2:=by omega
    simp[Env.bC,e0,e1,e2]
   ·have hk3:k<3:=hk;rw[Nat.zero_add];rcases k with _|_|_|k
    ·refine⟨⟨rfl,?_,?_,⟨rfl,ak (by kernel_rfl)⟩,es,cl,?_,?_⟩,fun b hb=>?_⟩
     ·simp[fc,ok,fresh,G8]
     ·simp[qg]
     ·simpa[Env.bC]using m2
     ·exact m3
     ·have:b=r0:=by simpa[Env.bC]using hb
      subst this;exact⟨m1,(Array.getElem?_eq_some_iff.1 m2).1⟩
    ·refine⟨⟨by simp[ok,ck],rfl,rfl,?_⟩,fun b hb=>?_⟩
     ·simpa[Env.bC,cells,den,Value.cells]using u2
     ·have:b=b1:=by simpa[Env.bC]using hb
      subst this;exact⟨u1,(Array.getElem?_eq_some_iff.1 u2).1⟩
    ·refine⟨⟨by simp[ok,ck],rfl,rfl,?_⟩,fun b hb=>?_⟩
     ·simpa[Env.bC,cells,den,Value.cells]using v2
     ·have:b=b2:=by simpa[Env.bC]using hb
      subst this;exact⟨v1,(Array.getElem?_eq_some_iff.1 v2).1⟩
    ·omega
   ·have hk3:k<3:=hk;have hl3:l<3:=hl;rcases k with _|_|_|k<;>rcases l with _|_|_|l<;>first|omega| (simp[Env.bC]at h1 h2;subst h1;first|exact hne1 h2|exact hne1 h2.symm|exact hne2 h2|exact hne2 h2.symm|exact hne3 h2|exact hne3 h2.symm)
  obtain⟨fps',hr,hag⟩:=hH.grow (res':=G8 0) (K':=known (G8 0)) ⟨fun i hi=>(hnk i hi).elim,fun i hi=> .inr ⟨by omega,by show i<0+3;have:=(hkn i).1 hi;omega⟩,fun k hk=>by rw[Nat.zero_add]⟩ (fun i hi=>(hnk i hi).elim)
   (fun i hi=>by
    rcases hi with hi|⟨_,hi⟩
    ·exact(hnk i hi).elim
    ·exact(hkn i).2 (by simpa[G8]using hi)) hgrow
  refine⟨.ret,{slots:= .v (.mp 0)::List.replicate 34 .und,res:=G8 0,defs:= []},_,fps',trivial,?_,⟨⟨by simp[I.sz],fun t=>?_⟩,hr,by rw[I.df];rfl,by simp⟩,hag,fun i hi=>(hnk i hi).elim⟩
  ·exact Eq.mp (by kernel_rfl:xW [0,1,2] odX G8 (.mp 0) (G8 0)=_) (fun nid=>⟨rfl,rfl⟩)
  ·cases t with
   |zero=>exact⟨by rw[ht];simp[den,Env.bC],(hkn 0).2 (by omega)⟩
   |succ t=>
    have:b9 (S.v (V.mp 0)::List.replicate 34 S.und) (t+1)= .und:=by
     rw[ku,an,List.getElem?_cons_succ,List.getElem?_replicate];split<;>rfl
    rw[this];trivial
 ·have:FO (Array.replicate CE.size false) CE.size<=CE.size:=by
   have:=List.length_filter_le (fun k=> !(Array.replicate CE.size false).getD k false) (List.range CE.size)
   simpa[FO]using this
  exact this
 ·have hfalse:∀k,(Array.replicate CE.size false).getD k false=false:=fun k=>by
   simp only[Array.getD_eq_getD_getElem?,Array.getElem?_replicate];split<;>rfl
  exact⟨hsz,hdf,fun i o d _ h=>by simp only[hfalse]at h;simp at h,Below.refl _ _,fun i o _ h=>by simp only[hfalse]at h;simp at h,fun i o _ h=>by simp only[hfalse]at h;simp at h,fun i o _ h=>by simp only[hfalse]at h;simp at h,fun i o _ h=>by simp only[hfalse]at h;simp at h⟩
theorem de[Fen]:dq Tryz.prog fOd (zR odX G8):=uy (π:= [0,1,2]) (by decide) (fun _=>rfl) SA
theorem Lk(L:List Sx.Obj)(n:Int)(k:Key)(m:bP)(hL:aP L)(hs:aR m.data):
 true=true/\true=true/\true=true/\true=true/\true=true/\(bP.mk 0 eB void void (Key.mk 1 void.oid void.count void.call void.rights k.value),L)=aY L n (kk 1 k) (mm 1 m):=by
 simp+decide [aY,dZ,ey,ee,fh,jv,iY,jt,gU,er,dP,gk,gJ,gf,iX,dV,void,eV,eB,bH,fS,fJ,fR,kk,mm,hL,hs];try grind
theorem MP[Fen](L:List Sx.Obj)(n:Int)(k:Key)(m:bP)(hL:aP L)(hs:aR m.data):aL Tryz.prog 94 [.lp 0 0] [.ro (.blk oa (hU (.ci .i64 1) m n (.ci .i64 1) k)),.store tS eS L] (kO (aY L n ((kk 1 k)) ((mm 1 m)))) (fun _ _=>False):=
 bk (inl:=(abE (132::abF))) (ann:=bj) (aH de aO) aU (ep bY) (Lk L n k m hL hs) (by kernel_rfl)
theorem NO(L:List Sx.Obj)(n:Int)(k:Key)(m:bP)(hL:aP L)(hs:aR m.data):
 aw (aw (aw (aw (aw (aw (au (!decide (m.k2.kind=1)) ((bP.mk 240 eB void void void,L)=aY L n (kk 2 k) (mm 1 m)) (au (decide (m.k2.value<0)||decide (2147483647<m.k2.value)) (aw (aw (aw (au (!decide (dC L (kk 2 k) (-1)=0)) ((bP.mk (dC L (kk 2 k) (-1)) eB void void void,L)=aY L n (kk 2 k) (mm 1 m)) ((bP.mk 0 eB (bd L (kk 2 k) (-1)) void void,L)=aY L n (kk 2 k) (mm 1 m)))))) (aw (aw (aw (au (!decide (dC L (kk 2 k) m.k2.value=0)) ((bP.mk (dC L (kk 2 k) m.k2.value) eB void void void,L)=aY L n (kk 2 k) (mm 1 m)) ((bP.mk 0 eB (bd L (kk 2 k) m.k2.value) void void,L)=aY L n (kk 2 k) (mm 1 m))))))))))))):=by
 delta au aw
 simp+decide [aY,dZ,ey,ee,fh,jv,iY,jt,gU,er,dP,gk,gJ,gf,iX,dV,void,eV,eB,bH,fS,fJ,fR,kk,mm,hL,hs];try grind
theorem NY[Fen](L:List Sx.Obj)(n:Int)(k:Key)(m:bP)(hL:aP L)(hs:aR m.data):aL Tryz.prog 94 [.lp 0 0] [.ro (.blk oa (hU (.ci .i64 1) m n (.ci .i64 2) k)),.store tS eS L] (kO (aY L n ((kk 2 k)) ((mm 1 m)))) (fun _ _=>False):=
 bk (inl:=(abE (134::abF))) (ann:=bj) (aH rR (aH de aO)) aU (ep bY) (NO L n k m hL hs) (by kernel_rfl)
theorem Oe(L:List Sx.Obj)(n:Int)(k:Key)(m:bP)(hL:aP L)(hs:aR m.data):
 aw (aw (aw (aw (aw (aw (au (!decide (m.k2.kind=1)) ((bP.mk 240 eB void void void,L)=aY L n (kk 2 k) (mm 2 m)) (au (decide (m.k2.value<0)||decide (2147483647<m.k2.value)) (aw (aP L/\aw (aw (aw (au (!decide (b8 L (kk 2 k) (-1) m.k0=0)) ((bP.mk (b8 L (kk 2 k) (-1) m.k0) eB void void void,eJ L (kk 2 k) (-1) m.k0)=aY L n (kk 2 k) (mm 2 m)) ((bP.mk 0 eB (fl L (kk 2 k) (-1) m.k0) void void,eJ L (kk 2 k) (-1) m.k0)=aY L n (kk 2 k) (mm 2 m))))))) (aw (aP L/\aw (aw (aw (au (!decide (b8 L (kk 2 k) m.k2.value m.k0=0)) ((bP.mk (b8 L (kk 2 k) m.k2.value m.k0) eB void void void,eJ L (kk 2 k) m.k2.value m.k0)=aY L n (kk 2 k) (mm 2 m)) ((bP.mk 0 eB (fl L (kk 2 k) m.k2.value m.k0) void void,eJ L (kk 2 k) m.k2.value m.k0)=aY L n (kk 2 k) (mm 2 m)))))))))))))):=by
 delta au aw
 simp+decide [aY,dZ,ey,ee,fh,jv,iY,jt,gU,er,dP,gk,gJ,gf,iX,dV,void,eV,eB,bH,fS,fJ,fR,kk,mm,hL,hs];try grind
theorem PA[Fen](L:List Sx.Obj)(n:Int)(k:Key)(m:bP)(hL:aP L)(hs:aR m.data):aL Tryz.prog 94 [.lp 0 0] [.ro (.blk oa (hU (.ci .i64 2) m n (.ci .i64 2) k)),.store tS eS L] (kO (aY L n ((kk 2 k)) ((mm 2 m)))) (fun _ _=>False):=
 bk (inl:=(abE (138::abF))) (ann:=bj) (aH de aO) (aV Hz aU) (ep bY) (Oe L n k m hL hs) (by kernel_rfl)
theorem OG(L:List Sx.Obj)(n:Int)(k:Key)(m:bP)(hL:aP L)(hs:aR m.data):
 aw (aw (aw (aw (aP L/\aw (aw (au (!decide (br L (kk 2 k) 2 true=0)) ((bP.mk (br L (kk 2 k) 2 true) eB void void void,gV L (kk 2 k))=aY L n (kk 2 k) (mm 3 m)) ((bP.mk 0 eB void void void,gV L (kk 2 k))=aY L n (kk 2 k) (mm 3 m)))))))):=by
 delta au aw
 simp+decide [aY,dZ,ey,ee,fh,jv,iY,jt,gU,er,dP,gk,gJ,gf,iX,dV,void,eV,eB,bH,fS,fJ,fR,kk,mm,hL,hs];try grind
theorem L2[Fen](L:List Sx.Obj)(n:Int)(k:Key)(m:bP)(hL:aP L)(hs:aR m.data):aL Tryz.prog 94 [.lp 0 0] [.ro (.blk oa (hU (.ci .i64 3) m n (.ci .i64 2) k)),.store tS eS L] (kO (aY L n ((kk 2 k)) ((mm 3 m)))) (fun _ _=>False):=
 bk (inl:=(abE (140::abF))) (ann:=bj) (aH de aO) (aV Tp aU) (ep bY) (OG L n k m hL hs) (by kernel_rfl)
theorem MY(L:List Sx.Obj)(n:Int)(k:Key)(m:bP)(hL:aP L)(hs:aR m.data):
 aw (aw (aw (aw (aP L/\aw (aw (au (!decide (dh L (kk 2 k) m.k0=0)) ((bP.mk (dh L (kk 2 k) m.k0) eB void void void,gu L (kk 2 k) m.k0)=aY L n (kk 2 k) (mm 4 m)) ((bP.mk 0 eB void void void,gu L (kk 2 k) m.k0)=aY L n (kk 2 k) (mm 4 m)))))))):=by
 delta au aw
 simp+decide [aY,dZ,ey,ee,fh,jv,iY,jt,gU,er,dP,gk,gJ,gf,iX,dV,void,eV,eB,bH,fS,fJ,fR,kk,mm,hL,hs];try grind
theorem LO[Fen](L:List Sx.Obj)(n:Int)(k:Key)(m:bP)(hL:aP L)(hs:aR m.data):aL Tryz.prog 94 [.lp 0 0] [.ro (.blk oa (hU (.ci .i64 4) m n (.ci .i64 2) k)),.store tS eS L] (kO (aY L n ((kk 2 k)) ((mm 4 m)))) (fun _ _=>False):=
 bk (inl:=(abE (143::abF))) (ann:=bj) (aH de aO) (aV Rn aU) (ep bY) (MY L n k m hL hs) (by kernel_rfl)
theorem KG(L:List Sx.Obj)(n:Int)(k:Key)(m:bP)(hL:aP L)(hs:aR m.data)(hk:bc (kk 2 k)=true):
 aw (aw (aw (aw (aw (au (!decide (m.k2.kind=1)) ((bP.mk 240 eB void void void,L)=aY L n (kk 2 k) (mm 5 m)) (aw (au (!(decide (0<=m.k2.value)&&decide (m.k2.value<=7))) ((bP.mk 2 eB void void void,L)=aY L n (kk 2 k) (mm 5 m)) (w8 (kk 2 k) m.k2.value/\aw (aw (aw ((bP.mk 0 eB (pq (kk 2 k) m.k2.value) void void,L)=aY L n (kk 2 k) (mm 5 m)))))))))))):=by
 delta au aw
 have hX:aY L n (kk 2 k) (mm 5 m)=if m.k2.kind=1 then(if 0<=m.k2.value/\m.k2.value<=7 then(gk (pq (kk 2 k) m.k2.value),L)else(gf 2,L))else(gf 240,L):=by
  by_cases h1:m.k2.kind=1
  ·by_cases h2:0<=m.k2.value/\m.k2.value<=7
   ·simp+decide [aY,dZ,ey,ee,fh,jv,iY,jt,gU,er,dP,gk,gJ,gf,iX,dV,void,eV,eB,bH,fS,fJ,fR,kk,mm,h1,h2]
   ·simp+decide [aY,dZ,ey,ee,fh,jv,iY,jt,gU,er,dP,gk,gJ,gf,iX,dV,void,eV,eB,bH,fS,fJ,fR,kk,mm,h1,h2]
  ·simp+decide [aY,dZ,ey,ee,fh,jv,iY,jt,gU,er,dP,gk,gJ,gf,iX,dV,void,eV,eB,bH,fS,fJ,fR,kk,mm,h1]
 rw[hX];refine⟨rfl,rfl,rfl,rfl,rfl,fun h=>?_,fun h=>⟨rfl,fun h'=>?_,fun h'=>⟨⟨hk,?_⟩,rfl,rfl,rfl,?_⟩⟩⟩
 ·have h:¬m.k2.kind=1:=by simpa using h
  rw[aq h];rfl
 ·have h:m.k2.kind=1:=by simpa using h
  have h':¬(0<=m.k2.value/\m.k2.value<=7):=fun hh=>by simp[hh.1,hh.2]at h'
  rw[ar h,aq h'];rfl
 ·simpa using h'
 ·have h:m.k2.kind=1:=by simpa using h
  have h':0<=m.k2.value/\m.k2.value<=7:=by simpa using h'
  rw[ar h,ar h'];rfl
theorem Ks[Fen](L:List Sx.Obj)(n:Int)(k:Key)(m:bP)(hL:aP L)(hs:aR m.data)(hk:bc (kk 2 k)=true):aL Tryz.prog 94 [.lp 0 0] [.ro (.blk oa (hU (.ci .i64 5) m n (.ci .i64 2) k)),.store tS eS L] (kO (aY L n ((kk 2 k)) ((mm 5 m)))) (fun _ _=>False):=
 bk (inl:=(abE (145::abF))) (ann:=bj) (aH DF (aH de aO)) aU (ep bY) (KG L n k m hL hs hk) (by kernel_rfl)
theorem Ny(L:List Sx.Obj)(n:Int)(k:Key)(m:bP)(hL:aP L)(hs:aR m.data):
 aw (aw (aw (aw (au (!decide (k.rights=0)) ((bP.mk 191 eB void void void,L)=aY L n (kk 2 k) (mm 6 m)) (aw (aw (aw ((bP.mk 0 eB (aB 5 k void.value) void void,L)=aY L n (kk 2 k) (mm 6 m))))))))):=by
 delta au aB aw
 simp+decide [aY,dZ,ey,ee,fh,jv,iY,jt,gU,er,dP,gk,gJ,gf,iX,dV,void,eV,eB,bH,fS,fJ,fR,kk,mm,hL,hs];try grind
theorem LK[Fen](L:List Sx.Obj)(n:Int)(k:Key)(m:bP)(hL:aP L)(hs:aR m.data):aL Tryz.prog 94 [.lp 0 0] [.ro (.blk oa (hU (.ci .i64 6) m n (.ci .i64 2) k)),.store tS eS L] (kO (aY L n ((kk 2 k)) ((mm 6 m)))) (fun _ _=>False):=
 bk (inl:=(abE (146::abF))) (ann:=bj) (aH de aO) aU (ep bY) (Ny L n k m hL hs) (by kernel_rfl)
abbrev aaO:=imax 0 (lN 32 (Int.ofNat (64+Nat.succ 0)))
theorem Pw(L:List Sx.Obj)(n:Int)(k:Key)(m:bP)(hL:aP L)(hs:aR m.data):
 aw (aw (aw (aw (aw (aw (au (!decide (m.k2.kind=1)) ((bP.mk 240 eB void void void,L)=aY L n (kk 3 k) (mm 1 m)) (au (decide (m.k2.value<0)||decide (2147483647<m.k2.value)) (aw (aw (aw (au (!decide (cX L (kk 3 k) (-1) aaO=0)) ((bP.mk (cX L (kk 3 k) (-1) aaO) eB void void void,L)=aY L n (kk 3 k) (mm 1 m)) ((bP.mk 0 (eP L (kk 3 k) (-1) aaO) void void void,L)=aY L n (kk 3 k) (mm 1 m)))))) (bg IntKind.i64 (64-m.k2.value)/\aw (aw (aw (au (!decide (cX L (kk 3 k) m.k2.value (imax 0 (lN 32 (64-m.k2.value)))=0)) ((bP.mk (cX L (kk 3 k) m.k2.value (imax 0 (lN 32 (64-m.k2.value)))) eB void void void,L)=aY L n (kk 3 k) (mm 1 m)) ((bP.mk 0 (eP L (kk 3 k) m.k2.value (imax 0 (lN 32 (64-m.k2.value)))) void void void,L)=aY L n (kk 3 k) (mm 1 m))))))))))))):=by
 delta au aaO aw
 have hX:aY L n (kk 3 k) (mm 1 m)=if m.k2.kind=1 then(if cX L (kk 3 k) (bH m) (wc (bH m))=0 then(iX (eP L (kk 3 k) (bH m) (wc (bH m))),L)else(gf (cX L (kk 3 k) (bH m) (wc (bH m))),L))else(gf 240,L):=by
  by_cases h1:m.k2.kind=1
  ·by_cases h2:cX L (kk 3 k) (bH m) (wc (bH m))=0
   ·simp+decide [aY,dZ,ey,ee,fh,iY,dP,show(kk 3 k).kind=3 from rfl,show(mm 1 m).code=1 from rfl,show(mm 1 m).k2=m.k2 from rfl,show bH (mm 1 m)=bH m from rfl,h1,h2]
   ·simp+decide [aY,dZ,ey,ee,fh,iY,dP,show(kk 3 k).kind=3 from rfl,show(mm 1 m).code=1 from rfl,show(mm 1 m).k2=m.k2 from rfl,show bH (mm 1 m)=bH m from rfl,h1,h2]
  ·simp+decide [aY,dZ,ey,ee,dP,er,show(kk 3 k).kind=3 from rfl,show(mm 1 m).code=1 from rfl,show(mm 1 m).k2=m.k2 from rfl,h1,eV,gf]
 rw[hX];have e1:∀s,bP.mk 0 s void void void=iX s:=fun _=>rfl
 have e2:∀c,bP.mk c eB void void void=gf c:=fun _=>rfl
 simp only[e1,e2];by_cases h1:m.k2.kind=1
 ·by_cases h2:0<=m.k2.value/\m.k2.value<=2147483647
  ·have hN:bH m=m.k2.value:=by unfold bH;rw[ar h2]
   have hR:wc m.k2.value=imax 0 (lN 32 (64-m.k2.value)):=rfl;have hr:bg .i64 (64-m.k2.value):=by simp only[bg,ck];omega
   rw[hN,hR];simp[h1,h2,hr];grind
  ·have hN:bH m= -1:=by unfold bH;rw[aq h2]
   have hR:wc (-1)=imax 0 (lN 32 65):=rfl;rw[hN,hR];simp[h1];grind
 ·simp[h1]
theorem LC[Fen](L:List Sx.Obj)(n:Int)(k:Key)(m:bP)(hL:aP L)(hs:aR m.data):aL Tryz.prog 94 [.lp 0 0] [.ro (.blk oa (hU (.ci .i64 1) m n (.ci .i64 3) k)),.store tS eS L] (kO (aY L n ((kk 3 k)) ((mm 1 m)))) (fun _ _=>False):=
 bk (inl:=(abE (147::abF))) (ann:=bj) (aH oL (aH de aO)) aU (ep bY) (Pw L n k m hL hs) (by kernel_rfl)
theorem NJ(L:List Sx.Obj)(n:Int)(k:Key)(m:bP)(hL:aP L)(hs:aR m.data):
 aw (aw (aw (aw (aw (aw (au (!decide (m.k2.kind=1)) ((bP.mk 240 eB void void void,L)=aY L n (kk 3 k) (mm 2 m)) (au (decide (m.k2.value<0)||decide (2147483647<m.k2.value)) (aw ((aP L/\aR m.data)/\aw (aw (au (!decide (dS L (kk 3 k) (-1) m.data=0)) ((bP.mk (dS L (kk 3 k) (-1) m.data) eB void void void,fY L (kk 3 k) (-1) m.data)=aY L n (kk 3 k) (mm 2 m)) ((bP.mk 0 eB void void void,fY L (kk 3 k) (-1) m.data)=aY L n (kk 3 k) (mm 2 m)))))) (aw ((aP L/\aR m.data)/\aw (aw (au (!decide (dS L (kk 3 k) m.k2.value m.data=0)) ((bP.mk (dS L (kk 3 k) m.k2.value m.data) eB void void void,fY L (kk 3 k) m.k2.value m.data)=aY L n (kk 3 k) (mm 2 m)) ((bP.mk 0 eB void void void,fY L (kk 3 k) m.k2.value m.data)=aY L n (kk 3 k) (mm 2 m))))))))))))):=by
 delta au aw
 simp+decide [aY,dZ,ey,ee,fh,jv,iY,jt,gU,er,dP,gk,gJ,gf,iX,dV,void,eV,eB,bH,fS,fJ,fR,kk,mm,hL,hs];try grind
theorem OH[Fen](L:List Sx.Obj)(n:Int)(k:Key)(m:bP)(hL:aP L)(hs:aR m.data):aL Tryz.prog 94 [.lp 0 0] [.ro (.blk oa (hU (.ci .i64 2) m n (.ci .i64 3) k)),.store tS eS L] (kO (aY L n ((kk 3 k)) ((mm 2 m)))) (fun _ _=>False):=
 bk (inl:=(abE (148::abF))) (ann:=bj) (aH de aO) (aV Ch aU) (ep bY) (NJ L n k m hL hs) (by kernel_rfl)
theorem PS(L:List Sx.Obj)(n:Int)(k:Key)(m:bP)(hL:aP L)(hs:aR m.data):
 aw (aw (aw (aw (aP L/\aw (aw (au (!decide (b6 L (kk 3 k) true=0)) ((bP.mk (b6 L (kk 3 k) true) eB void void void,gF L (kk 3 k))=aY L n (kk 3 k) (mm 3 m)) ((bP.mk 0 eB void void void,gF L (kk 3 k))=aY L n (kk 3 k) (mm 3 m)))))))):=by
 delta au aw
 simp+decide [aY,dZ,ey,ee,fh,jv,iY,jt,gU,er,dP,gk,gJ,gf,iX,dV,void,eV,eB,bH,fS,fJ,fR,kk,mm,hL,hs];try grind
theorem OV[Fen](L:List Sx.Obj)(n:Int)(k:Key)(m:bP)(hL:aP L)(hs:aR m.data):aL Tryz.prog 94 [.lp 0 0] [.ro (.blk oa (hU (.ci .i64 3) m n (.ci .i64 3) k)),.store tS eS L] (kO (aY L n ((kk 3 k)) ((mm 3 m)))) (fun _ _=>False):=
 bk (inl:=(abE (150::abF))) (ann:=bj) (aH de aO) (aV Ri aU) (ep bY) (PS L n k m hL hs) (by kernel_rfl)
theorem Mn(L:List Sx.Obj)(n:Int)(k:Key)(m:bP)(hL:aP L)(hs:aR m.data):
 aw (aw (aw (aw (aP L/\aw (aw (au (!decide (dR L (kk 3 k) m.k0=0)) ((bP.mk (dR L (kk 3 k) m.k0) eB void void void,gO L (kk 3 k) m.k0)=aY L n (kk 3 k) (mm 4 m)) ((bP.mk 0 eB void void void,gO L (kk 3 k) m.k0)=aY L n (kk 3 k) (mm 4 m)))))))):=by
 delta au aw
 simp+decide [aY,dZ,ey,ee,fh,jv,iY,jt,gU,er,dP,gk,gJ,gf,iX,dV,void,eV,eB,bH,fS,fJ,fR,kk,mm,hL,hs];try grind
theorem OQ[Fen](L:List Sx.Obj)(n:Int)(k:Key)(m:bP)(hL:aP L)(hs:aR m.data):aL Tryz.prog 94 [.lp 0 0] [.ro (.blk oa (hU (.ci .i64 4) m n (.ci .i64 3) k)),.store tS eS L] (kO (aY L n ((kk 3 k)) ((mm 4 m)))) (fun _ _=>False):=
 bk (inl:=(abE (152::abF))) (ann:=bj) (aH de aO) (aV Xt aU) (ep bY) (Mn L n k m hL hs) (by kernel_rfl)
theorem K8(L:List Sx.Obj)(n:Int)(k:Key)(m:bP)(hL:aP L)(hs:aR m.data)(hk:bc (kk 3 k)=true):
 aw (aw (aw (aw (aw (au (!decide (m.k2.kind=1)) ((bP.mk 240 eB void void void,L)=aY L n (kk 3 k) (mm 5 m)) (aw (au (!(decide (0<=m.k2.value)&&decide (m.k2.value<=7))) ((bP.mk 2 eB void void void,L)=aY L n (kk 3 k) (mm 5 m)) (w8 (kk 3 k) m.k2.value/\aw (aw (aw ((bP.mk 0 eB (pq (kk 3 k) m.k2.value) void void,L)=aY L n (kk 3 k) (mm 5 m)))))))))))):=by
 delta au aw
 have hX:aY L n (kk 3 k) (mm 5 m)=if m.k2.kind=1 then(if 0<=m.k2.value/\m.k2.value<=7 then(gk (pq (kk 3 k) m.k2.value),L)else(gf 2,L))else(gf 240,L):=by
  by_cases h1:m.k2.kind=1
  ·by_cases h2:0<=m.k2.value/\m.k2.value<=7
   ·simp+decide [aY,dZ,ey,ee,fh,jv,iY,jt,gU,er,dP,gk,gJ,gf,iX,dV,void,eV,eB,bH,fS,fJ,fR,kk,mm,h1,h2]
   ·simp+decide [aY,dZ,ey,ee,fh,jv,iY,jt,gU,er,dP,gk,gJ,gf,iX,dV,void,eV,eB,bH,fS,fJ,fR,kk,mm,h1,h2]
  ·simp+decide [aY,dZ,ey,ee,fh,jv,iY,jt,gU,er,dP,gk,gJ,gf,iX,dV,void,eV,eB,bH,fS,fJ,fR,kk,mm,h1]
 rw[hX];refine⟨rfl,rfl,rfl,rfl,rfl,fun h=>?_,fun h=>⟨rfl,fun h'=>?_,fun h'=>⟨⟨hk,?_⟩,rfl,rfl,rfl,?_⟩⟩⟩
 ·have h:¬m.k2.kind=1:=by simpa using h
  rw[aq h];rfl
 ·have h:m.k2.kind=1:=by simpa using h
  have h':¬(0<=m.k2.value/\m.k2.value<=7):=fun hh=>by simp[hh.1,hh.2]at h'
  rw[ar h,aq h'];rfl
 ·simpa using h'
 ·have h:m.k2.kind=1:=by simpa using h
  have h':0<=m.k2.value/\m.k2.value<=7:=by simpa using h'
  rw[ar h,ar h'];rfl
theorem LM[Fen](L:List Sx.Obj)(n:Int)(k:Key)(m:bP)(hL:aP L)(hs:aR m.data)(hk:bc (kk 3 k)=true):aL Tryz.prog 94 [.lp 0 0] [.ro (.blk oa (hU (.ci .i64 5) m n (.ci .i64 3) k)),.store tS eS L] (kO (aY L n ((kk 3 k)) ((mm 5 m)))) (fun _ _=>False):=
 bk (inl:=(abE (145::abF))) (ann:=bj) (aH DF (aH de aO)) aU (ep bY) (K8 L n k m hL hs hk) (by kernel_rfl)
theorem PY(L:List Sx.Obj)(n:Int)(k:Key)(m:bP)(hL:aP L)(hs:aR m.data):
 aw (aw (aw (aw (aP L/\aw (aw (aw (au (!decide (ef L (kk 4 k) 1=0)) ((bP.mk (ef L (kk 4 k) 1) eB void void void,gA L (kk 4 k) 1)=aY L n (kk 4 k) (mm 1 m)) ((bP.mk 0 eB (fm L (kk 4 k) 1) void void,gA L (kk 4 k) 1)=aY L n (kk 4 k) (mm 1 m))))))))):=by
 delta au aw
 simp+decide [aY,dZ,ey,ee,fh,jv,iY,jt,gU,er,dP,gk,gJ,gf,iX,dV,void,eV,eB,bH,fS,fJ,fR,kk,mm,hL,hs];try grind
theorem Pp[Fen](L:List Sx.Obj)(n:Int)(k:Key)(m:bP)(hL:aP L)(hs:aR m.data):aL Tryz.prog 94 [.lp 0 0] [.ro (.blk oa (hU (.ci .i64 1) m n (.ci .i64 4) k)),.store tS eS L] (kO (aY L n ((kk 4 k)) ((mm 1 m)))) (fun _ _=>False):=
 bk (inl:=(abE (201::abF))) (ann:=bj) (aH de aO) (aV D4 aU) (ep bY) (PY L n k m hL hs) (by kernel_rfl)
theorem NW(L:List Sx.Obj)(n:Int)(k:Key)(m:bP)(hL:aP L)(hs:aR m.data):
 aw (aw (aw (aw (aP L/\aw (aw (aw (au (!decide (ef L (kk 4 k) 2=0)) ((bP.mk (ef L (kk 4 k) 2) eB void void void,gA L (kk 4 k) 2)=aY L n (kk 4 k) (mm 2 m)) ((bP.mk 0 eB (fm L (kk 4 k) 2) void void,gA L (kk 4 k) 2)=aY L n (kk 4 k) (mm 2 m))))))))):=by
 delta au aw
 simp+decide [aY,dZ,ey,ee,fh,jv,iY,jt,gU,er,dP,gk,gJ,gf,iX,dV,void,eV,eB,bH,fS,fJ,fR,kk,mm,hL,hs];try grind
theorem MU[Fen](L:List Sx.Obj)(n:Int)(k:Key)(m:bP)(hL:aP L)(hs:aR m.data):aL Tryz.prog 94 [.lp 0 0] [.ro (.blk oa (hU (.ci .i64 2) m n (.ci .i64 4) k)),.store tS eS L] (kO (aY L n ((kk 4 k)) ((mm 2 m)))) (fun _ _=>False):=
 bk (inl:=(abE (201::abF))) (ann:=bj) (aH de aO) (aV D4 aU) (ep bY) (NW L n k m hL hs) (by kernel_rfl)
theorem PW(L:List Sx.Obj)(n:Int)(k:Key)(m:bP)(hL:aP L)(hs:aR m.data):
 aw (aw (aw (aw (aP L/\aw (aw (au (!decide (eG L (kk 4 k) m.k0=0)) ((bP.mk (eG L (kk 4 k) m.k0) eB void void void,jO L (kk 4 k) m.k0)=aY L n (kk 4 k) (mm 3 m)) ((bP.mk 0 eB void void void,jO L (kk 4 k) m.k0)=aY L n (kk 4 k) (mm 3 m)))))))):=by
 delta au aw
 simp+decide [aY,dZ,ey,ee,fh,jv,iY,jt,gU,er,dP,gk,gJ,gf,iX,dV,void,eV,eB,bH,fS,fJ,fR,kk,mm,hL,hs];try grind
theorem PX[Fen](L:List Sx.Obj)(n:Int)(k:Key)(m:bP)(hL:aP L)(hs:aR m.data):aL Tryz.prog 94 [.lp 0 0] [.ro (.blk oa (hU (.ci .i64 3) m n (.ci .i64 4) k)),.store tS eS L] (kO (aY L n ((kk 4 k)) ((mm 3 m)))) (fun _ _=>False):=
 bk (inl:=(abE (155::abF))) (ann:=bj) (aH de aO) (aV RJ aU) (ep bY) (PW L n k m hL hs) (by kernel_rfl)
theorem OE(L:List Sx.Obj)(n:Int)(k:Key)(m:bP)(hL:aP L)(hs:aR m.data):
 aw (aw (aw (aw (aw (aw (au (!decide (m.k2.kind=1)) ((bP.mk 240 eB void void void,L)=aY L n (kk 4 k) (mm 4 m)) (au (decide (m.k2.value<0)||decide (2147483647<m.k2.value)) (aw (aP L/\aw (aw (aw (au (!decide (cU L (kk 4 k) (-1)=0)) ((bP.mk (cU L (kk 4 k) (-1)) eB void void void,bR L (kk 4 k) (-1))=aY L n (kk 4 k) (mm 4 m)) ((bP.mk 0 eB (cY L (kk 4 k) (-1)) void void,bR L (kk 4 k) (-1))=aY L n (kk 4 k) (mm 4 m))))))) (aw (aP L/\aw (aw (aw (au (!decide (cU L (kk 4 k) m.k2.value=0)) ((bP.mk (cU L (kk 4 k) m.k2.value) eB void void void,bR L (kk 4 k) m.k2.value)=aY L n (kk 4 k) (mm 4 m)) ((bP.mk 0 eB (cY L (kk 4 k) m.k2.value) void void,bR L (kk 4 k) m.k2.value)=aY L n (kk 4 k) (mm 4 m)))))))))))))):=by
 delta au aw
 simp+decide [aY,dZ,ey,ee,fh,jv,iY,jt,gU,er,dP,gk,gJ,gf,iX,dV,void,eV,eB,bH,fS,fJ,fR,kk,mm,hL,hs];try grind
theorem KQ[Fen](L:List Sx.Obj)(n:Int)(k:Key)(m:bP)(hL:aP L)(hs:aR m.data):aL Tryz.prog 94 [.lp 0 0] [.ro (.blk oa (hU (.ci .i64 4) m n (.ci .i64 4) k)),.store tS eS L] (kO (aY L n ((kk 4 k)) ((mm 4 m)))) (fun _ _=>False):=
 bk (inl:=(abE (157::abF))) (ann:=bj) (aH de aO) (aV Jt aU) (ep bY) (OE L n k m hL hs) (by kernel_rfl)
theorem N1(L:List Sx.Obj)(n:Int)(k:Key)(m:bP)(hL:aP L)(hs:aR m.data):
 aw (aw (aw (aw (au (!decide (bB L (kk 4 k)=0)) ((bP.mk (bB L (kk 4 k)) eB void void void,L)=aY L n (kk 4 k) (mm 5 m)) (aw (au (np L (kk 4 k) m.k0) (aw (aw ((bP.mk 0 eB void void (aA 1),L)=aY L n (kk 4 k) (mm 5 m)))) (aw (aw ((bP.mk 0 eB void void (aA 0),L)=aY L n (kk 4 k) (mm 5 m)))))))))):=by
 delta au aA aw
 simp+decide [aY,dZ,ey,ee,fh,jv,iY,jt,gU,er,dP,gk,gJ,gf,iX,dV,void,eV,eB,bH,fS,fJ,fR,kk,mm,hL,hs];try grind
theorem KV[Fen](L:List Sx.Obj)(n:Int)(k:Key)(m:bP)(hL:aP L)(hs:aR m.data):aL Tryz.prog 94 [.lp 0 0] [.ro (.blk oa (hU (.ci .i64 5) m n (.ci .i64 4) k)),.store tS eS L] (kO (aY L n ((kk 4 k)) ((mm 5 m)))) (fun _ _=>False):=
 bk (inl:=(abE (159::abF))) (ann:=bj) (aH MH (aH de aO)) aU (ep bY) (N1 L n k m hL hs) (by kernel_rfl)
theorem PC(L:List Sx.Obj)(n:Int)(k:Key)(m:bP)(hL:aP L)(hs:aR m.data):
 aw (aw (aw (aw (aP L/\aw (au (!decide (bB L (kk 4 k)=0)) ((bP.mk (bB L (kk 4 k)) eB void void void,kD L (kk 4 k))=aY L n (kk 4 k) (mm 6 m)) (aw (aw ((bP.mk 0 eB void void (aA (ju L (kk 4 k))),kD L (kk 4 k))=aY L n (kk 4 k) (mm 6 m))))))))):=by
 delta au aA aw
 simp+decide [aY,dZ,ey,ee,fh,jv,iY,jt,gU,er,dP,gk,gJ,gf,iX,dV,void,eV,eB,bH,fS,fJ,fR,kk,mm,hL,hs];try grind
theorem P7[Fen](L:List Sx.Obj)(n:Int)(k:Key)(m:bP)(hL:aP L)(hs:aR m.data):aL Tryz.prog 94 [.lp 0 0] [.ro (.blk oa (hU (.ci .i64 6) m n (.ci .i64 4) k)),.store tS eS L] (kO (aY L n ((kk 4 k)) ((mm 6 m)))) (fun _ _=>False):=
 bk (inl:=(abE (160::abF))) (ann:=bj) (aH de aO) (aV OY aU) (ep bY) (PC L n k m hL hs) (by kernel_rfl)
theorem M9(L:List Sx.Obj)(n:Int)(k:Key)(m:bP)(hL:aP L)(hs:aR m.data):
 aw (aw (aw (aw (aw (aw (aw (aw (au (!decide (m.k2.kind=1)) ((bP.mk 240 eB void void void,L)=aY L n (kk 5 k) (mm 1 m)) (au (decide (m.k2.value<0)||decide (2147483647<m.k2.value)) (aw ((bP.mk 4 eB void void void,L)=aY L n (kk 5 k) (mm 1 m))) (aw (au (!(decide (0<=m.k2.value)&&decide (m.k2.value<12))) ((bP.mk 4 eB void void void,L)=aY L n (kk 5 k) (mm 1 m)) (bg IntKind.i64 (m.k2.value+4)/\aw (aw (aw (au (!decide (dC L (aB 2 k void.value) (m.k2.value+4)=0)) ((bP.mk (dC L (aB 2 k void.value) (m.k2.value+4)) eB void void void,L)=aY L n (kk 5 k) (mm 1 m)) ((bP.mk 0 eB (bd L (aB 2 k void.value) (m.k2.value+4)) void void,L)=aY L n (kk 5 k) (mm 1 m))))))))))))))))):=by
 delta au aB aw
 have hw:Key.mk 2 k.oid k.count void.call void.rights void.value=fR k:=rfl;have e2:∀c,bP.mk c eB void void void=gf c:=fun _=>rfl
 simp only[hw,e2];have hX:=H2 (L:=L) (n:=n) (k:=k) (m:=m) (c:=1) (by omega)
 rw[hX];clear hX;by_cases h1:m.k2.kind=1
 case neg=>simp[h1,show er 5 1=true by decide,hL,hs]
 have hf:¬(er 5 1=true/\m.k2.kind≠1):=fun h=>h.2 h1
 rw[aq hf];have hC:gU L (kk 5 k) (mm 1 m)=(if bH m<0\/11<bH m then 4 else dC L (fR k) (bH m+4),gk (bd L (fR k) (bH m+4)),L):=rfl
 rw[hC];clear hC;have e3:∀a,bP.mk 0 eB a void void=gk a:=fun _=>rfl
 simp only[e3];by_cases h2:0<=m.k2.value/\m.k2.value<=2147483647
 ·have hN:bH m=m.k2.value:=by unfold bH;rw[ar h2]
  have hr:bg .i64 (m.k2.value+4):=by simp only[bg,ck];omega
  rw[hN];by_cases h3:11<m.k2.value
  ·have h4:¬m.k2.value<12:=by omega
   simp[h1,h2,h3,h4,uW,hr]<;>omega
  ·have h4:m.k2.value<12:=by omega
   have h5:¬(m.k2.value<0\/11<m.k2.value):=by omega
   simp[h1,h2,h4,h5,uW,hr,hL];grind
 ·have hN:bH m= -1:=by unfold bH;rw[aq h2]
  rw[hN];simp[h1,uW]<;>omega
theorem Oj[Fen](L:List Sx.Obj)(n:Int)(k:Key)(m:bP)(hL:aP L)(hs:aR m.data):aL Tryz.prog 94 [.lp 0 0] [.ro (.blk oa (hU (.ci .i64 1) m n (.ci .i64 5) k)),.store tS eS L] (kO (aY L n ((kk 5 k)) ((mm 1 m)))) (fun _ _=>False):=
 bk (inl:=(abE (161::abF))) (ann:=bj) (aH rR (aH de aO)) aU (ep bY) (M9 L n k m hL hs) (by kernel_rfl)
theorem Mq(L:List Sx.Obj)(n:Int)(k:Key)(m:bP)(hL:aP L)(hs:aR m.data):
 aw (aw (aw (aw (aw (aw (aw (aw (au (!decide (m.k2.kind=1)) ((bP.mk 240 eB void void void,L)=aY L n (kk 5 k) (mm 2 m)) (au (decide (m.k2.value<0)||decide (2147483647<m.k2.value)) (aw ((bP.mk 4 eB void void void,L)=aY L n (kk 5 k) (mm 2 m))) (aw (au (!(decide (0<=m.k2.value)&&decide (m.k2.value<12))) ((bP.mk 4 eB void void void,L)=aY L n (kk 5 k) (mm 2 m)) (bg IntKind.i64 (m.k2.value+4)/\aw (aP L/\aw (aw (aw (au (!decide (b8 L (aB 2 k void.value) (m.k2.value+4) m.k0=0)) ((bP.mk (b8 L (aB 2 k void.value) (m.k2.value+4) m.k0) eB void void void,eJ L (aB 2 k void.value) (m.k2.value+4) m.k0)=aY L n (kk 5 k) (mm 2 m)) ((bP.mk 0 eB (fl L (aB 2 k void.value) (m.k2.value+4) m.k0) void void,eJ L (aB 2 k void.value) (m.k2.value+4) m.k0)=aY L n (kk 5 k) (mm 2 m)))))))))))))))))):=by
 delta au aB aw
 have hw:Key.mk 2 k.oid k.count void.call void.rights void.value=fR k:=rfl;have e2:∀c,bP.mk c eB void void void=gf c:=fun _=>rfl
 simp only[hw,e2];have hX:=H2 (L:=L) (n:=n) (k:=k) (m:=m) (c:=2) (by omega)
 rw[hX];clear hX;by_cases h1:m.k2.kind=1
 case neg=>simp[h1,show er 5 2=true by decide,hL,hs]
 have hf:¬(er 5 2=true/\m.k2.kind≠1):=fun h=>h.2 h1
 rw[aq hf];have hC:gU L (kk 5 k) (mm 2 m)=(if bH m<0\/11<bH m then 4 else b8 L (fR k) (bH m+4) m.k0,gk (fl L (fR k) (bH m+4) m.k0),if bH m<0\/11<bH m then L else eJ L (fR k) (bH m+4) m.k0):=rfl
 rw[hC];clear hC;have e3:∀a,bP.mk 0 eB a void void=gk a:=fun _=>rfl
 simp only[e3];by_cases h2:0<=m.k2.value/\m.k2.value<=2147483647
 ·have hN:bH m=m.k2.value:=by unfold bH;rw[ar h2]
  have hr:bg .i64 (m.k2.value+4):=by simp only[bg,ck];omega
  rw[hN];by_cases h3:11<m.k2.value
  ·have h4:¬m.k2.value<12:=by omega
   simp[h1,h2,h3,h4,uW,hr]<;>omega
  ·have h4:m.k2.value<12:=by omega
   have h5:¬(m.k2.value<0\/11<m.k2.value):=by omega
   simp[h1,h2,h4,h5,uW,hr,hL];grind
 ·have hN:bH m= -1:=by unfold bH;rw[aq h2]
  rw[hN];simp[h1,uW]<;>omega
theorem OD[Fen](L:List Sx.Obj)(n:Int)(k:Key)(m:bP)(hL:aP L)(hs:aR m.data):aL Tryz.prog 94 [.lp 0 0] [.ro (.blk oa (hU (.ci .i64 2) m n (.ci .i64 5) k)),.store tS eS L] (kO (aY L n ((kk 5 k)) ((mm 2 m)))) (fun _ _=>False):=
 bk (inl:=(abE (164::abF))) (ann:=bj) (aH de aO) (aV Hz aU) (ep bY) (Mq L n k m hL hs) (by kernel_rfl)
theorem MA(L:List Sx.Obj)(n:Int)(k:Key)(m:bP)(hL:aP L)(hs:aR m.data):
 aw (aw (aw (aw (aw (au (!decide (m.k2.kind=1)) ((bP.mk 240 eB void void void,L)=aY L n (kk 5 k) (mm 3 m)) (aw (aw (aw ((bP.mk 0 eB (aB 6 k m.k2.value) void void,L)=aY L n (kk 5 k) (mm 3 m)))))))))):=by
 delta au aB aw
 simp+decide [aY,dZ,ey,ee,fh,jv,iY,jt,gU,er,dP,gk,gJ,gf,iX,dV,void,eV,eB,bH,fS,fJ,fR,kk,mm,hL,hs];try grind
theorem KZ[Fen](L:List Sx.Obj)(n:Int)(k:Key)(m:bP)(hL:aP L)(hs:aR m.data):aL Tryz.prog 94 [.lp 0 0] [.ro (.blk oa (hU (.ci .i64 3) m n (.ci .i64 5) k)),.store tS eS L] (kO (aY L n ((kk 5 k)) ((mm 3 m)))) (fun _ _=>False):=
 bk (inl:=(abE (165::abF))) (ann:=bj) (aH de aO) aU (ep bY) (MA L n k m hL hs) (by kernel_rfl)
theorem Nj(L:List Sx.Obj)(n:Int)(k:Key)(m:bP)(hL:aP L)(hs:aR m.data):
 aw (aw (aw (au (!dM L k.oid) (aw (aw ((bP.mk 0 eB void void (aA (-1)),L)=aY L n (kk 5 k) (mm 4 m)))) (aw (aw ((bP.mk 0 eB void void (aA (iv L k.oid)),L)=aY L n (kk 5 k) (mm 4 m))))))):=by
 delta au aA aw
 simp+decide [aY,dZ,ey,ee,fh,jv,iY,jt,gU,er,dP,gk,gJ,gf,iX,dV,void,eV,eB,bH,fS,fJ,fR,kk,mm,hL,hs];unfold iv cH;grind
theorem O6[Fen](L:List Sx.Obj)(n:Int)(k:Key)(m:bP)(hL:aP L)(hs:aR m.data):aL Tryz.prog 94 [.lp 0 0] [.ro (.blk oa (hU (.ci .i64 4) m n (.ci .i64 5) k)),.store tS eS L] (kO (aY L n ((kk 5 k)) ((mm 4 m)))) (fun _ _=>False):=
 bk (inl:=(abE (167::abF))) (ann:=bj) (aH qm (aH de aO)) aU (ep bY) (Nj L n k m hL hs) (by kernel_rfl)
theorem KH(L:List Sx.Obj)(n:Int)(k:Key)(m:bP)(hL:aP L)(hs:aR m.data):
 aw (aw (aw (aw (aw (aw (au (!decide (m.k2.kind=1)) ((bP.mk 240 eB void void void,L)=aY L n (kk 5 k) (mm 5 m)) (au (decide (m.k2.value<0)||decide (2147483647<m.k2.value)) (aw (aP L/\aw (aw (au (!decide (fx L k.oid (-1)=0)) ((bP.mk (fx L k.oid (-1)) eB void void void,jq L k.oid (-1))=aY L n (kk 5 k) (mm 5 m)) ((bP.mk 0 eB void void void,jq L k.oid (-1))=aY L n (kk 5 k) (mm 5 m)))))) (aw (aP L/\aw (aw (au (!decide (fx L k.oid m.k2.value=0)) ((bP.mk (fx L k.oid m.k2.value) eB void void void,jq L k.oid m.k2.value)=aY L n (kk 5 k) (mm 5 m)) ((bP.mk 0 eB void void void,jq L k.oid m.k2.value)=aY L n (kk 5 k) (mm 5 m))))))))))))):=by
 delta au aw
 simp+decide [aY,dZ,ey,ee,fh,jv,iY,jt,gU,er,dP,gk,gJ,gf,iX,dV,void,eV,eB,bH,fS,fJ,fR,kk,mm,hL,hs];try grind
theorem KB[Fen](L:List Sx.Obj)(n:Int)(k:Key)(m:bP)(hL:aP L)(hs:aR m.data):aL Tryz.prog 94 [.lp 0 0] [.ro (.blk oa (hU (.ci .i64 5) m n (.ci .i64 5) k)),.store tS eS L] (kO (aY L n ((kk 5 k)) ((mm 5 m)))) (fun _ _=>False):=
 bk (inl:=(abE (168::abF))) (ann:=bj) (aH de aO) (aV NB aU) (ep bY) (KH L n k m hL hs) (by kernel_rfl)
abbrev aaP(L:List Sx.Obj)(k:Key):=bd L (aB 2 k void.value) 0
theorem K3(L:List Sx.Obj)(n:Int)(k:Key)(m:bP)(hL:aP L)(hs:aR m.data):
 aw (aw (aw (aw (aw (aw (au (!decide (m.k2.kind=1)) ((bP.mk 240 eB void void void,L)=aY L n (kk 5 k) (mm 6 m)) (aw (aw (au (!decide (dz L (aaP L k) m.k2.value 32=0)) ((bP.mk (dz L (aaP L k) m.k2.value 32) eB void void void,L)=aY L n (kk 5 k) (mm 6 m)) (au (!decide (dn L (aaP L k) m.k2.value 32 false=0)) (bg IntKind.i64 (1000+dn L (aaP L k) m.k2.value 32 false)/\(bP.mk (1000+dn L (aaP L k) m.k2.value 32 false) eB void void void,L)=aY L n (kk 5 k) (mm 6 m)) (aw (aw (aw ((bP.mk 0 (nE L (aaP L k) m.k2.value 32) void void void,L)=aY L n (kk 5 k) (mm 6 m))))))))))))))):=by
 delta au aB aaP aw
 have hw:Key.mk 2 k.oid k.count void.call void.rights void.value=fR k:=rfl;have e2:∀c,bP.mk c eB void void void=gf c:=fun _=>rfl
 simp only[hw,e2];have hX:=H2 (L:=L) (n:=n) (k:=k) (m:=m) (c:=6) (by omega)
 rw[hX];clear hX;by_cases h1:m.k2.kind=1
 case neg=>simp[h1,show er 5 6=true by decide,hL,hs]
 have hf:¬(er 5 6=true/\m.k2.kind≠1):=fun h=>h.2 h1
 rw[aq hf];have hC:gU L (kk 5 k) (mm 6 m)=(if dz L (fJ L k) m.k2.value 32=0 then(if dn L (fJ L k) m.k2.value 32 false=0 then 0 else 1000+dn L (fJ L k) m.k2.value 32 false)else dz L (fJ L k) m.k2.value 32,iX (nE L (fJ L k) m.k2.value 32),L):=rfl
 rw[hC];clear hC;have e3:∀s,bP.mk 0 s void void void=iX s:=fun _=>rfl
 have e4:gf 0=eV:=rfl;have hi:=UT (L:=L) (k:=bd L (fR k) 0) (a:=m.k2.value) (n:=32) (w:=false);have hr:bg .i64 (1000+dn L (bd L (fR k) 0) m.k2.value (32) false):=by simp only[bg,ck];omega
 simp only[e3,fJ];simp[h1,hr,uW,hL,hs];grind
theorem KD[Fen](L:List Sx.Obj)(n:Int)(k:Key)(m:bP)(hL:aP L)(hs:aR m.data):aL Tryz.prog 94 [.lp 0 0] [.ro (.blk oa (hU (.ci .i64 6) m n (.ci .i64 5) k)),.store tS eS L] (kO (aY L n ((kk 5 k)) ((mm 6 m)))) (fun _ _=>False):=
 bk (inl:=(abE (169::abF))) (ann:=bj) (aH rR (aH YN (aH de aO))) aU (ep bY) (K3 L n k m hL hs) (by kernel_rfl)
abbrev aaQ(L:List Sx.Obj)(k:Key):=bd L (aB 2 k void.value) 0
theorem Of(L:List Sx.Obj)(n:Int)(k:Key)(m:bP)(hL:aP L)(hs:aR m.data):
 aw (aw (aw (aw (aw (aw (au (!decide (m.k2.kind=1)) ((bP.mk 240 eB void void void,L)=aY L n (kk 5 k) (mm 7 m)) (aw (aR m.data/\(aP L/\aR m.data)/\aw (aw (au (!decide (dz L (aaQ L k) m.k2.value (du m.data)=0)) ((bP.mk (dz L (aaQ L k) m.k2.value (du m.data)) eB void void void,oT L (aaQ L k) m.k2.value m.data)=aY L n (kk 5 k) (mm 7 m)) (au (!decide (dn L (aaQ L k) m.k2.value (du m.data) true=0)) (bg IntKind.i64 (1000+dn L (aaQ L k) m.k2.value (du m.data) true)/\(bP.mk (1000+dn L (aaQ L k) m.k2.value (du m.data) true) eB void void void,oT L (aaQ L k) m.k2.value m.data)=aY L n (kk 5 k) (mm 7 m)) (aw (aw ((bP.mk 0 eB void void void,oT L (aaQ L k) m.k2.value m.data)=aY L n (kk 5 k) (mm 7 m))))))))))))))):=by
 delta au aB aaQ aw
 have hw:Key.mk 2 k.oid k.count void.call void.rights void.value=fR k:=rfl;have e2:∀c,bP.mk c eB void void void=gf c:=fun _=>rfl
 simp only[hw,e2];have hX:=H2 (L:=L) (n:=n) (k:=k) (m:=m) (c:=7) (by omega)
 rw[hX];clear hX;by_cases h1:m.k2.kind=1
 case neg=>simp[h1,show er 5 7=true by decide,hL,hs]
 have hf:¬(er 5 7=true/\m.k2.kind≠1):=fun h=>h.2 h1
 rw[aq hf];have hC:gU L (kk 5 k) (mm 7 m)=(if dz L (fJ L k) m.k2.value (du m.data)=0 then(if dn L (fJ L k) m.k2.value (du m.data) true=0 then 0 else 1000+dn L (fJ L k) m.k2.value (du m.data) true)else dz L (fJ L k) m.k2.value (du m.data),eV,oT L (fJ L k) m.k2.value m.data):=rfl
 rw[hC];clear hC;have e3:∀s,bP.mk 0 s void void void=iX s:=fun _=>rfl
 have e4:gf 0=eV:=rfl;have hi:=UT (L:=L) (k:=bd L (fR k) 0) (a:=m.k2.value) (n:=du m.data) (w:=true);have hr:bg .i64 (1000+dn L (bd L (fR k) 0) m.k2.value (du m.data) true):=by simp only[bg,ck];omega
 simp only[e3,fJ];simp[h1,hr,uW,hL,hs];grind
theorem K6[Fen](L:List Sx.Obj)(n:Int)(k:Key)(m:bP)(hL:aP L)(hs:aR m.data):aL Tryz.prog 94 [.lp 0 0] [.ro (.blk oa (hU (.ci .i64 7) m n (.ci .i64 5) k)),.store tS eS L] (kO (aY L n ((kk 5 k)) ((mm 7 m)))) (fun _ _=>False):=
 bk (inl:=(abE (170::abF))) (ann:=bj) (aH rR (aH de aO)) (aV Xk aU) (ep bY) (Of L n k m hL hs) (by kernel_rfl)
theorem OM(L:List Sx.Obj)(n:Int)(k:Key)(m:bP)(hL:aP L)(hs:aR m.data):
 true=true/\true=true/\true=true/\true=true/\true=true/\(bP.mk 0 eB void void (Key.mk 1 void.oid void.count void.call void.rights m.k0.kind),L)=aY L n (kk 8 k) (mm 1 m):=by
 simp+decide [aY,dZ,ey,ee,fh,jv,iY,jt,gU,er,dP,gk,gJ,gf,iX,dV,void,eV,eB,bH,fS,fJ,fR,kk,mm,hL,hs];try grind
theorem M6[Fen](L:List Sx.Obj)(n:Int)(k:Key)(m:bP)(hL:aP L)(hs:aR m.data):aL Tryz.prog 94 [.lp 0 0] [.ro (.blk oa (hU (.ci .i64 1) m n (.ci .i64 8) k)),.store tS eS L] (kO (aY L n ((kk 8 k)) ((mm 1 m)))) (fun _ _=>False):=
 bk (inl:=(abE (171::abF))) (ann:=bj) (aH de aO) aU (ep bY) (OM L n k m hL hs) (by kernel_rfl)
theorem KE(L:List Sx.Obj)(n:Int)(k:Key)(m:bP)(hL:aP L)(hs:aR m.data):
 aw (aw (aw (aw (au (pF m.k0 m.k1) (aw (aw ((bP.mk 0 eB void void (aA 1),L)=aY L n (kk 8 k) (mm 2 m)))) (aw (aw ((bP.mk 0 eB void void (aA 0),L)=aY L n (kk 8 k) (mm 2 m)))))))):=by
 delta au aA aw
 simp+decide [aY,dZ,ey,ee,fh,jv,iY,jt,gU,er,dP,gk,gJ,gf,iX,dV,void,eV,eB,bH,fS,fJ,fR,kk,mm,hL,hs];try grind
theorem KX[Fen](L:List Sx.Obj)(n:Int)(k:Key)(m:bP)(hL:aP L)(hs:aR m.data):aL Tryz.prog 94 [.lp 0 0] [.ro (.blk oa (hU (.ci .i64 2) m n (.ci .i64 8) k)),.store tS eS L] (kO (aY L n ((kk 8 k)) ((mm 2 m)))) (fun _ _=>False):=
 bk (inl:=(abE (172::abF))) (ann:=bj) (aH RI (aH de aO)) aU (ep bY) (KE L n k m hL hs) (by kernel_rfl)
theorem NC(L:List Sx.Obj)(n:Int)(k:Key)(m:bP)(hL:aP L)(hs:aR m.data):
 true=true/\true=true/\true=true/\true=true/\true=true/\(bP.mk 0 eB void void (Key.mk 1 void.oid void.count void.call void.rights m.k0.rights),L)=aY L n (kk 8 k) (mm 3 m):=by
 simp+decide [aY,dZ,ey,ee,fh,jv,iY,jt,gU,er,dP,gk,gJ,gf,iX,dV,void,eV,eB,bH,fS,fJ,fR,kk,mm,hL,hs];try grind
theorem Lv[Fen](L:List Sx.Obj)(n:Int)(k:Key)(m:bP)(hL:aP L)(hs:aR m.data):aL Tryz.prog 94 [.lp 0 0] [.ro (.blk oa (hU (.ci .i64 3) m n (.ci .i64 8) k)),.store tS eS L] (kO (aY L n ((kk 8 k)) ((mm 3 m)))) (fun _ _=>False):=
 bk (inl:=(abE (175::abF))) (ann:=bj) (aH de aO) aU (ep bY) (NC L n k m hL hs) (by kernel_rfl)
theorem Ll(L:List Sx.Obj)(n:Int)(k:Key)(m:bP)(hL:aP L)(hs:aR m.data):
 true=true/\true=true/\true=true/\true=true/\true=true/\(bP.mk 0 eB void void (Key.mk 1 void.oid void.count void.call void.rights n),L)=aY L n (kk 9 k) (mm 1 m):=by
 simp+decide [aY,dZ,ey,ee,fh,jv,iY,jt,gU,er,dP,gk,gJ,gf,iX,dV,void,eV,eB,bH,fS,fJ,fR,kk,mm,hL,hs];try grind
theorem Nh[Fen](L:List Sx.Obj)(n:Int)(k:Key)(m:bP)(hL:aP L)(hs:aR m.data):aL Tryz.prog 94 [.lp 0 0] [.ro (.blk oa (hU (.ci .i64 1) m n (.ci .i64 9) k)),.store tS eS L] (kO (aY L n ((kk 9 k)) ((mm 1 m)))) (fun _ _=>False):=
 bk (inl:=(abE (177::abF))) (ann:=bj) (aH de aO) aU (ep bY) (Ll L n k m hL hs) (by kernel_rfl)
theorem JJ(L:List Sx.Obj)(n:Int)(k:Key)(m:bP)(hL:aP L)(hs:aR m.data):
 true=true/\true=true/\true=true/\(bP.mk 0 eB void void void,L)=aY L n (kk 10 k) (mm 1 m):=by
 simp+decide [aY,dZ,ey,ee,fh,jv,iY,jt,gU,er,dP,gk,gJ,gf,iX,dV,void,eV,eB,bH,fS,fJ,fR,kk,mm,hL,hs];try grind
theorem It[Fen](L:List Sx.Obj)(n:Int)(k:Key)(m:bP)(hL:aP L)(hs:aR m.data):aL Tryz.prog 94 [.lp 0 0] [.ro (.blk oa (hU (.ci .i64 1) m n (.ci .i64 10) k)),.store tS eS L] (kO (aY L n ((kk 10 k)) ((mm 1 m)))) (fun _ _=>False):=
 bk (inl:=(abE (178::abF))) (ann:=bj) (aH de aO) aU (ep bY) (JJ L n k m hL hs) (by kernel_rfl)
end Go.Proofs.YtmfbohanboiklaaGreat
