import Derived.Test.YtmfbohanboiklaaGreatMa13
set_option linter.unusedSimpArgs false
set_option linter.unusedVariables false
set_option maxRecDepth 100000
namespace Go.Proofs.YtmfbohanboiklaaGreat
open Go.Sx
open Go.RowKit (Below)
theorem Wz[Fen]{P:Program}{ops:Array Oper}{Q:Exit->Act->World->Prop}(I:(Nat->Bool)->Act->World->Prop)
  (hlt:∀(i:Nat) o,ops[i]? =some o->∀e∈o.after,Region.binds .any e=true->e.on<i)
  (hstep:∀L a w (i:Nat) o,ops[i]? =some o->L i=false->(∀e∈o.after,Region.binds .any e=true->L e.on=true)->I L a w->∀K:Act->World->Prop,(∀a' w',I (ins L i) a' w'->K a' w')->wpOpIn (FF P none) 0 P ops Q i K a w)
  (hfin:∀L a w,(∀i,i<ops.size->L i=true)->I L a w->Q .normal a w):
  ∀(fuel:Nat) (listed:Array Bool) (a:Act) (w:World),listed.size=ops.size->Io listed ops.size<=fuel->I (fun k=>listed.getD k false) a w->wpAnyIn (FF P none) 0 P .any ops Q fuel listed a w:=by
 intro fuel
 have hall:∀(listed:Array Bool),listed.size=ops.size->Region.ready .any ops listed= []->∀i,i<ops.size->listed.getD i false=true:=by
  intro listed hs hnil i;induction i using Nat.strongRecOn with
  |_ i ihi=>
   intro hi;cases h:listed.getD i false with
   |true=>rfl
   |false=>
    have hio:ops[i]? =some (ops[i]'hi):=Array.getElem?_eq_getElem hi
    have:i∈Region.ready .any ops listed:=by
     rw[mem_ready];refine⟨?_,_,hio,fun e e1 e2=>ihi e.on (hlt i _ hio e e1 e2) (by have:=hlt i _ hio e e1 e2;omega)⟩
     have:i<listed.size:=by omega
     simpa[Array.getD_eq_getD_getElem?,this]using h
    rw[hnil]at this;simp at this
 induction fuel with
 |zero=>
  intro listed a w hs hc hI
  have hall0:∀i,i<ops.size->listed.getD i false=true:=fun i hi=>by
   cases h:listed.getD i false with
   |true=>rfl
   |false=>have:=oC (n:=ops.size) hs hi h;omega
  refine⟨?_,hfin _ a w hall0 hI⟩;cases hrd:Region.ready .any ops listed with
  |nil=>rfl
  |cons i l=>
   obtain⟨h1,o,h2,_⟩:=mem_ready.1 (show i∈Region.ready .any ops listed by rw[hrd];simp)
   have hisz:i<ops.size:=(Array.getElem?_eq_some_iff.1 h2).1;have:=hall0 i hisz;have hlt:i<listed.size:=by omega
   simp only[Array.getD_eq_getD_getElem?,Array.getElem?_eq_getElem hlt,Option.getD_some]at this h1;rw[this]at h1;simp at h1
 |succ fuel ih=>
  intro listed a w hs hc hI;refine⟨fun hnil=>hfin _ a w (hall listed hs hnil) hI,fun i hi=>?_⟩
  obtain⟨h1,o,h2,h3⟩:=mem_ready.1 hi;have hisz:i<ops.size:=(Array.getElem?_eq_some_iff.1 h2).1;have hl:i<listed.size:=by omega
  have hLi:listed.getD i false=false:=by simpa[Array.getD_eq_getD_getElem?,hl]using h1
  refine hstep _ a w i o h2 hLi h3 hI _ fun a' w' hI'=>?_
  exact ih _ a' w' (by simpa using hs) (by have:=oC (n:=ops.size) hs hisz hLi;omega) (by rw[CM hl];exact hI')
abbrev tMo:Nat:=198
abbrev tPl:Nat:=201
abbrev WI:Nat:=40
abbrev Vz:Nat:=154
abbrev fMc:Nat:=201
def cqo(o:Oper):Option (Int×Int):=
 match o.op with
 | .build t ps=>if t==tPl then match ps.toList with
   | [(0,.const (.int .i64 a)),(1,.const (.int .i64 b))]=>some (a,b)
   |_=>none
   else none
 |_=>none
def jJ:List Oper->Nat->Option (Int×Int)
 | [],_=>none
 |o::l,s=>match o.dst with
  |some t=>if t==s then cqo o else jJ l s
  |none=>jJ l s
def GJ(k:Int×Int):Value:= .agg #[.int .i64 k.1,.int .i64 k.2]
def Jr(b:Nat):Value:= .func (.func fMc) #[] #[.pointer (some ⟨b,0,none⟩)]
def G6(l:List Oper)(r0 b1 b2 s:Nat):Value:=
 match jJ l s with
 |some k=>GJ k
 |none=>if s=15 then Jr b1 else if s=17 then Jr b2 else .map (some r0)
def EL(b1 b2:Nat):Operand->Value
 | .func g=> .func (.func g) #[] #[]
 | .tmp s=>if s=15 then Jr b1 else Jr b2
 |_=>undef
def ky(l:List Oper)(o:Oper):Option (Int×Int):=
 match o.op with
 | .insert _ _ (.tmp k) _=>jJ l k
 |_=>none
def u5(l:List Oper)(b1 b2:Nat)(o:Oper):Option (Value×Value):=
 match o.op with
 | .insert _ _ (.tmp k) x=>match jJ l k with
   |some c=>some (GJ c,EL b1 b2 x)
   |none=>none
 |_=>none
def nW(l:List Oper)(b1 b2:Nat)(L:Nat->Bool):Nat->List Oper->List (Value×Value)
 |_,[]=> []
 |i,o::m=>(match u5 l b1 b2 o with
  |some p=>if L i then[p]else[]
  |none=> [])++nW l b1 b2 L (i+1) m
theorem FQ{l:List Oper}{b1 b2:Nat}{L:Nat->Bool}{p:Value×Value}:∀{m:List Oper} {i:Nat},p∈nW l b1 b2 L i m->∃(j:Nat) (o:Oper),m[j]? =some o/\L (i+j)=true/\u5 l b1 b2 o=some p
 | [],i,h=>by simp[nW]at h
 |o::m,i,h=>by
  simp only[nW,List.mem_append]at h;rcases h with h|h
  ·split at h
   ·rename_i q hq;split at h
    ·rename_i hL;simp only[List.mem_singleton]at h;subst h;exact⟨0,o,rfl,hL,hq⟩
    ·simp at h
   ·simp at h
  ·obtain⟨j,o',h1,h2,h3⟩:=FQ h;exact⟨j+1,o',by simpa using h1,by rw[show i+(j+1)=i+1+j by omega];exact h2,h3⟩
theorem Cr{l:List Oper}{b1 b2:Nat}{L:Nat->Bool}:∀{m:List Oper} {i:Nat},(∀(j:Nat) (o:Oper),m[j]? =some o->L (i+j)=true->u5 l b1 b2 o=none)->nW l b1 b2 L i m= []
 | [],i,h=>rfl
 |o::m,i,h=>by
  simp only[nW];rw[Cr fun j o' h1 h2=>h (j+1) o' (by simpa using h1) (by rw[show i+(j+1)=i+1+j by omega];exact h2)]
  split
  ·rename_i p hp;split
   ·rename_i hL;have:=h 0 o rfl hL;rw[hp]at this;simp at this
   ·rfl
  ·rfl
theorem nG{l:List Oper}{o:Oper}(h:ky l o=none)(x y:Nat):u5 l x y o=none:=by
 obtain⟨dst,op,type,pos,after,guard⟩:=o;cases op<;>try rfl
 rename_i t m k v;cases k<;>try rfl
 simp only[ky]at h;simp only[u5,h]
theorem pT{l:List Oper}{b1 b2 c1 c2:Nat}{L L':Nat->Bool}:∀{m:List Oper} {i:Nat},(∀(j:Nat) (o:Oper),m[j]? =some o->(ky l o).isSome=true->L (i+j)=L' (i+j)/\(L (i+j)=true->u5 l b1 b2 o=u5 l c1 c2 o))->nW l b1 b2 L i m=nW l c1 c2 L' i m
 | [],i,h=>rfl
 |o::m,i,h=>by
  simp only[nW]
  rw[pT (c1:=c1) (c2:=c2) (L':=L') (i:=i+1) fun j o' h1 h2=>by
   have:=h (j+1) o' (by simpa using h1) h2
   rwa [show i+(j+1)=i+1+j by omega]at this]
  congr 1
  cases hk:ky l o with
  |none=>
   rw[nG hk,nG hk]
  |some k=>
   obtain⟨h1,h2⟩:=h 0 o rfl (by rw[hk];rfl)
   simp only[Nat.add_zero]at h1 h2;cases hL:L i with
   |true=>rw[<-h1,hL,h2 hL]
   |false=>
    rw[<-h1,hL];simp only[Bool.false_eq_true,if_false];split<;>split<;>rfl
theorem Ez{l:List Oper}{b1 b2:Nat}{L:Nat->Bool}{p:Value×Value}{q:Nat}(hq:L q=false):∀{m:List Oper} {i j:Nat} {o:Oper},m[j]? =some o->i+j=q->u5 l b1 b2 o=some p->(nW l b1 b2 (ins L q) i m).Perm (nW l b1 b2 L i m++ [p])
 | [],i,j,o,h,_,_=>by simp at h
 |x::m,i,0,o,h,e,hp=>by
  simp only[List.getElem?_cons_zero,aa]at h;subst h;simp only[Nat.add_zero]at e;subst e;simp only[nW,hp,ins,BEq.rfl,Bool.true_or,if_true,hq,Bool.false_eq_true,if_false,List.nil_append,List.singleton_append]
  have:nW l b1 b2 (fun k=>k==i||L k) (i+1) m=nW l b1 b2 L (i+1) m:=pT fun j o _ _=>⟨by
   have:((i+1+j)==i)=false:=by simp;omega
   simp[this],fun _=>rfl⟩
  show(p::nW l b1 b2 (fun k=>k==i||L k) (i+1) m).Perm _
  rw[this];exact(List.perm_append_singleton _ _).symm
 |x::m,i,j+1,o,h,e,hp=>by
  simp only[nW]
  have hi:ins L q i=L i:=by
   have:(i==q)=false:=by simp;omega
   simp[ins,this]
  rw[hi,List.append_assoc];exact List.Perm.append_left _ (Ez hq (by simpa using h) (by omega) hp)
def LW(l:List Oper)(o:Oper):Bool:=
 match o.op with
 | .makeMap t r=>t==tMo&&r.isNone&&o.dst==some 1
 | .build _ _=>(match cqo o with|some k=>decide (cB .i64 k.1)&&decide (cB .i64 k.2)|none=>false)&&(match o.dst with|some d=>Nat.blt d 35&&jJ l d==cqo o|none=>false)
 | .call c=>(match c.callee with| .value (.func g)=>g==Vz|_=>false)&&(match c.args.toList with| [.const (.int .i64 n)]=>(o.dst==some 15&&n==1)||(o.dst==some 17&&n==2)|_=>false)
 | .insert t m k x=>t==tMo&&o.dst==none&&(match m with| .tmp s=>s==1|_=>false)&&(match k with| .tmp s=>(jJ l s).isSome|_=>false)&&(match x with| .func _=>true| .tmp s=>s==15||s==17|_=>false)
 | .move x=>o.dst==some 34&&(match x with| .tmp s=>s==1|_=>false)
 | .assign x=>o.dst==some 0&&(match x with| .tmp s=>s==34|_=>false)
 |_=>false
def afB(l:List Oper)(t:Nat)(e:Edge):Bool:=Region.binds .any e&&(match l[e.on]? with|some o=>o.dst==some t|none=>false)
def Yz(l:List Oper)(o:Oper):Bool:=o.op.operands.toList.all fun x=>match x with
 | .tmp t=>o.after.toList.any (afB l t)
 |_=>true
def ltB:Nat->List Oper->Bool
 |_,[]=>true
 |i,o::l=>o.after.toList.all (fun e=> !Region.binds .any e||Nat.blt e.on i)&&ltB (i+1) l
def wV(l:List Oper):Bool:=
 l.all (fun o=>o.guard.isNone&&LW l o&&Yz l o)&&ltB 0 l&&tg (l.map fun o=>(o.dst,0))&&(jJ l 1).isNone&&(jJ l 15).isNone&&(jJ l 17).isNone&&(jJ l 34).isNone&&(jJ l 0).isNone
def JR(l:List Oper):List (Int×Int):=l.filterMap (ky l)
theorem E4:∀{l:List Oper} {i0:Nat},ltB i0 l=true->∀(i:Nat) (o:Oper),l[i]? =some o->∀e∈o.after,Region.binds .any e=true->e.on<i0+i
 | [],_,_,i,o,h,_,_,_=>by simp at h
 |x::l,i0,h,i,o,ho,e,he,hb=>by
  simp only[ltB,af,List.all_eq_true,Bool.or_eq_true,Bool.not_eq_true']at h;cases i with
  |zero=>
   simp only[List.getElem?_cons_zero,aa]at ho;subst ho;rcases h.1 e (by simpa using he)with h|h
   ·rw[hb]at h;simp at h
   ·rw[Nat.blt_eq]at h;omega
  |succ i=>
   have:=E4 h.2 i o (by simpa using ho) e he hb
   omega
theorem qE{α β:Type}{f:α->Option β}:∀{l:List α},(l.filterMap f).Nodup->∀{i j:Nat} {a b:α} {x:β},l[i]? =some a->l[j]? =some b->f a=some x->f b=some x->i=j
 | [],_,i,j,a,b,x,h,_,_,_=>by simp at h
 |y::l,h,i,j,a,b,x,hi,hj,ha,hb=>by
  have key:∀{k:Nat} {c:α},l[k]? =some c->f c=some x->f y=some x->False:=fun{k c} hk hc hy=>by
   rw[List.filterMap_cons_some hy,List.nodup_cons]at h;exact h.1 (List.mem_filterMap.2 ⟨c,List.mem_of_getElem? hk,hc⟩)
  cases i with
  |zero=>
   simp only[List.getElem?_cons_zero,aa]at hi;subst hi;cases j with
   |zero=>rfl
   |succ j=>exact(key (by simpa using hj) hb ha).elim
  |succ i=>
   cases j with
   |zero=>
    simp only[List.getElem?_cons_zero,aa]at hj;subst hj;exact(key (by simpa using hi) ha hb).elim
   |succ j=>
    have:(l.filterMap f).Nodup:=by
     cases hy:f y with
     |none=>simpa[List.filterMap_cons,hy]using h
     |some z=>simp only[List.filterMap_cons,hy,List.nodup_cons]at h;exact h.2
    exact congrArg (· +1) (qE (i:=i) (j:=j) this (by simpa using hi) (by simpa using hj) ha hb)
structure AZ(l:List Oper)(w0:World)(L:Nat->Bool)(a:Act)(w:World)(r0 b1 b2:Nat):Prop where
 sz:a.tmps.size=35
 df:a.defers= []
 tmp:∀(i:Nat) o d,l[i]? =some o->L i=true->o.dst=some d->a.tmps.getD d undef=G6 l r0 b1 b2 d
 bel:Below w0.heap.size w0 w
 down:∀(i:Nat) o,l[i]? =some o->L i=true->∀e∈o.after,Region.binds .any e=true->L e.on=true
 map:∀(i:Nat) o,l[i]? =some o->L i=true->o.dst=some 1->w0.heap.size<=r0/\∃es cl,w.heap[r0]? =some (.map es cl)/\(es.toList.map fun e=>(e.key,e.val)).Perm (nW l b1 b2 L 0 l)
 one:∀(i:Nat) o,l[i]? =some o->L i=true->o.dst=some 15->w0.heap.size<=b1/\w.heap[b1]? =some (.cells #[.int .i64 1] WI (0,0))
 two:∀(i:Nat) o,l[i]? =some o->L i=true->o.dst=some 17->w0.heap.size<=b2/\w.heap[b2]? =some (.cells #[.int .i64 2] WI (0,0))
theorem C5{x y:Int}(hx:cB .i64 x)(hy:cB .i64 y)(w:World):(Instr.build tPl #[(0,.int .i64 x),(1,.int .i64 y)]).run Tryz.prog w= .ok (GJ (x,y)) w:=
 (sd (J:=Env.zero) (w:=w) (K:=fun _=>True) (C:=(cfd [] [] [] cH bn).toCtx) (t:=tPl) (parts:= [(0,.it .i64 x),(1,.it .i64 y)]) (r:= .ag [.it .i64 x,.it .i64 y]) (wP nE) (by kernel_rfl) (by simp;exact⟨hx,hy⟩)).1
theorem UA[Fen](n:Int):aM Tryz.prog Vz [.it .i64 n] [] (fun v r=>v= .fn fMc [.lp 0 0]/\r= [.blk WI (.it .i64 n)]) (fun _ _=>False):=
 bU aP aT (inl:=cH) (ann:=bn) (G:=(V.fn fMc [V.lp 0 0]=V.fn fMc [V.lp 0 0]/\ [aS.blk WI (V.it .i64 n)]= [aS.blk WI (V.it .i64 n)])) ⟨rfl,rfl⟩ (by kernel_rfl)
theorem HN[Fen]{n:Int}(hn:cB .i64 n)(w:World):CallsIn (FF Tryz.prog none) 0 Tryz.prog Vz #[.int .i64 n] w fun e w'=>∃b,e= .returned (Jr b)/\Below w.heap.size w w'/\w.heap.size<=b/\w'.heap[b]? =some (.cells #[.int .i64 n] WI (0,0)):=by
 have hE:bp Env.zero (fun _ _=>False) [] (known []) w (fun _=>False) w:=
  ⟨fun i hi=>hi,Nat.le_refl _,rfl,rfl,rfl,fun i hi=>by simp[known,aN]at hi,fun i b hi=>by simp[known,aN]at hi,fun i j b hi=>by simp[known,aN]at hi,fun i b hi=>by simp[known,aN]at hi,fun _ _ _=>rfl⟩
 have hc:=UA n Env.zero _ w (fun _=>False) w hE ⟨hn,trivial⟩
 refine hc.mono fun e w' ⟨v,ρ1,fps1,r,g1,g2,g3,g4⟩=>?_
 rcases g4 with⟨rfl,rfl,rfl⟩|⟨_,hF⟩
 ·have hk:known [aS.blk WI (V.it .i64 n)] 0:=by simp[known,aN]
  obtain⟨_,_,h1,h2⟩:=g1.holds 0 hk;refine⟨ρ1.num 0,by simp only[den,bG,Jr];rfl,⟨g1.os,g1.tape,g1.output,g1.old,fun b hb=>g1.same b hb (fun h=>h)⟩,?_,?_⟩
  ·rcases Nat.lt_or_ge (ρ1.num 0) w.heap.size with h|h
   ·exact(g1.inF 0 _ hk h1 h).elim
   ·exact h
  ·rw[h2];simp[cells,den,Value.cells]
 ·exact hF.elim
theorem oV{l:List Oper}(hB:wV l=true){i:Nat}{o:Oper}(h:l[i]? =some o):o.guard=none/\LW l o=true/\Yz l o=true:=by
 unfold wV at hB;simp only[af,List.all_eq_true]at hB;have:=hB.1.1.1.1.1.1.1 o (List.mem_of_getElem? h);exact⟨by simpa using this.1.1,this.1.2,this.2⟩
theorem TF{l:List Oper}(hB:wV l=true){i j:Nat}{o o':Oper}{t:Nat}(h:l[i]? =some o)(h':l[j]? =some o')(hd:o.dst=some t)(hd':o'.dst=some t):i=j:=by
 unfold wV at hB;simp only[af]at hB;exact pH (t:=t) hB.1.1.1.1.1.2 (by rw[List.getElem?_map,h,Option.map_some,hd]) (by rw[List.getElem?_map,h',Option.map_some,hd'])
theorem DV{l:List Oper}(hB:wV l=true):jJ l 1=none/\jJ l 15=none/\jJ l 17=none/\jJ l 34=none/\jJ l 0=none:=by
 unfold wV at hB;simp only[af,Option.isNone_iff_eq_none]at hB;obtain⟨⟨⟨⟨⟨_,h1⟩,h2⟩,h3⟩,h4⟩,h5⟩:=hB;exact⟨h1,h2,h3,h4,h5⟩
theorem vN{l:List Oper}{o:Oper}(h:LW l o=true){d:Nat}(hd:o.dst=some d):d<35/\((∃k,jJ l d=some k)\/d=1\/d=15\/d=17\/(d=34/\Operand.tmp 1∈o.op.operands)\/(d=0/\Operand.tmp 34∈o.op.operands)):=by
 obtain⟨dst,op,type,pos,after,guard⟩:=o;simp only at hd;subst hd;cases op<;>simp only[LW,Bool.false_eq_true]at h
 case move x=>
  simp only[af,ai,aa]at h;obtain⟨rfl,h⟩:=h;cases x<;>simp at h
  subst h;exact⟨by omega,.inr (.inr (.inr (.inr (.inl ⟨rfl,by simp[Op.operands]⟩))))⟩
 case assign x=>
  simp only[af,ai,aa]at h;obtain⟨rfl,h⟩:=h;cases x<;>simp at h
  subst h;exact⟨by omega,.inr (.inr (.inr (.inr (.inr ⟨rfl,by simp[Op.operands]⟩))))⟩
 case makeMap t r=>
  simp only[af,ai,aa]at h;obtain⟨_,rfl⟩:=h;exact⟨by omega,.inr (.inl rfl)⟩
 case insert t m k x=>simp at h
 case build t ps=>
  simp only[af,ai]at h;obtain⟨h1,h2,h3⟩:=h;refine⟨by rw[Nat.blt_eq]at h2;exact h2,.inl ?_⟩
  rw[h3];split at h1
  ·rename_i k hk;exact⟨k,hk⟩
  ·simp at h1
 case call c=>
  simp only[af]at h;obtain⟨_,h⟩:=h;split at h
  ·simp only[Bool.or_eq_true,af,ai,aa]at h;rcases h with⟨rfl,_⟩|⟨rfl,_⟩
   ·exact⟨by omega,.inr (.inr (.inl rfl))⟩
   ·exact⟨by omega,.inr (.inr (.inr (.inl rfl)))⟩
  ·simp at h
theorem vS{l:List Oper}{o:Oper}(h:LW l o=true){k:Int×Int}(hk:ky l o=some k):∃s x,o.op= .insert tMo (.tmp 1) (.tmp s) x/\o.dst=none/\jJ l s=some k/\((∃g,x= .func g)\/x= .tmp 15\/x= .tmp 17):=by
 obtain⟨dst,op,type,pos,after,guard⟩:=o;cases op<;>simp only[ky,reduceCtorEq]at hk
 rename_i t m kk x;simp only[LW,af,ai]at h;obtain⟨⟨⟨⟨rfl,rfl⟩,hm⟩,hs⟩,hx⟩:=h;cases m<;>simp at hm
 subst hm;cases kk<;>simp only[reduceCtorEq]at hk
 rename_i s;refine⟨s,x,rfl,rfl,hk,?_⟩;cases x<;>simp at hx
 ·rcases hx with rfl|rfl
  ·exact .inr (.inl rfl)
  ·exact .inr (.inr rfl)
 ·exact .inl ⟨_,rfl⟩
theorem yy{l:List Oper}{o:Oper}{k:Int×Int}(hk:ky l o=some k)(b1 b2:Nat){t s:Nat}{m x:Operand}(ho:o.op= .insert t m (.tmp s) x):u5 l b1 b2 o=some (GJ k,EL b1 b2 x):=by
 unfold ky at hk;unfold u5;rw[ho]at hk⊢;simp only at hk⊢;rw[hk]
theorem V3{a b:Int×Int}(h:GJ a=GJ b):a=b:=by
 simp only[GJ,Value.agg.injEq,Array.mk.injEq,List.cons.injEq,Value.int.injEq,true_and,and_true]at h;exact Prod.ext h.1 h.2
theorem Yy(a:Int×Int):GJ a=fQ [a.1,a.2]:=rfl
section
variable {l:List Oper} {w0:World} {L:Nat->Bool} {a:Act} {w:World} {r0 b1 b2:Nat} {i:Nat} {o:Oper}
theorem QR(hB:wV l=true){j:Nat}{o':Oper}(h:l[j]? =some o'){t:Nat}(ht:Operand.tmp t∈o'.op.operands):∃e∈o'.after,Region.binds .any e=true/\∃o1,l[e.on]? =some o1/\o1.dst=some t:=by
 have:=(oV hB h).2.2;unfold Yz at this;rw[List.all_eq_true]at this;have:=this _ (by simpa using ht)
 simp only[List.any_eq_true]at this;obtain⟨e,he,h2⟩:=this;simp only[afB,af]at h2;refine⟨e,by simpa using he,h2.1,?_⟩
 have h3:=h2.2;split at h3
 ·rename_i o1 ho1;exact⟨o1,ho1,by simpa using h3⟩
 ·simp at h3
theorem AZ.dep(I:AZ l w0 L a w r0 b1 b2)(hB:wV l=true){j:Nat}{o':Oper}(h:l[j]? =some o')(hj:L j=true){t:Nat}(ht:Operand.tmp t∈o'.op.operands):∃k o1,l[k]? =some o1/\o1.dst=some t/\L k=true:=by
 obtain⟨e,he,hb,o1,h1,h2⟩:=QR hB h ht;exact⟨e.on,o1,h1,h2,I.down j o' h hj e he hb⟩
theorem AZ.root(I:AZ l w0 L a w r0 b1 b2)(hB:wV l=true){j:Nat}{o':Oper}(h:l[j]? =some o')(hj:L j=true){d:Nat}(hd:o'.dst=some d)(hd':d=1\/d=34\/d=0):∃k o1,l[k]? =some o1/\o1.dst=some 1/\L k=true:=by
 have step34:∀{j:Nat} {o':Oper},l[j]? =some o'->L j=true->o'.dst=some 34->∃k o1,l[k]? =some o1/\o1.dst=some 1/\L k=true:=fun{j o'} h hj hd=>by
  rcases(vN (oV hB h).2.1 hd).2 with⟨k,hk⟩|hk|hk|hk|⟨_,hk⟩|⟨hk,_⟩
  ·rw[(DV hB).2.2.2.1]at hk;simp at hk
  ·omega
  ·omega
  ·omega
  ·exact I.dep hB h hj hk
  ·omega
 rcases hd' with rfl|rfl|rfl
 ·exact⟨j,o',h,hd,hj⟩
 ·exact step34 h hj hd
 ·rcases(vN (oV hB h).2.1 hd).2 with⟨k,hk⟩|hk|hk|hk|⟨hk,_⟩|⟨_,hk⟩
  ·rw[(DV hB).2.2.2.2]at hk;simp at hk
  ·omega
  ·omega
  ·omega
  ·omega
  ·obtain⟨k,o1,h1,h2,h3⟩:=I.dep hB h hj hk;exact step34 h1 h3 h2
theorem yN{k:Int×Int}{s:Nat}(h:jJ l s=some k):G6 l r0 b1 b2 s=GJ k:=by unfold G6;rw[h]
theorem pP{s:Nat}(h:jJ l s=none)(h1:s≠15)(h2:s≠17):G6 l r0 b1 b2 s= .map (some r0):=by unfold G6;rw[h];simp[h1,h2]
theorem yr(h:jJ l 15=none):G6 l r0 b1 b2 15=Jr b1:=by unfold G6;rw[h];rfl
theorem yC(h:jJ l 17=none):G6 l r0 b1 b2 17=Jr b2:=by unfold G6;rw[h];rfl
theorem AZ.put(I:AZ l w0 L a w r0 b1 b2)(hB:wV l=true)(ho:l[i]? =some o)(hLi:L i=false)(hdep:∀e∈o.after,Region.binds .any e=true->L e.on=true){d:Nat}(hd:o.dst=some d){v:Value}{w':World}{c0 c1 c2:Nat}
  (hv:v=G6 l c0 c1 c2 d) (hs:∀(j:Nat) o' d',l[j]? =some o'->L j=true->o'.dst=some d'->G6 l r0 b1 b2 d'=G6 l c0 c1 c2 d') (hb:Below w0.heap.size w0 w')
  (hm:∀(j:Nat) o',l[j]? =some o'->ins L i j=true->o'.dst=some 1->w0.heap.size<=c0/\∃es cl,w'.heap[c0]? =some (.map es cl)/\(es.toList.map fun e=>(e.key,e.val)).Perm (nW l c1 c2 (ins L i) 0 l))
  (h1:∀(j:Nat) o',l[j]? =some o'->ins L i j=true->o'.dst=some 15->w0.heap.size<=c1/\w'.heap[c1]? =some (.cells #[.int .i64 1] WI (0,0)))
  (h2:∀(j:Nat) o',l[j]? =some o'->ins L i j=true->o'.dst=some 17->w0.heap.size<=c2/\w'.heap[c2]? =some (.cells #[.int .i64 2] WI (0,0))):AZ l w0 (ins L i) (a.put (some d) v) w' c0 c1 c2:=by
 have hd35:=(vN (oV hB ho).2.1 hd).1;refine⟨by rw[cg];exact I.sz,by simpa[Act.put]using I.df,fun j o' d' hj hL hd'=>?_,hb,fun j o' hj hL e he hbi=>?_,hm,h1,h2⟩
 ·have hp:∀s,(a.put (some d) v).tmps.getD s undef=if d=s then v else a.tmps.getD s undef:=fun s=>cj a d s v (by rw[I.sz];exact hd35)
  rw[hp];by_cases e:d=d'
  ·subst e;rw[ar rfl];exact hv
  ·rw[aq e]
   have hji:j≠i:=fun h=>by
    subst h;rw[ho]at hj;simp only[aa]at hj;subst hj;rw[hd]at hd';simp only[aa]at hd';exact e hd'
   have hLj:L j=true:=by simpa[ins,hji]using hL
   rw[I.tmp j o' d' hj hLj hd'];exact hs j o' d' hj hLj hd'
 ·by_cases hji:j=i
  ·subst hji;rw[ho]at hj;simp only[aa]at hj;subst hj;simp[ins,hdep e he hbi]
  ·have hLj:L j=true:=by simpa[ins,hji]using hL
   simp[ins,I.down j o' hj hLj e he hbi]
theorem pz(ho:l[i]? =some o)(hn:ky l o=none){c1 c2:Nat}(hc:∀(j:Nat) o',l[j]? =some o'->L j=true->u5 l b1 b2 o'=u5 l c1 c2 o'):nW l b1 b2 L 0 l=nW l c1 c2 (ins L i) 0 l:=
 pT fun j o' hj hk=>by
  rw[Nat.zero_add]
  have hji:j≠i:=fun h=>by
   subst h;rw[ho]at hj;simp only[aa]at hj;subst hj;rw[hn]at hk;simp at hk
  exact⟨by simp[ins,hji],fun hL=>hc j o' hj hL⟩
end
theorem Rp[Fen]{ops:Array Oper}{l:List Oper}(hops:ops.toList=l)(hB:wV l=true)(hk:(JR l).Nodup){w0:World}{Q:Exit->Act->World->Prop}(L:Nat->Bool)(a:Act)(w:World)(i:Nat)(o:Oper)(ho:ops[i]? =some o)(hLi:L i=false)
  (hdep:∀e∈o.after,Region.binds .any e=true->L e.on=true) (hI:∃r0 b1 b2,AZ l w0 L a w r0 b1 b2) (K:Act->World->Prop) (hK:∀a' w',(∃r0 b1 b2,AZ l w0 (ins L i) a' w' r0 b1 b2)->K a' w'):wpOpIn (FF Tryz.prog none) 0 Tryz.prog ops Q i K a w:=by
 obtain⟨r0,b1,b2,I⟩:=hI;have hol:l[i]? =some o:=by rw[<-hops];simpa using ho
 have hg:=(oV hB hol).1;have hop:=(oV hB hol).2.1;obtain⟨n1,n15,n17,n34,n0⟩:=DV hB;have hsz:=I.bel.size;unfold wpOpIn;simp only[ho];rw[ar (by simp[Region.wanted,hg])]
 have hev:∀t,Operand.tmp t∈o.op.operands->∃k o1,l[k]? =some o1/\o1.dst=some t/\L k=true/\a.eval (.tmp t)=G6 l r0 b1 b2 t:=fun t ht=>by
  obtain⟨e,he,hb,o1,h1,h2⟩:=QR hB hol ht;exact⟨e.on,o1,h1,h2,hdep e he hb,I.tmp _ _ _ h1 (hdep e he hb) h2⟩
 have notI:∀{j:Nat} {o':Oper} {t:Nat},l[j]? =some o'->L j=true->o'.dst=some t->o.dst=some t->False:=fun{j o' t} h1 h2 h3 h4=>by
  have:=TF hB h1 hol h3 h4;rw[this,hLi]at h2;simp at h2
 have oldI:∀{j:Nat} {o':Oper} {t:Nat},l[j]? =some o'->ins L i j=true->o'.dst=some t->o.dst≠some t->L j=true:=fun{j o' t} h1 h2 h3 h4=>by
  have:j≠i:=fun e=>by
   subst e;rw[hol]at h1;simp only[aa]at h1;subst h1;exact h4 h3
  simpa[ins,this]using h2
 obtain⟨dst,op,type,pos,after,guard⟩:=o;simp only at hg;subst hg
 have about:∀(op:Op),(∀c,op≠ .call c)->∀f,(⟨dst,op,type,pos,after,none⟩:Oper).about Tryz.prog w a.eval=some f->(Tryz.prog.funcs[f]?).isSome=true:=fun op hc f hf=>by
  unfold Oper.about at hf;split at hf
  ·rename_i c hc';exact absurd hc' (hc c)
  ·simp at hf
 cases op<;>simp only[LW,Bool.false_eq_true]at hop
 case move x=>
  simp only[af,ai]at hop;obtain⟨rfl,hx⟩:=hop;cases x<;>simp at hx
  subst hx;obtain⟨k,o1,g1,g2,g3,g4⟩:=hev 1 (by simp[Op.operands])
  have hn:ky l ⟨some 34,.move (.tmp 1),type,pos,after,none⟩=none:=rfl;refine eW (ro:=none) (by simp) (about _ (by simp)) ?_
  rw[show(execOp a.eval ⟨some 34,.move (.tmp 1),type,pos,after,none⟩).run Tryz.prog w= .ok (.value (.map (some r0))) w by simp[execOp,g4,pP n1]]
  refine hK _ _ ⟨r0,b1,b2,I.put hB hol hLi hdep rfl (pP n34 (by omega) (by omega)).symm (fun _ _ _ _ _ _=>rfl) I.bel (fun j o' h1 h2 h3=>?_) (fun j o' h1 h2 h3=>I.one j o' h1 (oldI h1 h2 h3 (by simp)) h3) (fun j o' h1 h2 h3=>I.two j o' h1 (oldI h1 h2 h3 (by simp)) h3)⟩
  rw[<-pz hol hn fun _ _ _ _=>rfl]
  exact I.map j o' h1 (oldI h1 h2 h3 (by simp)) h3
 case assign x=>
  simp only[af,ai]at hop;obtain⟨rfl,hx⟩:=hop;cases x<;>simp at hx
  subst hx;obtain⟨k,o1,g1,g2,g3,g4⟩:=hev 34 (by simp[Op.operands])
  have hn:ky l ⟨some 0,.assign (.tmp 34),type,pos,after,none⟩=none:=rfl;refine eW (ro:=none) (by simp) (about _ (by simp)) ?_
  rw[show(execOp a.eval ⟨some 0,.assign (.tmp 34),type,pos,after,none⟩).run Tryz.prog w= .ok (.value (.map (some r0))) w by simp[execOp,g4,pP n34]]
  refine hK _ _ ⟨r0,b1,b2,I.put hB hol hLi hdep rfl (pP n0 (by omega) (by omega)).symm (fun _ _ _ _ _ _=>rfl) I.bel (fun j o' h1 h2 h3=>?_) (fun j o' h1 h2 h3=>I.one j o' h1 (oldI h1 h2 h3 (by simp)) h3) (fun j o' h1 h2 h3=>I.two j o' h1 (oldI h1 h2 h3 (by simp)) h3)⟩
  rw[<-pz hol hn fun _ _ _ _=>rfl]
  exact I.map j o' h1 (oldI h1 h2 h3 (by simp)) h3
 case build t ps=>
  simp only[af]at hop;obtain⟨h1,h2⟩:=hop;split at h1
  case h_2=>simp at h1
  rename_i c hc;split at h2
  case h_2=>simp at h2
  rename_i d;simp only[af,ah,ai]at h1 h2;have hkd:jJ l d=some c:=h2.2.trans hc;unfold cqo at hc;simp only at hc;split at hc
  case isFalse=>simp at hc
  rename_i htp;have htp:=ai.1 htp;split at hc<;>simp only[aa,reduceCtorEq]at hc
  rename_i x y hps;subst hc;have hps':ps= #[(0,.const (.int .i64 x)),(1,.const (.int .i64 y))]:=by rw[<-hps]
  subst hps';have hn:ky l ⟨some d,.build t #[(0,.const (.int .i64 x)),(1,.const (.int .i64 y))],type,pos,after,none⟩=none:=rfl;have hdn:d≠1/\d≠15/\d≠17:=⟨fun e=>by subst e;rw[n1]at hkd;simp at hkd,fun e=>by subst e;rw[n15]at hkd;simp at hkd,fun e=>by subst e;rw[n17]at hkd;simp at hkd⟩
  refine eW (ro:=none) (by simp) (about _ (by simp)) ?_
  have hr:=C5 h1.1 h1.2 w
  rw[show(execOp a.eval ⟨some d,.build t #[(0,.const (.int .i64 x)),(1,.const (.int .i64 y))],type,pos,after,none⟩).run Tryz.prog w= .ok (.value (GJ (x,y))) w by
   subst htp;simp only[execOp,Sem.run_bind];rw[show(#[(0,Operand.const (.int .i64 x)),(1,.const (.int .i64 y))].map fun(i,z)=>(i,a.eval z))= #[(0,Value.int .i64 x),(1,.int .i64 y)] by apply Array.ext';simp[Act.eval],hr]
   rfl]
  refine hK _ _ ⟨r0,b1,b2,I.put hB hol hLi hdep rfl (yN hkd).symm (fun _ _ _ _ _ _=>rfl) I.bel (fun j o' h1 h2 h3=>?_) (fun j o' h1 h2 h3=>I.one j o' h1 (oldI h1 h2 h3 (by simp[hdn.2.1])) h3) (fun j o' h1 h2 h3=>I.two j o' h1 (oldI h1 h2 h3 (by simp[hdn.2.2])) h3)⟩
  rw[<-pz hol hn fun _ _ _ _=>rfl]
  exact I.map j o' h1 (oldI h1 h2 h3 (by simp[hdn.1])) h3
 case makeMap t r=>
  simp only[af,ai,Option.isNone_iff_eq_none]at hop;obtain⟨⟨rfl,rfl⟩,rfl⟩:=hop;have hn:ky l ⟨some 1,.makeMap tMo none,type,pos,after,none⟩=none:=rfl
  have hroot:∀{j:Nat} {o':Oper} {d:Nat},l[j]? =some o'->L j=true->o'.dst=some d->(d=1\/d=34\/d=0)->False:=fun{j o' d} h1 h2 h3 h4=>by
   obtain⟨k,o1,g1,g2,g3⟩:=I.root hB h1 h2 h3 h4;exact notI g1 g3 g2 rfl
  have hno:∀(j:Nat) o',l[j]? =some o'->L j=true->ky l o'=none:=fun j o' h1 h2=>by
   cases hc:ky l o' with
   |none=>rfl
   |some c=>
    exfalso
    obtain⟨s,x,e1,_⟩:=vS (oV hB h1).2.1 hc;obtain⟨k,o1,g1,g2,g3⟩:=I.dep hB h1 h2 (t:=1) (by rw[e1];simp[Op.operands])
    exact notI g1 g3 g2 rfl
  refine eW (ro:=none) (by simp) (about _ (by simp)) ?_
  rw[show(execOp a.eval ⟨some 1,.makeMap tMo none,type,pos,after,none⟩).run Tryz.prog w= .ok (.value (.map (some w.heap.size))) (w.alloc (.map #[] 0)) by
   simp[execOp,show(Instr.makeMap tMo none).run Tryz.prog w= .ok (.map (some w.heap.size)) (w.alloc (.map #[] 0))from rfl]]
  have hal:=MapKept.heap_alloc w (.map #[] 0);refine hK _ _ ⟨w.heap.size,b1,b2,I.put hB hol hLi hdep rfl (pP n1 (by omega) (by omega)).symm (fun j o' d' h1 h2 h3=>?_) (I.bel.alloc hsz _) (fun j o' h1 h2 h3=>?_) (fun j o' h1 h2 h3=>?_) (fun j o' h1 h2 h3=>?_)⟩
  ·rcases(vN (oV hB h1).2.1 h3).2 with⟨k,hk'⟩|e|e|e|⟨e,_⟩|⟨e,_⟩
   ·rw[yN hk',yN hk']
   ·exact(hroot h1 h2 h3 (.inl e)).elim
   ·rw[e,yr n15,yr n15]
   ·rw[e,yC n17,yC n17]
   ·exact(hroot h1 h2 h3 (.inr (.inl e))).elim
   ·exact(hroot h1 h2 h3 (.inr (.inr e))).elim
  ·refine⟨hsz, #[],0,hal.1,?_⟩
   rw[Cr fun j o' hj hL=>nG (by
    rw[Nat.zero_add]at hL;by_cases e:j=i
    ·subst e;rw[hol]at hj;simp only[aa]at hj;subst hj;exact hn
    ·exact hno j o' hj (by simpa[ins,e]using hL)) _ _]
   exact List.Perm.refl _
  ·obtain⟨g1,g2⟩:=I.one j o' h1 (oldI h1 h2 h3 (by simp)) h3
   exact⟨g1,by rw[hal.2 _ (Array.getElem?_eq_some_iff.1 g2).1];exact g2⟩
  ·obtain⟨g1,g2⟩:=I.two j o' h1 (oldI h1 h2 h3 (by simp)) h3
   exact⟨g1,by rw[hal.2 _ (Array.getElem?_eq_some_iff.1 g2).1];exact g2⟩
 case call c=>
  obtain⟨callee,args,argTypes⟩:=c;simp only[af]at hop;obtain⟨h1,h2⟩:=hop;split at h1
  case h_2=>simp at h1
  rename_i g;have hgf:=ai.1 h1;subst hgf;split at h2
  case h_2=>simp at h2
  rename_i n hargs;have hargs':args= #[.const (.int .i64 n)]:=by rw[<-hargs]
  subst hargs';simp only[Bool.or_eq_true,af,ai]at h2;have hn:ky l ⟨dst,.call ⟨.value (.func Vz), #[.const (.int .i64 n)],argTypes⟩,type,pos,after,none⟩=none:=rfl;have hfd:(Tryz.prog.funcs[Vz]?).isSome=true:=by kernel_rfl
  have hnr:cB .i64 n:=by rcases h2 with⟨_,rfl⟩|⟨_,rfl⟩<;>simp[cB]
  have hrun:(execOp a.eval ⟨dst,.call ⟨.value (.func Vz), #[.const (.int .i64 n)],argTypes⟩,type,pos,after,none⟩).run Tryz.prog w= .ok (.enter Vz #[.int .i64 n]) w:=by
   have hcb:iG Tryz.prog Vz=true:=by kernel_rfl
   obtain⟨fn,f1,f2,f3⟩:=qU hcb;simp only[execOp,resolve,Act.eval,Deferred.ofValue,Sem.run_bind,Sem.run_pure,Result.andThen_ok,invoke,callFunc,run_program,f1,f2,f3,Bool.false_eq_true,if_false];simp[Act.eval]
  refine eW (ro:=none) (by simp) (fun f hf=>by
   have:f=Vz:=by
    simp only[Oper.about,resolve,Act.eval,Deferred.ofValue,Sem.run_bind,Sem.run_pure,Result.andThen_ok,Target.leads,aa]at hf;exact hf.symm
   rw[this];exact hfd) ?_
  rw[hrun];refine⟨fun h=>by simp[FF]at h,(HN hnr w).mono fun e w' ⟨b,he,hb,hbs,hbc⟩=>?_⟩
  subst he;have hbel:Below w0.heap.size w0 w':=⟨hb.os.trans I.bel.os,hb.tape.trans I.bel.tape,hb.output.trans I.bel.output,Nat.le_trans I.bel.size hb.size,fun c hc=>by rw[hb.block c (by omega)];exact I.bel.block c hc⟩
  have old:∀c x,w.heap[c]? =some x->w'.heap[c]? =some x:=fun c x h=>by rw[hb.block c (Array.getElem?_eq_some_iff.1 h).1];exact h
  have slotOf:∀(s:Nat),dst=some s->∀(j:Nat) o',l[j]? =some o'->L j=true->∀t m k,o'.op= .insert t m k (.tmp s)->False:=fun s hs j o' h1 h2 t m k h3=>by
   obtain⟨k,o1,g1,g2,g3⟩:=I.dep hB h1 h2 (t:=s) (by rw[h3];simp[Op.operands])
   exact notI g1 g3 g2 hs
  have cIns_ne:∀(c1 c2:Nat),(dst=some 15/\c2=b2\/dst=some 17/\c1=b1)->∀(j:Nat) o',l[j]? =some o'->L j=true->u5 l b1 b2 o'=u5 l c1 c2 o':=fun c1 c2 hc j o' h1 h2=>by
   cases hk':ky l o' with
   |none=>rw[nG hk',nG hk']
   |some q=>
    obtain⟨s,x,e1,_,_,e4⟩:=vS (oV hB h1).2.1 hk';rw[yy hk' _ _ e1,yy hk' _ _ e1];rcases e4 with⟨g,rfl⟩|rfl|rfl
    ·rfl
    ·rcases hc with⟨hc,_⟩|⟨_,rfl⟩
     ·exact(slotOf 15 hc j o' h1 h2 _ _ _ e1).elim
     ·rfl
    ·rcases hc with⟨_,rfl⟩|⟨hc,_⟩
     ·rfl
     ·exact(slotOf 17 hc j o' h1 h2 _ _ _ e1).elim
  rcases h2 with⟨rfl,rfl⟩|⟨rfl,rfl⟩
  ·refine hK _ _ ⟨r0,b,b2,I.put hB hol hLi hdep rfl (yr n15).symm (fun j o' d' h1 h2 h3=>?_) hbel (fun j o' h1 h2 h3=>?_) (fun j o' h1 h2 h3=>⟨Nat.le_trans hsz hbs,hbc⟩) (fun j o' h1 h2 h3=>?_)⟩
   ·by_cases e:d'=15
    ·subst e;exact(notI h1 h2 h3 rfl).elim
    ·unfold G6;simp[e]
   ·obtain⟨g1,es,cl,g2,g3⟩:=I.map j o' h1 (oldI h1 h2 h3 (by simp)) h3
    exact⟨g1,es,cl,old _ _ g2,by rw[<-pz hol hn (cIns_ne b b2 (.inl ⟨rfl,rfl⟩))];exact g3⟩
   ·obtain⟨g1,g2⟩:=I.two j o' h1 (oldI h1 h2 h3 (by simp)) h3
    exact⟨g1,old _ _ g2⟩
  ·refine hK _ _ ⟨r0,b1,b,I.put hB hol hLi hdep rfl (yC n17).symm (fun j o' d' h1 h2 h3=>?_) hbel (fun j o' h1 h2 h3=>?_) (fun j o' h1 h2 h3=>?_) (fun j o' h1 h2 h3=>⟨Nat.le_trans hsz hbs,hbc⟩)⟩
   ·by_cases e:d'=17
    ·subst e;exact(notI h1 h2 h3 rfl).elim
    ·unfold G6;simp[e]
   ·obtain⟨g1,es,cl,g2,g3⟩:=I.map j o' h1 (oldI h1 h2 h3 (by simp)) h3
    exact⟨g1,es,cl,old _ _ g2,by rw[<-pz hol hn (cIns_ne b1 b (.inr ⟨rfl,rfl⟩))];exact g3⟩
   ·obtain⟨g1,g2⟩:=I.one j o' h1 (oldI h1 h2 h3 (by simp)) h3
    exact⟨g1,old _ _ g2⟩
 case insert t m k x=>
  have hck:∃c,ky l ⟨dst,.insert t m k x,type,pos,after,none⟩=some c:=by
   simp only[af]at hop;obtain⟨⟨_,hs⟩,_⟩:=hop;cases k<;>simp at hs
   exact Option.isSome_iff_exists.1 hs
  obtain⟨c,hck⟩:=hck;obtain⟨s,x',e1,e2,e3,e4⟩:=vS (o:=⟨dst,.insert t m k x,type,pos,after,none⟩) hop hck;simp only[Op.insert.injEq]at e1;obtain⟨rfl,rfl,rfl,rfl⟩:=e1;simp only at e2;subst e2;obtain⟨k1,o1,g1,g2,g3,g4⟩:=hev 1 (by simp[Op.operands])
  obtain⟨k2,o2,q1,q2,q3,q4⟩:=hev s (by simp[Op.operands])
  rw[pP n1 (by omega) (by omega)]at g4
  rw[yN e3]at q4
  have hx:a.eval x=EL b1 b2 x:=by
   rcases e4 with⟨g,rfl⟩|rfl|rfl
   ·rfl
   ·obtain⟨_,_,_,_,_,h⟩:=hev 15 (by simp[Op.operands])
    rw[h,yr n15];rfl
   ·obtain⟨_,_,_,_,_,h⟩:=hev 17 (by simp[Op.operands])
    rw[h,yC n17];rfl
  obtain⟨m1,es,cl,m2,m3⟩:=I.map k1 o1 g1 g3 g2
  have hmem:∀e∈es.toList,∃(j:Nat) (o':Oper) (c':Int×Int),l[j]? =some o'/\L j=true/\ky l o'=some c'/\e.key=GJ c':=fun e he=>by
   have:=m3.mem_iff.1 (List.mem_map.2 ⟨e,he,rfl⟩);obtain⟨j,o',h1,h2,h3⟩:=FQ this;rw[Nat.zero_add]at h2;cases hc:ky l o' with
   |none=>rw[nG hc]at h3;simp at h3
   |some c'=>
    obtain⟨s',x',f1,_⟩:=vS (oV hB h1).2.1 hc;rw[yy hc _ _ f1]at h3;simp only[aa,ae]at h3;exact⟨j,o',c',h1,h2,hc,h3.1.symm⟩
  have hwide:pM Tryz.prog tPl 2=true:=by kernel_rfl
  have hum:Tryz.prog.underlying tMo=some (.map tPl 171):=by kernel_rfl
  obtain⟨r,f1,f2⟩:=nq (x:= [c.1,c.2]) hwide rfl w es.toList fun e he=>by
   obtain⟨_,_,c',_,_,_,h⟩:=hmem e he;exact⟨[c'.1,c'.2],rfl,h⟩
  have hr:r=none:=by
   rcases f2 with⟨h,_⟩|⟨j,e,rfl,h1,h2⟩
   ·exact h
   ·exfalso
    obtain⟨j',o',c',h3,h4,h5,h6⟩:=hmem e (List.mem_of_getElem? h1);have:c'=c:=V3 (h6.symm.trans h2);subst this;have:=qE hk h3 hol h5 hck;rw[this,hLi]at h4;simp at h4
  subst hr;have hck2:=oh (P:=Tryz.prog) (a:= [c.1,c.2]) hwide rfl false w;have hset:=MapKept.heap_set (w:=w) (r:=r0) (o':= .map (es.push {key:=GJ c,val:=EL b1 b2 x,born:=cl}) (cl+1)) m2
  have hrun:(execOp a.eval ⟨none,.insert tMo (.tmp 1) (.tmp s) x,type,pos,after,none⟩).run Tryz.prog w= .ok .skip {w with heap:=w.heap.setIfInBounds r0 (.map (es.push {key:=GJ c,val:=EL b1 b2 x,born:=cl}) (cl+1))}:=by
   have:(Instr.mapUpdate tMo (.map (some r0)) (GJ c) (EL b1 b2 x)).run Tryz.prog w= .ok () {w with heap:=w.heap.setIfInBounds r0 (.map (es.push {key:=GJ c,val:=EL b1 b2 x,born:=cl}) (cl+1))}:=by
    rw[Yy];simp only[Instr.mapUpdate,Sem.run_bind,bC w hum,Result.andThen_ok,MapKept.run_getObj_map m2,hck2,f1,MapKept.run_setObj_map _ m2]
   simp[execOp,g4,q4,hx,this]
  refine eW (ro:=none) (by simp) (about _ (by simp)) ?_
  rw[hrun];have hci:=yy hck b1 b2 (rfl:(⟨none,.insert tMo (.tmp 1) (.tmp s) x,type,pos,after,none⟩:Oper).op=_);have hp:=Ez (l:=l) (b1:=b1) (b2:=b2) hLi (m:=l) (i:=0) hol (by omega) hci
  have old:∀b cs t,w.heap[b]? =some (Go.Obj.cells cs t (0,0))->(w.heap.setIfInBounds r0 (Go.Obj.map (es.push {key:=GJ c,val:=EL b1 b2 x,born:=cl}) (cl+1)))[b]? =some (Go.Obj.cells cs t (0,0)):=fun b cs t h=>by
   rw[hset.2 b fun e=>by rw[e,m2]at h;simp at h]
   exact h
  refine hK _ _ ⟨r0,b1,b2,I.sz,I.df,fun j o' d' h1 h2 h3=>I.tmp j o' d' h1 (oldI h1 h2 h3 (by simp)) h3,⟨I.bel.os,I.bel.tape,I.bel.output,by simpa using hsz,fun b hb=>?_⟩,fun j o' h1 h2 e he hbi=>?_,fun j o' h1 h2 h3=>⟨m1,_,_,hset.1,?_⟩,fun j o' h1 h2 h3=>?_,fun j o' h1 h2 h3=>?_⟩
  ·show(w.heap.setIfInBounds r0 _)[b]? =_
   rw[hset.2 b (by omega)]
   exact I.bel.block b hb
  ·by_cases hji:j=i
   ·subst hji;rw[hol]at h1;simp only[aa]at h1;subst h1;simp[ins,hdep e he hbi]
   ·have hLj:L j=true:=by simpa[ins,hji]using h2
    simp[ins,I.down j o' h1 hLj e he hbi]
  ·simp only[Array.toList_push,List.map_append,List.map_cons,List.map_nil];exact(List.Perm.append_right _ m3).trans hp.symm
  ·obtain⟨u1,u2⟩:=I.one j o' h1 (oldI h1 h2 h3 (by simp)) h3
   exact⟨u1,old _ _ _ u2⟩
  ·obtain⟨u1,u2⟩:=I.two j o' h1 (oldI h1 h2 h3 (by simp)) h3
   exact⟨u1,old _ _ _ u2⟩
def Uq(n:Nat):Code->Option (Array Oper)
 | .region i ops _=>if i==n then some ops else none
 | .seq a b=>(Uq n a).orElse fun _=>Uq n b
 |_=>none
abbrev fOd:Nat:=113
noncomputable abbrev Ov:Func:=Tryz.f113
noncomputable def od0:Array Oper:=(Ov.body.bind (Uq 0)).getD #[]
noncomputable def El:Array Oper:=(Ov.body.bind (Uq 1)).getD #[]
theorem UD:Ov.body=some (.seq (.region 0 od0 false) (.seq (.region 1 El true) .ret)):=by kernel_rfl
theorem U2:od0.size=1/\∃o,od0[0]? =some o/\o.guard=none/\o.dst=some 0/\o.op= .assign (.const (.map none)):=⟨by kernel_rfl,_,rfl,rfl,rfl,rfl⟩
theorem D5:wV El.toList=true:=by kernel_rfl
theorem OZ:(JR El.toList).Nodup:=ak (by kernel_rfl)
theorem Td(b1 b2:Nat):nW El.toList b1 b2 (fun _=>true) 0 El.toList=(([[1,1],[2,1],[2,2],[2,3],[2,4],[2,5],[2,6],[3,1],[3,2],[3,3],[3,4],[3,5],[4,1],[4,2],[4,3],[4,4],[4,5],[4,6],[5,1],[5,2],[5,3],[5,4],[5,5],[5,6],[5,7],[8,1],[8,2],[8,3],[9,1],[10,1]]:List (List Int)).map fQ).zip
  (match Ke 0 with| (.mq _ vs)::_=>bG (((Env.zero.bB 0 0).bB 1 b1).bB 2 b2) vs|_=> []):=by kernel_rfl
theorem S1[Fen]:aM Tryz.prog fOd [] [] (xy [0,1,2] odX Ke) (fun _ _=>False):=by
 intro J fps w0 F0 w hH hargs;refine callsIn_of_wp_marks (fn:=Ov) (by kernel_rfl) UD (fun _=>by show(Tryz.prog.funcs[fOd]?).isSome=true;kernel_rfl) ?_
 refine wpIn_mono (P:=Tryz.prog) (Q:=jR J [] w0 F0 (finish (Xx [] [] cH bn).toCtx (fun _ _ _ _=>False) Ov (xy [0,1,2] odX Ke) (fun _ _=>False))) ?_ fun e a w hp=>xI (C:=(Xx [] [] cH bn).toCtx) (Ca (by simp)) (fun _ _ _ _ _ _ _ _ h=>h.elim) hp
 refine wpIn_seq (wpIn_region ?_);obtain⟨z1,o,z2,z3,z4,z5⟩:=U2;rw[z1];refine cN (P:=Tryz.prog) z2 z3 (v:= .map none) (w':=w) (by simp[execOp,z5,Act.eval]) (by intro c;rw[z5];simp) ?_
 rw[z4];show Code.wpIn _ _ _ _ _ _ _
 refine wpIn_seq (wpIn_region_any (by kernel_rfl) ?_)
 generalize hA:Act.put _ _ _=A
 have hsz:A.tmps.size=35:=by subst hA;rw[cg];simp[bG]
 have hdf:A.defers= []:=by subst hA;rfl
 refine Wz (fun L a w'=>∃r0 b1 b2,AZ El.toList {w with drawn:=w.drawn+1} L a w' r0 b1 b2) (fun i o h e he hb=>?_) (Rp rfl D5 OZ) (fun L a w' hall hI=>?_) _ _ _ _ (by simp) ?_ ⟨0,0,0,?_⟩
 ·have h1:=D5;unfold wV at h1;simp only[af]at h1;have:=E4 h1.1.1.1.1.1.1.2 i o (by simpa using h) e he hb
  omega
 ·obtain⟨r0,b1,b2,I⟩:=hI
  have hat:∀(i:Nat) (d:Nat),(∃o,El.toList[i]? =some o/\o.dst=some d)->∃o,El.toList[i]? =some o/\L i=true/\o.dst=some d:=fun i d ⟨o,h1,h2⟩=>⟨o,h1,hall i (by
   have:=(List.getElem?_eq_some_iff.1 h1).1;simpa using this),h2⟩
  obtain⟨o1,p1,p2,p3⟩:=hat 0 1 ⟨_,rfl,rfl⟩;obtain⟨o2,q1,q2,q3⟩:=hat 26 15 ⟨_,rfl,rfl⟩;obtain⟨o3,s1,s2,s3⟩:=hat 29 17 ⟨_,rfl,rfl⟩;obtain⟨o4,t1,t2,t3⟩:=hat 64 0 ⟨_,rfl,rfl⟩;obtain⟨m1,es,cl,m2,m3⟩:=I.map 0 o1 p1 p2 p3;obtain⟨u1,u2⟩:=I.one 26 o2 q1 q2 q3;obtain⟨v1,v2⟩:=I.two 29 o3 s1 s2 s3;have ht:=I.tmp 64 o4 0 t1 t2 t3;rw[pP (DV D5).2.2.2.2 (by omega) (by omega)]at ht
  have hL:nW El.toList b1 b2 L 0 El.toList=nW El.toList b1 b2 (fun _=>true) 0 El.toList:=pT fun j o h _=>⟨by
   rw[Nat.zero_add];exact hall j (by have:=(List.getElem?_eq_some_iff.1 h).1;simpa using this),fun _=>rfl⟩
  rw[hL,Td]at m3;refine wpIn_ret ?_;have hne1:r0≠b1:=fun e=>by rw[e,u2]at m2;simp at m2
  have hne2:r0≠b2:=fun e=>by rw[e,v2]at m2;simp at m2
  have hne3:b1≠b2:=fun e=>by rw[e,v2]at u2;simp at u2
  have hbel:Below w.heap.size w w':=⟨I.bel.os,I.bel.tape,I.bel.output,I.bel.size,I.bel.block⟩;have hnk:∀i,¬known ([]:List aS) i:=fun i h=>by simp[known,aN]at h
  have hkn:∀i,known (Ke 0) i↔i<3:=fun i=>by
   unfold known Ke;rcases i with _|_|_|i<;>simp[aN]
  have hgrow:lQ (known []) J (((J.bB 0 r0).bB 1 b1).bB 2 b2) 0 (Ke 0) w0 F0 w w':=by
   refine⟨hbel,fun j hj=>?_,fun k b=>b=(((J.bB 0 r0).bB 1 b1).bB 2 b2).num k,fun k hk=>?_,fun k l b hk hl hne h1 h2=>?_⟩
   ·have:¬j<3:=fun h=>hj ⟨by omega,by show j<0+3;omega⟩
    have e0:j≠0:=by omega
    have e1:j≠1:=by omega
    have e2:j≠2:=by omega
    simp[Env.bB,e0,e1,e2]
   ·have hk3:k<3:=hk;rw[Nat.zero_add];rcases k with _|_|_|k
    ·refine⟨⟨rfl,?_,?_,⟨rfl,ak (by kernel_rfl)⟩,es,cl,?_,?_⟩,fun b hb=>?_⟩
     ·simp[fq,ok,fresh,Ke]
     ·simp[qS]
     ·simpa[Env.bB]using m2
     ·exact m3
     ·have:b=r0:=by simpa[Env.bB]using hb
      subst this;exact⟨m1,(Array.getElem?_eq_some_iff.1 m2).1⟩
    ·refine⟨⟨by simp[ok,cB],rfl,rfl,?_⟩,fun b hb=>?_⟩
     ·simpa[Env.bB,cells,den,Value.cells]using u2
     ·have:b=b1:=by simpa[Env.bB]using hb
      subst this;exact⟨u1,(Array.getElem?_eq_some_iff.1 u2).1⟩
    ·refine⟨⟨by simp[ok,cB],rfl,rfl,?_⟩,fun b hb=>?_⟩
     ·simpa[Env.bB,cells,den,Value.cells]using v2
     ·have:b=b2:=by simpa[Env.bB]using hb
      subst this;exact⟨v1,(Array.getElem?_eq_some_iff.1 v2).1⟩
    ·omega
   ·have hk3:k<3:=hk;have hl3:l<3:=hl;rcases k with _|_|_|k<;>rcases l with _|_|_|l<;>first|omega| (simp[Env.bB]at h1 h2;subst h1;first|exact hne1 h2|exact hne1 h2.symm|exact hne2 h2|exact hne2 h2.symm|exact hne3 h2|exact hne3 h2.symm)
  obtain⟨fps',hr,hag⟩:=hH.grow (res':=Ke 0) (K':=known (Ke 0)) ⟨fun i hi=>(hnk i hi).elim,fun i hi=> .inr ⟨by omega,by show i<0+3;have:=(hkn i).1 hi;omega⟩,fun k hk=>by rw[Nat.zero_add]⟩ (fun i hi=>(hnk i hi).elim)
   (fun i hi=>by
    rcases hi with hi|⟨_,hi⟩
    ·exact(hnk i hi).elim
    ·exact(hkn i).2 (by simpa[Ke]using hi)) hgrow
  refine⟨.ret,{slots:= .v (.mp 0)::List.replicate 34 .und,res:=Ke 0,defs:= []},_,fps',trivial,?_,⟨⟨by simp[I.sz],fun t=>?_⟩,hr,by rw[I.df];rfl,by simp⟩,hag,fun i hi=>(hnk i hi).elim⟩
  ·exact Eq.mp (by kernel_rfl:xy [0,1,2] odX Ke (.mp 0) (Ke 0)=_) (fun nid=>⟨rfl,rfl⟩)
  ·cases t with
   |zero=>exact⟨by rw[ht];simp[den,Env.bB],(hkn 0).2 (by omega)⟩
   |succ t=>
    have:cm (S.v (V.mp 0)::List.replicate 34 S.und) (t+1)= .und:=by
     rw[lK,an,List.getElem?_cons_succ,List.getElem?_replicate];split<;>rfl
    rw[this];trivial
 ·have:Io (Array.replicate El.size false) El.size<=El.size:=by
   have:=List.length_filter_le (fun k=> !(Array.replicate El.size false).getD k false) (List.range El.size)
   simpa[Io]using this
  exact this
 ·have hfalse:∀k,(Array.replicate El.size false).getD k false=false:=fun k=>by
   simp only[Array.getD_eq_getD_getElem?,Array.getElem?_replicate];split<;>rfl
  exact⟨hsz,hdf,fun i o d _ h=>by simp only[hfalse]at h;simp at h,Below.refl _ _,fun i o _ h=>by simp only[hfalse]at h;simp at h,fun i o _ h=>by simp only[hfalse]at h;simp at h,fun i o _ h=>by simp only[hfalse]at h;simp at h,fun i o _ h=>by simp only[hfalse]at h;simp at h⟩
theorem dz[Fen]:dO Tryz.prog fOd (BR odX Ke):=vB (π:= [0,1,2]) (by decide) (fun _=>rfl) S1
theorem SC(L:List Sx.Obj)(n:Int)(k:Key)(m:bK)(hL:aO L)(hs:aU m.data):
 true=true/\true=true/\true=true/\true=true/\true=true/\(bK.mk 0 eB void void (Key.mk 1 void.oid void.count void.call void.rights k.value),L)=bd L n (kk 1 k) (mm 1 m):=by
 simp+decide [bd,eg,eV,dQ,ew,iC,ir,iR,gQ,eI,dX,gz,gO,gJ,jB,dR,void,fm,eB,bE,gm,gk,fF,kk,mm,hL,hs];try grind
theorem QQ[Fen](L:List Sx.Obj)(n:Int)(k:Key)(m:bK)(hL:aO L)(hs:aU m.data):aM Tryz.prog 94 [.lp 0 0] [.ro (.blk o6 (iP (.ci .i64 1) m n (.ci .i64 1) k)),.store tS eS L] (kO (bd L n ((kk 1 k)) ((mm 1 m)))) (fun _ _=>False):=
 bm (inl:=(aeq (132::aer))) (ann:=bn) (aH dz aP) aT (eO bZ) (SC L n k m hL hs) (by kernel_rfl)
theorem Ry(L:List Sx.Obj)(n:Int)(k:Key)(m:bK)(hL:aO L)(hs:aU m.data):
 aw (aw (aw (aw (aw (aw (au (!decide (m.k2.kind=1)) ((bK.mk 240 eB void void void,L)=bd L n (kk 2 k) (mm 1 m)) (au (decide (m.k2.value<0)||decide (2147483647<m.k2.value)) (aw (aw (aw (au (!decide (dB L (kk 2 k) (-1)=0)) ((bK.mk (dB L (kk 2 k) (-1)) eB void void void,L)=bd L n (kk 2 k) (mm 1 m)) ((bK.mk 0 eB (bf L (kk 2 k) (-1)) void void,L)=bd L n (kk 2 k) (mm 1 m)))))) (aw (aw (aw (au (!decide (dB L (kk 2 k) m.k2.value=0)) ((bK.mk (dB L (kk 2 k) m.k2.value) eB void void void,L)=bd L n (kk 2 k) (mm 1 m)) ((bK.mk 0 eB (bf L (kk 2 k) m.k2.value) void void,L)=bd L n (kk 2 k) (mm 1 m))))))))))))):=by
 delta au aw
 simp+decide [bd,eg,eV,dQ,ew,iC,ir,iR,gQ,eI,dX,gz,gO,gJ,jB,dR,void,fm,eB,bE,gm,gk,fF,kk,mm,hL,hs];try grind
theorem M5[Fen](L:List Sx.Obj)(n:Int)(k:Key)(m:bK)(hL:aO L)(hs:aU m.data):aM Tryz.prog 94 [.lp 0 0] [.ro (.blk o6 (iP (.ci .i64 1) m n (.ci .i64 2) k)),.store tS eS L] (kO (bd L n ((kk 2 k)) ((mm 1 m)))) (fun _ _=>False):=
 bm (inl:=(aeq (134::aer))) (ann:=bn) (aH sM (aH dz aP)) aT (eO bZ) (Ry L n k m hL hs) (by kernel_rfl)
theorem R3(L:List Sx.Obj)(n:Int)(k:Key)(m:bK)(hL:aO L)(hs:aU m.data):
 aw (aw (aw (aw (aw (aw (au (!decide (m.k2.kind=1)) ((bK.mk 240 eB void void void,L)=bd L n (kk 2 k) (mm 2 m)) (au (decide (m.k2.value<0)||decide (2147483647<m.k2.value)) (aw (aO L/\aw (aw (aw (au (!decide (bY L (kk 2 k) (-1) m.k0=0)) ((bK.mk (bY L (kk 2 k) (-1) m.k0) eB void void void,dL L (kk 2 k) (-1) m.k0)=bd L n (kk 2 k) (mm 2 m)) ((bK.mk 0 eB (fa L (kk 2 k) (-1) m.k0) void void,dL L (kk 2 k) (-1) m.k0)=bd L n (kk 2 k) (mm 2 m))))))) (aw (aO L/\aw (aw (aw (au (!decide (bY L (kk 2 k) m.k2.value m.k0=0)) ((bK.mk (bY L (kk 2 k) m.k2.value m.k0) eB void void void,dL L (kk 2 k) m.k2.value m.k0)=bd L n (kk 2 k) (mm 2 m)) ((bK.mk 0 eB (fa L (kk 2 k) m.k2.value m.k0) void void,dL L (kk 2 k) m.k2.value m.k0)=bd L n (kk 2 k) (mm 2 m)))))))))))))):=by
 delta au aw
 simp+decide [bd,eg,eV,dQ,ew,iC,ir,iR,gQ,eI,dX,gz,gO,gJ,jB,dR,void,fm,eB,bE,gm,gk,fF,kk,mm,hL,hs];try grind
theorem SE[Fen](L:List Sx.Obj)(n:Int)(k:Key)(m:bK)(hL:aO L)(hs:aU m.data):aM Tryz.prog 94 [.lp 0 0] [.ro (.blk o6 (iP (.ci .i64 2) m n (.ci .i64 2) k)),.store tS eS L] (kO (bd L n ((kk 2 k)) ((mm 2 m)))) (fun _ _=>False):=
 bm (inl:=(aeq (138::aer))) (ann:=bn) (aH dz aP) (aW IC aT) (eO bZ) (R3 L n k m hL hs) (by kernel_rfl)
theorem NL(L:List Sx.Obj)(n:Int)(k:Key)(m:bK)(hL:aO L)(hs:aU m.data):
 aw (aw (aw (aw (aO L/\aw (aw (au (!decide (bq L (kk 2 k) 2 true=0)) ((bK.mk (bq L (kk 2 k) 2 true) eB void void void,gu L (kk 2 k))=bd L n (kk 2 k) (mm 3 m)) ((bK.mk 0 eB void void void,gu L (kk 2 k))=bd L n (kk 2 k) (mm 3 m)))))))):=by
 delta au aw
 simp+decide [bd,eg,eV,dQ,ew,iC,ir,iR,gQ,eI,dX,gz,gO,gJ,jB,dR,void,fm,eB,bE,gm,gk,fF,kk,mm,hL,hs];try grind
theorem Rz[Fen](L:List Sx.Obj)(n:Int)(k:Key)(m:bK)(hL:aO L)(hs:aU m.data):aM Tryz.prog 94 [.lp 0 0] [.ro (.blk o6 (iP (.ci .i64 3) m n (.ci .i64 2) k)),.store tS eS L] (kO (bd L n ((kk 2 k)) ((mm 3 m)))) (fun _ _=>False):=
 bm (inl:=(aeq (140::aer))) (ann:=bn) (aH dz aP) (aW Tv aT) (eO bZ) (NL L n k m hL hs) (by kernel_rfl)
theorem Qy(L:List Sx.Obj)(n:Int)(k:Key)(m:bK)(hL:aO L)(hs:aU m.data):
 aw (aw (aw (aw (aO L/\aw (aw (au (!decide (dr L (kk 2 k) m.k0=0)) ((bK.mk (dr L (kk 2 k) m.k0) eB void void void,fL L (kk 2 k) m.k0)=bd L n (kk 2 k) (mm 4 m)) ((bK.mk 0 eB void void void,fL L (kk 2 k) m.k0)=bd L n (kk 2 k) (mm 4 m)))))))):=by
 delta au aw
 simp+decide [bd,eg,eV,dQ,ew,iC,ir,iR,gQ,eI,dX,gz,gO,gJ,jB,dR,void,fm,eB,bE,gm,gk,fF,kk,mm,hL,hs];try grind
theorem Oa[Fen](L:List Sx.Obj)(n:Int)(k:Key)(m:bK)(hL:aO L)(hs:aU m.data):aM Tryz.prog 94 [.lp 0 0] [.ro (.blk o6 (iP (.ci .i64 4) m n (.ci .i64 2) k)),.store tS eS L] (kO (bd L n ((kk 2 k)) ((mm 4 m)))) (fun _ _=>False):=
 bm (inl:=(aeq (143::aer))) (ann:=bn) (aH dz aP) (aW UP aT) (eO bZ) (Qy L n k m hL hs) (by kernel_rfl)
theorem RV(L:List Sx.Obj)(n:Int)(k:Key)(m:bK)(hL:aO L)(hs:aU m.data)(hk:aR (kk 2 k)=true):
 aw (aw (aw (aw (aw (au (!decide (m.k2.kind=1)) ((bK.mk 240 eB void void void,L)=bd L n (kk 2 k) (mm 5 m)) (aw (au (!(decide (0<=m.k2.value)&&decide (m.k2.value<=7))) ((bK.mk 2 eB void void void,L)=bd L n (kk 2 k) (mm 5 m)) (ye (kk 2 k) m.k2.value/\aw (aw (aw ((bK.mk 0 eB (mP (kk 2 k) m.k2.value) void void,L)=bd L n (kk 2 k) (mm 5 m)))))))))))):=by
 delta au aw
 have hX:bd L n (kk 2 k) (mm 5 m)=if m.k2.kind=1 then(if 0<=m.k2.value/\m.k2.value<=7 then(gz (mP (kk 2 k) m.k2.value),L)else(gJ 2,L))else(gJ 240,L):=by
  by_cases h1:m.k2.kind=1
  ·by_cases h2:0<=m.k2.value/\m.k2.value<=7
   ·simp+decide [bd,eg,eV,dQ,ew,iC,ir,iR,gQ,eI,dX,gz,gO,gJ,jB,dR,void,fm,eB,bE,gm,gk,fF,kk,mm,h1,h2]
   ·simp+decide [bd,eg,eV,dQ,ew,iC,ir,iR,gQ,eI,dX,gz,gO,gJ,jB,dR,void,fm,eB,bE,gm,gk,fF,kk,mm,h1,h2]
  ·simp+decide [bd,eg,eV,dQ,ew,iC,ir,iR,gQ,eI,dX,gz,gO,gJ,jB,dR,void,fm,eB,bE,gm,gk,fF,kk,mm,h1]
 rw[hX];refine⟨rfl,rfl,rfl,rfl,rfl,fun h=>?_,fun h=>⟨rfl,fun h'=>?_,fun h'=>⟨⟨hk,?_⟩,rfl,rfl,rfl,?_⟩⟩⟩
 ·have h:¬m.k2.kind=1:=by simpa using h
  rw[aq h];rfl
 ·have h:m.k2.kind=1:=by simpa using h
  have h':¬(0<=m.k2.value/\m.k2.value<=7):=fun hh=>by simp[hh.1,hh.2]at h'
  rw[ar h,aq h'];rfl
 ·simpa using h'
 ·have h:m.k2.kind=1:=by simpa using h
  have h':0<=m.k2.value/\m.k2.value<=7:=by simpa using h'
  rw[ar h,ar h'];rfl
theorem Q4[Fen](L:List Sx.Obj)(n:Int)(k:Key)(m:bK)(hL:aO L)(hs:aU m.data)(hk:aR (kk 2 k)=true):aM Tryz.prog 94 [.lp 0 0] [.ro (.blk o6 (iP (.ci .i64 5) m n (.ci .i64 2) k)),.store tS eS L] (kO (bd L n ((kk 2 k)) ((mm 5 m)))) (fun _ _=>False):=
 bm (inl:=(aeq (145::aer))) (ann:=bn) (aH EK (aH dz aP)) aT (eO bZ) (RV L n k m hL hs hk) (by kernel_rfl)
theorem O8(L:List Sx.Obj)(n:Int)(k:Key)(m:bK)(hL:aO L)(hs:aU m.data):
 aw (aw (aw (aw (au (!decide (k.rights=0)) ((bK.mk 191 eB void void void,L)=bd L n (kk 2 k) (mm 6 m)) (aw (aw (aw ((bK.mk 0 eB (aB 5 k void.value) void void,L)=bd L n (kk 2 k) (mm 6 m))))))))):=by
 delta au aB aw
 simp+decide [bd,eg,eV,dQ,ew,iC,ir,iR,gQ,eI,dX,gz,gO,gJ,jB,dR,void,fm,eB,bE,gm,gk,fF,kk,mm,hL,hs];try grind
theorem P4[Fen](L:List Sx.Obj)(n:Int)(k:Key)(m:bK)(hL:aO L)(hs:aU m.data):aM Tryz.prog 94 [.lp 0 0] [.ro (.blk o6 (iP (.ci .i64 6) m n (.ci .i64 2) k)),.store tS eS L] (kO (bd L n ((kk 2 k)) ((mm 6 m)))) (fun _ _=>False):=
 bm (inl:=(aeq (146::aer))) (ann:=bn) (aH dz aP) aT (eO bZ) (O8 L n k m hL hs) (by kernel_rfl)
abbrev adA:=imax 0 (tk 32 (Int.ofNat (64+Nat.succ 0)))
theorem RW(L:List Sx.Obj)(n:Int)(k:Key)(m:bK)(hL:aO L)(hs:aU m.data):
 aw (aw (aw (aw (aw (aw (au (!decide (m.k2.kind=1)) ((bK.mk 240 eB void void void,L)=bd L n (kk 3 k) (mm 1 m)) (au (decide (m.k2.value<0)||decide (2147483647<m.k2.value)) (aw (aw (aw (au (!decide (de L (kk 3 k) (-1) adA=0)) ((bK.mk (de L (kk 3 k) (-1) adA) eB void void void,L)=bd L n (kk 3 k) (mm 1 m)) ((bK.mk 0 (fk L (kk 3 k) (-1) adA) void void void,L)=bd L n (kk 3 k) (mm 1 m)))))) (bh IntKind.i64 (64-m.k2.value)/\aw (aw (aw (au (!decide (de L (kk 3 k) m.k2.value (imax 0 (tk 32 (64-m.k2.value)))=0)) ((bK.mk (de L (kk 3 k) m.k2.value (imax 0 (tk 32 (64-m.k2.value)))) eB void void void,L)=bd L n (kk 3 k) (mm 1 m)) ((bK.mk 0 (fk L (kk 3 k) m.k2.value (imax 0 (tk 32 (64-m.k2.value)))) void void void,L)=bd L n (kk 3 k) (mm 1 m))))))))))))):=by
 delta au adA aw
 have hX:bd L n (kk 3 k) (mm 1 m)=if m.k2.kind=1 then(if de L (kk 3 k) (bE m) (xB (bE m))=0 then(jB (fk L (kk 3 k) (bE m) (xB (bE m))),L)else(gJ (de L (kk 3 k) (bE m) (xB (bE m))),L))else(gJ 240,L):=by
  by_cases h1:m.k2.kind=1
  ·by_cases h2:de L (kk 3 k) (bE m) (xB (bE m))=0
   ·simp+decide [bd,eg,eV,dQ,ew,ir,dX,show(kk 3 k).kind=3 from rfl,show(mm 1 m).code=1 from rfl,show(mm 1 m).k2=m.k2 from rfl,show bE (mm 1 m)=bE m from rfl,h1,h2]
   ·simp+decide [bd,eg,eV,dQ,ew,ir,dX,show(kk 3 k).kind=3 from rfl,show(mm 1 m).code=1 from rfl,show(mm 1 m).k2=m.k2 from rfl,show bE (mm 1 m)=bE m from rfl,h1,h2]
  ·simp+decide [bd,eg,eV,dQ,dX,eI,show(kk 3 k).kind=3 from rfl,show(mm 1 m).code=1 from rfl,show(mm 1 m).k2=m.k2 from rfl,h1,fm,gJ]
 rw[hX];have e1:∀s,bK.mk 0 s void void void=jB s:=fun _=>rfl
 have e2:∀c,bK.mk c eB void void void=gJ c:=fun _=>rfl
 simp only[e1,e2];by_cases h1:m.k2.kind=1
 ·by_cases h2:0<=m.k2.value/\m.k2.value<=2147483647
  ·have hN:bE m=m.k2.value:=by unfold bE;rw[ar h2]
   have hR:xB m.k2.value=imax 0 (tk 32 (64-m.k2.value)):=rfl;have hr:bh .i64 (64-m.k2.value):=by simp only[bh,cB];omega
   rw[hN,hR];simp[h1,h2,hr];grind
  ·have hN:bE m= -1:=by unfold bE;rw[aq h2]
   have hR:xB (-1)=imax 0 (tk 32 65):=rfl;rw[hN,hR];simp[h1];grind
 ·simp[h1]
theorem Q0[Fen](L:List Sx.Obj)(n:Int)(k:Key)(m:bK)(hL:aO L)(hs:aU m.data):aM Tryz.prog 94 [.lp 0 0] [.ro (.blk o6 (iP (.ci .i64 1) m n (.ci .i64 3) k)),.store tS eS L] (kO (bd L n ((kk 3 k)) ((mm 1 m)))) (fun _ _=>False):=
 bm (inl:=(aeq (147::aer))) (ann:=bn) (aH pn (aH dz aP)) aT (eO bZ) (RW L n k m hL hs) (by kernel_rfl)
theorem Sf(L:List Sx.Obj)(n:Int)(k:Key)(m:bK)(hL:aO L)(hs:aU m.data):
 aw (aw (aw (aw (aw (aw (au (!decide (m.k2.kind=1)) ((bK.mk 240 eB void void void,L)=bd L n (kk 3 k) (mm 2 m)) (au (decide (m.k2.value<0)||decide (2147483647<m.k2.value)) (aw ((aO L/\aU m.data)/\aw (aw (au (!decide (eh L (kk 3 k) (-1) m.data=0)) ((bK.mk (eh L (kk 3 k) (-1) m.data) eB void void void,fE L (kk 3 k) (-1) m.data)=bd L n (kk 3 k) (mm 2 m)) ((bK.mk 0 eB void void void,fE L (kk 3 k) (-1) m.data)=bd L n (kk 3 k) (mm 2 m)))))) (aw ((aO L/\aU m.data)/\aw (aw (au (!decide (eh L (kk 3 k) m.k2.value m.data=0)) ((bK.mk (eh L (kk 3 k) m.k2.value m.data) eB void void void,fE L (kk 3 k) m.k2.value m.data)=bd L n (kk 3 k) (mm 2 m)) ((bK.mk 0 eB void void void,fE L (kk 3 k) m.k2.value m.data)=bd L n (kk 3 k) (mm 2 m))))))))))))):=by
 delta au aw
 simp+decide [bd,eg,eV,dQ,ew,iC,ir,iR,gQ,eI,dX,gz,gO,gJ,jB,dR,void,fm,eB,bE,gm,gk,fF,kk,mm,hL,hs];try grind
theorem Qz[Fen](L:List Sx.Obj)(n:Int)(k:Key)(m:bK)(hL:aO L)(hs:aU m.data):aM Tryz.prog 94 [.lp 0 0] [.ro (.blk o6 (iP (.ci .i64 2) m n (.ci .i64 3) k)),.store tS eS L] (kO (bd L n ((kk 3 k)) ((mm 2 m)))) (fun _ _=>False):=
 bm (inl:=(aeq (148::aer))) (ann:=bn) (aH dz aP) (aW Da aT) (eO bZ) (Sf L n k m hL hs) (by kernel_rfl)
theorem SA(L:List Sx.Obj)(n:Int)(k:Key)(m:bK)(hL:aO L)(hs:aU m.data):
 aw (aw (aw (aw (aO L/\aw (aw (au (!decide (cc L (kk 3 k) true=0)) ((bK.mk (cc L (kk 3 k) true) eB void void void,fZ L (kk 3 k))=bd L n (kk 3 k) (mm 3 m)) ((bK.mk 0 eB void void void,fZ L (kk 3 k))=bd L n (kk 3 k) (mm 3 m)))))))):=by
 delta au aw
 simp+decide [bd,eg,eV,dQ,ew,iC,ir,iR,gQ,eI,dX,gz,gO,gJ,jB,dR,void,fm,eB,bE,gm,gk,fF,kk,mm,hL,hs];try grind
theorem SK[Fen](L:List Sx.Obj)(n:Int)(k:Key)(m:bK)(hL:aO L)(hs:aU m.data):aM Tryz.prog 94 [.lp 0 0] [.ro (.blk o6 (iP (.ci .i64 3) m n (.ci .i64 3) k)),.store tS eS L] (kO (bd L n ((kk 3 k)) ((mm 3 m)))) (fun _ _=>False):=
 bm (inl:=(aeq (150::aer))) (ann:=bn) (aH dz aP) (aW Wv aT) (eO bZ) (SA L n k m hL hs) (by kernel_rfl)
theorem NJ(L:List Sx.Obj)(n:Int)(k:Key)(m:bK)(hL:aO L)(hs:aU m.data):
 aw (aw (aw (aw (aO L/\aw (aw (au (!decide (ei L (kk 3 k) m.k0=0)) ((bK.mk (ei L (kk 3 k) m.k0) eB void void void,gw L (kk 3 k) m.k0)=bd L n (kk 3 k) (mm 4 m)) ((bK.mk 0 eB void void void,gw L (kk 3 k) m.k0)=bd L n (kk 3 k) (mm 4 m)))))))):=by
 delta au aw
 simp+decide [bd,eg,eV,dQ,ew,iC,ir,iR,gQ,eI,dX,gz,gO,gJ,jB,dR,void,fm,eB,bE,gm,gk,fF,kk,mm,hL,hs];try grind
theorem PC[Fen](L:List Sx.Obj)(n:Int)(k:Key)(m:bK)(hL:aO L)(hs:aU m.data):aM Tryz.prog 94 [.lp 0 0] [.ro (.blk o6 (iP (.ci .i64 4) m n (.ci .i64 3) k)),.store tS eS L] (kO (bd L n ((kk 3 k)) ((mm 4 m)))) (fun _ _=>False):=
 bm (inl:=(aeq (152::aer))) (ann:=bn) (aH dz aP) (aW aaL aT) (eO bZ) (NJ L n k m hL hs) (by kernel_rfl)
theorem O4(L:List Sx.Obj)(n:Int)(k:Key)(m:bK)(hL:aO L)(hs:aU m.data)(hk:aR (kk 3 k)=true):
 aw (aw (aw (aw (aw (au (!decide (m.k2.kind=1)) ((bK.mk 240 eB void void void,L)=bd L n (kk 3 k) (mm 5 m)) (aw (au (!(decide (0<=m.k2.value)&&decide (m.k2.value<=7))) ((bK.mk 2 eB void void void,L)=bd L n (kk 3 k) (mm 5 m)) (ye (kk 3 k) m.k2.value/\aw (aw (aw ((bK.mk 0 eB (mP (kk 3 k) m.k2.value) void void,L)=bd L n (kk 3 k) (mm 5 m)))))))))))):=by
 delta au aw
 have hX:bd L n (kk 3 k) (mm 5 m)=if m.k2.kind=1 then(if 0<=m.k2.value/\m.k2.value<=7 then(gz (mP (kk 3 k) m.k2.value),L)else(gJ 2,L))else(gJ 240,L):=by
  by_cases h1:m.k2.kind=1
  ·by_cases h2:0<=m.k2.value/\m.k2.value<=7
   ·simp+decide [bd,eg,eV,dQ,ew,iC,ir,iR,gQ,eI,dX,gz,gO,gJ,jB,dR,void,fm,eB,bE,gm,gk,fF,kk,mm,h1,h2]
   ·simp+decide [bd,eg,eV,dQ,ew,iC,ir,iR,gQ,eI,dX,gz,gO,gJ,jB,dR,void,fm,eB,bE,gm,gk,fF,kk,mm,h1,h2]
  ·simp+decide [bd,eg,eV,dQ,ew,iC,ir,iR,gQ,eI,dX,gz,gO,gJ,jB,dR,void,fm,eB,bE,gm,gk,fF,kk,mm,h1]
 rw[hX];refine⟨rfl,rfl,rfl,rfl,rfl,fun h=>?_,fun h=>⟨rfl,fun h'=>?_,fun h'=>⟨⟨hk,?_⟩,rfl,rfl,rfl,?_⟩⟩⟩
 ·have h:¬m.k2.kind=1:=by simpa using h
  rw[aq h];rfl
 ·have h:m.k2.kind=1:=by simpa using h
  have h':¬(0<=m.k2.value/\m.k2.value<=7):=fun hh=>by simp[hh.1,hh.2]at h'
  rw[ar h,aq h'];rfl
 ·simpa using h'
 ·have h:m.k2.kind=1:=by simpa using h
  have h':0<=m.k2.value/\m.k2.value<=7:=by simpa using h'
  rw[ar h,ar h'];rfl
theorem Rj[Fen](L:List Sx.Obj)(n:Int)(k:Key)(m:bK)(hL:aO L)(hs:aU m.data)(hk:aR (kk 3 k)=true):aM Tryz.prog 94 [.lp 0 0] [.ro (.blk o6 (iP (.ci .i64 5) m n (.ci .i64 3) k)),.store tS eS L] (kO (bd L n ((kk 3 k)) ((mm 5 m)))) (fun _ _=>False):=
 bm (inl:=(aeq (145::aer))) (ann:=bn) (aH EK (aH dz aP)) aT (eO bZ) (O4 L n k m hL hs hk) (by kernel_rfl)
theorem Pd(L:List Sx.Obj)(n:Int)(k:Key)(m:bK)(hL:aO L)(hs:aU m.data):
 aw (aw (aw (aw (aO L/\aw (aw (aw (au (!decide (dZ L (kk 4 k) 1=0)) ((bK.mk (dZ L (kk 4 k) 1) eB void void void,gh L (kk 4 k) 1)=bd L n (kk 4 k) (mm 1 m)) ((bK.mk 0 eB (dh L (kk 4 k) 1) void void,gh L (kk 4 k) 1)=bd L n (kk 4 k) (mm 1 m))))))))):=by
 delta au aw
 simp+decide [bd,eg,eV,dQ,ew,iC,ir,iR,gQ,eI,dX,gz,gO,gJ,jB,dR,void,fm,eB,bE,gm,gk,fF,kk,mm,hL,hs];try grind
theorem Pu[Fen](L:List Sx.Obj)(n:Int)(k:Key)(m:bK)(hL:aO L)(hs:aU m.data):aM Tryz.prog 94 [.lp 0 0] [.ro (.blk o6 (iP (.ci .i64 1) m n (.ci .i64 4) k)),.store tS eS L] (kO (bd L n ((kk 4 k)) ((mm 1 m)))) (fun _ _=>False):=
 bm (inl:=(aeq (201::aer))) (ann:=bn) (aH dz aP) (aW EG aT) (eO bZ) (Pd L n k m hL hs) (by kernel_rfl)
theorem NP(L:List Sx.Obj)(n:Int)(k:Key)(m:bK)(hL:aO L)(hs:aU m.data):
 aw (aw (aw (aw (aO L/\aw (aw (aw (au (!decide (dZ L (kk 4 k) 2=0)) ((bK.mk (dZ L (kk 4 k) 2) eB void void void,gh L (kk 4 k) 2)=bd L n (kk 4 k) (mm 2 m)) ((bK.mk 0 eB (dh L (kk 4 k) 2) void void,gh L (kk 4 k) 2)=bd L n (kk 4 k) (mm 2 m))))))))):=by
 delta au aw
 simp+decide [bd,eg,eV,dQ,ew,iC,ir,iR,gQ,eI,dX,gz,gO,gJ,jB,dR,void,fm,eB,bE,gm,gk,fF,kk,mm,hL,hs];try grind
theorem RE[Fen](L:List Sx.Obj)(n:Int)(k:Key)(m:bK)(hL:aO L)(hs:aU m.data):aM Tryz.prog 94 [.lp 0 0] [.ro (.blk o6 (iP (.ci .i64 2) m n (.ci .i64 4) k)),.store tS eS L] (kO (bd L n ((kk 4 k)) ((mm 2 m)))) (fun _ _=>False):=
 bm (inl:=(aeq (201::aer))) (ann:=bn) (aH dz aP) (aW EG aT) (eO bZ) (NP L n k m hL hs) (by kernel_rfl)
theorem Np(L:List Sx.Obj)(n:Int)(k:Key)(m:bK)(hL:aO L)(hs:aU m.data):
 aw (aw (aw (aw (aO L/\aw (aw (au (!decide (eM L (kk 4 k) m.k0=0)) ((bK.mk (eM L (kk 4 k) m.k0) eB void void void,iU L (kk 4 k) m.k0)=bd L n (kk 4 k) (mm 3 m)) ((bK.mk 0 eB void void void,iU L (kk 4 k) m.k0)=bd L n (kk 4 k) (mm 3 m)))))))):=by
 delta au aw
 simp+decide [bd,eg,eV,dQ,ew,iC,ir,iR,gQ,eI,dX,gz,gO,gJ,jB,dR,void,fm,eB,bE,gm,gk,fF,kk,mm,hL,hs];try grind
theorem NH[Fen](L:List Sx.Obj)(n:Int)(k:Key)(m:bK)(hL:aO L)(hs:aU m.data):aM Tryz.prog 94 [.lp 0 0] [.ro (.blk o6 (iP (.ci .i64 3) m n (.ci .i64 4) k)),.store tS eS L] (kO (bd L n ((kk 4 k)) ((mm 3 m)))) (fun _ _=>False):=
 bm (inl:=(aeq (155::aer))) (ann:=bn) (aH dz aP) (aW Ua aT) (eO bZ) (Np L n k m hL hs) (by kernel_rfl)
theorem OH(L:List Sx.Obj)(n:Int)(k:Key)(m:bK)(hL:aO L)(hs:aU m.data):
 aw (aw (aw (aw (aw (aw (au (!decide (m.k2.kind=1)) ((bK.mk 240 eB void void void,L)=bd L n (kk 4 k) (mm 4 m)) (au (decide (m.k2.value<0)||decide (2147483647<m.k2.value)) (aw (aO L/\aw (aw (aw (au (!decide (cX L (kk 4 k) (-1)=0)) ((bK.mk (cX L (kk 4 k) (-1)) eB void void void,bN L (kk 4 k) (-1))=bd L n (kk 4 k) (mm 4 m)) ((bK.mk 0 eB (cJ L (kk 4 k) (-1)) void void,bN L (kk 4 k) (-1))=bd L n (kk 4 k) (mm 4 m))))))) (aw (aO L/\aw (aw (aw (au (!decide (cX L (kk 4 k) m.k2.value=0)) ((bK.mk (cX L (kk 4 k) m.k2.value) eB void void void,bN L (kk 4 k) m.k2.value)=bd L n (kk 4 k) (mm 4 m)) ((bK.mk 0 eB (cJ L (kk 4 k) m.k2.value) void void,bN L (kk 4 k) m.k2.value)=bd L n (kk 4 k) (mm 4 m)))))))))))))):=by
 delta au aw
 simp+decide [bd,eg,eV,dQ,ew,iC,ir,iR,gQ,eI,dX,gz,gO,gJ,jB,dR,void,fm,eB,bE,gm,gk,fF,kk,mm,hL,hs];try grind
theorem RT[Fen](L:List Sx.Obj)(n:Int)(k:Key)(m:bK)(hL:aO L)(hs:aU m.data):aM Tryz.prog 94 [.lp 0 0] [.ro (.blk o6 (iP (.ci .i64 4) m n (.ci .i64 4) k)),.store tS eS L] (kO (bd L n ((kk 4 k)) ((mm 4 m)))) (fun _ _=>False):=
 bm (inl:=(aeq (157::aer))) (ann:=bn) (aH dz aP) (aW KG aT) (eO bZ) (OH L n k m hL hs) (by kernel_rfl)
theorem Sn(L:List Sx.Obj)(n:Int)(k:Key)(m:bK)(hL:aO L)(hs:aU m.data):
 aw (aw (aw (aw (au (!decide (bx L (kk 4 k)=0)) ((bK.mk (bx L (kk 4 k)) eB void void void,L)=bd L n (kk 4 k) (mm 5 m)) (aw (au (nM L (kk 4 k) m.k0) (aw (aw ((bK.mk 0 eB void void (aA 1),L)=bd L n (kk 4 k) (mm 5 m)))) (aw (aw ((bK.mk 0 eB void void (aA 0),L)=bd L n (kk 4 k) (mm 5 m)))))))))):=by
 delta au aA aw
 simp+decide [bd,eg,eV,dQ,ew,iC,ir,iR,gQ,eI,dX,gz,gO,gJ,jB,dR,void,fm,eB,bE,gm,gk,fF,kk,mm,hL,hs];try grind
theorem RS[Fen](L:List Sx.Obj)(n:Int)(k:Key)(m:bK)(hL:aO L)(hs:aU m.data):aM Tryz.prog 94 [.lp 0 0] [.ro (.blk o6 (iP (.ci .i64 5) m n (.ci .i64 4) k)),.store tS eS L] (kO (bd L n ((kk 4 k)) ((mm 5 m)))) (fun _ _=>False):=
 bm (inl:=(aeq (159::aer))) (ann:=bn) (aH Sg (aH dz aP)) aT (eO bZ) (Sn L n k m hL hs) (by kernel_rfl)
theorem QC(L:List Sx.Obj)(n:Int)(k:Key)(m:bK)(hL:aO L)(hs:aU m.data):
 aw (aw (aw (aw (aO L/\aw (au (!decide (bx L (kk 4 k)=0)) ((bK.mk (bx L (kk 4 k)) eB void void void,jF L (kk 4 k))=bd L n (kk 4 k) (mm 6 m)) (aw (aw ((bK.mk 0 eB void void (aA (j7 L (kk 4 k))),jF L (kk 4 k))=bd L n (kk 4 k) (mm 6 m))))))))):=by
 delta au aA aw
 simp+decide [bd,eg,eV,dQ,ew,iC,ir,iR,gQ,eI,dX,gz,gO,gJ,jB,dR,void,fm,eB,bE,gm,gk,fF,kk,mm,hL,hs];try grind
theorem MO[Fen](L:List Sx.Obj)(n:Int)(k:Key)(m:bK)(hL:aO L)(hs:aU m.data):aM Tryz.prog 94 [.lp 0 0] [.ro (.blk o6 (iP (.ci .i64 6) m n (.ci .i64 4) k)),.store tS eS L] (kO (bd L n ((kk 4 k)) ((mm 6 m)))) (fun _ _=>False):=
 bm (inl:=(aeq (160::aer))) (ann:=bn) (aH dz aP) (aW NO aT) (eO bZ) (QC L n k m hL hs) (by kernel_rfl)
theorem Sj(L:List Sx.Obj)(n:Int)(k:Key)(m:bK)(hL:aO L)(hs:aU m.data):
 aw (aw (aw (aw (aw (aw (aw (aw (au (!decide (m.k2.kind=1)) ((bK.mk 240 eB void void void,L)=bd L n (kk 5 k) (mm 1 m)) (au (decide (m.k2.value<0)||decide (2147483647<m.k2.value)) (aw ((bK.mk 4 eB void void void,L)=bd L n (kk 5 k) (mm 1 m))) (aw (au (!(decide (0<=m.k2.value)&&decide (m.k2.value<12))) ((bK.mk 4 eB void void void,L)=bd L n (kk 5 k) (mm 1 m)) (bh IntKind.i64 (m.k2.value+4)/\aw (aw (aw (au (!decide (dB L (aB 2 k void.value) (m.k2.value+4)=0)) ((bK.mk (dB L (aB 2 k void.value) (m.k2.value+4)) eB void void void,L)=bd L n (kk 5 k) (mm 1 m)) ((bK.mk 0 eB (bf L (aB 2 k void.value) (m.k2.value+4)) void void,L)=bd L n (kk 5 k) (mm 1 m))))))))))))))))):=by
 delta au aB aw
 have hw:Key.mk 2 k.oid k.count void.call void.rights void.value=fF k:=rfl;have e2:∀c,bK.mk c eB void void void=gJ c:=fun _=>rfl
 simp only[hw,e2];have hX:=I8 (L:=L) (n:=n) (k:=k) (m:=m) (c:=1) (by omega)
 rw[hX];clear hX;by_cases h1:m.k2.kind=1
 case neg=>simp[h1,show eI 5 1=true by decide,hL,hs]
 have hf:¬(eI 5 1=true/\m.k2.kind≠1):=fun h=>h.2 h1
 rw[aq hf];have hC:gQ L (kk 5 k) (mm 1 m)=(if bE m<0\/11<bE m then 4 else dB L (fF k) (bE m+4),gz (bf L (fF k) (bE m+4)),L):=rfl
 rw[hC];clear hC;have e3:∀a,bK.mk 0 eB a void void=gz a:=fun _=>rfl
 simp only[e3];by_cases h2:0<=m.k2.value/\m.k2.value<=2147483647
 ·have hN:bE m=m.k2.value:=by unfold bE;rw[ar h2]
  have hr:bh .i64 (m.k2.value+4):=by simp only[bh,cB];omega
  rw[hN];by_cases h3:11<m.k2.value
  ·have h4:¬m.k2.value<12:=by omega
   simp[h1,h2,h3,h4,uv,hr]<;>omega
  ·have h4:m.k2.value<12:=by omega
   have h5:¬(m.k2.value<0\/11<m.k2.value):=by omega
   simp[h1,h2,h4,h5,uv,hr,hL];grind
 ·have hN:bE m= -1:=by unfold bE;rw[aq h2]
  rw[hN];simp[h1,uv]<;>omega
theorem P5[Fen](L:List Sx.Obj)(n:Int)(k:Key)(m:bK)(hL:aO L)(hs:aU m.data):aM Tryz.prog 94 [.lp 0 0] [.ro (.blk o6 (iP (.ci .i64 1) m n (.ci .i64 5) k)),.store tS eS L] (kO (bd L n ((kk 5 k)) ((mm 1 m)))) (fun _ _=>False):=
 bm (inl:=(aeq (161::aer))) (ann:=bn) (aH sM (aH dz aP)) aT (eO bZ) (Sj L n k m hL hs) (by kernel_rfl)
theorem RH(L:List Sx.Obj)(n:Int)(k:Key)(m:bK)(hL:aO L)(hs:aU m.data):
 aw (aw (aw (aw (aw (aw (aw (aw (au (!decide (m.k2.kind=1)) ((bK.mk 240 eB void void void,L)=bd L n (kk 5 k) (mm 2 m)) (au (decide (m.k2.value<0)||decide (2147483647<m.k2.value)) (aw ((bK.mk 4 eB void void void,L)=bd L n (kk 5 k) (mm 2 m))) (aw (au (!(decide (0<=m.k2.value)&&decide (m.k2.value<12))) ((bK.mk 4 eB void void void,L)=bd L n (kk 5 k) (mm 2 m)) (bh IntKind.i64 (m.k2.value+4)/\aw (aO L/\aw (aw (aw (au (!decide (bY L (aB 2 k void.value) (m.k2.value+4) m.k0=0)) ((bK.mk (bY L (aB 2 k void.value) (m.k2.value+4) m.k0) eB void void void,dL L (aB 2 k void.value) (m.k2.value+4) m.k0)=bd L n (kk 5 k) (mm 2 m)) ((bK.mk 0 eB (fa L (aB 2 k void.value) (m.k2.value+4) m.k0) void void,dL L (aB 2 k void.value) (m.k2.value+4) m.k0)=bd L n (kk 5 k) (mm 2 m)))))))))))))))))):=by
 delta au aB aw
 have hw:Key.mk 2 k.oid k.count void.call void.rights void.value=fF k:=rfl;have e2:∀c,bK.mk c eB void void void=gJ c:=fun _=>rfl
 simp only[hw,e2];have hX:=I8 (L:=L) (n:=n) (k:=k) (m:=m) (c:=2) (by omega)
 rw[hX];clear hX;by_cases h1:m.k2.kind=1
 case neg=>simp[h1,show eI 5 2=true by decide,hL,hs]
 have hf:¬(eI 5 2=true/\m.k2.kind≠1):=fun h=>h.2 h1
 rw[aq hf];have hC:gQ L (kk 5 k) (mm 2 m)=(if bE m<0\/11<bE m then 4 else bY L (fF k) (bE m+4) m.k0,gz (fa L (fF k) (bE m+4) m.k0),if bE m<0\/11<bE m then L else dL L (fF k) (bE m+4) m.k0):=rfl
 rw[hC];clear hC;have e3:∀a,bK.mk 0 eB a void void=gz a:=fun _=>rfl
 simp only[e3];by_cases h2:0<=m.k2.value/\m.k2.value<=2147483647
 ·have hN:bE m=m.k2.value:=by unfold bE;rw[ar h2]
  have hr:bh .i64 (m.k2.value+4):=by simp only[bh,cB];omega
  rw[hN];by_cases h3:11<m.k2.value
  ·have h4:¬m.k2.value<12:=by omega
   simp[h1,h2,h3,h4,uv,hr]<;>omega
  ·have h4:m.k2.value<12:=by omega
   have h5:¬(m.k2.value<0\/11<m.k2.value):=by omega
   simp[h1,h2,h4,h5,uv,hr,hL];grind
 ·have hN:bE m= -1:=by unfold bE;rw[aq h2]
  rw[hN];simp[h1,uv]<;>omega
theorem Si[Fen](L:List Sx.Obj)(n:Int)(k:Key)(m:bK)(hL:aO L)(hs:aU m.data):aM Tryz.prog 94 [.lp 0 0] [.ro (.blk o6 (iP (.ci .i64 2) m n (.ci .i64 5) k)),.store tS eS L] (kO (bd L n ((kk 5 k)) ((mm 2 m)))) (fun _ _=>False):=
 bm (inl:=(aeq (164::aer))) (ann:=bn) (aH dz aP) (aW IC aT) (eO bZ) (RH L n k m hL hs) (by kernel_rfl)
theorem Su(L:List Sx.Obj)(n:Int)(k:Key)(m:bK)(hL:aO L)(hs:aU m.data):
 aw (aw (aw (aw (aw (au (!decide (m.k2.kind=1)) ((bK.mk 240 eB void void void,L)=bd L n (kk 5 k) (mm 3 m)) (aw (aw (aw ((bK.mk 0 eB (aB 6 k m.k2.value) void void,L)=bd L n (kk 5 k) (mm 3 m)))))))))):=by
 delta au aB aw
 simp+decide [bd,eg,eV,dQ,ew,iC,ir,iR,gQ,eI,dX,gz,gO,gJ,jB,dR,void,fm,eB,bE,gm,gk,fF,kk,mm,hL,hs];try grind
theorem RX[Fen](L:List Sx.Obj)(n:Int)(k:Key)(m:bK)(hL:aO L)(hs:aU m.data):aM Tryz.prog 94 [.lp 0 0] [.ro (.blk o6 (iP (.ci .i64 3) m n (.ci .i64 5) k)),.store tS eS L] (kO (bd L n ((kk 5 k)) ((mm 3 m)))) (fun _ _=>False):=
 bm (inl:=(aeq (165::aer))) (ann:=bn) (aH dz aP) aT (eO bZ) (Su L n k m hL hs) (by kernel_rfl)
theorem QG(L:List Sx.Obj)(n:Int)(k:Key)(m:bK)(hL:aO L)(hs:aU m.data):
 aw (aw (aw (au (!eu L k.oid) (aw (aw ((bK.mk 0 eB void void (aA (-1)),L)=bd L n (kk 5 k) (mm 4 m)))) (aw (aw ((bK.mk 0 eB void void (aA (jb L k.oid)),L)=bd L n (kk 5 k) (mm 4 m))))))):=by
 delta au aA aw
 simp+decide [bd,eg,eV,dQ,ew,iC,ir,iR,gQ,eI,dX,gz,gO,gJ,jB,dR,void,fm,eB,bE,gm,gk,fF,kk,mm,hL,hs];unfold jb c9;grind
theorem Qs[Fen](L:List Sx.Obj)(n:Int)(k:Key)(m:bK)(hL:aO L)(hs:aU m.data):aM Tryz.prog 94 [.lp 0 0] [.ro (.blk o6 (iP (.ci .i64 4) m n (.ci .i64 5) k)),.store tS eS L] (kO (bd L n ((kk 5 k)) ((mm 4 m)))) (fun _ _=>False):=
 bm (inl:=(aeq (167::aer))) (ann:=bn) (aH rH (aH dz aP)) aT (eO bZ) (QG L n k m hL hs) (by kernel_rfl)
theorem Pw(L:List Sx.Obj)(n:Int)(k:Key)(m:bK)(hL:aO L)(hs:aU m.data):
 aw (aw (aw (aw (aw (aw (au (!decide (m.k2.kind=1)) ((bK.mk 240 eB void void void,L)=bd L n (kk 5 k) (mm 5 m)) (au (decide (m.k2.value<0)||decide (2147483647<m.k2.value)) (aw (aO L/\aw (aw (au (!decide (fB L k.oid (-1)=0)) ((bK.mk (fB L k.oid (-1)) eB void void void,iz L k.oid (-1))=bd L n (kk 5 k) (mm 5 m)) ((bK.mk 0 eB void void void,iz L k.oid (-1))=bd L n (kk 5 k) (mm 5 m)))))) (aw (aO L/\aw (aw (au (!decide (fB L k.oid m.k2.value=0)) ((bK.mk (fB L k.oid m.k2.value) eB void void void,iz L k.oid m.k2.value)=bd L n (kk 5 k) (mm 5 m)) ((bK.mk 0 eB void void void,iz L k.oid m.k2.value)=bd L n (kk 5 k) (mm 5 m))))))))))))):=by
 delta au aw
 simp+decide [bd,eg,eV,dQ,ew,iC,ir,iR,gQ,eI,dX,gz,gO,gJ,jB,dR,void,fm,eB,bE,gm,gk,fF,kk,mm,hL,hs];try grind
theorem O6[Fen](L:List Sx.Obj)(n:Int)(k:Key)(m:bK)(hL:aO L)(hs:aU m.data):aM Tryz.prog 94 [.lp 0 0] [.ro (.blk o6 (iP (.ci .i64 5) m n (.ci .i64 5) k)),.store tS eS L] (kO (bd L n ((kk 5 k)) ((mm 5 m)))) (fun _ _=>False):=
 bm (inl:=(aeq (168::aer))) (ann:=bn) (aH dz aP) (aW PE aT) (eO bZ) (Pw L n k m hL hs) (by kernel_rfl)
abbrev adB(L:List Sx.Obj)(k:Key):=bf L (aB 2 k void.value) 0
theorem MB(L:List Sx.Obj)(n:Int)(k:Key)(m:bK)(hL:aO L)(hs:aU m.data):
 aw (aw (aw (aw (aw (aw (au (!decide (m.k2.kind=1)) ((bK.mk 240 eB void void void,L)=bd L n (kk 5 k) (mm 6 m)) (aw (aw (au (!decide (dH L (adB L k) m.k2.value 32=0)) ((bK.mk (dH L (adB L k) m.k2.value 32) eB void void void,L)=bd L n (kk 5 k) (mm 6 m)) (au (!decide (dD L (adB L k) m.k2.value 32 false=0)) (bh IntKind.i64 (1000+dD L (adB L k) m.k2.value 32 false)/\(bK.mk (1000+dD L (adB L k) m.k2.value 32 false) eB void void void,L)=bd L n (kk 5 k) (mm 6 m)) (aw (aw (aw ((bK.mk 0 (oD L (adB L k) m.k2.value 32) void void void,L)=bd L n (kk 5 k) (mm 6 m))))))))))))))):=by
 delta au aB adB aw
 have hw:Key.mk 2 k.oid k.count void.call void.rights void.value=fF k:=rfl;have e2:∀c,bK.mk c eB void void void=gJ c:=fun _=>rfl
 simp only[hw,e2];have hX:=I8 (L:=L) (n:=n) (k:=k) (m:=m) (c:=6) (by omega)
 rw[hX];clear hX;by_cases h1:m.k2.kind=1
 case neg=>simp[h1,show eI 5 6=true by decide,hL,hs]
 have hf:¬(eI 5 6=true/\m.k2.kind≠1):=fun h=>h.2 h1
 rw[aq hf];have hC:gQ L (kk 5 k) (mm 6 m)=(if dH L (gk L k) m.k2.value 32=0 then(if dD L (gk L k) m.k2.value 32 false=0 then 0 else 1000+dD L (gk L k) m.k2.value 32 false)else dH L (gk L k) m.k2.value 32,jB (oD L (gk L k) m.k2.value 32),L):=rfl
 rw[hC];clear hC;have e3:∀s,bK.mk 0 s void void void=jB s:=fun _=>rfl
 have e4:gJ 0=fm:=rfl;have hi:=W6 (L:=L) (k:=bf L (fF k) 0) (a:=m.k2.value) (n:=32) (w:=false);have hr:bh .i64 (1000+dD L (bf L (fF k) 0) m.k2.value (32) false):=by simp only[bh,cB];omega
 simp only[e3,gk];simp[h1,hr,uv,hL,hs];grind
theorem Sk[Fen](L:List Sx.Obj)(n:Int)(k:Key)(m:bK)(hL:aO L)(hs:aU m.data):aM Tryz.prog 94 [.lp 0 0] [.ro (.blk o6 (iP (.ci .i64 6) m n (.ci .i64 5) k)),.store tS eS L] (kO (bd L n ((kk 5 k)) ((mm 6 m)))) (fun _ _=>False):=
 bm (inl:=(aeq (169::aer))) (ann:=bn) (aH sM (aH acz (aH dz aP))) aT (eO bZ) (MB L n k m hL hs) (by kernel_rfl)
abbrev adD(L:List Sx.Obj)(k:Key):=bf L (aB 2 k void.value) 0
theorem SF(L:List Sx.Obj)(n:Int)(k:Key)(m:bK)(hL:aO L)(hs:aU m.data):
 aw (aw (aw (aw (aw (aw (au (!decide (m.k2.kind=1)) ((bK.mk 240 eB void void void,L)=bd L n (kk 5 k) (mm 7 m)) (aw (aU m.data/\(aO L/\aU m.data)/\aw (aw (au (!decide (dH L (adD L k) m.k2.value (dJ m.data)=0)) ((bK.mk (dH L (adD L k) m.k2.value (dJ m.data)) eB void void void,mD L (adD L k) m.k2.value m.data)=bd L n (kk 5 k) (mm 7 m)) (au (!decide (dD L (adD L k) m.k2.value (dJ m.data) true=0)) (bh IntKind.i64 (1000+dD L (adD L k) m.k2.value (dJ m.data) true)/\(bK.mk (1000+dD L (adD L k) m.k2.value (dJ m.data) true) eB void void void,mD L (adD L k) m.k2.value m.data)=bd L n (kk 5 k) (mm 7 m)) (aw (aw ((bK.mk 0 eB void void void,mD L (adD L k) m.k2.value m.data)=bd L n (kk 5 k) (mm 7 m))))))))))))))):=by
 delta au aB adD aw
 have hw:Key.mk 2 k.oid k.count void.call void.rights void.value=fF k:=rfl;have e2:∀c,bK.mk c eB void void void=gJ c:=fun _=>rfl
 simp only[hw,e2];have hX:=I8 (L:=L) (n:=n) (k:=k) (m:=m) (c:=7) (by omega)
 rw[hX];clear hX;by_cases h1:m.k2.kind=1
 case neg=>simp[h1,show eI 5 7=true by decide,hL,hs]
 have hf:¬(eI 5 7=true/\m.k2.kind≠1):=fun h=>h.2 h1
 rw[aq hf];have hC:gQ L (kk 5 k) (mm 7 m)=(if dH L (gk L k) m.k2.value (dJ m.data)=0 then(if dD L (gk L k) m.k2.value (dJ m.data) true=0 then 0 else 1000+dD L (gk L k) m.k2.value (dJ m.data) true)else dH L (gk L k) m.k2.value (dJ m.data),fm,mD L (gk L k) m.k2.value m.data):=rfl
 rw[hC];clear hC;have e3:∀s,bK.mk 0 s void void void=jB s:=fun _=>rfl
 have e4:gJ 0=fm:=rfl;have hi:=W6 (L:=L) (k:=bf L (fF k) 0) (a:=m.k2.value) (n:=dJ m.data) (w:=true);have hr:bh .i64 (1000+dD L (bf L (fF k) 0) m.k2.value (dJ m.data) true):=by simp only[bh,cB];omega
 simp only[e3,gk];simp[h1,hr,uv,hL,hs];grind
theorem Qa[Fen](L:List Sx.Obj)(n:Int)(k:Key)(m:bK)(hL:aO L)(hs:aU m.data):aM Tryz.prog 94 [.lp 0 0] [.ro (.blk o6 (iP (.ci .i64 7) m n (.ci .i64 5) k)),.store tS eS L] (kO (bd L n ((kk 5 k)) ((mm 7 m)))) (fun _ _=>False):=
 bm (inl:=(aeq (170::aer))) (ann:=bn) (aH sM (aH dz aP)) (aW aaW aT) (eO bZ) (SF L n k m hL hs) (by kernel_rfl)
theorem Ot(L:List Sx.Obj)(n:Int)(k:Key)(m:bK)(hL:aO L)(hs:aU m.data):
 true=true/\true=true/\true=true/\true=true/\true=true/\(bK.mk 0 eB void void (Key.mk 1 void.oid void.count void.call void.rights m.k0.kind),L)=bd L n (kk 8 k) (mm 1 m):=by
 simp+decide [bd,eg,eV,dQ,ew,iC,ir,iR,gQ,eI,dX,gz,gO,gJ,jB,dR,void,fm,eB,bE,gm,gk,fF,kk,mm,hL,hs];try grind
theorem Qi[Fen](L:List Sx.Obj)(n:Int)(k:Key)(m:bK)(hL:aO L)(hs:aU m.data):aM Tryz.prog 94 [.lp 0 0] [.ro (.blk o6 (iP (.ci .i64 1) m n (.ci .i64 8) k)),.store tS eS L] (kO (bd L n ((kk 8 k)) ((mm 1 m)))) (fun _ _=>False):=
 bm (inl:=(aeq (171::aer))) (ann:=bn) (aH dz aP) aT (eO bZ) (Ot L n k m hL hs) (by kernel_rfl)
theorem Qx(L:List Sx.Obj)(n:Int)(k:Key)(m:bK)(hL:aO L)(hs:aU m.data):
 aw (aw (aw (aw (au (je m.k0 m.k1) (aw (aw ((bK.mk 0 eB void void (aA 1),L)=bd L n (kk 8 k) (mm 2 m)))) (aw (aw ((bK.mk 0 eB void void (aA 0),L)=bd L n (kk 8 k) (mm 2 m)))))))):=by
 delta au aA aw
 simp+decide [bd,eg,eV,dQ,ew,iC,ir,iR,gQ,eI,dX,gz,gO,gJ,jB,dR,void,fm,eB,bE,gm,gk,fF,kk,mm,hL,hs];try grind
theorem Na[Fen](L:List Sx.Obj)(n:Int)(k:Key)(m:bK)(hL:aO L)(hs:aU m.data):aM Tryz.prog 94 [.lp 0 0] [.ro (.blk o6 (iP (.ci .i64 2) m n (.ci .i64 8) k)),.store tS eS L] (kO (bd L n ((kk 8 k)) ((mm 2 m)))) (fun _ _=>False):=
 bm (inl:=(aeq (172::aer))) (ann:=bn) (aH Ww (aH dz aP)) aT (eO bZ) (Qx L n k m hL hs) (by kernel_rfl)
theorem Nd(L:List Sx.Obj)(n:Int)(k:Key)(m:bK)(hL:aO L)(hs:aU m.data):
 true=true/\true=true/\true=true/\true=true/\true=true/\(bK.mk 0 eB void void (Key.mk 1 void.oid void.count void.call void.rights m.k0.rights),L)=bd L n (kk 8 k) (mm 3 m):=by
 simp+decide [bd,eg,eV,dQ,ew,iC,ir,iR,gQ,eI,dX,gz,gO,gJ,jB,dR,void,fm,eB,bE,gm,gk,fF,kk,mm,hL,hs];try grind
theorem Rb[Fen](L:List Sx.Obj)(n:Int)(k:Key)(m:bK)(hL:aO L)(hs:aU m.data):aM Tryz.prog 94 [.lp 0 0] [.ro (.blk o6 (iP (.ci .i64 3) m n (.ci .i64 8) k)),.store tS eS L] (kO (bd L n ((kk 8 k)) ((mm 3 m)))) (fun _ _=>False):=
 bm (inl:=(aeq (175::aer))) (ann:=bn) (aH dz aP) aT (eO bZ) (Nd L n k m hL hs) (by kernel_rfl)
theorem Qt(L:List Sx.Obj)(n:Int)(k:Key)(m:bK)(hL:aO L)(hs:aU m.data):
 true=true/\true=true/\true=true/\true=true/\true=true/\(bK.mk 0 eB void void (Key.mk 1 void.oid void.count void.call void.rights n),L)=bd L n (kk 9 k) (mm 1 m):=by
 simp+decide [bd,eg,eV,dQ,ew,iC,ir,iR,gQ,eI,dX,gz,gO,gJ,jB,dR,void,fm,eB,bE,gm,gk,fF,kk,mm,hL,hs];try grind
theorem NQ[Fen](L:List Sx.Obj)(n:Int)(k:Key)(m:bK)(hL:aO L)(hs:aU m.data):aM Tryz.prog 94 [.lp 0 0] [.ro (.blk o6 (iP (.ci .i64 1) m n (.ci .i64 9) k)),.store tS eS L] (kO (bd L n ((kk 9 k)) ((mm 1 m)))) (fun _ _=>False):=
 bm (inl:=(aeq (177::aer))) (ann:=bn) (aH dz aP) aT (eO bZ) (Qt L n k m hL hs) (by kernel_rfl)
theorem LV(L:List Sx.Obj)(n:Int)(k:Key)(m:bK)(hL:aO L)(hs:aU m.data):
 true=true/\true=true/\true=true/\(bK.mk 0 eB void void void,L)=bd L n (kk 10 k) (mm 1 m):=by
 simp+decide [bd,eg,eV,dQ,ew,iC,ir,iR,gQ,eI,dX,gz,gO,gJ,jB,dR,void,fm,eB,bE,gm,gk,fF,kk,mm,hL,hs];try grind
theorem LF[Fen](L:List Sx.Obj)(n:Int)(k:Key)(m:bK)(hL:aO L)(hs:aU m.data):aM Tryz.prog 94 [.lp 0 0] [.ro (.blk o6 (iP (.ci .i64 1) m n (.ci .i64 10) k)),.store tS eS L] (kO (bd L n ((kk 10 k)) ((mm 1 m)))) (fun _ _=>False):=
 bm (inl:=(aeq (178::aer))) (ann:=bn) (aH dz aP) aT (eO bZ) (LV L n k m hL hs) (by kernel_rfl)
end Go.Proofs.YtmfbohanboiklaaGreat
