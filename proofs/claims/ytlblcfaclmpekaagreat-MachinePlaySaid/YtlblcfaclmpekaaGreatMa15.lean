import Derived.Test.YtlblcfaclmpekaaGreatMa14
set_option linter.unusedSimpArgs false
set_option linter.unusedVariables false
set_option maxRecDepth 100000
namespace Go.Proofs.YtlblcfaclmpekaaGreat
open Go.Sx
open Go.RowKit (Below)
theorem TK {P:Program} {ops:Array Oper} {Q:Exit->Act->World->Prop} (I:(Nat->Bool)->Act->World->Prop)
  (hlt:∀(i:Nat) o,ops[i]? =some o->∀e∈o.after,Region.binds .any e=true->e.on<i)
  (hstep:∀L a w (i:Nat) o,ops[i]? =some o->L i=false->(∀e∈o.after,Region.binds .any e=true->L e.on=true)->I L a w->∀K:Act->World->Prop,(∀a' w',I (ins L i) a' w'->K a' w')->wpOpIn (FF P none) 0 P ops Q i K a w)
  (hfin:∀L a w,(∀i,i<ops.size->L i=true)->I L a w->Q .normal a w):
  ∀(fuel:Nat) (listed:Array Bool) (a:Act) (w:World),listed.size=ops.size->CN listed ops.size<=fuel->I (fun k=>listed.getD k false) a w->wpAnyIn (FF P none) 0 P .any ops Q fuel listed a w:=by
 intro fuel
 have hall:∀(listed:Array Bool),listed.size=ops.size->Region.ready .any ops listed= []->∀i,i<ops.size->listed.getD i false=true:=by
  intro listed hs hnil i;induction i using Nat.strongRecOn with
  |_ i ihi=>
   intro hi;cases h:listed.getD i false with
   |true=>rfl
   |false=>
    have hio:ops[i]? =some (ops[i]'hi):=Array.getElem?_eq_getElem hi
    have:i∈Region.ready .any ops listed:=by
     rw[mem_ready];refine⟨?_,_,hio,fun e e1 e2=>ihi e.on (hlt i _ hio e e1 e2) (by have:=hlt i _ hio e e1 e2;omega)⟩
     have:i<listed.size:=by omega
     simpa[Array.getD_eq_getD_getElem?,this]using h
    rw[hnil]at this;simp at this
 induction fuel with
 |zero=>
  intro listed a w hs hc hI
  have hall0:∀i,i<ops.size->listed.getD i false=true:=fun i hi=>by
   cases h:listed.getD i false with
   |true=>rfl
   |false=>have:=jf (n:=ops.size) hs hi h;omega
  refine⟨?_,hfin _ a w hall0 hI⟩;cases hrd:Region.ready .any ops listed with
  |nil=>rfl
  |cons i l=>
   obtain⟨h1,o,h2,_⟩:=mem_ready.1 (show i∈Region.ready .any ops listed by rw[hrd];simp)
   have hisz:i<ops.size:=(Array.getElem?_eq_some_iff.1 h2).1;have:=hall0 i hisz;have hlt:i<listed.size:=by omega
   simp only[Array.getD_eq_getD_getElem?,Array.getElem?_eq_getElem hlt,Option.getD_some]at this h1;rw[this]at h1;simp at h1
 |succ fuel ih=>
  intro listed a w hs hc hI;refine⟨fun hnil=>hfin _ a w (hall listed hs hnil) hI,fun i hi=>?_⟩
  obtain⟨h1,o,h2,h3⟩:=mem_ready.1 hi;have hisz:i<ops.size:=(Array.getElem?_eq_some_iff.1 h2).1;have hl:i<listed.size:=by omega
  have hLi:listed.getD i false=false:=by simpa[Array.getD_eq_getD_getElem?,hl]using h1
  refine hstep _ a w i o h2 hLi h3 hI _ fun a' w' hI'=>?_
  exact ih _ a' w' (by simpa using hs) (by have:=jf (n:=ops.size) hs hisz hLi;omega) (by rw[yF hl];exact hI')
abbrev tM:Nat:=217
abbrev Z1:Nat:=220
abbrev Sc:Nat:=70
abbrev Su:Nat:=165
abbrev fMc:Nat:=210
def SL (o:Oper):Option (Int×Int):=
 match o.op with
 | .build t ps=>if t==Z1 then match ps.toList with
   | [(0,.const (.int .i64 a)),(1,.const (.int .i64 b))]=>some (a,b)
   |_=>none
   else none
 |_=>none
def jH:List Oper->Nat->Option (Int×Int)
 | [],_=>none
 |o::l,s=>match o.dst with
  |some t=>if t==s then SL o else jH l s
  |none=>jH l s
def FK (k:Int×Int):Value:= .agg #[.int .i64 k.1,.int .i64 k.2]
def Ho (b:Nat):Value:= .func (.func fMc) #[] #[.pointer (some ⟨b,0,none⟩)]
def Gs (l:List Oper) (r0 b1 b2 s:Nat):Value:=
 match jH l s with
 |some k=>FK k
 |none=>if s=15 then Ho b1 else if s=17 then Ho b2 else .map (some r0)
def Ek (b1 b2:Nat):Operand->Value
 | .func g=> .func (.func g) #[] #[]
 | .tmp s=>if s=15 then Ho b1 else Ho b2
 |_=>undef
def kC (l:List Oper) (o:Oper):Option (Int×Int):=
 match o.op with
 | .insert _ _ (.tmp k) _=>jH l k
 |_=>none
def vu (l:List Oper) (b1 b2:Nat) (o:Oper):Option (Value×Value):=
 match o.op with
 | .insert _ _ (.tmp k) x=>match jH l k with
   |some c=>some (FK c,Ek b1 b2 x)
   |none=>none
 |_=>none
def nZ (l:List Oper) (b1 b2:Nat) (L:Nat->Bool):Nat->List Oper->List (Value×Value)
 |_,[]=> []
 |i,o::m=>(match vu l b1 b2 o with
  |some p=>if L i then[p]else[]
  |none=> [])++nZ l b1 b2 L (i+1) m
theorem FB {l:List Oper} {b1 b2:Nat} {L:Nat->Bool} {p:Value×Value}:∀{m:List Oper} {i:Nat},p∈nZ l b1 b2 L i m->∃(j:Nat) (o:Oper),m[j]? =some o/\L (i+j)=true/\vu l b1 b2 o=some p
 | [],i,h=>by simp[nZ]at h
 |o::m,i,h=>by
  simp only[nZ,List.mem_append]at h;rcases h with h|h
  ·split at h
   ·rename_i q hq;split at h
    ·rename_i hL;simp only[List.mem_singleton]at h;subst h;exact⟨0,o,rfl,hL,hq⟩
    ·simp at h
   ·simp at h
  ·obtain⟨j,o',h1,h2,h3⟩:=FB h;exact⟨j+1,o',by simpa using h1,by rw[show i+(j+1)=i+1+j by omega];exact h2,h3⟩
theorem BA {l:List Oper} {b1 b2:Nat} {L:Nat->Bool}:∀{m:List Oper} {i:Nat},(∀(j:Nat) (o:Oper),m[j]? =some o->L (i+j)=true->vu l b1 b2 o=none)->nZ l b1 b2 L i m= []
 | [],i,h=>rfl
 |o::m,i,h=>by
  simp only[nZ];rw[BA fun j o' h1 h2=>h (j+1) o' (by simpa using h1) (by rw[show i+(j+1)=i+1+j by omega];exact h2)]
  split
  ·rename_i p hp;split
   ·rename_i hL;have:=h 0 o rfl hL;rw[hp]at this;simp at this
   ·rfl
  ·rfl
theorem nz {l:List Oper} {o:Oper} (h:kC l o=none) (x y:Nat):vu l x y o=none:=by
 obtain⟨dst,op,type,pos,after,guard⟩:=o;cases op<;>try rfl
 rename_i t m k v;cases k<;>try rfl
 simp only[kC]at h;simp only[vu,h]
theorem qn {l:List Oper} {b1 b2 c1 c2:Nat} {L L':Nat->Bool}:∀{m:List Oper} {i:Nat},(∀(j:Nat) (o:Oper),m[j]? =some o->(kC l o).isSome=true->L (i+j)=L' (i+j)/\(L (i+j)=true->vu l b1 b2 o=vu l c1 c2 o))->nZ l b1 b2 L i m=nZ l c1 c2 L' i m
 | [],i,h=>rfl
 |o::m,i,h=>by
  simp only[nZ]
  rw[qn (c1:=c1) (c2:=c2) (L':=L') (i:=i+1) fun j o' h1 h2=>by
   have:=h (j+1) o' (by simpa using h1) h2
   rwa [show i+(j+1)=i+1+j by omega]at this]
  congr 1
  cases hk:kC l o with
  |none=>
   rw[nz hk,nz hk]
  |some k=>
   obtain⟨h1,h2⟩:=h 0 o rfl (by rw[hk];rfl)
   simp only[Nat.add_zero]at h1 h2;cases hL:L i with
   |true=>rw[<-h1,hL,h2 hL]
   |false=>
    rw[<-h1,hL];simp only[Bool.false_eq_true,if_false];split<;>split<;>rfl
theorem EK {l:List Oper} {b1 b2:Nat} {L:Nat->Bool} {p:Value×Value} {q:Nat} (hq:L q=false):∀{m:List Oper} {i j:Nat} {o:Oper},m[j]? =some o->i+j=q->vu l b1 b2 o=some p->(nZ l b1 b2 (ins L q) i m).Perm (nZ l b1 b2 L i m++ [p])
 | [],i,j,o,h,_,_=>by simp at h
 |x::m,i,0,o,h,e,hp=>by
  simp only[List.getElem?_cons_zero,aaT]at h;subst h;simp only[Nat.add_zero]at e;subst e;simp only[nZ,hp,ins,BEq.rfl,Bool.true_or,if_true,hq,Bool.false_eq_true,if_false,List.nil_append,List.singleton_append]
  have:nZ l b1 b2 (fun k=>k==i||L k) (i+1) m=nZ l b1 b2 L (i+1) m:=qn fun j o _ _=>⟨by
   have:((i+1+j)==i)=false:=by simp;omega
   simp[this],fun _=>rfl⟩
  show(p::nZ l b1 b2 (fun k=>k==i||L k) (i+1) m).Perm _
  rw[this];exact(List.perm_append_singleton _ _).symm
 |x::m,i,j+1,o,h,e,hp=>by
  simp only[nZ]
  have hi:ins L q i=L i:=by
   have:(i==q)=false:=by simp;omega
   simp[ins,this]
  rw[hi,List.append_assoc];exact List.Perm.append_left _ (EK hq (by simpa using h) (by omega) hp)
def JM (l:List Oper) (o:Oper):Bool:=
 match o.op with
 | .makeMap t r=>t==tM&&r.isNone&&o.dst==some 1
 | .build _ _=>(match SL o with|some k=>decide (cc .i64 k.1)&&decide (cc .i64 k.2)|none=>false)&&(match o.dst with|some d=>Nat.blt d 35&&jH l d==SL o|none=>false)
 | .call c=>(match c.callee with| .value (.func g)=>g==Su|_=>false)&&(match c.args.toList with| [.const (.int .i64 n)]=>(o.dst==some 15&&n==1)||(o.dst==some 17&&n==2)|_=>false)
 | .insert t m k x=>t==tM&&o.dst==none&&(match m with| .tmp s=>s==1|_=>false)&&(match k with| .tmp s=>(jH l s).isSome|_=>false)&&(match x with| .func _=>true| .tmp s=>s==15||s==17|_=>false)
 | .move x=>o.dst==some 34&&(match x with| .tmp s=>s==1|_=>false)
 | .assign x=>o.dst==some 0&&(match x with| .tmp s=>s==34|_=>false)
 |_=>false
def afB (l:List Oper) (t:Nat) (e:Edge):Bool:=Region.binds .any e&&(match l[e.on]? with|some o=>o.dst==some t|none=>false)
def XZ (l:List Oper) (o:Oper):Bool:=o.op.operands.toList.all fun x=>match x with
 | .tmp t=>o.after.toList.any (afB l t)
 |_=>true
def ltB:Nat->List Oper->Bool
 |_,[]=>true
 |i,o::l=>o.after.toList.all (fun e=> !Region.binds .any e||Nat.blt e.on i)&&ltB (i+1) l
def wK (l:List Oper):Bool:=
 l.all (fun o=>o.guard.isNone&&JM l o&&XZ l o)&&ltB 0 l&&s8 (l.map fun o=>(o.dst,0))&&(jH l 1).isNone&&(jH l 15).isNone&&(jH l 17).isNone&&(jH l 34).isNone&&(jH l 0).isNone
def HJ (l:List Oper):List (Int×Int):=l.filterMap (kC l)
theorem Fp:∀{l:List Oper} {i0:Nat},ltB i0 l=true->∀(i:Nat) (o:Oper),l[i]? =some o->∀e∈o.after,Region.binds .any e=true->e.on<i0+i
 | [],_,_,i,o,h,_,_,_=>by simp at h
 |x::l,i0,h,i,o,ho,e,he,hb=>by
  simp only[ltB,aaV,List.all_eq_true,Bool.or_eq_true,Bool.not_eq_true']at h;cases i with
  |zero=>
   simp only[List.getElem?_cons_zero,aaT]at ho;subst ho;rcases h.1 e (by simpa using he)with h|h
   ·rw[hb]at h;simp at h
   ·rw[Nat.blt_eq]at h;omega
  |succ i=>
   have:=Fp h.2 i o (by simpa using ho) e he hb
   omega
theorem qI {α β:Type} {f:α->Option β}:∀{l:List α},(l.filterMap f).Nodup->∀{i j:Nat} {a b:α} {x:β},l[i]? =some a->l[j]? =some b->f a=some x->f b=some x->i=j
 | [],_,i,j,a,b,x,h,_,_,_=>by simp at h
 |y::l,h,i,j,a,b,x,hi,hj,ha,hb=>by
  have key:∀{k:Nat} {c:α},l[k]? =some c->f c=some x->f y=some x->False:=fun{k c} hk hc hy=>by
   rw[List.filterMap_cons_some hy,List.nodup_cons]at h;exact h.1 (List.mem_filterMap.2 ⟨c,List.mem_of_getElem? hk,hc⟩)
  cases i with
  |zero=>
   simp only[List.getElem?_cons_zero,aaT]at hi;subst hi;cases j with
   |zero=>rfl
   |succ j=>exact(key (by simpa using hj) hb ha).elim
  |succ i=>
   cases j with
   |zero=>
    simp only[List.getElem?_cons_zero,aaT]at hj;subst hj;exact(key (by simpa using hi) ha hb).elim
   |succ j=>
    have:(l.filterMap f).Nodup:=by
     cases hy:f y with
     |none=>simpa[List.filterMap_cons,hy]using h
     |some z=>simp only[List.filterMap_cons,hy,List.nodup_cons]at h;exact h.2
    exact congrArg (· +1) (qI (i:=i) (j:=j) this (by simpa using hi) (by simpa using hj) ha hb)
structure AG (l:List Oper) (w0:World) (L:Nat->Bool) (a:Act) (w:World) (r0 b1 b2:Nat):Prop where
 sz:a.tmps.size=35
 df:a.defers= []
 tmp:∀(i:Nat) o d,l[i]? =some o->L i=true->o.dst=some d->a.tmps.getD d undef=Gs l r0 b1 b2 d
 bel:Below w0.heap.size w0 w
 down:∀(i:Nat) o,l[i]? =some o->L i=true->∀e∈o.after,Region.binds .any e=true->L e.on=true
 map:∀(i:Nat) o,l[i]? =some o->L i=true->o.dst=some 1->w0.heap.size<=r0/\∃es cl,w.heap[r0]? =some (.map es cl)/\(es.toList.map fun e=>(e.key,e.val)).Perm (nZ l b1 b2 L 0 l)
 one:∀(i:Nat) o,l[i]? =some o->L i=true->o.dst=some 15->w0.heap.size<=b1/\w.heap[b1]? =some (.cells #[.int .i64 1] Sc (0,0))
 two:∀(i:Nat) o,l[i]? =some o->L i=true->o.dst=some 17->w0.heap.size<=b2/\w.heap[b2]? =some (.cells #[.int .i64 2] Sc (0,0))
theorem Co {x y:Int} (hx:cc .i64 x) (hy:cc .i64 y) (w:World):(Instr.build Z1 #[(0,.int .i64 x),(1,.int .i64 y)]).run Tryz.prog w= .ok (FK (x,y)) w:=
 (rn (J:=Env.zero) (w:=w) (K:=fun _=>True) (C:=(YJ [] [] [] bx aQ).toCtx) (t:=Z1) (parts:= [(0,.it .i64 x),(1,.it .i64 y)]) (r:= .ag [.it .i64 x,.it .i64 y]) (zU pz) (by kernel_rfl) (by simp;exact⟨hx,hy⟩)).1
theorem Ud (n:Int):an Tryz.prog Su [.it .i64 n] [] (fun v r=>v= .fn fMc [.lp 0 0]/\r= [.blk Sc (.it .i64 n)]) (fun _ _=>False):=
 bm ar aE (inl:=bx) (ann:=aQ) (G:=(V.fn fMc [V.lp 0 0]=V.fn fMc [V.lp 0 0]/\ [aK.blk Sc (V.it .i64 n)]= [aK.blk Sc (V.it .i64 n)])) ⟨rfl,rfl⟩ (by kernel_rfl)
theorem Gc {n:Int} (hn:cc .i64 n) (w:World):CallsIn (FF Tryz.prog none) 0 Tryz.prog Su #[.int .i64 n] w fun e w'=>∃b,e= .returned (Ho b)/\Below w.heap.size w w'/\w.heap.size<=b/\w'.heap[b]? =some (.cells #[.int .i64 n] Sc (0,0)):=by
 have hE:bq Env.zero (fun _ _=>False) [] (known []) w (fun _=>False) w:=
  ⟨fun i hi=>hi,Nat.le_refl _,rfl,rfl,rfl,fun i hi=>by simp[known,az]at hi,fun i b hi=>by simp[known,az]at hi,fun i j b hi=>by simp[known,az]at hi,fun i b hi=>by simp[known,az]at hi,fun _ _ _=>rfl⟩
 have hc:=Ud n Env.zero _ w (fun _=>False) w hE ⟨hn,trivial⟩
 refine hc.mono fun e w' ⟨v,ρ1,fps1,r,g1,g2,g3,g4⟩=>?_
 rcases g4 with⟨rfl,rfl,rfl⟩|⟨_,hF⟩
 ·have hk:known [aK.blk Sc (V.it .i64 n)] 0:=by simp[known,az]
  obtain⟨_,_,h1,h2⟩:=g1.holds 0 hk;refine⟨ρ1.num 0,by simp only[den,bz,Ho];rfl,⟨g1.os,g1.tape,g1.output,g1.old,fun b hb=>g1.same b hb (fun h=>h)⟩,?_,?_⟩
  ·rcases Nat.lt_or_ge (ρ1.num 0) w.heap.size with h|h
   ·exact(g1.inF 0 _ hk h1 h).elim
   ·exact h
  ·rw[h2];simp[cells,den,Value.cells]
 ·exact hF.elim
theorem oO {l:List Oper} (hB:wK l=true) {i:Nat} {o:Oper} (h:l[i]? =some o):o.guard=none/\JM l o=true/\XZ l o=true:=by
 unfold wK at hB;simp only[aaV,List.all_eq_true]at hB;have:=hB.1.1.1.1.1.1.1 o (List.mem_of_getElem? h);exact⟨by simpa using this.1.1,this.1.2,this.2⟩
theorem US {l:List Oper} (hB:wK l=true) {i j:Nat} {o o':Oper} {t:Nat} (h:l[i]? =some o) (h':l[j]? =some o') (hd:o.dst=some t) (hd':o'.dst=some t):i=j:=by
 unfold wK at hB;simp only[aaV]at hB;exact pJ (t:=t) hB.1.1.1.1.1.2 (by rw[List.getElem?_map,h,Option.map_some,hd]) (by rw[List.getElem?_map,h',Option.map_some,hd'])
theorem Cw {l:List Oper} (hB:wK l=true):jH l 1=none/\jH l 15=none/\jH l 17=none/\jH l 34=none/\jH l 0=none:=by
 unfold wK at hB;simp only[aaV,Option.isNone_iff_eq_none]at hB;obtain⟨⟨⟨⟨⟨_,h1⟩,h2⟩,h3⟩,h4⟩,h5⟩:=hB;exact⟨h1,h2,h3,h4,h5⟩
theorem uN {l:List Oper} {o:Oper} (h:JM l o=true) {d:Nat} (hd:o.dst=some d):d<35/\((∃k,jH l d=some k)\/d=1\/d=15\/d=17\/(d=34/\Operand.tmp 1∈o.op.operands)\/(d=0/\Operand.tmp 34∈o.op.operands)):=by
 obtain⟨dst,op,type,pos,after,guard⟩:=o;simp only at hd;subst hd;cases op<;>simp only[JM,Bool.false_eq_true]at h
 case move x=>
  simp only[aaV,aaX,aaT]at h;obtain⟨rfl,h⟩:=h;cases x<;>simp at h
  subst h;exact⟨by omega,.inr (.inr (.inr (.inr (.inl ⟨rfl,by simp[Op.operands]⟩))))⟩
 case assign x=>
  simp only[aaV,aaX,aaT]at h;obtain⟨rfl,h⟩:=h;cases x<;>simp at h
  subst h;exact⟨by omega,.inr (.inr (.inr (.inr (.inr ⟨rfl,by simp[Op.operands]⟩))))⟩
 case makeMap t r=>
  simp only[aaV,aaX,aaT]at h;obtain⟨_,rfl⟩:=h;exact⟨by omega,.inr (.inl rfl)⟩
 case insert t m k x=>simp at h
 case build t ps=>
  simp only[aaV,aaX]at h;obtain⟨h1,h2,h3⟩:=h;refine⟨by rw[Nat.blt_eq]at h2;exact h2,.inl ?_⟩
  rw[h3];split at h1
  ·rename_i k hk;exact⟨k,hk⟩
  ·simp at h1
 case call c=>
  simp only[aaV]at h;obtain⟨_,h⟩:=h;split at h
  ·simp only[Bool.or_eq_true,aaV,aaX,aaT]at h;rcases h with⟨rfl,_⟩|⟨rfl,_⟩
   ·exact⟨by omega,.inr (.inr (.inl rfl))⟩
   ·exact⟨by omega,.inr (.inr (.inr (.inl rfl)))⟩
  ·simp at h
theorem uB {l:List Oper} {o:Oper} (h:JM l o=true) {k:Int×Int} (hk:kC l o=some k):∃s x,o.op= .insert tM (.tmp 1) (.tmp s) x/\o.dst=none/\jH l s=some k/\((∃g,x= .func g)\/x= .tmp 15\/x= .tmp 17):=by
 obtain⟨dst,op,type,pos,after,guard⟩:=o;cases op<;>simp only[kC,reduceCtorEq]at hk
 rename_i t m kk x;simp only[JM,aaV,aaX]at h;obtain⟨⟨⟨⟨rfl,rfl⟩,hm⟩,hs⟩,hx⟩:=h;cases m<;>simp at hm
 subst hm;cases kk<;>simp only[reduceCtorEq]at hk
 rename_i s;refine⟨s,x,rfl,rfl,hk,?_⟩;cases x<;>simp at hx
 ·rcases hx with rfl|rfl
  ·exact .inr (.inl rfl)
  ·exact .inr (.inr rfl)
 ·exact .inl ⟨_,rfl⟩
theorem yf {l:List Oper} {o:Oper} {k:Int×Int} (hk:kC l o=some k) (b1 b2:Nat) {t s:Nat} {m x:Operand} (ho:o.op= .insert t m (.tmp s) x):vu l b1 b2 o=some (FK k,Ek b1 b2 x):=by
 unfold kC at hk;unfold vu;rw[ho]at hk⊢;simp only at hk⊢;rw[hk]
theorem SA {a b:Int×Int} (h:FK a=FK b):a=b:=by
 simp only[FK,Value.agg.injEq,Array.mk.injEq,List.cons.injEq,Value.int.injEq,true_and,and_true]at h;exact Prod.ext h.1 h.2
theorem V7 (a:Int×Int):FK a=j3 [a.1,a.2]:=rfl
section
variable {l:List Oper} {w0:World} {L:Nat->Bool} {a:Act} {w:World} {r0 b1 b2:Nat} {i:Nat} {o:Oper}
theorem Oz (hB:wK l=true) {j:Nat} {o':Oper} (h:l[j]? =some o') {t:Nat} (ht:Operand.tmp t∈o'.op.operands):∃e∈o'.after,Region.binds .any e=true/\∃o1,l[e.on]? =some o1/\o1.dst=some t:=by
 have:=(oO hB h).2.2;unfold XZ at this;rw[List.all_eq_true]at this;have:=this _ (by simpa using ht)
 simp only[List.any_eq_true]at this;obtain⟨e,he,h2⟩:=this;simp only[afB,aaV]at h2;refine⟨e,by simpa using he,h2.1,?_⟩
 have h3:=h2.2;split at h3
 ·rename_i o1 ho1;exact⟨o1,ho1,by simpa using h3⟩
 ·simp at h3
theorem AG.dep (I:AG l w0 L a w r0 b1 b2) (hB:wK l=true) {j:Nat} {o':Oper} (h:l[j]? =some o') (hj:L j=true) {t:Nat} (ht:Operand.tmp t∈o'.op.operands):∃k o1,l[k]? =some o1/\o1.dst=some t/\L k=true:=by
 obtain⟨e,he,hb,o1,h1,h2⟩:=Oz hB h ht;exact⟨e.on,o1,h1,h2,I.down j o' h hj e he hb⟩
theorem AG.root (I:AG l w0 L a w r0 b1 b2) (hB:wK l=true) {j:Nat} {o':Oper} (h:l[j]? =some o') (hj:L j=true) {d:Nat} (hd:o'.dst=some d) (hd':d=1\/d=34\/d=0):∃k o1,l[k]? =some o1/\o1.dst=some 1/\L k=true:=by
 have step34:∀{j:Nat} {o':Oper},l[j]? =some o'->L j=true->o'.dst=some 34->∃k o1,l[k]? =some o1/\o1.dst=some 1/\L k=true:=fun{j o'} h hj hd=>by
  rcases(uN (oO hB h).2.1 hd).2 with⟨k,hk⟩|hk|hk|hk|⟨_,hk⟩|⟨hk,_⟩
  ·rw[(Cw hB).2.2.2.1]at hk;simp at hk
  ·omega
  ·omega
  ·omega
  ·exact I.dep hB h hj hk
  ·omega
 rcases hd' with rfl|rfl|rfl
 ·exact⟨j,o',h,hd,hj⟩
 ·exact step34 h hj hd
 ·rcases(uN (oO hB h).2.1 hd).2 with⟨k,hk⟩|hk|hk|hk|⟨hk,_⟩|⟨_,hk⟩
  ·rw[(Cw hB).2.2.2.2]at hk;simp at hk
  ·omega
  ·omega
  ·omega
  ·omega
  ·obtain⟨k,o1,h1,h2,h3⟩:=I.dep hB h hj hk;exact step34 h1 h3 h2
theorem yd {k:Int×Int} {s:Nat} (h:jH l s=some k):Gs l r0 b1 b2 s=FK k:=by unfold Gs;rw[h]
theorem qs {s:Nat} (h:jH l s=none) (h1:s≠15) (h2:s≠17):Gs l r0 b1 b2 s= .map (some r0):=by unfold Gs;rw[h];simp[h1,h2]
theorem yb (h:jH l 15=none):Gs l r0 b1 b2 15=Ho b1:=by unfold Gs;rw[h];rfl
theorem yt (h:jH l 17=none):Gs l r0 b1 b2 17=Ho b2:=by unfold Gs;rw[h];rfl
theorem AG.put (I:AG l w0 L a w r0 b1 b2) (hB:wK l=true) (ho:l[i]? =some o) (hLi:L i=false) (hdep:∀e∈o.after,Region.binds .any e=true->L e.on=true) {d:Nat} (hd:o.dst=some d) {v:Value} {w':World} {c0 c1 c2:Nat}
  (hv:v=Gs l c0 c1 c2 d) (hs:∀(j:Nat) o' d',l[j]? =some o'->L j=true->o'.dst=some d'->Gs l r0 b1 b2 d'=Gs l c0 c1 c2 d') (hb:Below w0.heap.size w0 w')
  (hm:∀(j:Nat) o',l[j]? =some o'->ins L i j=true->o'.dst=some 1->w0.heap.size<=c0/\∃es cl,w'.heap[c0]? =some (.map es cl)/\(es.toList.map fun e=>(e.key,e.val)).Perm (nZ l c1 c2 (ins L i) 0 l))
  (h1:∀(j:Nat) o',l[j]? =some o'->ins L i j=true->o'.dst=some 15->w0.heap.size<=c1/\w'.heap[c1]? =some (.cells #[.int .i64 1] Sc (0,0)))
  (h2:∀(j:Nat) o',l[j]? =some o'->ins L i j=true->o'.dst=some 17->w0.heap.size<=c2/\w'.heap[c2]? =some (.cells #[.int .i64 2] Sc (0,0))):AG l w0 (ins L i) (a.put (some d) v) w' c0 c1 c2:=by
 have hd35:=(uN (oO hB ho).2.1 hd).1;refine⟨by rw[ca];exact I.sz,by simpa[Act.put]using I.df,fun j o' d' hj hL hd'=>?_,hb,fun j o' hj hL e he hbi=>?_,hm,h1,h2⟩
 ·have hp:∀s,(a.put (some d) v).tmps.getD s undef=if d=s then v else a.tmps.getD s undef:=fun s=>cj a d s v (by rw[I.sz];exact hd35)
  rw[hp];by_cases e:d=d'
  ·subst e;rw[aa2 rfl];exact hv
  ·rw[aa1 e]
   have hji:j≠i:=fun h=>by
    subst h;rw[ho]at hj;simp only[aaT]at hj;subst hj;rw[hd]at hd';simp only[aaT]at hd';exact e hd'
   have hLj:L j=true:=by simpa[ins,hji]using hL
   rw[I.tmp j o' d' hj hLj hd'];exact hs j o' d' hj hLj hd'
 ·by_cases hji:j=i
  ·subst hji;rw[ho]at hj;simp only[aaT]at hj;subst hj;simp[ins,hdep e he hbi]
  ·have hLj:L j=true:=by simpa[ins,hji]using hL
   simp[ins,I.down j o' hj hLj e he hbi]
theorem py (ho:l[i]? =some o) (hn:kC l o=none) {c1 c2:Nat} (hc:∀(j:Nat) o',l[j]? =some o'->L j=true->vu l b1 b2 o'=vu l c1 c2 o'):nZ l b1 b2 L 0 l=nZ l c1 c2 (ins L i) 0 l:=
 qn fun j o' hj hk=>by
  rw[Nat.zero_add]
  have hji:j≠i:=fun h=>by
   subst h;rw[ho]at hj;simp only[aaT]at hj;subst hj;rw[hn]at hk;simp at hk
  exact⟨by simp[ins,hji],fun hL=>hc j o' hj hL⟩
end
theorem PF {ops:Array Oper} {l:List Oper} (hops:ops.toList=l) (hB:wK l=true) (hk:(HJ l).Nodup) {w0:World} {Q:Exit->Act->World->Prop} (L:Nat->Bool) (a:Act) (w:World) (i:Nat) (o:Oper) (ho:ops[i]? =some o) (hLi:L i=false)
  (hdep:∀e∈o.after,Region.binds .any e=true->L e.on=true) (hI:∃r0 b1 b2,AG l w0 L a w r0 b1 b2) (K:Act->World->Prop) (hK:∀a' w',(∃r0 b1 b2,AG l w0 (ins L i) a' w' r0 b1 b2)->K a' w'):wpOpIn (FF Tryz.prog none) 0 Tryz.prog ops Q i K a w:=by
 obtain⟨r0,b1,b2,I⟩:=hI;have hol:l[i]? =some o:=by rw[<-hops];simpa using ho
 have hg:=(oO hB hol).1;have hop:=(oO hB hol).2.1;obtain⟨n1,n15,n17,n34,n0⟩:=Cw hB;have hsz:=I.bel.size;unfold wpOpIn;simp only[ho];rw[aa2 (by simp[Region.wanted,hg])]
 have hev:∀t,Operand.tmp t∈o.op.operands->∃k o1,l[k]? =some o1/\o1.dst=some t/\L k=true/\a.eval (.tmp t)=Gs l r0 b1 b2 t:=fun t ht=>by
  obtain⟨e,he,hb,o1,h1,h2⟩:=Oz hB hol ht;exact⟨e.on,o1,h1,h2,hdep e he hb,I.tmp _ _ _ h1 (hdep e he hb) h2⟩
 have notI:∀{j:Nat} {o':Oper} {t:Nat},l[j]? =some o'->L j=true->o'.dst=some t->o.dst=some t->False:=fun{j o' t} h1 h2 h3 h4=>by
  have:=US hB h1 hol h3 h4;rw[this,hLi]at h2;simp at h2
 have oldI:∀{j:Nat} {o':Oper} {t:Nat},l[j]? =some o'->ins L i j=true->o'.dst=some t->o.dst≠some t->L j=true:=fun{j o' t} h1 h2 h3 h4=>by
  have:j≠i:=fun e=>by
   subst e;rw[hol]at h1;simp only[aaT]at h1;subst h1;exact h4 h3
  simpa[ins,this]using h2
 obtain⟨dst,op,type,pos,after,guard⟩:=o;simp only at hg;subst hg
 have about:∀(op:Op),(∀c,op≠ .call c)->∀f,(⟨dst,op,type,pos,after,none⟩:Oper).about Tryz.prog w a.eval=some f->(Tryz.prog.funcs[f]?).isSome=true:=fun op hc f hf=>by
  unfold Oper.about at hf;split at hf
  ·rename_i c hc';exact absurd hc' (hc c)
  ·simp at hf
 cases op<;>simp only[JM,Bool.false_eq_true]at hop
 case move x=>
  simp only[aaV,aaX]at hop;obtain⟨rfl,hx⟩:=hop;cases x<;>simp at hx
  subst hx;obtain⟨k,o1,g1,g2,g3,g4⟩:=hev 1 (by simp[Op.operands])
  have hn:kC l ⟨some 34,.move (.tmp 1),type,pos,after,none⟩=none:=rfl;refine eV (ro:=none) (by simp) (about _ (by simp)) ?_
  rw[show(execOp a.eval ⟨some 34,.move (.tmp 1),type,pos,after,none⟩).run Tryz.prog w= .ok (.value (.map (some r0))) w by simp[execOp,g4,qs n1]]
  refine hK _ _ ⟨r0,b1,b2,I.put hB hol hLi hdep rfl (qs n34 (by omega) (by omega)).symm (fun _ _ _ _ _ _=>rfl) I.bel (fun j o' h1 h2 h3=>?_) (fun j o' h1 h2 h3=>I.one j o' h1 (oldI h1 h2 h3 (by simp)) h3) (fun j o' h1 h2 h3=>I.two j o' h1 (oldI h1 h2 h3 (by simp)) h3)⟩
  rw[<-py hol hn fun _ _ _ _=>rfl]
  exact I.map j o' h1 (oldI h1 h2 h3 (by simp)) h3
 case assign x=>
  simp only[aaV,aaX]at hop;obtain⟨rfl,hx⟩:=hop;cases x<;>simp at hx
  subst hx;obtain⟨k,o1,g1,g2,g3,g4⟩:=hev 34 (by simp[Op.operands])
  have hn:kC l ⟨some 0,.assign (.tmp 34),type,pos,after,none⟩=none:=rfl;refine eV (ro:=none) (by simp) (about _ (by simp)) ?_
  rw[show(execOp a.eval ⟨some 0,.assign (.tmp 34),type,pos,after,none⟩).run Tryz.prog w= .ok (.value (.map (some r0))) w by simp[execOp,g4,qs n34]]
  refine hK _ _ ⟨r0,b1,b2,I.put hB hol hLi hdep rfl (qs n0 (by omega) (by omega)).symm (fun _ _ _ _ _ _=>rfl) I.bel (fun j o' h1 h2 h3=>?_) (fun j o' h1 h2 h3=>I.one j o' h1 (oldI h1 h2 h3 (by simp)) h3) (fun j o' h1 h2 h3=>I.two j o' h1 (oldI h1 h2 h3 (by simp)) h3)⟩
  rw[<-py hol hn fun _ _ _ _=>rfl]
  exact I.map j o' h1 (oldI h1 h2 h3 (by simp)) h3
 case build t ps=>
  simp only[aaV]at hop;obtain⟨h1,h2⟩:=hop;split at h1
  case h_2=>simp at h1
  rename_i c hc;split at h2
  case h_2=>simp at h2
  rename_i d;simp only[aaV,aaW,aaX]at h1 h2;have hkd:jH l d=some c:=h2.2.trans hc;unfold SL at hc;simp only at hc;split at hc
  case isFalse=>simp at hc
  rename_i htp;have htp:=aaX.1 htp;split at hc<;>simp only[aaT,reduceCtorEq]at hc
  rename_i x y hps;subst hc;have hps':ps= #[(0,.const (.int .i64 x)),(1,.const (.int .i64 y))]:=by rw[<-hps]
  subst hps';have hn:kC l ⟨some d,.build t #[(0,.const (.int .i64 x)),(1,.const (.int .i64 y))],type,pos,after,none⟩=none:=rfl;have hdn:d≠1/\d≠15/\d≠17:=⟨fun e=>by subst e;rw[n1]at hkd;simp at hkd,fun e=>by subst e;rw[n15]at hkd;simp at hkd,fun e=>by subst e;rw[n17]at hkd;simp at hkd⟩
  refine eV (ro:=none) (by simp) (about _ (by simp)) ?_
  have hr:=Co h1.1 h1.2 w
  rw[show(execOp a.eval ⟨some d,.build t #[(0,.const (.int .i64 x)),(1,.const (.int .i64 y))],type,pos,after,none⟩).run Tryz.prog w= .ok (.value (FK (x,y))) w by
   subst htp;simp only[execOp,Sem.run_bind];rw[show(#[(0,Operand.const (.int .i64 x)),(1,.const (.int .i64 y))].map fun(i,z)=>(i,a.eval z))= #[(0,Value.int .i64 x),(1,.int .i64 y)] by apply Array.ext';simp[Act.eval],hr]
   rfl]
  refine hK _ _ ⟨r0,b1,b2,I.put hB hol hLi hdep rfl (yd hkd).symm (fun _ _ _ _ _ _=>rfl) I.bel (fun j o' h1 h2 h3=>?_) (fun j o' h1 h2 h3=>I.one j o' h1 (oldI h1 h2 h3 (by simp[hdn.2.1])) h3) (fun j o' h1 h2 h3=>I.two j o' h1 (oldI h1 h2 h3 (by simp[hdn.2.2])) h3)⟩
  rw[<-py hol hn fun _ _ _ _=>rfl]
  exact I.map j o' h1 (oldI h1 h2 h3 (by simp[hdn.1])) h3
 case makeMap t r=>
  simp only[aaV,aaX,Option.isNone_iff_eq_none]at hop;obtain⟨⟨rfl,rfl⟩,rfl⟩:=hop;have hn:kC l ⟨some 1,.makeMap tM none,type,pos,after,none⟩=none:=rfl
  have hroot:∀{j:Nat} {o':Oper} {d:Nat},l[j]? =some o'->L j=true->o'.dst=some d->(d=1\/d=34\/d=0)->False:=fun{j o' d} h1 h2 h3 h4=>by
   obtain⟨k,o1,g1,g2,g3⟩:=I.root hB h1 h2 h3 h4;exact notI g1 g3 g2 rfl
  have hno:∀(j:Nat) o',l[j]? =some o'->L j=true->kC l o'=none:=fun j o' h1 h2=>by
   cases hc:kC l o' with
   |none=>rfl
   |some c=>
    exfalso
    obtain⟨s,x,e1,_⟩:=uB (oO hB h1).2.1 hc;obtain⟨k,o1,g1,g2,g3⟩:=I.dep hB h1 h2 (t:=1) (by rw[e1];simp[Op.operands])
    exact notI g1 g3 g2 rfl
  refine eV (ro:=none) (by simp) (about _ (by simp)) ?_
  rw[show(execOp a.eval ⟨some 1,.makeMap tM none,type,pos,after,none⟩).run Tryz.prog w= .ok (.value (.map (some w.heap.size))) (w.alloc (.map #[] 0)) by
   simp[execOp,show(Instr.makeMap tM none).run Tryz.prog w= .ok (.map (some w.heap.size)) (w.alloc (.map #[] 0))from rfl]]
  have hal:=MapKept.heap_alloc w (.map #[] 0);refine hK _ _ ⟨w.heap.size,b1,b2,I.put hB hol hLi hdep rfl (qs n1 (by omega) (by omega)).symm (fun j o' d' h1 h2 h3=>?_) (I.bel.alloc hsz _) (fun j o' h1 h2 h3=>?_) (fun j o' h1 h2 h3=>?_) (fun j o' h1 h2 h3=>?_)⟩
  ·rcases(uN (oO hB h1).2.1 h3).2 with⟨k,hk'⟩|e|e|e|⟨e,_⟩|⟨e,_⟩
   ·rw[yd hk',yd hk']
   ·exact(hroot h1 h2 h3 (.inl e)).elim
   ·rw[e,yb n15,yb n15]
   ·rw[e,yt n17,yt n17]
   ·exact(hroot h1 h2 h3 (.inr (.inl e))).elim
   ·exact(hroot h1 h2 h3 (.inr (.inr e))).elim
  ·refine⟨hsz, #[],0,hal.1,?_⟩
   rw[BA fun j o' hj hL=>nz (by
    rw[Nat.zero_add]at hL;by_cases e:j=i
    ·subst e;rw[hol]at hj;simp only[aaT]at hj;subst hj;exact hn
    ·exact hno j o' hj (by simpa[ins,e]using hL)) _ _]
   exact List.Perm.refl _
  ·obtain⟨g1,g2⟩:=I.one j o' h1 (oldI h1 h2 h3 (by simp)) h3
   exact⟨g1,by rw[hal.2 _ (Array.getElem?_eq_some_iff.1 g2).1];exact g2⟩
  ·obtain⟨g1,g2⟩:=I.two j o' h1 (oldI h1 h2 h3 (by simp)) h3
   exact⟨g1,by rw[hal.2 _ (Array.getElem?_eq_some_iff.1 g2).1];exact g2⟩
 case call c=>
  obtain⟨callee,args,argTypes⟩:=c;simp only[aaV]at hop;obtain⟨h1,h2⟩:=hop;split at h1
  case h_2=>simp at h1
  rename_i g;have hgf:=aaX.1 h1;subst hgf;split at h2
  case h_2=>simp at h2
  rename_i n hargs;have hargs':args= #[.const (.int .i64 n)]:=by rw[<-hargs]
  subst hargs';simp only[Bool.or_eq_true,aaV,aaX]at h2;have hn:kC l ⟨dst,.call ⟨.value (.func Su), #[.const (.int .i64 n)],argTypes⟩,type,pos,after,none⟩=none:=rfl;have hfd:(Tryz.prog.funcs[Su]?).isSome=true:=by kernel_rfl
  have hnr:cc .i64 n:=by rcases h2 with⟨_,rfl⟩|⟨_,rfl⟩<;>simp[cc]
  have hrun:(execOp a.eval ⟨dst,.call ⟨.value (.func Su), #[.const (.int .i64 n)],argTypes⟩,type,pos,after,none⟩).run Tryz.prog w= .ok (.enter Su #[.int .i64 n]) w:=by
   have hcb:iT Tryz.prog Su=true:=by kernel_rfl
   obtain⟨fn,f1,f2,f3⟩:=rk hcb;simp only[execOp,resolve,Act.eval,Deferred.ofValue,Sem.run_bind,Sem.run_pure,Result.andThen_ok,invoke,callFunc,run_program,f1,f2,f3,Bool.false_eq_true,if_false];simp[Act.eval]
  refine eV (ro:=none) (by simp) (fun f hf=>by
   have:f=Su:=by
    simp only[Oper.about,resolve,Act.eval,Deferred.ofValue,Sem.run_bind,Sem.run_pure,Result.andThen_ok,Target.leads,aaT]at hf;exact hf.symm
   rw[this];exact hfd) ?_
  rw[hrun];refine⟨fun h=>by simp[FF]at h,(Gc hnr w).mono fun e w' ⟨b,he,hb,hbs,hbc⟩=>?_⟩
  subst he;have hbel:Below w0.heap.size w0 w':=⟨hb.os.trans I.bel.os,hb.tape.trans I.bel.tape,hb.output.trans I.bel.output,Nat.le_trans I.bel.size hb.size,fun c hc=>by rw[hb.block c (by omega)];exact I.bel.block c hc⟩
  have old:∀c x,w.heap[c]? =some x->w'.heap[c]? =some x:=fun c x h=>by rw[hb.block c (Array.getElem?_eq_some_iff.1 h).1];exact h
  have slotOf:∀(s:Nat),dst=some s->∀(j:Nat) o',l[j]? =some o'->L j=true->∀t m k,o'.op= .insert t m k (.tmp s)->False:=fun s hs j o' h1 h2 t m k h3=>by
   obtain⟨k,o1,g1,g2,g3⟩:=I.dep hB h1 h2 (t:=s) (by rw[h3];simp[Op.operands])
   exact notI g1 g3 g2 hs
  have cIns_ne:∀(c1 c2:Nat),(dst=some 15/\c2=b2\/dst=some 17/\c1=b1)->∀(j:Nat) o',l[j]? =some o'->L j=true->vu l b1 b2 o'=vu l c1 c2 o':=fun c1 c2 hc j o' h1 h2=>by
   cases hk':kC l o' with
   |none=>rw[nz hk',nz hk']
   |some q=>
    obtain⟨s,x,e1,_,_,e4⟩:=uB (oO hB h1).2.1 hk';rw[yf hk' _ _ e1,yf hk' _ _ e1];rcases e4 with⟨g,rfl⟩|rfl|rfl
    ·rfl
    ·rcases hc with⟨hc,_⟩|⟨_,rfl⟩
     ·exact(slotOf 15 hc j o' h1 h2 _ _ _ e1).elim
     ·rfl
    ·rcases hc with⟨_,rfl⟩|⟨hc,_⟩
     ·rfl
     ·exact(slotOf 17 hc j o' h1 h2 _ _ _ e1).elim
  rcases h2 with⟨rfl,rfl⟩|⟨rfl,rfl⟩
  ·refine hK _ _ ⟨r0,b,b2,I.put hB hol hLi hdep rfl (yb n15).symm (fun j o' d' h1 h2 h3=>?_) hbel (fun j o' h1 h2 h3=>?_) (fun j o' h1 h2 h3=>⟨Nat.le_trans hsz hbs,hbc⟩) (fun j o' h1 h2 h3=>?_)⟩
   ·by_cases e:d'=15
    ·subst e;exact(notI h1 h2 h3 rfl).elim
    ·unfold Gs;simp[e]
   ·obtain⟨g1,es,cl,g2,g3⟩:=I.map j o' h1 (oldI h1 h2 h3 (by simp)) h3
    exact⟨g1,es,cl,old _ _ g2,by rw[<-py hol hn (cIns_ne b b2 (.inl ⟨rfl,rfl⟩))];exact g3⟩
   ·obtain⟨g1,g2⟩:=I.two j o' h1 (oldI h1 h2 h3 (by simp)) h3
    exact⟨g1,old _ _ g2⟩
  ·refine hK _ _ ⟨r0,b1,b,I.put hB hol hLi hdep rfl (yt n17).symm (fun j o' d' h1 h2 h3=>?_) hbel (fun j o' h1 h2 h3=>?_) (fun j o' h1 h2 h3=>?_) (fun j o' h1 h2 h3=>⟨Nat.le_trans hsz hbs,hbc⟩)⟩
   ·by_cases e:d'=17
    ·subst e;exact(notI h1 h2 h3 rfl).elim
    ·unfold Gs;simp[e]
   ·obtain⟨g1,es,cl,g2,g3⟩:=I.map j o' h1 (oldI h1 h2 h3 (by simp)) h3
    exact⟨g1,es,cl,old _ _ g2,by rw[<-py hol hn (cIns_ne b1 b (.inr ⟨rfl,rfl⟩))];exact g3⟩
   ·obtain⟨g1,g2⟩:=I.one j o' h1 (oldI h1 h2 h3 (by simp)) h3
    exact⟨g1,old _ _ g2⟩
 case insert t m k x=>
  have hck:∃c,kC l ⟨dst,.insert t m k x,type,pos,after,none⟩=some c:=by
   simp only[aaV]at hop;obtain⟨⟨_,hs⟩,_⟩:=hop;cases k<;>simp at hs
   exact Option.isSome_iff_exists.1 hs
  obtain⟨c,hck⟩:=hck;obtain⟨s,x',e1,e2,e3,e4⟩:=uB (o:=⟨dst,.insert t m k x,type,pos,after,none⟩) hop hck;simp only[Op.insert.injEq]at e1;obtain⟨rfl,rfl,rfl,rfl⟩:=e1;simp only at e2;subst e2;obtain⟨k1,o1,g1,g2,g3,g4⟩:=hev 1 (by simp[Op.operands])
  obtain⟨k2,o2,q1,q2,q3,q4⟩:=hev s (by simp[Op.operands])
  rw[qs n1 (by omega) (by omega)]at g4
  rw[yd e3]at q4
  have hx:a.eval x=Ek b1 b2 x:=by
   rcases e4 with⟨g,rfl⟩|rfl|rfl
   ·rfl
   ·obtain⟨_,_,_,_,_,h⟩:=hev 15 (by simp[Op.operands])
    rw[h,yb n15];rfl
   ·obtain⟨_,_,_,_,_,h⟩:=hev 17 (by simp[Op.operands])
    rw[h,yt n17];rfl
  obtain⟨m1,es,cl,m2,m3⟩:=I.map k1 o1 g1 g3 g2
  have hmem:∀e∈es.toList,∃(j:Nat) (o':Oper) (c':Int×Int),l[j]? =some o'/\L j=true/\kC l o'=some c'/\e.key=FK c':=fun e he=>by
   have:=m3.mem_iff.1 (List.mem_map.2 ⟨e,he,rfl⟩);obtain⟨j,o',h1,h2,h3⟩:=FB this;rw[Nat.zero_add]at h2;cases hc:kC l o' with
   |none=>rw[nz hc]at h3;simp at h3
   |some c'=>
    obtain⟨s',x',f1,_⟩:=uB (oO hB h1).2.1 hc;rw[yf hc _ _ f1]at h3;simp only[aaT,aaU]at h3;exact⟨j,o',c',h1,h2,hc,h3.1.symm⟩
  have hwide:tg Tryz.prog Z1 2=true:=by kernel_rfl
  have hum:Tryz.prog.underlying tM=some (.map Z1 176):=by kernel_rfl
  obtain⟨r,f1,f2⟩:=qh (x:= [c.1,c.2]) hwide rfl w es.toList fun e he=>by
   obtain⟨_,_,c',_,_,_,h⟩:=hmem e he;exact⟨[c'.1,c'.2],rfl,h⟩
  have hr:r=none:=by
   rcases f2 with⟨h,_⟩|⟨j,e,rfl,h1,h2⟩
   ·exact h
   ·exfalso
    obtain⟨j',o',c',h3,h4,h5,h6⟩:=hmem e (List.mem_of_getElem? h1);have:c'=c:=SA (h6.symm.trans h2);subst this;have:=qI hk h3 hol h5 hck;rw[this,hLi]at h4;simp at h4
  subst hr;have hck2:=uk (P:=Tryz.prog) (a:= [c.1,c.2]) hwide rfl false w;have hset:=MapKept.heap_set (w:=w) (r:=r0) (o':= .map (es.push {key:=FK c,val:=Ek b1 b2 x,born:=cl}) (cl+1)) m2
  have hrun:(execOp a.eval ⟨none,.insert tM (.tmp 1) (.tmp s) x,type,pos,after,none⟩).run Tryz.prog w= .ok .skip {w with heap:=w.heap.setIfInBounds r0 (.map (es.push {key:=FK c,val:=Ek b1 b2 x,born:=cl}) (cl+1))}:=by
   have:(Instr.mapUpdate tM (.map (some r0)) (FK c) (Ek b1 b2 x)).run Tryz.prog w= .ok () {w with heap:=w.heap.setIfInBounds r0 (.map (es.push {key:=FK c,val:=Ek b1 b2 x,born:=cl}) (cl+1))}:=by
    rw[V7];simp only[Instr.mapUpdate,Sem.run_bind,bF w hum,Result.andThen_ok,MapKept.run_getObj_map m2,hck2,f1,MapKept.run_setObj_map _ m2]
   simp[execOp,g4,q4,hx,this]
  refine eV (ro:=none) (by simp) (about _ (by simp)) ?_
  rw[hrun];have hci:=yf hck b1 b2 (rfl:(⟨none,.insert tM (.tmp 1) (.tmp s) x,type,pos,after,none⟩:Oper).op=_);have hp:=EK (l:=l) (b1:=b1) (b2:=b2) hLi (m:=l) (i:=0) hol (by omega) hci
  have old:∀b cs t,w.heap[b]? =some (Go.Obj.cells cs t (0,0))->(w.heap.setIfInBounds r0 (Go.Obj.map (es.push {key:=FK c,val:=Ek b1 b2 x,born:=cl}) (cl+1)))[b]? =some (Go.Obj.cells cs t (0,0)):=fun b cs t h=>by
   rw[hset.2 b fun e=>by rw[e,m2]at h;simp at h]
   exact h
  refine hK _ _ ⟨r0,b1,b2,I.sz,I.df,fun j o' d' h1 h2 h3=>I.tmp j o' d' h1 (oldI h1 h2 h3 (by simp)) h3,⟨I.bel.os,I.bel.tape,I.bel.output,by simpa using hsz,fun b hb=>?_⟩,fun j o' h1 h2 e he hbi=>?_,fun j o' h1 h2 h3=>⟨m1,_,_,hset.1,?_⟩,fun j o' h1 h2 h3=>?_,fun j o' h1 h2 h3=>?_⟩
  ·show(w.heap.setIfInBounds r0 _)[b]? =_
   rw[hset.2 b (by omega)]
   exact I.bel.block b hb
  ·by_cases hji:j=i
   ·subst hji;rw[hol]at h1;simp only[aaT]at h1;subst h1;simp[ins,hdep e he hbi]
   ·have hLj:L j=true:=by simpa[ins,hji]using h2
    simp[ins,I.down j o' h1 hLj e he hbi]
  ·simp only[Array.toList_push,List.map_append,List.map_cons,List.map_nil];exact(List.Perm.append_right _ m3).trans hp.symm
  ·obtain⟨u1,u2⟩:=I.one j o' h1 (oldI h1 h2 h3 (by simp)) h3
   exact⟨u1,old _ _ _ u2⟩
  ·obtain⟨u1,u2⟩:=I.two j o' h1 (oldI h1 h2 h3 (by simp)) h3
   exact⟨u1,old _ _ _ u2⟩
def Q3 (n:Nat):Code->Option (Array Oper)
 | .region i ops _=>if i==n then some ops else none
 | .seq a b=>(Q3 n a).orElse fun _=>Q3 n b
 |_=>none
abbrev fOd:Nat:=133
noncomputable abbrev Pg:Func:=Tryz.f133
noncomputable def od0:Array Oper:=(Pg.body.bind (Q3 0)).getD #[]
noncomputable def DH:Array Oper:=(Pg.body.bind (Q3 1)).getD #[]
theorem Ty:Pg.body=some (.seq (.region 0 od0 false) (.seq (.region 1 DH true) .ret)):=by kernel_rfl
theorem Q7:od0.size=1/\∃o,od0[0]? =some o/\o.guard=none/\o.dst=some 0/\o.op= .assign (.const (.map none)):=⟨by kernel_rfl,_,rfl,rfl,rfl,rfl⟩
theorem Ci:wK DH.toList=true:=by kernel_rfl
theorem Qi:(HJ DH.toList).Nodup:=aaZ (by kernel_rfl)
theorem SD (b1 b2:Nat):nZ DH.toList b1 b2 (fun _=>true) 0 DH.toList=(([[1,1],[2,1],[2,2],[2,3],[2,4],[2,5],[2,6],[3,1],[3,2],[3,3],[3,4],[3,5],[4,1],[4,2],[4,3],[4,4],[4,5],[4,6],[5,1],[5,2],[5,3],[5,4],[5,5],[5,6],[5,7],[8,1],[8,2],[8,3],[9,1],[10,1]]:List (List Int)).map j3).zip
  (match Ib 0 with| (.mq _ vs)::_=>bz (((Env.zero.bU 0 0).bU 1 b1).bU 2 b2) vs|_=> []):=by kernel_rfl
theorem T4:an Tryz.prog fOd [] [] (xf [0,1,2] odX Ib) (fun _ _=>False):=by
 intro J fps w0 F0 w hH hargs;refine callsIn_of_wp_marks (fn:=Pg) (by kernel_rfl) Ty (by show(Tryz.prog.funcs[fOd]?).isSome=true;kernel_rfl) ?_
 refine wpIn_mono (P:=Tryz.prog) (Q:=hU J [] w0 F0 (finish (Vp [] [] bx aQ).toCtx (fun _ _ _ _=>False) Pg (xf [0,1,2] odX Ib) (fun _ _=>False))) ?_ fun e a w hp=>xC (C:=(Vp [] [] bx aQ).toCtx) (BQ (by simp)) (fun _ _ _ _ _ _ _ _ h=>h.elim) hp
 refine wpIn_seq (wpIn_region ?_);obtain⟨z1,o,z2,z3,z4,z5⟩:=Q7;rw[z1];refine cM (P:=Tryz.prog) z2 z3 (v:= .map none) (w':=w) (by simp[execOp,z5,Act.eval]) (by intro c;rw[z5];simp) ?_
 rw[z4];show Code.wpIn _ _ _ _ _ _ _
 refine wpIn_seq (wpIn_region_any (by kernel_rfl) ?_)
 generalize hA:Act.put _ _ _=A
 have hsz:A.tmps.size=35:=by subst hA;rw[ca];simp[bz]
 have hdf:A.defers= []:=by subst hA;rfl
 refine TK (fun L a w'=>∃r0 b1 b2,AG DH.toList {w with drawn:=w.drawn+1} L a w' r0 b1 b2) (fun i o h e he hb=>?_) (PF rfl Ci Qi) (fun L a w' hall hI=>?_) _ _ _ _ (by simp) ?_ ⟨0,0,0,?_⟩
 ·have h1:=Ci;unfold wK at h1;simp only[aaV]at h1;have:=Fp h1.1.1.1.1.1.1.2 i o (by simpa using h) e he hb
  omega
 ·obtain⟨r0,b1,b2,I⟩:=hI
  have hat:∀(i:Nat) (d:Nat),(∃o,DH.toList[i]? =some o/\o.dst=some d)->∃o,DH.toList[i]? =some o/\L i=true/\o.dst=some d:=fun i d ⟨o,h1,h2⟩=>⟨o,h1,hall i (by
   have:=(List.getElem?_eq_some_iff.1 h1).1;simpa using this),h2⟩
  obtain⟨o1,p1,p2,p3⟩:=hat 0 1 ⟨_,rfl,rfl⟩;obtain⟨o2,q1,q2,q3⟩:=hat 26 15 ⟨_,rfl,rfl⟩;obtain⟨o3,s1,s2,s3⟩:=hat 29 17 ⟨_,rfl,rfl⟩;obtain⟨o4,t1,t2,t3⟩:=hat 64 0 ⟨_,rfl,rfl⟩;obtain⟨m1,es,cl,m2,m3⟩:=I.map 0 o1 p1 p2 p3;obtain⟨u1,u2⟩:=I.one 26 o2 q1 q2 q3;obtain⟨v1,v2⟩:=I.two 29 o3 s1 s2 s3;have ht:=I.tmp 64 o4 0 t1 t2 t3;rw[qs (Cw Ci).2.2.2.2 (by omega) (by omega)]at ht
  have hL:nZ DH.toList b1 b2 L 0 DH.toList=nZ DH.toList b1 b2 (fun _=>true) 0 DH.toList:=qn fun j o h _=>⟨by
   rw[Nat.zero_add];exact hall j (by have:=(List.getElem?_eq_some_iff.1 h).1;simpa using this),fun _=>rfl⟩
  rw[hL,SD]at m3;refine wpIn_ret ?_;have hne1:r0≠b1:=fun e=>by rw[e,u2]at m2;simp at m2
  have hne2:r0≠b2:=fun e=>by rw[e,v2]at m2;simp at m2
  have hne3:b1≠b2:=fun e=>by rw[e,v2]at u2;simp at u2
  have hbel:Below w.heap.size w w':=⟨I.bel.os,I.bel.tape,I.bel.output,I.bel.size,I.bel.block⟩;have hnk:∀i,¬known ([]:List aK) i:=fun i h=>by simp[known,az]at h
  have hkn:∀i,known (Ib 0) i↔i<3:=fun i=>by
   unfold known Ib;rcases i with _|_|_|i<;>simp[az]
  have hgrow:og (known []) J (((J.bU 0 r0).bU 1 b1).bU 2 b2) 0 (Ib 0) w0 F0 w w':=by
   refine⟨hbel,fun j hj=>?_,fun k b=>b=(((J.bU 0 r0).bU 1 b1).bU 2 b2).num k,fun k hk=>?_,fun k l b hk hl hne h1 h2=>?_⟩
   ·have:¬j<3:=fun h=>hj ⟨by omega,by show j<0+3;omega⟩
    have e0:j≠0:=by omega
    have e1:j≠1:=by omega
    have e2:j≠2:=by omega
    simp[Env.bU,e0,e1,e2]
   ·have hk3:k<3:=hk;rw[Nat.zero_add];rcases k with _|_|_|k
    ·refine⟨⟨rfl,?_,?_,⟨rfl,aaZ (by kernel_rfl)⟩,es,cl,?_,?_⟩,fun b hb=>?_⟩
     ·simp[fQ,ok,fresh,Ib]
     ·simp[tv]
     ·simpa[Env.bU]using m2
     ·exact m3
     ·have:b=r0:=by simpa[Env.bU]using hb
      subst this;exact⟨m1,(Array.getElem?_eq_some_iff.1 m2).1⟩
    ·refine⟨⟨by simp[ok,cc],rfl,rfl,?_⟩,fun b hb=>?_⟩
     ·simpa[Env.bU,cells,den,Value.cells]using u2
     ·have:b=b1:=by simpa[Env.bU]using hb
      subst this;exact⟨u1,(Array.getElem?_eq_some_iff.1 u2).1⟩
    ·refine⟨⟨by simp[ok,cc],rfl,rfl,?_⟩,fun b hb=>?_⟩
     ·simpa[Env.bU,cells,den,Value.cells]using v2
     ·have:b=b2:=by simpa[Env.bU]using hb
      subst this;exact⟨v1,(Array.getElem?_eq_some_iff.1 v2).1⟩
    ·omega
   ·have hk3:k<3:=hk;have hl3:l<3:=hl;rcases k with _|_|_|k<;>rcases l with _|_|_|l<;>first|omega| (simp[Env.bU]at h1 h2;subst h1;first|exact hne1 h2|exact hne1 h2.symm|exact hne2 h2|exact hne2 h2.symm|exact hne3 h2|exact hne3 h2.symm)
  obtain⟨fps',hr,hag⟩:=hH.grow (res':=Ib 0) (K':=known (Ib 0)) ⟨fun i hi=>(hnk i hi).elim,fun i hi=> .inr ⟨by omega,by show i<0+3;have:=(hkn i).1 hi;omega⟩,fun k hk=>by rw[Nat.zero_add]⟩ (fun i hi=>(hnk i hi).elim)
   (fun i hi=>by
    rcases hi with hi|⟨_,hi⟩
    ·exact(hnk i hi).elim
    ·exact(hkn i).2 (by simpa[Ib]using hi)) hgrow
  refine⟨.ret,{slots:= .v (.mp 0)::List.replicate 34 .und,res:=Ib 0,defs:= []},_,fps',trivial,?_,⟨⟨by simp[I.sz],fun t=>?_⟩,hr,by rw[I.df];rfl,by simp⟩,hag,fun i hi=>(hnk i hi).elim⟩
  ·exact Eq.mp (by kernel_rfl:xf [0,1,2] odX Ib (.mp 0) (Ib 0)=_) (fun nid=>⟨rfl,rfl⟩)
  ·cases t with
   |zero=>exact⟨by rw[ht];simp[den,Env.bU],(hkn 0).2 (by omega)⟩
   |succ t=>
    have:cg (S.v (V.mp 0)::List.replicate 34 S.und) (t+1)= .und:=by
     rw[lz,aa0,List.getElem?_cons_succ,List.getElem?_replicate];split<;>rfl
    rw[this];trivial
 ·have:CN (Array.replicate DH.size false) DH.size<=DH.size:=by
   have:=List.length_filter_le (fun k=> !(Array.replicate DH.size false).getD k false) (List.range DH.size)
   simpa[CN]using this
  exact this
 ·have hfalse:∀k,(Array.replicate DH.size false).getD k false=false:=fun k=>by
   simp only[Array.getD_eq_getD_getElem?,Array.getElem?_replicate];split<;>rfl
  exact⟨hsz,hdf,fun i o d _ h=>by simp only[hfalse]at h;simp at h,Below.refl _ _,fun i o _ h=>by simp only[hfalse]at h;simp at h,fun i o _ h=>by simp only[hfalse]at h;simp at h,fun i o _ h=>by simp only[hfalse]at h;simp at h,fun i o _ h=>by simp only[hfalse]at h;simp at h⟩
theorem dz:cz Tryz.prog fOd (A9 odX Ib):=vq (π:= [0,1,2]) (by decide) (fun _=>rfl) T4
theorem Pb (L:List Sx.Obj) (n:Int) (k:Key) (m:bp) (hL:aq L) (hs:aw m.data):
 true=true/\true=true/\true=true/\true=true/\true=true/\(bp.mk 0 eB void void (Key.mk 1 void.oid void.count void.call void.rights k.value),L)=aP L n (kk 1 k) (mm 1 m):=by
 simp+decide [aP,en,eF,dI,eJ,ey,eo,dC,dv,cX,de,eY,fu,gg,gm,bL,void,cY,eB,aS,dZ,fO,fl,kk,mm,hL,hs];try grind
theorem MS (L:List Sx.Obj) (n:Int) (k:Key) (m:bp) (hL:aq L) (hs:aw m.data):an Tryz.prog 102 [.lp 0 0] [.ro (.blk oP (iU (.ci .i64 1) m n (.ci .i64 1) k)),.store tS eS L] (kO (aP L n ((kk 1 k)) ((mm 1 m)))) (fun _ _=>False):=
 aY (inl:=(fun f=>f==131||f==142||f==152||f==146||f==202||f==185||f==227||f==177||f==148||f==174||f==173||f==132||f==144||f==184||f==188||f==143)) (ann:=aQ) (ae dz ar) aE (eP bZ) (Pb L n k m hL hs) (by kernel_rfl)
theorem LH (L:List Sx.Obj) (n:Int) (k:Key) (m:bp) (hL:aq L) (hs:aw m.data):
 abb (abb (abb (abb (abb (abb (aba (!decide (m.k2.kind=1)) ((bp.mk 240 eB void void void,L)=aP L n (kk 2 k) (mm 1 m)) (aba (decide (m.k2.value<0)||decide (2147483647<m.k2.value)) (abb (abb (abb (aba (!decide (bY L (kk 2 k) (-1)=0)) ((bp.mk (bY L (kk 2 k) (-1)) eB void void void,L)=aP L n (kk 2 k) (mm 1 m)) ((bp.mk 0 eB (aJ L (kk 2 k) (-1)) void void,L)=aP L n (kk 2 k) (mm 1 m)))))) (abb (abb (abb (aba (!decide (bY L (kk 2 k) m.k2.value=0)) ((bp.mk (bY L (kk 2 k) m.k2.value) eB void void void,L)=aP L n (kk 2 k) (mm 1 m)) ((bp.mk 0 eB (aJ L (kk 2 k) m.k2.value) void void,L)=aP L n (kk 2 k) (mm 1 m))))))))))))):=by
 delta aba abb
 simp+decide [aP,en,eF,dI,eJ,ey,eo,dC,dv,cX,de,eY,fu,gg,gm,bL,void,cY,eB,aS,dZ,fO,fl,kk,mm,hL,hs];try grind
theorem Pu (L:List Sx.Obj) (n:Int) (k:Key) (m:bp) (hL:aq L) (hs:aw m.data):an Tryz.prog 102 [.lp 0 0] [.ro (.blk oP (iU (.ci .i64 1) m n (.ci .i64 2) k)),.store tS eS L] (kO (aP L n ((kk 2 k)) ((mm 1 m)))) (fun _ _=>False):=
 aY (inl:=(fun f=>f==131||f==142||f==152||f==146||f==202||f==185||f==227||f==177||f==148||f==174||f==173||f==132||f==144||f==184||f==188||f==145)) (ann:=aQ) (ae sQ (ae dz ar)) aE (eP bZ) (LH L n k m hL hs) (by kernel_rfl)
theorem Pf (L:List Sx.Obj) (n:Int) (k:Key) (m:bp) (hL:aq L) (hs:aw m.data):
 abb (abb (abb (abb (abb (abb (aba (!decide (m.k2.kind=1)) ((bp.mk 240 eB void void void,L)=aP L n (kk 2 k) (mm 2 m)) (aba (decide (m.k2.value<0)||decide (2147483647<m.k2.value)) (abb (aq L/\abb (abb (abb (aba (!decide (bj L (kk 2 k) (-1) m.k0=0)) ((bp.mk (bj L (kk 2 k) (-1) m.k0) eB void void void,cC L (kk 2 k) (-1) m.k0)=aP L n (kk 2 k) (mm 2 m)) ((bp.mk 0 eB (cT L (kk 2 k) (-1) m.k0) void void,cC L (kk 2 k) (-1) m.k0)=aP L n (kk 2 k) (mm 2 m))))))) (abb (aq L/\abb (abb (abb (aba (!decide (bj L (kk 2 k) m.k2.value m.k0=0)) ((bp.mk (bj L (kk 2 k) m.k2.value m.k0) eB void void void,cC L (kk 2 k) m.k2.value m.k0)=aP L n (kk 2 k) (mm 2 m)) ((bp.mk 0 eB (cT L (kk 2 k) m.k2.value m.k0) void void,cC L (kk 2 k) m.k2.value m.k0)=aP L n (kk 2 k) (mm 2 m)))))))))))))):=by
 delta aba abb
 simp+decide [aP,en,eF,dI,eJ,ey,eo,dC,dv,cX,de,eY,fu,gg,gm,bL,void,cY,eB,aS,dZ,fO,fl,kk,mm,hL,hs];try grind
theorem Mi (L:List Sx.Obj) (n:Int) (k:Key) (m:bp) (hL:aq L) (hs:aw m.data):an Tryz.prog 102 [.lp 0 0] [.ro (.blk oP (iU (.ci .i64 2) m n (.ci .i64 2) k)),.store tS eS L] (kO (aP L n ((kk 2 k)) ((mm 2 m)))) (fun _ _=>False):=
 aY (inl:=(fun f=>f==131||f==142||f==152||f==146||f==202||f==185||f==227||f==177||f==148||f==174||f==173||f==132||f==144||f==184||f==188||f==149)) (ann:=aQ) (ae dz ar) (aC Hk aE) (eP bZ) (Pf L n k m hL hs) (by kernel_rfl)
theorem L4 (L:List Sx.Obj) (n:Int) (k:Key) (m:bp) (hL:aq L) (hs:aw m.data):
 abb (abb (abb (abb (aq L/\abb (abb (aba (!decide (aB L (kk 2 k) 2 true=0)) ((bp.mk (aB L (kk 2 k) 2 true) eB void void void,fA L (kk 2 k))=aP L n (kk 2 k) (mm 3 m)) ((bp.mk 0 eB void void void,fA L (kk 2 k))=aP L n (kk 2 k) (mm 3 m)))))))):=by
 delta aba abb
 simp+decide [aP,en,eF,dI,eJ,ey,eo,dC,dv,cX,de,eY,fu,gg,gm,bL,void,cY,eB,aS,dZ,fO,fl,kk,mm,hL,hs];try grind
theorem KX (L:List Sx.Obj) (n:Int) (k:Key) (m:bp) (hL:aq L) (hs:aw m.data):an Tryz.prog 102 [.lp 0 0] [.ro (.blk oP (iU (.ci .i64 3) m n (.ci .i64 2) k)),.store tS eS L] (kO (aP L n ((kk 2 k)) ((mm 3 m)))) (fun _ _=>False):=
 aY (inl:=(fun f=>f==131||f==142||f==152||f==146||f==202||f==185||f==227||f==177||f==148||f==174||f==173||f==132||f==144||f==184||f==188||f==151)) (ann:=aQ) (ae dz ar) (aC RC aE) (eP bZ) (L4 L n k m hL hs) (by kernel_rfl)
theorem MX (L:List Sx.Obj) (n:Int) (k:Key) (m:bp) (hL:aq L) (hs:aw m.data):
 abb (abb (abb (abb (aq L/\abb (abb (aba (!decide (bT L (kk 2 k) m.k0=0)) ((bp.mk (bT L (kk 2 k) m.k0) eB void void void,eT L (kk 2 k) m.k0)=aP L n (kk 2 k) (mm 4 m)) ((bp.mk 0 eB void void void,eT L (kk 2 k) m.k0)=aP L n (kk 2 k) (mm 4 m)))))))):=by
 delta aba abb
 simp+decide [aP,en,eF,dI,eJ,ey,eo,dC,dv,cX,de,eY,fu,gg,gm,bL,void,cY,eB,aS,dZ,fO,fl,kk,mm,hL,hs];try grind
theorem PZ (L:List Sx.Obj) (n:Int) (k:Key) (m:bp) (hL:aq L) (hs:aw m.data):an Tryz.prog 102 [.lp 0 0] [.ro (.blk oP (iU (.ci .i64 4) m n (.ci .i64 2) k)),.store tS eS L] (kO (aP L n ((kk 2 k)) ((mm 4 m)))) (fun _ _=>False):=
 aY (inl:=(fun f=>f==131||f==142||f==152||f==146||f==202||f==185||f==227||f==177||f==148||f==174||f==173||f==132||f==144||f==184||f==188||f==154)) (ann:=aQ) (ae dz ar) (aC Rn aE) (eP bZ) (MX L n k m hL hs) (by kernel_rfl)
theorem Pd (L:List Sx.Obj) (n:Int) (k:Key) (m:bp) (hL:aq L) (hs:aw m.data) (hk:aV (kk 2 k)=true):
 abb (abb (abb (abb (abb (aba (!decide (m.k2.kind=1)) ((bp.mk 240 eB void void void,L)=aP L n (kk 2 k) (mm 5 m)) (abb (aba (!(decide (0<=m.k2.value)&&decide (m.k2.value<=7))) ((bp.mk 2 eB void void void,L)=aP L n (kk 2 k) (mm 5 m)) (iK (kk 2 k) m.k2.value/\abb (abb (abb ((bp.mk 0 eB (jz (kk 2 k) m.k2.value) void void,L)=aP L n (kk 2 k) (mm 5 m)))))))))))):=by
 delta aba abb
 have hX:aP L n (kk 2 k) (mm 5 m)=if m.k2.kind=1 then(if 0<=m.k2.value/\m.k2.value<=7 then(eY (jz (kk 2 k) m.k2.value),L)else(gg 2,L))else(gg 240,L):=by
  by_cases h1:m.k2.kind=1
  ·by_cases h2:0<=m.k2.value/\m.k2.value<=7
   ·simp+decide [aP,en,eF,dI,eJ,ey,eo,dC,dv,cX,de,eY,fu,gg,gm,bL,void,cY,eB,aS,dZ,fO,fl,kk,mm,h1,h2]
   ·simp+decide [aP,en,eF,dI,eJ,ey,eo,dC,dv,cX,de,eY,fu,gg,gm,bL,void,cY,eB,aS,dZ,fO,fl,kk,mm,h1,h2]
  ·simp+decide [aP,en,eF,dI,eJ,ey,eo,dC,dv,cX,de,eY,fu,gg,gm,bL,void,cY,eB,aS,dZ,fO,fl,kk,mm,h1]
 rw[hX];refine⟨rfl,rfl,rfl,rfl,rfl,fun h=>?_,fun h=>⟨rfl,fun h'=>?_,fun h'=>⟨⟨hk,?_⟩,rfl,rfl,rfl,?_⟩⟩⟩
 ·have h:¬m.k2.kind=1:=by simpa using h
  rw[aa1 h];rfl
 ·have h:m.k2.kind=1:=by simpa using h
  have h':¬(0<=m.k2.value/\m.k2.value<=7):=fun hh=>by simp[hh.1,hh.2]at h'
  rw[aa2 h,aa1 h'];rfl
 ·simpa using h'
 ·have h:m.k2.kind=1:=by simpa using h
  have h':0<=m.k2.value/\m.k2.value<=7:=by simpa using h'
  rw[aa2 h,aa2 h'];rfl
theorem QH (L:List Sx.Obj) (n:Int) (k:Key) (m:bp) (hL:aq L) (hs:aw m.data) (hk:aV (kk 2 k)=true):an Tryz.prog 102 [.lp 0 0] [.ro (.blk oP (iU (.ci .i64 5) m n (.ci .i64 2) k)),.store tS eS L] (kO (aP L n ((kk 2 k)) ((mm 5 m)))) (fun _ _=>False):=
 aY (inl:=(fun f=>f==131||f==142||f==152||f==146||f==202||f==185||f==227||f==177||f==148||f==174||f==173||f==132||f==144||f==184||f==188||f==156)) (ann:=aQ) (ae FE (ae dz ar)) aE (eP bZ) (Pd L n k m hL hs hk) (by kernel_rfl)
theorem Qm (L:List Sx.Obj) (n:Int) (k:Key) (m:bp) (hL:aq L) (hs:aw m.data):
 abb (abb (abb (abb (aba (!decide (k.rights=0)) ((bp.mk 191 eB void void void,L)=aP L n (kk 2 k) (mm 6 m)) (abb (abb (abb ((bp.mk 0 eB (abA 5 k void.value) void void,L)=aP L n (kk 2 k) (mm 6 m))))))))):=by
 delta aba abA abb
 simp+decide [aP,en,eF,dI,eJ,ey,eo,dC,dv,cX,de,eY,fu,gg,gm,bL,void,cY,eB,aS,dZ,fO,fl,kk,mm,hL,hs];try grind
theorem Ql (L:List Sx.Obj) (n:Int) (k:Key) (m:bp) (hL:aq L) (hs:aw m.data):an Tryz.prog 102 [.lp 0 0] [.ro (.blk oP (iU (.ci .i64 6) m n (.ci .i64 2) k)),.store tS eS L] (kO (aP L n ((kk 2 k)) ((mm 6 m)))) (fun _ _=>False):=
 aY (inl:=(fun f=>f==131||f==142||f==152||f==146||f==202||f==185||f==227||f==177||f==148||f==174||f==173||f==132||f==144||f==184||f==188||f==157)) (ann:=aQ) (ae dz ar) aE (eP bZ) (Qm L n k m hL hs) (by kernel_rfl)
abbrev abC:=imax 0 (lT 32 (Int.ofNat (64+Nat.succ 0)))
theorem Nm (L:List Sx.Obj) (n:Int) (k:Key) (m:bp) (hL:aq L) (hs:aw m.data):
 abb (abb (abb (abb (abb (abb (aba (!decide (m.k2.kind=1)) ((bp.mk 240 eB void void void,L)=aP L n (kk 3 k) (mm 1 m)) (aba (decide (m.k2.value<0)||decide (2147483647<m.k2.value)) (abb (abb (abb (aba (!decide (cD L (kk 3 k) (-1) abC=0)) ((bp.mk (cD L (kk 3 k) (-1) abC) eB void void void,L)=aP L n (kk 3 k) (mm 1 m)) ((bp.mk 0 (ec L (kk 3 k) (-1) abC) void void void,L)=aP L n (kk 3 k) (mm 1 m)))))) (aF IntKind.i64 (64-m.k2.value)/\abb (abb (abb (aba (!decide (cD L (kk 3 k) m.k2.value (imax 0 (lT 32 (64-m.k2.value)))=0)) ((bp.mk (cD L (kk 3 k) m.k2.value (imax 0 (lT 32 (64-m.k2.value)))) eB void void void,L)=aP L n (kk 3 k) (mm 1 m)) ((bp.mk 0 (ec L (kk 3 k) m.k2.value (imax 0 (lT 32 (64-m.k2.value)))) void void void,L)=aP L n (kk 3 k) (mm 1 m))))))))))))):=by
 delta aba abC abb
 have hX:aP L n (kk 3 k) (mm 1 m)=if m.k2.kind=1 then(if cD L (kk 3 k) (aS m) (qJ (aS m))=0 then(gm (ec L (kk 3 k) (aS m) (qJ (aS m))),L)else(gg (cD L (kk 3 k) (aS m) (qJ (aS m))),L))else(gg 240,L):=by
  by_cases h1:m.k2.kind=1
  ·by_cases h2:cD L (kk 3 k) (aS m) (qJ (aS m))=0
   ·simp+decide [aP,en,eF,dI,eJ,eo,de,show(kk 3 k).kind=3 from rfl,show(mm 1 m).code=1 from rfl,show(mm 1 m).k2=m.k2 from rfl,show aS (mm 1 m)=aS m from rfl,h1,h2]
   ·simp+decide [aP,en,eF,dI,eJ,eo,de,show(kk 3 k).kind=3 from rfl,show(mm 1 m).code=1 from rfl,show(mm 1 m).k2=m.k2 from rfl,show aS (mm 1 m)=aS m from rfl,h1,h2]
  ·simp+decide [aP,en,eF,dI,de,cX,show(kk 3 k).kind=3 from rfl,show(mm 1 m).code=1 from rfl,show(mm 1 m).k2=m.k2 from rfl,h1,cY,gg]
 rw[hX];have e1:∀s,bp.mk 0 s void void void=gm s:=fun _=>rfl
 have e2:∀c,bp.mk c eB void void void=gg c:=fun _=>rfl
 simp only[e1,e2];by_cases h1:m.k2.kind=1
 ·by_cases h2:0<=m.k2.value/\m.k2.value<=2147483647
  ·have hN:aS m=m.k2.value:=by unfold aS;rw[aa2 h2]
   have hR:qJ m.k2.value=imax 0 (lT 32 (64-m.k2.value)):=rfl;have hr:aF .i64 (64-m.k2.value):=by simp only[aF,cc];omega
   rw[hN,hR];simp[h1,h2,hr];grind
  ·have hN:aS m= -1:=by unfold aS;rw[aa1 h2]
   have hR:qJ (-1)=imax 0 (lT 32 65):=rfl;rw[hN,hR];simp[h1];grind
 ·simp[h1]
theorem Nl (L:List Sx.Obj) (n:Int) (k:Key) (m:bp) (hL:aq L) (hs:aw m.data):an Tryz.prog 102 [.lp 0 0] [.ro (.blk oP (iU (.ci .i64 1) m n (.ci .i64 3) k)),.store tS eS L] (kO (aP L n ((kk 3 k)) ((mm 1 m)))) (fun _ _=>False):=
 aY (inl:=(fun f=>f==131||f==142||f==152||f==146||f==202||f==185||f==227||f==177||f==148||f==174||f==173||f==132||f==144||f==184||f==188||f==158)) (ann:=aQ) (ae ph (ae dz ar)) aE (eP bZ) (Nm L n k m hL hs) (by kernel_rfl)
theorem OH (L:List Sx.Obj) (n:Int) (k:Key) (m:bp) (hL:aq L) (hs:aw m.data):
 abb (abb (abb (abb (abb (abb (aba (!decide (m.k2.kind=1)) ((bp.mk 240 eB void void void,L)=aP L n (kk 3 k) (mm 2 m)) (aba (decide (m.k2.value<0)||decide (2147483647<m.k2.value)) (abb ((aq L/\aw m.data)/\abb (abb (aba (!decide (cL L (kk 3 k) (-1) m.data=0)) ((bp.mk (cL L (kk 3 k) (-1) m.data) eB void void void,eZ L (kk 3 k) (-1) m.data)=aP L n (kk 3 k) (mm 2 m)) ((bp.mk 0 eB void void void,eZ L (kk 3 k) (-1) m.data)=aP L n (kk 3 k) (mm 2 m)))))) (abb ((aq L/\aw m.data)/\abb (abb (aba (!decide (cL L (kk 3 k) m.k2.value m.data=0)) ((bp.mk (cL L (kk 3 k) m.k2.value m.data) eB void void void,eZ L (kk 3 k) m.k2.value m.data)=aP L n (kk 3 k) (mm 2 m)) ((bp.mk 0 eB void void void,eZ L (kk 3 k) m.k2.value m.data)=aP L n (kk 3 k) (mm 2 m))))))))))))):=by
 delta aba abb
 simp+decide [aP,en,eF,dI,eJ,ey,eo,dC,dv,cX,de,eY,fu,gg,gm,bL,void,cY,eB,aS,dZ,fO,fl,kk,mm,hL,hs];try grind
theorem QA (L:List Sx.Obj) (n:Int) (k:Key) (m:bp) (hL:aq L) (hs:aw m.data):an Tryz.prog 102 [.lp 0 0] [.ro (.blk oP (iU (.ci .i64 2) m n (.ci .i64 3) k)),.store tS eS L] (kO (aP L n ((kk 3 k)) ((mm 2 m)))) (fun _ _=>False):=
 aY (inl:=(fun f=>f==131||f==142||f==152||f==146||f==202||f==185||f==227||f==177||f==148||f==174||f==173||f==132||f==144||f==184||f==188||f==159)) (ann:=aQ) (ae dz ar) (aC Ds aE) (eP bZ) (OH L n k m hL hs) (by kernel_rfl)
theorem LV (L:List Sx.Obj) (n:Int) (k:Key) (m:bp) (hL:aq L) (hs:aw m.data):
 abb (abb (abb (abb (aq L/\abb (abb (aba (!decide (aW L (kk 3 k) true=0)) ((bp.mk (aW L (kk 3 k) true) eB void void void,fq L (kk 3 k))=aP L n (kk 3 k) (mm 3 m)) ((bp.mk 0 eB void void void,fq L (kk 3 k))=aP L n (kk 3 k) (mm 3 m)))))))):=by
 delta aba abb
 simp+decide [aP,en,eF,dI,eJ,ey,eo,dC,dv,cX,de,eY,fu,gg,gm,bL,void,cY,eB,aS,dZ,fO,fl,kk,mm,hL,hs];try grind
theorem KQ (L:List Sx.Obj) (n:Int) (k:Key) (m:bp) (hL:aq L) (hs:aw m.data):an Tryz.prog 102 [.lp 0 0] [.ro (.blk oP (iU (.ci .i64 3) m n (.ci .i64 3) k)),.store tS eS L] (kO (aP L n ((kk 3 k)) ((mm 3 m)))) (fun _ _=>False):=
 aY (inl:=(fun f=>f==131||f==142||f==152||f==146||f==202||f==185||f==227||f==177||f==148||f==174||f==173||f==132||f==144||f==184||f==188||f==161)) (ann:=aQ) (ae dz ar) (aC Ra aE) (eP bZ) (LV L n k m hL hs) (by kernel_rfl)
theorem LY (L:List Sx.Obj) (n:Int) (k:Key) (m:bp) (hL:aq L) (hs:aw m.data):
 abb (abb (abb (abb (aq L/\abb (abb (aba (!decide (cU L (kk 3 k) m.k0=0)) ((bp.mk (cU L (kk 3 k) m.k0) eB void void void,fM L (kk 3 k) m.k0)=aP L n (kk 3 k) (mm 4 m)) ((bp.mk 0 eB void void void,fM L (kk 3 k) m.k0)=aP L n (kk 3 k) (mm 4 m)))))))):=by
 delta aba abb
 simp+decide [aP,en,eF,dI,eJ,ey,eo,dC,dv,cX,de,eY,fu,gg,gm,bL,void,cY,eB,aS,dZ,fO,fl,kk,mm,hL,hs];try grind
theorem QJ (L:List Sx.Obj) (n:Int) (k:Key) (m:bp) (hL:aq L) (hs:aw m.data):an Tryz.prog 102 [.lp 0 0] [.ro (.blk oP (iU (.ci .i64 4) m n (.ci .i64 3) k)),.store tS eS L] (kO (aP L n ((kk 3 k)) ((mm 4 m)))) (fun _ _=>False):=
 aY (inl:=(fun f=>f==131||f==142||f==152||f==146||f==202||f==185||f==227||f==177||f==148||f==174||f==173||f==132||f==144||f==184||f==188||f==163)) (ann:=aQ) (ae dz ar) (aC VO aE) (eP bZ) (LY L n k m hL hs) (by kernel_rfl)
theorem O3 (L:List Sx.Obj) (n:Int) (k:Key) (m:bp) (hL:aq L) (hs:aw m.data) (hk:aV (kk 3 k)=true):
 abb (abb (abb (abb (abb (aba (!decide (m.k2.kind=1)) ((bp.mk 240 eB void void void,L)=aP L n (kk 3 k) (mm 5 m)) (abb (aba (!(decide (0<=m.k2.value)&&decide (m.k2.value<=7))) ((bp.mk 2 eB void void void,L)=aP L n (kk 3 k) (mm 5 m)) (iK (kk 3 k) m.k2.value/\abb (abb (abb ((bp.mk 0 eB (jz (kk 3 k) m.k2.value) void void,L)=aP L n (kk 3 k) (mm 5 m)))))))))))):=by
 delta aba abb
 have hX:aP L n (kk 3 k) (mm 5 m)=if m.k2.kind=1 then(if 0<=m.k2.value/\m.k2.value<=7 then(eY (jz (kk 3 k) m.k2.value),L)else(gg 2,L))else(gg 240,L):=by
  by_cases h1:m.k2.kind=1
  ·by_cases h2:0<=m.k2.value/\m.k2.value<=7
   ·simp+decide [aP,en,eF,dI,eJ,ey,eo,dC,dv,cX,de,eY,fu,gg,gm,bL,void,cY,eB,aS,dZ,fO,fl,kk,mm,h1,h2]
   ·simp+decide [aP,en,eF,dI,eJ,ey,eo,dC,dv,cX,de,eY,fu,gg,gm,bL,void,cY,eB,aS,dZ,fO,fl,kk,mm,h1,h2]
  ·simp+decide [aP,en,eF,dI,eJ,ey,eo,dC,dv,cX,de,eY,fu,gg,gm,bL,void,cY,eB,aS,dZ,fO,fl,kk,mm,h1]
 rw[hX];refine⟨rfl,rfl,rfl,rfl,rfl,fun h=>?_,fun h=>⟨rfl,fun h'=>?_,fun h'=>⟨⟨hk,?_⟩,rfl,rfl,rfl,?_⟩⟩⟩
 ·have h:¬m.k2.kind=1:=by simpa using h
  rw[aa1 h];rfl
 ·have h:m.k2.kind=1:=by simpa using h
  have h':¬(0<=m.k2.value/\m.k2.value<=7):=fun hh=>by simp[hh.1,hh.2]at h'
  rw[aa2 h,aa1 h'];rfl
 ·simpa using h'
 ·have h:m.k2.kind=1:=by simpa using h
  have h':0<=m.k2.value/\m.k2.value<=7:=by simpa using h'
  rw[aa2 h,aa2 h'];rfl
theorem NV (L:List Sx.Obj) (n:Int) (k:Key) (m:bp) (hL:aq L) (hs:aw m.data) (hk:aV (kk 3 k)=true):an Tryz.prog 102 [.lp 0 0] [.ro (.blk oP (iU (.ci .i64 5) m n (.ci .i64 3) k)),.store tS eS L] (kO (aP L n ((kk 3 k)) ((mm 5 m)))) (fun _ _=>False):=
 aY (inl:=(fun f=>f==131||f==142||f==152||f==146||f==202||f==185||f==227||f==177||f==148||f==174||f==173||f==132||f==144||f==184||f==188||f==156)) (ann:=aQ) (ae FE (ae dz ar)) aE (eP bZ) (O3 L n k m hL hs hk) (by kernel_rfl)
theorem Lt (L:List Sx.Obj) (n:Int) (k:Key) (m:bp) (hL:aq L) (hs:aw m.data):
 abb (abb (abb (abb (aq L/\abb (abb (abb (aba (!decide (cA L (kk 4 k) 1=0)) ((bp.mk (cA L (kk 4 k) 1) eB void void void,fx L (kk 4 k) 1)=aP L n (kk 4 k) (mm 1 m)) ((bp.mk 0 eB (dh L (kk 4 k) 1) void void,fx L (kk 4 k) 1)=aP L n (kk 4 k) (mm 1 m))))))))):=by
 delta aba abb
 simp+decide [aP,en,eF,dI,eJ,ey,eo,dC,dv,cX,de,eY,fu,gg,gm,bL,void,cY,eB,aS,dZ,fO,fl,kk,mm,hL,hs];try grind
theorem NT (L:List Sx.Obj) (n:Int) (k:Key) (m:bp) (hL:aq L) (hs:aw m.data):an Tryz.prog 102 [.lp 0 0] [.ro (.blk oP (iU (.ci .i64 1) m n (.ci .i64 4) k)),.store tS eS L] (kO (aP L n ((kk 4 k)) ((mm 1 m)))) (fun _ _=>False):=
 aY (inl:=(fun f=>f==131||f==142||f==152||f==146||f==202||f==185||f==227||f==177||f==148||f==174||f==173||f==132||f==144||f==184||f==188||f==210)) (ann:=aQ) (ae dz ar) (aC FH aE) (eP bZ) (Lt L n k m hL hs) (by kernel_rfl)
theorem Qv (L:List Sx.Obj) (n:Int) (k:Key) (m:bp) (hL:aq L) (hs:aw m.data):
 abb (abb (abb (abb (aq L/\abb (abb (abb (aba (!decide (cA L (kk 4 k) 2=0)) ((bp.mk (cA L (kk 4 k) 2) eB void void void,fx L (kk 4 k) 2)=aP L n (kk 4 k) (mm 2 m)) ((bp.mk 0 eB (dh L (kk 4 k) 2) void void,fx L (kk 4 k) 2)=aP L n (kk 4 k) (mm 2 m))))))))):=by
 delta aba abb
 simp+decide [aP,en,eF,dI,eJ,ey,eo,dC,dv,cX,de,eY,fu,gg,gm,bL,void,cY,eB,aS,dZ,fO,fl,kk,mm,hL,hs];try grind
theorem QF (L:List Sx.Obj) (n:Int) (k:Key) (m:bp) (hL:aq L) (hs:aw m.data):an Tryz.prog 102 [.lp 0 0] [.ro (.blk oP (iU (.ci .i64 2) m n (.ci .i64 4) k)),.store tS eS L] (kO (aP L n ((kk 4 k)) ((mm 2 m)))) (fun _ _=>False):=
 aY (inl:=(fun f=>f==131||f==142||f==152||f==146||f==202||f==185||f==227||f==177||f==148||f==174||f==173||f==132||f==144||f==184||f==188||f==210)) (ann:=aQ) (ae dz ar) (aC FH aE) (eP bZ) (Qv L n k m hL hs) (by kernel_rfl)
theorem N2 (L:List Sx.Obj) (n:Int) (k:Key) (m:bp) (hL:aq L) (hs:aw m.data):
 abb (abb (abb (abb (aq L/\abb (abb (aba (!decide (cE L (kk 4 k) m.k0=0)) ((bp.mk (cE L (kk 4 k) m.k0) eB void void void,gA L (kk 4 k) m.k0)=aP L n (kk 4 k) (mm 3 m)) ((bp.mk 0 eB void void void,gA L (kk 4 k) m.k0)=aP L n (kk 4 k) (mm 3 m)))))))):=by
 delta aba abb
 simp+decide [aP,en,eF,dI,eJ,ey,eo,dC,dv,cX,de,eY,fu,gg,gm,bL,void,cY,eB,aS,dZ,fO,fl,kk,mm,hL,hs];try grind
theorem Oj (L:List Sx.Obj) (n:Int) (k:Key) (m:bp) (hL:aq L) (hs:aw m.data):an Tryz.prog 102 [.lp 0 0] [.ro (.blk oP (iU (.ci .i64 3) m n (.ci .i64 4) k)),.store tS eS L] (kO (aP L n ((kk 4 k)) ((mm 3 m)))) (fun _ _=>False):=
 aY (inl:=(fun f=>f==131||f==142||f==152||f==146||f==202||f==185||f==227||f==177||f==148||f==174||f==173||f==132||f==144||f==184||f==188||f==166)) (ann:=aQ) (ae dz ar) (aC S9 aE) (eP bZ) (N2 L n k m hL hs) (by kernel_rfl)
theorem Qq (L:List Sx.Obj) (n:Int) (k:Key) (m:bp) (hL:aq L) (hs:aw m.data):
 abb (abb (abb (abb (abb (abb (aba (!decide (m.k2.kind=1)) ((bp.mk 240 eB void void void,L)=aP L n (kk 4 k) (mm 4 m)) (aba (decide (m.k2.value<0)||decide (2147483647<m.k2.value)) (abb (aq L/\abb (abb (abb (aba (!decide (b8 L (kk 4 k) (-1)=0)) ((bp.mk (b8 L (kk 4 k) (-1)) eB void void void,bE L (kk 4 k) (-1))=aP L n (kk 4 k) (mm 4 m)) ((bp.mk 0 eB (ck L (kk 4 k) (-1)) void void,bE L (kk 4 k) (-1))=aP L n (kk 4 k) (mm 4 m))))))) (abb (aq L/\abb (abb (abb (aba (!decide (b8 L (kk 4 k) m.k2.value=0)) ((bp.mk (b8 L (kk 4 k) m.k2.value) eB void void void,bE L (kk 4 k) m.k2.value)=aP L n (kk 4 k) (mm 4 m)) ((bp.mk 0 eB (ck L (kk 4 k) m.k2.value) void void,bE L (kk 4 k) m.k2.value)=aP L n (kk 4 k) (mm 4 m)))))))))))))):=by
 delta aba abb
 simp+decide [aP,en,eF,dI,eJ,ey,eo,dC,dv,cX,de,eY,fu,gg,gm,bL,void,cY,eB,aS,dZ,fO,fl,kk,mm,hL,hs];try grind
theorem P3 (L:List Sx.Obj) (n:Int) (k:Key) (m:bp) (hL:aq L) (hs:aw m.data):an Tryz.prog 102 [.lp 0 0] [.ro (.blk oP (iU (.ci .i64 4) m n (.ci .i64 4) k)),.store tS eS L] (kO (aP L n ((kk 4 k)) ((mm 4 m)))) (fun _ _=>False):=
 aY (inl:=(fun f=>f==131||f==142||f==152||f==146||f==202||f==185||f==227||f==177||f==148||f==174||f==173||f==132||f==144||f==184||f==188||f==168)) (ann:=aQ) (ae dz ar) (aC J7 aE) (eP bZ) (Qq L n k m hL hs) (by kernel_rfl)
theorem PW (L:List Sx.Obj) (n:Int) (k:Key) (m:bp) (hL:aq L) (hs:aw m.data):
 abb (abb (abb (abb (aba (!decide (aN L (kk 4 k)=0)) ((bp.mk (aN L (kk 4 k)) eB void void void,L)=aP L n (kk 4 k) (mm 5 m)) (abb (aba (jF L (kk 4 k) m.k0) (abb (abb ((bp.mk 0 eB void void (abg 1),L)=aP L n (kk 4 k) (mm 5 m)))) (abb (abb ((bp.mk 0 eB void void (abg 0),L)=aP L n (kk 4 k) (mm 5 m)))))))))):=by
 delta aba abg abb
 simp+decide [aP,en,eF,dI,eJ,ey,eo,dC,dv,cX,de,eY,fu,gg,gm,bL,void,cY,eB,aS,dZ,fO,fl,kk,mm,hL,hs];try grind
theorem K5 (L:List Sx.Obj) (n:Int) (k:Key) (m:bp) (hL:aq L) (hs:aw m.data):an Tryz.prog 102 [.lp 0 0] [.ro (.blk oP (iU (.ci .i64 5) m n (.ci .i64 4) k)),.store tS eS L] (kO (aP L n ((kk 4 k)) ((mm 5 m)))) (fun _ _=>False):=
 aY (inl:=(fun f=>f==131||f==142||f==152||f==146||f==202||f==185||f==227||f==177||f==148||f==174||f==173||f==132||f==144||f==184||f==188||f==170)) (ann:=aQ) (ae QG (ae dz ar)) aE (eP bZ) (PW L n k m hL hs) (by kernel_rfl)
theorem NQ (L:List Sx.Obj) (n:Int) (k:Key) (m:bp) (hL:aq L) (hs:aw m.data):
 abb (abb (abb (abb (aq L/\abb (aba (!decide (aN L (kk 4 k)=0)) ((bp.mk (aN L (kk 4 k)) eB void void void,ib L (kk 4 k))=aP L n (kk 4 k) (mm 6 m)) (abb (abb ((bp.mk 0 eB void void (abg (fN L (kk 4 k))),ib L (kk 4 k))=aP L n (kk 4 k) (mm 6 m))))))))):=by
 delta aba abg abb
 simp+decide [aP,en,eF,dI,eJ,ey,eo,dC,dv,cX,de,eY,fu,gg,gm,bL,void,cY,eB,aS,dZ,fO,fl,kk,mm,hL,hs];try grind
theorem Nt (L:List Sx.Obj) (n:Int) (k:Key) (m:bp) (hL:aq L) (hs:aw m.data):an Tryz.prog 102 [.lp 0 0] [.ro (.blk oP (iU (.ci .i64 6) m n (.ci .i64 4) k)),.store tS eS L] (kO (aP L n ((kk 4 k)) ((mm 6 m)))) (fun _ _=>False):=
 aY (inl:=(fun f=>f==131||f==142||f==152||f==146||f==202||f==185||f==227||f==177||f==148||f==174||f==173||f==132||f==144||f==184||f==188||f==171)) (ann:=aQ) (ae dz ar) (aC KT aE) (eP bZ) (NQ L n k m hL hs) (by kernel_rfl)
theorem O2 (L:List Sx.Obj) (n:Int) (k:Key) (m:bp) (hL:aq L) (hs:aw m.data):
 abb (abb (abb (abb (abb (abb (abb (abb (aba (!decide (m.k2.kind=1)) ((bp.mk 240 eB void void void,L)=aP L n (kk 5 k) (mm 1 m)) (aba (decide (m.k2.value<0)||decide (2147483647<m.k2.value)) (abb ((bp.mk 4 eB void void void,L)=aP L n (kk 5 k) (mm 1 m))) (abb (aba (!(decide (0<=m.k2.value)&&decide (m.k2.value<12))) ((bp.mk 4 eB void void void,L)=aP L n (kk 5 k) (mm 1 m)) (aF IntKind.i64 (m.k2.value+4)/\abb (abb (abb (aba (!decide (bY L (abA 2 k void.value) (m.k2.value+4)=0)) ((bp.mk (bY L (abA 2 k void.value) (m.k2.value+4)) eB void void void,L)=aP L n (kk 5 k) (mm 1 m)) ((bp.mk 0 eB (aJ L (abA 2 k void.value) (m.k2.value+4)) void void,L)=aP L n (kk 5 k) (mm 1 m))))))))))))))))):=by
 delta aba abA abb
 have hw:Key.mk 2 k.oid k.count void.call void.rights void.value=fl k:=rfl;have e2:∀c,bp.mk c eB void void void=gg c:=fun _=>rfl
 simp only[hw,e2];have hX:=Im (L:=L) (n:=n) (k:=k) (m:=m) (c:=1) (by omega)
 rw[hX];clear hX;by_cases h1:m.k2.kind=1
 case neg=>simp[h1,show cX 5 1=true by decide,hL,hs]
 have hf:¬(cX 5 1=true/\m.k2.kind≠1):=fun h=>h.2 h1
 rw[aa1 hf];have hC:dv L (kk 5 k) (mm 1 m)=(if aS m<0\/11<aS m then 4 else bY L (fl k) (aS m+4),eY (aJ L (fl k) (aS m+4)),L):=rfl
 rw[hC];clear hC;have e3:∀a,bp.mk 0 eB a void void=eY a:=fun _=>rfl
 simp only[e3];by_cases h2:0<=m.k2.value/\m.k2.value<=2147483647
 ·have hN:aS m=m.k2.value:=by unfold aS;rw[aa2 h2]
  have hr:aF .i64 (m.k2.value+4):=by simp only[aF,cc];omega
  rw[hN];by_cases h3:11<m.k2.value
  ·have h4:¬m.k2.value<12:=by omega
   simp[h1,h2,h3,h4,uD,hr]<;>omega
  ·have h4:m.k2.value<12:=by omega
   have h5:¬(m.k2.value<0\/11<m.k2.value):=by omega
   simp[h1,h2,h4,h5,uD,hr,hL];grind
 ·have hN:aS m= -1:=by unfold aS;rw[aa1 h2]
  rw[hN];simp[h1,uD]<;>omega
theorem PS (L:List Sx.Obj) (n:Int) (k:Key) (m:bp) (hL:aq L) (hs:aw m.data):an Tryz.prog 102 [.lp 0 0] [.ro (.blk oP (iU (.ci .i64 1) m n (.ci .i64 5) k)),.store tS eS L] (kO (aP L n ((kk 5 k)) ((mm 1 m)))) (fun _ _=>False):=
 aY (inl:=(fun f=>f==131||f==142||f==152||f==146||f==202||f==185||f==227||f==177||f==148||f==174||f==173||f==132||f==144||f==184||f==188||f==172)) (ann:=aQ) (ae sQ (ae dz ar)) aE (eP bZ) (O2 L n k m hL hs) (by kernel_rfl)
theorem PR (L:List Sx.Obj) (n:Int) (k:Key) (m:bp) (hL:aq L) (hs:aw m.data):
 abb (abb (abb (abb (abb (abb (abb (abb (aba (!decide (m.k2.kind=1)) ((bp.mk 240 eB void void void,L)=aP L n (kk 5 k) (mm 2 m)) (aba (decide (m.k2.value<0)||decide (2147483647<m.k2.value)) (abb ((bp.mk 4 eB void void void,L)=aP L n (kk 5 k) (mm 2 m))) (abb (aba (!(decide (0<=m.k2.value)&&decide (m.k2.value<12))) ((bp.mk 4 eB void void void,L)=aP L n (kk 5 k) (mm 2 m)) (aF IntKind.i64 (m.k2.value+4)/\abb (aq L/\abb (abb (abb (aba (!decide (bj L (abA 2 k void.value) (m.k2.value+4) m.k0=0)) ((bp.mk (bj L (abA 2 k void.value) (m.k2.value+4) m.k0) eB void void void,cC L (abA 2 k void.value) (m.k2.value+4) m.k0)=aP L n (kk 5 k) (mm 2 m)) ((bp.mk 0 eB (cT L (abA 2 k void.value) (m.k2.value+4) m.k0) void void,cC L (abA 2 k void.value) (m.k2.value+4) m.k0)=aP L n (kk 5 k) (mm 2 m)))))))))))))))))):=by
 delta aba abA abb
 have hw:Key.mk 2 k.oid k.count void.call void.rights void.value=fl k:=rfl;have e2:∀c,bp.mk c eB void void void=gg c:=fun _=>rfl
 simp only[hw,e2];have hX:=Im (L:=L) (n:=n) (k:=k) (m:=m) (c:=2) (by omega)
 rw[hX];clear hX;by_cases h1:m.k2.kind=1
 case neg=>simp[h1,show cX 5 2=true by decide,hL,hs]
 have hf:¬(cX 5 2=true/\m.k2.kind≠1):=fun h=>h.2 h1
 rw[aa1 hf];have hC:dv L (kk 5 k) (mm 2 m)=(if aS m<0\/11<aS m then 4 else bj L (fl k) (aS m+4) m.k0,eY (cT L (fl k) (aS m+4) m.k0),if aS m<0\/11<aS m then L else cC L (fl k) (aS m+4) m.k0):=rfl
 rw[hC];clear hC;have e3:∀a,bp.mk 0 eB a void void=eY a:=fun _=>rfl
 simp only[e3];by_cases h2:0<=m.k2.value/\m.k2.value<=2147483647
 ·have hN:aS m=m.k2.value:=by unfold aS;rw[aa2 h2]
  have hr:aF .i64 (m.k2.value+4):=by simp only[aF,cc];omega
  rw[hN];by_cases h3:11<m.k2.value
  ·have h4:¬m.k2.value<12:=by omega
   simp[h1,h2,h3,h4,uD,hr]<;>omega
  ·have h4:m.k2.value<12:=by omega
   have h5:¬(m.k2.value<0\/11<m.k2.value):=by omega
   simp[h1,h2,h4,h5,uD,hr,hL];grind
 ·have hN:aS m= -1:=by unfold aS;rw[aa1 h2]
  rw[hN];simp[h1,uD]<;>omega
theorem OL (L:List Sx.Obj) (n:Int) (k:Key) (m:bp) (hL:aq L) (hs:aw m.data):an Tryz.prog 102 [.lp 0 0] [.ro (.blk oP (iU (.ci .i64 2) m n (.ci .i64 5) k)),.store tS eS L] (kO (aP L n ((kk 5 k)) ((mm 2 m)))) (fun _ _=>False):=
 aY (inl:=(fun f=>f==131||f==142||f==152||f==146||f==202||f==185||f==227||f==177||f==148||f==174||f==173||f==132||f==144||f==184||f==188||f==175)) (ann:=aQ) (ae dz ar) (aC Hk aE) (eP bZ) (PR L n k m hL hs) (by kernel_rfl)
theorem K6 (L:List Sx.Obj) (n:Int) (k:Key) (m:bp) (hL:aq L) (hs:aw m.data):
 abb (abb (abb (abb (abb (aba (!decide (m.k2.kind=1)) ((bp.mk 240 eB void void void,L)=aP L n (kk 5 k) (mm 3 m)) (abb (abb (abb ((bp.mk 0 eB (abA 6 k m.k2.value) void void,L)=aP L n (kk 5 k) (mm 3 m)))))))))):=by
 delta aba abA abb
 simp+decide [aP,en,eF,dI,eJ,ey,eo,dC,dv,cX,de,eY,fu,gg,gm,bL,void,cY,eB,aS,dZ,fO,fl,kk,mm,hL,hs];try grind
theorem Lw (L:List Sx.Obj) (n:Int) (k:Key) (m:bp) (hL:aq L) (hs:aw m.data):an Tryz.prog 102 [.lp 0 0] [.ro (.blk oP (iU (.ci .i64 3) m n (.ci .i64 5) k)),.store tS eS L] (kO (aP L n ((kk 5 k)) ((mm 3 m)))) (fun _ _=>False):=
 aY (inl:=(fun f=>f==131||f==142||f==152||f==146||f==202||f==185||f==227||f==177||f==148||f==174||f==173||f==132||f==144||f==184||f==188||f==176)) (ann:=aQ) (ae dz ar) aE (eP bZ) (K6 L n k m hL hs) (by kernel_rfl)
theorem PM (L:List Sx.Obj) (n:Int) (k:Key) (m:bp) (hL:aq L) (hs:aw m.data):
 abb (abb (abb (aba (!dS L k.oid) (abb (abb ((bp.mk 0 eB void void (abg (-1)),L)=aP L n (kk 5 k) (mm 4 m)))) (abb (abb ((bp.mk 0 eB void void (abg (iG L k.oid)),L)=aP L n (kk 5 k) (mm 4 m))))))):=by
 delta aba abg abb
 simp+decide [aP,en,eF,dI,eJ,ey,eo,dC,dv,cX,de,eY,fu,gg,gm,bL,void,cY,eB,aS,dZ,fO,fl,kk,mm,hL,hs];unfold iG bw;grind
theorem LG (L:List Sx.Obj) (n:Int) (k:Key) (m:bp) (hL:aq L) (hs:aw m.data):an Tryz.prog 102 [.lp 0 0] [.ro (.blk oP (iU (.ci .i64 4) m n (.ci .i64 5) k)),.store tS eS L] (kO (aP L n ((kk 5 k)) ((mm 4 m)))) (fun _ _=>False):=
 aY (inl:=(fun f=>f==131||f==142||f==152||f==146||f==202||f==185||f==227||f==177||f==148||f==174||f==173||f==132||f==144||f==184||f==188||f==178)) (ann:=aQ) (ae rR (ae dz ar)) aE (eP bZ) (PM L n k m hL hs) (by kernel_rfl)
theorem PJ (L:List Sx.Obj) (n:Int) (k:Key) (m:bp) (hL:aq L) (hs:aw m.data):
 abb (abb (abb (abb (abb (abb (aba (!decide (m.k2.kind=1)) ((bp.mk 240 eB void void void,L)=aP L n (kk 5 k) (mm 5 m)) (aba (decide (m.k2.value<0)||decide (2147483647<m.k2.value)) (abb (aq L/\abb (abb (aba (!decide (er L k.oid (-1)=0)) ((bp.mk (er L k.oid (-1)) eB void void void,dg L k.oid (-1))=aP L n (kk 5 k) (mm 5 m)) ((bp.mk 0 eB void void void,dg L k.oid (-1))=aP L n (kk 5 k) (mm 5 m)))))) (abb (aq L/\abb (abb (aba (!decide (er L k.oid m.k2.value=0)) ((bp.mk (er L k.oid m.k2.value) eB void void void,dg L k.oid m.k2.value)=aP L n (kk 5 k) (mm 5 m)) ((bp.mk 0 eB void void void,dg L k.oid m.k2.value)=aP L n (kk 5 k) (mm 5 m))))))))))))):=by
 delta aba abb
 simp+decide [aP,en,eF,dI,eJ,ey,eo,dC,dv,cX,de,eY,fu,gg,gm,bL,void,cY,eB,aS,dZ,fO,fl,kk,mm,hL,hs];try grind
theorem Qk (L:List Sx.Obj) (n:Int) (k:Key) (m:bp) (hL:aq L) (hs:aw m.data):an Tryz.prog 102 [.lp 0 0] [.ro (.blk oP (iU (.ci .i64 5) m n (.ci .i64 5) k)),.store tS eS L] (kO (aP L n ((kk 5 k)) ((mm 5 m)))) (fun _ _=>False):=
 aY (inl:=(fun f=>f==131||f==142||f==152||f==146||f==202||f==185||f==227||f==177||f==148||f==174||f==173||f==132||f==144||f==184||f==188||f==179)) (ann:=aQ) (ae dz ar) (aC MO aE) (eP bZ) (PJ L n k m hL hs) (by kernel_rfl)
abbrev abD(L:List Sx.Obj)(k:Key):=aJ L (abA 2 k void.value) 0
theorem N6 (L:List Sx.Obj) (n:Int) (k:Key) (m:bp) (hL:aq L) (hs:aw m.data):
 abb (abb (abb (abb (abb (abb (aba (!decide (m.k2.kind=1)) ((bp.mk 240 eB void void void,L)=aP L n (kk 5 k) (mm 6 m)) (abb (abb (aba (!decide (cm L (abD L k) m.k2.value 32=0)) ((bp.mk (cm L (abD L k) m.k2.value 32) eB void void void,L)=aP L n (kk 5 k) (mm 6 m)) (aba (!decide (bW L (abD L k) m.k2.value 32 false=0)) (aF IntKind.i64 (1000+bW L (abD L k) m.k2.value 32 false)/\(bp.mk (1000+bW L (abD L k) m.k2.value 32 false) eB void void void,L)=aP L n (kk 5 k) (mm 6 m)) (abb (abb (abb ((bp.mk 0 (jW L (abD L k) m.k2.value 32) void void void,L)=aP L n (kk 5 k) (mm 6 m))))))))))))))):=by
 delta aba abA abD abb
 have hw:Key.mk 2 k.oid k.count void.call void.rights void.value=fl k:=rfl;have e2:∀c,bp.mk c eB void void void=gg c:=fun _=>rfl
 simp only[hw,e2];have hX:=Im (L:=L) (n:=n) (k:=k) (m:=m) (c:=6) (by omega)
 rw[hX];clear hX;by_cases h1:m.k2.kind=1
 case neg=>simp[h1,show cX 5 6=true by decide,hL,hs]
 have hf:¬(cX 5 6=true/\m.k2.kind≠1):=fun h=>h.2 h1
 rw[aa1 hf];have hC:dv L (kk 5 k) (mm 6 m)=(if cm L (fO L k) m.k2.value 32=0 then(if bW L (fO L k) m.k2.value 32 false=0 then 0 else 1000+bW L (fO L k) m.k2.value 32 false)else cm L (fO L k) m.k2.value 32,gm (jW L (fO L k) m.k2.value 32),L):=rfl
 rw[hC];clear hC;have e3:∀s,bp.mk 0 s void void void=gm s:=fun _=>rfl
 have e4:gg 0=cY:=rfl;have hi:=Iu (L:=L) (k:=aJ L (fl k) 0) (a:=m.k2.value) (n:=32) (w:=false);have hr:aF .i64 (1000+bW L (aJ L (fl k) 0) m.k2.value (32) false):=by simp only[aF,cc];omega
 simp only[e3,fO];simp[h1,hr,uD,hL,hs];grind
theorem LC (L:List Sx.Obj) (n:Int) (k:Key) (m:bp) (hL:aq L) (hs:aw m.data):an Tryz.prog 102 [.lp 0 0] [.ro (.blk oP (iU (.ci .i64 6) m n (.ci .i64 5) k)),.store tS eS L] (kO (aP L n ((kk 5 k)) ((mm 6 m)))) (fun _ _=>False):=
 aY (inl:=(fun f=>f==131||f==142||f==152||f==146||f==202||f==185||f==227||f==177||f==148||f==174||f==173||f==132||f==144||f==184||f==188||f==180)) (ann:=aQ) (ae sQ (ae Zj (ae dz ar))) aE (eP bZ) (N6 L n k m hL hs) (by kernel_rfl)
abbrev abE(L:List Sx.Obj)(k:Key):=aJ L (abA 2 k void.value) 0
theorem LW (L:List Sx.Obj) (n:Int) (k:Key) (m:bp) (hL:aq L) (hs:aw m.data):
 abb (abb (abb (abb (abb (abb (aba (!decide (m.k2.kind=1)) ((bp.mk 240 eB void void void,L)=aP L n (kk 5 k) (mm 7 m)) (abb (aw m.data/\(aq L/\aw m.data)/\abb (abb (aba (!decide (cm L (abE L k) m.k2.value (bO m.data)=0)) ((bp.mk (cm L (abE L k) m.k2.value (bO m.data)) eB void void void,kx L (abE L k) m.k2.value m.data)=aP L n (kk 5 k) (mm 7 m)) (aba (!decide (bW L (abE L k) m.k2.value (bO m.data) true=0)) (aF IntKind.i64 (1000+bW L (abE L k) m.k2.value (bO m.data) true)/\(bp.mk (1000+bW L (abE L k) m.k2.value (bO m.data) true) eB void void void,kx L (abE L k) m.k2.value m.data)=aP L n (kk 5 k) (mm 7 m)) (abb (abb ((bp.mk 0 eB void void void,kx L (abE L k) m.k2.value m.data)=aP L n (kk 5 k) (mm 7 m))))))))))))))):=by
 delta aba abA abE abb
 have hw:Key.mk 2 k.oid k.count void.call void.rights void.value=fl k:=rfl;have e2:∀c,bp.mk c eB void void void=gg c:=fun _=>rfl
 simp only[hw,e2];have hX:=Im (L:=L) (n:=n) (k:=k) (m:=m) (c:=7) (by omega)
 rw[hX];clear hX;by_cases h1:m.k2.kind=1
 case neg=>simp[h1,show cX 5 7=true by decide,hL,hs]
 have hf:¬(cX 5 7=true/\m.k2.kind≠1):=fun h=>h.2 h1
 rw[aa1 hf];have hC:dv L (kk 5 k) (mm 7 m)=(if cm L (fO L k) m.k2.value (bO m.data)=0 then(if bW L (fO L k) m.k2.value (bO m.data) true=0 then 0 else 1000+bW L (fO L k) m.k2.value (bO m.data) true)else cm L (fO L k) m.k2.value (bO m.data),cY,kx L (fO L k) m.k2.value m.data):=rfl
 rw[hC];clear hC;have e3:∀s,bp.mk 0 s void void void=gm s:=fun _=>rfl
 have e4:gg 0=cY:=rfl;have hi:=Iu (L:=L) (k:=aJ L (fl k) 0) (a:=m.k2.value) (n:=bO m.data) (w:=true);have hr:aF .i64 (1000+bW L (aJ L (fl k) 0) m.k2.value (bO m.data) true):=by simp only[aF,cc];omega
 simp only[e3,fO];simp[h1,hr,uD,hL,hs];grind
theorem MA (L:List Sx.Obj) (n:Int) (k:Key) (m:bp) (hL:aq L) (hs:aw m.data):an Tryz.prog 102 [.lp 0 0] [.ro (.blk oP (iU (.ci .i64 7) m n (.ci .i64 5) k)),.store tS eS L] (kO (aP L n ((kk 5 k)) ((mm 7 m)))) (fun _ _=>False):=
 aY (inl:=(fun f=>f==131||f==142||f==152||f==146||f==202||f==185||f==227||f==177||f==148||f==174||f==173||f==132||f==144||f==184||f==188||f==181)) (ann:=aQ) (ae sQ (ae dz ar)) (aC WG aE) (eP bZ) (LW L n k m hL hs) (by kernel_rfl)
theorem Nv (L:List Sx.Obj) (n:Int) (k:Key) (m:bp) (hL:aq L) (hs:aw m.data):
 true=true/\true=true/\true=true/\true=true/\true=true/\(bp.mk 0 eB void void (Key.mk 1 void.oid void.count void.call void.rights m.k0.kind),L)=aP L n (kk 8 k) (mm 1 m):=by
 simp+decide [aP,en,eF,dI,eJ,ey,eo,dC,dv,cX,de,eY,fu,gg,gm,bL,void,cY,eB,aS,dZ,fO,fl,kk,mm,hL,hs];try grind
theorem MQ (L:List Sx.Obj) (n:Int) (k:Key) (m:bp) (hL:aq L) (hs:aw m.data):an Tryz.prog 102 [.lp 0 0] [.ro (.blk oP (iU (.ci .i64 1) m n (.ci .i64 8) k)),.store tS eS L] (kO (aP L n ((kk 8 k)) ((mm 1 m)))) (fun _ _=>False):=
 aY (inl:=(fun f=>f==131||f==142||f==152||f==146||f==202||f==185||f==227||f==177||f==148||f==174||f==173||f==132||f==144||f==184||f==188||f==182)) (ann:=aQ) (ae dz ar) aE (eP bZ) (Nv L n k m hL hs) (by kernel_rfl)
theorem O4 (L:List Sx.Obj) (n:Int) (k:Key) (m:bp) (hL:aq L) (hs:aw m.data):
 abb (abb (abb (abb (aba (k7 m.k0 m.k1) (abb (abb ((bp.mk 0 eB void void (abg 1),L)=aP L n (kk 8 k) (mm 2 m)))) (abb (abb ((bp.mk 0 eB void void (abg 0),L)=aP L n (kk 8 k) (mm 2 m)))))))):=by
 delta aba abg abb
 simp+decide [aP,en,eF,dI,eJ,ey,eo,dC,dv,cX,de,eY,fu,gg,gm,bL,void,cY,eB,aS,dZ,fO,fl,kk,mm,hL,hs];try grind
theorem KI (L:List Sx.Obj) (n:Int) (k:Key) (m:bp) (hL:aq L) (hs:aw m.data):an Tryz.prog 102 [.lp 0 0] [.ro (.blk oP (iU (.ci .i64 2) m n (.ci .i64 8) k)),.store tS eS L] (kO (aP L n ((kk 8 k)) ((mm 2 m)))) (fun _ _=>False):=
 aY (inl:=(fun f=>f==131||f==142||f==152||f==146||f==202||f==185||f==227||f==177||f==148||f==174||f==173||f==132||f==144||f==184||f==188||f==183)) (ann:=aQ) (ae S7 (ae dz ar)) aE (eP bZ) (O4 L n k m hL hs) (by kernel_rfl)
theorem Oo (L:List Sx.Obj) (n:Int) (k:Key) (m:bp) (hL:aq L) (hs:aw m.data):
 true=true/\true=true/\true=true/\true=true/\true=true/\(bp.mk 0 eB void void (Key.mk 1 void.oid void.count void.call void.rights m.k0.rights),L)=aP L n (kk 8 k) (mm 3 m):=by
 simp+decide [aP,en,eF,dI,eJ,ey,eo,dC,dv,cX,de,eY,fu,gg,gm,bL,void,cY,eB,aS,dZ,fO,fl,kk,mm,hL,hs];try grind
theorem Om (L:List Sx.Obj) (n:Int) (k:Key) (m:bp) (hL:aq L) (hs:aw m.data):an Tryz.prog 102 [.lp 0 0] [.ro (.blk oP (iU (.ci .i64 3) m n (.ci .i64 8) k)),.store tS eS L] (kO (aP L n ((kk 8 k)) ((mm 3 m)))) (fun _ _=>False):=
 aY (inl:=(fun f=>f==131||f==142||f==152||f==146||f==202||f==185||f==227||f==177||f==148||f==174||f==173||f==132||f==144||f==184||f==188||f==187)) (ann:=aQ) (ae dz ar) aE (eP bZ) (Oo L n k m hL hs) (by kernel_rfl)
theorem KU (L:List Sx.Obj) (n:Int) (k:Key) (m:bp) (hL:aq L) (hs:aw m.data):
 true=true/\true=true/\true=true/\true=true/\true=true/\(bp.mk 0 eB void void (Key.mk 1 void.oid void.count void.call void.rights n),L)=aP L n (kk 9 k) (mm 1 m):=by
 simp+decide [aP,en,eF,dI,eJ,ey,eo,dC,dv,cX,de,eY,fu,gg,gm,bL,void,cY,eB,aS,dZ,fO,fl,kk,mm,hL,hs];try grind
theorem M4 (L:List Sx.Obj) (n:Int) (k:Key) (m:bp) (hL:aq L) (hs:aw m.data):an Tryz.prog 102 [.lp 0 0] [.ro (.blk oP (iU (.ci .i64 1) m n (.ci .i64 9) k)),.store tS eS L] (kO (aP L n ((kk 9 k)) ((mm 1 m)))) (fun _ _=>False):=
 aY (inl:=(fun f=>f==131||f==142||f==152||f==146||f==202||f==185||f==227||f==177||f==148||f==174||f==173||f==132||f==144||f==184||f==188||f==189)) (ann:=aQ) (ae dz ar) aE (eP bZ) (KU L n k m hL hs) (by kernel_rfl)
theorem Kx (L:List Sx.Obj) (n:Int) (k:Key) (m:bp) (hL:aq L) (hs:aw m.data):
 true=true/\true=true/\true=true/\(bp.mk 0 eB void void void,L)=aP L n (kk 10 k) (mm 1 m):=by
 simp+decide [aP,en,eF,dI,eJ,ey,eo,dC,dv,cX,de,eY,fu,gg,gm,bL,void,cY,eB,aS,dZ,fO,fl,kk,mm,hL,hs];try grind
theorem Kk (L:List Sx.Obj) (n:Int) (k:Key) (m:bp) (hL:aq L) (hs:aw m.data):an Tryz.prog 102 [.lp 0 0] [.ro (.blk oP (iU (.ci .i64 1) m n (.ci .i64 10) k)),.store tS eS L] (kO (aP L n ((kk 10 k)) ((mm 1 m)))) (fun _ _=>False):=
 aY (inl:=(fun f=>f==131||f==142||f==152||f==146||f==202||f==185||f==227||f==177||f==148||f==174||f==173||f==132||f==144||f==184||f==188||f==190)) (ann:=aQ) (ae dz ar) aE (eP bZ) (Kx L n k m hL hs) (by kernel_rfl)
end Go.Proofs.YtlblcfaclmpekaaGreat
