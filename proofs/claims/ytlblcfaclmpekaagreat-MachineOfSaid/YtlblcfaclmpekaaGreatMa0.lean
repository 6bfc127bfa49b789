import Derived.WalkKit
import Derived.Laws.OwnMore
set_option linter.unusedSimpArgs false
set_option linter.unusedVariables false
namespace Go.Sx
abbrev aba(c:Bool)(A B:Prop):Prop:=(c=true->A)/\(c=false->B)
abbrev abG:ByteArray:=ByteArray.mk (Array.mk [])
abbrev abb(A:Prop):Prop:=true=true/\A
theorem aa0 {α : Type _} (a b : α) : (some a = some b) = (a = b):=Option.some.injEq a b
theorem aa1 {α β : Type _} (a : α) (b : β) (c : α) (d : β) : ((a, b) = (c, d)) = (a = c ∧ b = d):=Prod.mk.injEq a b c d
theorem aa2 (a b : Bool) : ((a && b) = true) = (a = true ∧ b = true):=Bool.and_eq_true a b
theorem aa3 {p : Prop} [Decidable p] : (decide p = true) = p:=decide_eq_true_eq
theorem aa4 {α : Type _} [BEq α] [LawfulBEq α] {a b : α} : (a == b) = true ↔ a = b:=beq_iff_eq
theorem aa5 {p : Prop} [Decidable p] : decide p = false → ¬p:=of_decide_eq_false
theorem aa6 {p : Prop} [Decidable p] : decide p = true → p:=of_decide_eq_true
theorem aa7 {α : Type _} {l : List α} {i : Nat} {a : α} : l.getD i a = l[i]?.getD a:=List.getD_eq_getElem?_getD
theorem aa8 {c : Prop} {h : Decidable c} (hc : ¬c) {α : Sort _} {t e : α} : ite c t e = e:=if_neg hc
theorem aa9 {c : Prop} {h : Decidable c} (hc : c) {α : Sort _} {t e : α} : ite c t e = t:=if_pos hc
structure Key where
 kind:Int
 oid:Int
 count:Int
 call:Int
 rights:Int
 value:Int
 deriving DecidableEq,Inhabited
abbrev cL:=Vector Key 16
abbrev Bytes:=Vector UInt8 64
def void:Key:=⟨0,0,0,0,0,0⟩
abbrev abA(n:Int)(k:Key)(x:Int):Key:=Key.mk n k.oid k.count void.call void.rights x
abbrev abg(x:Int):Key:=Key.mk 1 void.oid void.count void.call void.rights x
def cL.at (s:cL) (i:Nat):Key:=s.toArray.getD i void
def cL.put (s:cL) (i:Nat) (k:Key):cL:=s.setIfInBounds i k
def Bytes.at (s:Bytes) (i:Nat):UInt8:=s.toArray.getD i 0
def Bytes.put (s:Bytes) (i:Nat) (k:UInt8):Bytes:=s.setIfInBounds i k
structure Obj where
 kind:Int
 count:Int
 calls:Int
 slots:cL
 bytes:Bytes
 deriving DecidableEq
def gV:cL:=Vector.replicate 16 void
def fa:Bytes:=Vector.replicate 64 0
def free:Obj:=⟨0,0,0,gV,fa⟩
instance:Inhabited Obj:=⟨free⟩
def i64 (n:Int):Value:= .int .i64 n
def dZ (k:Key):List Value:= [i64 k.kind,i64 k.oid,i64 k.count,i64 k.call,i64 k.rights,i64 k.value]
def gg (s:cL):List Value:=(List.range 16).flatMap fun i=>dZ (s.at i)
def cZ (s:Bytes):List Value:=(List.range 64).map fun i=> .int .u8 ((s.at i).toNat:Int)
def eE (o:Obj):List Value:=i64 o.kind::i64 o.count::i64 o.calls::(gg o.slots++cZ o.bytes)
inductive V where
 |cb (b:Bool)|bo (b:Bool)
 |ci (k:IntKind) (n:Int)|it (k:IntKind) (n:Int)|bt (b:UInt8)
 |st (s:ByteArray)
 |nl (v:Value)
 |lp (id off:Nat)
 |lx (id off esz n i inner:Nat)
 |sc (id len cap:Nat)
 |so (id len:Nat)
 |ap (id esz i off:Nat)
 |sa (id:Nat)
 |op (id i:Nat)
 |yl (id:Nat)
 |fn (f:Nat) (l:List V)
 |ic (t:Nat) (x:V)
 |ag (l:List V)|tp (l:List V)
 |key (k:Key)|sl (s:cL)|by(b:Bytes)|ob (o:Obj)
 |mp (id:Nat)
 |ch (b:Bool) (f:Nat) (l:List V) (y:V)
 |ax (id esz k off sz n i inner:Nat)
 |bs (x:V) (lo hi:Nat)
 |ks (x:V) (e n lo hi:Nat)
structure Env where
 num:Nat->Nat
 cap:Nat->Nat
 adr:Nat->Addr
 sa:Nat->Option Addr
 sn:Nat->Nat
 ob:Nat->Nat->Nat
def bY:IntKind->Int->Prop
 | .i8,n=> -128<=n/\n<=127
 | .i16,n=> -32768<=n/\n<=32767
 | .i32,n=> -2147483648<=n/\n<=2147483647
 | .i64,n=> -9223372036854775808<=n/\n<=9223372036854775807
 | .u8,n=>0<=n/\n<=255
 | .u16,n=>0<=n/\n<=65535
 | .u32,n=>0<=n/\n<=4294967295
 | .u64,n=>0<=n/\n<=18446744073709551615
instance (k:IntKind) (n:Int):Decidable (bY k n):=by cases k<;>unfold bY<;>infer_instance
def Key.wf (k:Key):Prop:=bY .i64 k.kind/\bY .i64 k.oid/\bY .i64 k.count/\bY .i64 k.call/\bY .i64 k.rights/\bY .i64 k.value
def cL.wf (s:cL):Prop:=∀i,i<16->(s.at i).wf
def Obj.wf (o:Obj):Prop:=bY .i64 o.kind/\bY .i64 o.count/\bY .i64 o.calls/\o.slots.wf
def xg (v:Value) (lo hi:Nat):Value:=
 match v with
 | .pointer (some a)=> .slice (some (if lo=64 then a else a.add lo)) (hi-lo) (64-lo)
 |_=> .slice none 0 0
def xc (v:Value) (e n lo hi:Nat):Value:=
 match v with
 | .pointer (some a)=> .slice (some (if lo=n then a else a.add (lo*e))) (hi-lo) (n-lo)
 |_=> .slice none 0 0
theorem wg (v:Value) (e n lo hi:Nat):(xc v e n lo hi).oneCell'=true:=by
 unfold xc;split<;>rfl
theorem wH (v:Value) (lo hi:Nat):(xg v lo hi).oneCell'=true:=by
 unfold xg;split<;>rfl
def FA (f:Nat) (l:List Value):Value:=if Nat.blt f 2000 then .func (.func f) #[] l.toArray else .func (.func (f-2000)) l.toArray #[]
theorem oC (f:Nat) (l:List Value):(FA f l).oneCell'=true:=by unfold FA;split<;>rfl
theorem Oo (f:Nat) (l:List Value):∃g b c,FA f l= .func (.func g) b c:=by unfold FA;split<;>exact⟨_,_,_,rfl⟩
def FB (f:Nat):Nat:=if Nat.blt f 2000 then f else f-2000
def To {α:Type} (f:Nat) (vs caps:List α):List α:=if Nat.blt f 2000 then vs++caps else caps++vs
theorem z0 {f:Nat} {l:List Value} (h:Nat.blt f 2000=true):FA f l= .func (.func f) #[] l.toArray:=by unfold FA;rw[aa9 h]
mutual
def den (J:Env):V->Value
 | .cb b=> .bool b
 | .bo b=> .bool b
 | .ci k n=> .int k n
 | .it k n=> .int k n
 | .bt b=> .int .u8 (b.toNat:Int)
 | .st s=> .string s
 | .nl v=>v
 | .lp id off=> .pointer (some ⟨J.num id,off,none⟩)
 | .lx id off esz _ i inner=> .pointer (some ⟨J.num id,off+i*esz+inner,none⟩)
 | .sc id len cap=> .slice (some ⟨J.num id,0,none⟩) len cap
 | .so id len=> .slice (some ⟨J.num id,0,none⟩) len (J.cap id)
 | .ap id esz i off=> .pointer (some ⟨(J.adr id).block,(J.adr id).off+(i*esz+off),none⟩)
 | .ax id esz k off sz _ i inner=> .pointer (some ⟨(J.adr id).block,(J.adr id).off+(k*esz+(off+i*sz+inner)),none⟩)
 | .sa id=> .slice (J.sa id) (J.sn id) (J.cap id)
 | .op id i=> .pointer (some ⟨J.ob id i,0,none⟩)
 | .yl id=> .func (.yield (J.num id)) #[] #[]
 | .fn f l=>FA f (bB J l)
 | .ic t x=> .iface t (den J x)
 | .ag l=> .agg (bp J l).toArray
 | .tp l=> .tuple (bB J l).toArray
 | .key k=> .agg (dZ k).toArray
 | .sl s=> .agg (gg s).toArray
 | .by b=> .agg (cZ b).toArray
 | .ob o=> .agg (eE o).toArray
 | .mp id=> .map (some (J.num id))
 | .bs x lo hi=>xg (den J x) lo hi
 | .ks x e n lo hi=>xc (den J x) e n lo hi
 | .ch b f l y=>match b with
   |true=>FA f (bB J l)
   |false=>den J y
def bB (J:Env):List V->List Value
 | []=> []
 |x::l=>den J x::bB J l
def bp (J:Env):List V->List Value
 | []=> []
 |x::l=>(den J x).cells.toList++bp J l
end
def cells (J:Env) (v:V):List Value:=(den J v).cells.toList
def jP:V->Bool
 | .ag _| .key _| .sl _| .by _| .ob _=>true
 |_=>false
mutual
def fi:V->Nat
 | .ag l=>GC l
 | .key _=>6
 | .sl _=>96
 | .by _=>64
 | .ob _=>163
 |_=>1
def GC:List V->Nat
 | []=>0
 |x::l=>fi x+GC l
end
mutual
def ok (N:Nat->Prop):V->Prop
 | .nl v=>v.oneCell'=true
 | .ci k n=>bY k n
 | .it k n=>bY k n
 | .key k=>k.wf
 | .sl s=>s.wf
 | .ob o=>o.wf
 | .lp id _=>N id
 | .lx id _ _ n i _=>N id/\i<n
 | .sc id _ _=>N id
 | .so id _=>N id
 | .ap id _ _ _=>N id
 | .ax id _ _ _ _ n i _=>N id/\i<n
 | .sa id=>N id
 | .op id _=>N id
 | .yl id=>N id
 | .fn _ l=>fM N l
 | .ic _ x=>ok N x
 | .ag l=>fM N l/\tg l
 | .tp l=>fM N l
 | .mp id=>N id
 | .bs x lo hi=>ok N x/\lo<=hi/\hi<=64
 | .ks x _ n lo hi=>ok N x/\lo<=hi/\hi<=n
 | .ch _ _ l y=>fM N l/\ok N y/\∀J:Env,(den J y).oneCell'=true
 |_=>True
def fM (N:Nat->Prop):List V->Prop
 | []=>True
 |x::l=>ok N x/\fM N l
def tg:List V->Prop
 | []=>True
 |x::l=>(match x with| .tp _=>False|_=>True)/\tg l
end
variable {N:Nat->Prop}
section lists
variable (J:Env)
theorem jD (l:List V):bB J l=l.map (den J):=by
 induction l with
 |nil=>simp[bB]
 |cons x l ih=>simp[bB,ih]
theorem B1 (l:List V):bp J l=l.flatMap (cells J):=by
 induction l with
 |nil=>simp[bp]
 |cons x l ih=>simp[bp,ih,cells]
theorem jg (l:List V):fM N l↔ ∀x∈l,ok N x:=by
 induction l with
 |nil=>simp[fM]
 |cons x l ih=>simp[fM,ih]
end lists
def cS:V->Bool
 | .tp _=>true
 |_=>false
theorem eF (l:List V):tg l↔ ∀x∈l,cS x=false:=by
 induction l with
 |nil=>simp[tg]
 |cons x l ih=>
  simp only[tg,ih,List.mem_cons,forall_eq_or_imp];refine and_congr_left fun _=>?_
  cases x<;>simp[cS]
theorem mO (k:Key):(dZ k).length=6:=rfl
theorem iN (s:cL):(gg s).length=96:=by
 simp[gg,mO,List.range,List.range.loop]
theorem fy (s:Bytes):(cZ s).length=64:=by simp[cZ]
theorem nD (s:Obj):(eE s).length=163:=by simp[eE,iN,fy]
theorem dT {v:Value} (h:v.oneCell'=true):v.cells= #[v]:=by
 cases v<;>simp_all[Value.oneCell',Value.cells]
theorem ou (J:Env):∀v,ok N v->jP v=false->cS v=false->(den J v).oneCell'=true:=by
 intro v h h1 h2;cases v<;>try(simp_all[jP,cS,den,Value.oneCell',ok];done)
 ·exact oC _ _
 ·rename_i b f l y;cases b
  ·exact h.2.2 J
  ·exact oC _ _
 ·exact wH _ _ _
 ·exact wg _ _ _ _ _
mutual
theorem bg (J:Env):∀v,ok N v->(cells J v).length=fi v
 | .ag l,h=>by
   simp only[ok]at h;simpa[cells,den,Value.cells,fi]using s9 J l h.1
 | .tp l,_=>by simp[cells,den,Value.cells,fi]
 | .key k,_=>by simp[cells,den,Value.cells,fi,mO]
 | .sl k,_=>by simp[cells,den,Value.cells,fi,iN]
 | .by k,_=>by simp[cells,den,Value.cells,fi,fy]
 | .ob k,_=>by simp[cells,den,Value.cells,fi,nD]
 | .nl v,h=>by simp only[ok]at h;simp[cells,den,dT h,fi]
 | .cb _,_| .bo _,_| .ci _ _,_| .it _ _,_| .bt _,_| .st _,_| .lp _ _,_| .lx _ _ _ _ _ _,_| .sc _ _ _,_| .so _ _,_
 | .ap _ _ _ _,_| .sa _,_| .op _ _,_| .yl _,_| .ic _ _,_| .mp _,_| .ax _ _ _ _ _ _ _ _,_=>by simp[cells,den,Value.cells,fi]
 | .fn _ _,_=>by simp[cells,den,dT (oC _ _),fi]
 | .bs x lo hi,h=>by simp[cells,den,dT (wH _ _ _),fi]
 | .ks x e n lo hi,h=>by simp[cells,den,dT (wg _ _ _ _ _),fi]
 | .ch b f l y,h=>by
   have:(den J (.ch b f l y)).oneCell'=true:=by
    cases b
    ·exact h.2.2 J
    ·exact oC _ _
   simp[cells,dT this,fi]
theorem s9 (J:Env):∀l,fM N l->(bp J l).length=GC l
 | [],_=>by simp[bp,GC]
 |x::l,h=>by
  simp only[fM]at h;have h1:=bg J x h.1;have h2:=s9 J l h.2;simp only[cells]at h1;simp only[bp,List.length_append,GC];omega
end
def parts:V->Option (List V)
 | .ag l=>some l
 | .key k=>some [.it .i64 k.kind,.it .i64 k.oid,.it .i64 k.count,.it .i64 k.call,.it .i64 k.rights,.it .i64 k.value]
 | .sl s=>some ((List.range 16).map fun i=> .key (s.at i))
 | .by b=>some ((List.range 64).map fun i=> .bt (b.at i))
 | .ob o=>some [.it .i64 o.kind,.it .i64 o.count,.it .i64 o.calls,.sl o.slots,.by o.bytes]
 |_=>none
theorem IY (J:Env) {v:V} {l:List V} (h:parts v=some l):den J v= .agg (bp J l).toArray:=by
 cases v<;>simp[parts]at h<;>subst h
 ·simp[den]
 ·simp[den,bp,Value.cells,dZ,i64]
 ·rfl
 ·simp only[den,B1,cells,List.flatMap_map,Value.cells,cZ,<-List.map_eq_flatMap]
 ·simp[den,bp,Value.cells,eE,i64]
theorem NC {v:V} {l:List V} (h:parts v=some l) (hv:ok N v):fM N l/\tg l:=by
 cases v<;>simp[parts]at h<;>subst h
 ·exact hv
 ·obtain⟨h1,h2,h3,h4,h5,h6⟩:=hv;simp[fM,tg,ok,h1,h2,h3,h4,h5,h6]
 ·simp only[jg,eF,List.mem_map,List.mem_range];exact⟨by rintro x ⟨i,hi,rfl⟩;exact hv i hi,by rintro x ⟨i,hi,rfl⟩;rfl⟩
 ·simp[jg,eF,ok,cS]
 ·obtain⟨h1,h2,h3,h4⟩:=hv;simp[fM,tg,ok,h1,h2,h3,h4]
def find:List V->Nat->Option (V×Nat)
 | [],_=>none
 |x::l,off=>if off<fi x then some (x,off)else find l (off-fi x)
def iP:Nat->V->Nat->Nat->Bool->Option V
 |0,_,_,_,_=>none
 |f+1,v,off,n,a=>
  if off==0&&n==fi v&&a==jP v then some v
  else match parts v with
   |none=>none
   |some l=>match find l off with
    |none=>none
    |some (x,o)=>iP f x o n a
def jV (a:Bool) (cs:List Value):Value:=if a then .agg cs.toArray else cs.getD 0 undef
theorem find_spec (J:Env):∀(l:List V) (off:Nat) (x:V) (o:Nat),fM N l->tg l->find l off=some (x,o)->
  ∃p q,bp J l=p++cells J x++q/\off=p.length+o/\o<fi x/\ok N x/\cS x=false
 | [],_,_,_,_,_,h=>by simp[find]at h
 |y::l,off,x,o,hk,hc,h=>by
  simp only[fM]at hk;rw[eF]at hc;simp only[find]at h;split at h
  ·simp_all[bp,cells]
  ·rename_i hlt;obtain⟨p,q,h1,h2,h3⟩:=find_spec J l _ x o hk.2 ((eF l).2 fun z hz=>hc z (by simp[hz])) h
   have hl:=bg J y hk.1;exact⟨cells J y++p,q,by simp[bp,h1,cells],by simp;omega,h3⟩
theorem pT (J:Env) {v:V} (hv:ok N v) (ht:cS v=false):den J v=jV (jP v) (cells J v):=by
 cases h:jP v with
 |true=>cases v<;>simp_all[jP,jV,cells,den,Value.cells]
 |false=>
  have:=ou J v hv h ht;simp[jV,cells,dT this]
theorem ff (J:Env):∀(f:Nat) (v:V) (off n:Nat) (a:Bool) (r:V),ok N v->cS v=false->iP f v off n a=some r->
  (∃p q,cells J v=p++cells J r++q/\off=p.length)/\fi r=n/\jP r=a/\ok N r/\cS r=false
 |0,_,_,_,_,_,_,_,h=>by simp[iP]at h
 |f+1,v,off,n,a,r,hv,ht,h=>by
  simp only[iP]at h;split at h
  ·rename_i hc;simp only[aa2,aa4]at hc;obtain⟨⟨h1,h2⟩,h3⟩:=hc;simp only[aa0]at h;subst h;exact⟨⟨[],[],by simp,by simpa using h1⟩,h2.symm,h3.symm,hv,ht⟩
  ·cases hp:parts v with
   |none=>simp[hp]at h
   |some l=>
    simp only[hp]at h;cases hf:find l off with
    |none=>simp[hf]at h
    |some xo=>
     obtain⟨x,o⟩:=xo;simp only[hf]at h;obtain⟨hl,hlc⟩:=NC hp hv;obtain⟨p,q,h1,h2,h3,h4,h4'⟩:=find_spec J l off x o hl hlc hf;obtain⟨⟨p',q',h5,h6⟩,h7⟩:=ff J f x o n a r h4 h4' h;refine⟨⟨p++p',q'++q,?_,by simp;omega⟩,h7⟩
     rw[cells,IY J hp];simp[Value.cells,h1,h5]
mutual
theorem dY {M:Nat->Prop} (hM:∀i,N i->M i):∀v,ok N v->ok M v
 | .lp _ _,h| .sc _ _ _,h| .so _ _,h| .ap _ _ _ _,h| .sa _,h| .op _ _,h| .yl _,h| .mp _,h=>hM _ h
 | .ch _ _ l y,h=>⟨dt hM l h.1,dY hM y h.2.1,h.2.2⟩
 | .lx _ _ _ _ _ _,h=>⟨hM _ h.1,h.2⟩
 | .ax _ _ _ _ _ _ _ _,h=>⟨hM _ h.1,h.2⟩
 | .bs x _ _,h=>⟨dY hM x h.1,h.2⟩
 | .ks x _ _ _ _,h=>⟨dY hM x h.1,h.2⟩
 | .fn _ l,h| .tp l,h=>dt hM l h
 | .ic _ x,h=>dY hM x h
 | .ag l,h=>⟨dt hM l h.1,h.2⟩
 | .cb _,h| .bo _,h| .ci _ _,h| .it _ _,h| .bt _,h| .st _,h| .nl _,h| .key _,h| .sl _,h| .by _,h| .ob _,h=>h
theorem dt {M:Nat->Prop} (hM:∀i,N i->M i):∀l,fM N l->fM M l
 | [],_=>trivial
 |x::l,h=>⟨dY hM x h.1,dt hM l h.2⟩
end
def Env.bE (N:Nat->Prop) (J ρ':Env):Prop:=∀i,N i->ρ'.num i=J.num i/\ρ'.cap i=J.cap i/\ρ'.adr i=J.adr i/\ρ'.sa i=J.sa i/\ρ'.sn i=J.sn i/\ρ'.ob i=J.ob i
theorem Env.bE.refl (N:Nat->Prop) (J:Env):Env.bE N J J:=fun _ _=>⟨rfl,rfl,rfl,rfl,rfl,rfl⟩
theorem Env.bE.trans {J ρ' ρ'':Env} {M:Nat->Prop} (h:Env.bE N J ρ') (h':Env.bE M ρ' ρ'') (hM:∀i,N i->M i):Env.bE N J ρ'':=fun i hi=>by
 obtain⟨a,b,c,d,e,f⟩:=h i hi;obtain⟨a',b',c',d',e',f'⟩:=h' i (hM i hi);exact⟨a'.trans a,b'.trans b,c'.trans c,d'.trans d,e'.trans e,f'.trans f⟩
theorem Env.bE.mono {J ρ':Env} {M:Nat->Prop} (h:Env.bE N J ρ') (hM:∀i,M i->N i):Env.bE M J ρ':=fun i hi=>h i (hM i hi)
mutual
theorem gj {J ρ':Env} (h:Env.bE N J ρ'):∀v,ok N v->den ρ' v=den J v
 | .lp id _,hv=>by simp only[den,(h id hv).1]
 | .yl id,hv=>by simp only[den,(h id hv).1]
 | .mp id,hv=>by simp only[den,(h id hv).1]
 | .ch b f l y,hv=>by
   cases b
   ·simp only[den];exact gj h y hv.2.1
   ·simp only[den,fT h l hv.1]
 | .lx id _ _ _ _ _,hv=>by simp only[den,(h id hv.1).1]
 | .sc id _ _,hv=>by simp only[den,(h id hv).1]
 | .so id _,hv=>by simp only[den,(h id hv).1,(h id hv).2.1]
 | .ap id _ _ _,hv=>by simp only[den,(h id hv).2.2.1]
 | .ax id _ _ _ _ _ _ _,hv=>by simp only[den,(h id hv.1).2.2.1]
 | .bs x _ _,hv=>by simp only[den,gj h x hv.1]
 | .ks x _ _ _ _,hv=>by simp only[den,gj h x hv.1]
 | .sa id,hv=>by simp only[den,(h id hv).2.1,(h id hv).2.2.2.1,(h id hv).2.2.2.2.1]
 | .op id _,hv=>by simp only[den,(h id hv).2.2.2.2.2]
 | .fn _ l,hv=>by simp only[den,fT h l hv]
 | .tp l,hv=>by simp only[den,fT h l hv]
 | .ag l,hv=>by simp only[den,u4 h l hv.1]
 | .ic _ x,hv=>by simp only[den,gj h x hv]
 | .cb _,_| .bo _,_| .ci _ _,_| .it _ _,_| .bt _,_| .st _,_| .nl _,_| .key _,_| .sl _,_| .by _,_| .ob _,_=>by simp only[den]
theorem fT {J ρ':Env} (h:Env.bE N J ρ'):∀l,fM N l->bB ρ' l=bB J l
 | [],_=>rfl
 |x::l,hv=>by simp only[bB,gj h x hv.1,fT h l hv.2]
theorem u4 {J ρ':Env} (h:Env.bE N J ρ'):∀l,fM N l->bp ρ' l=bp J l
 | [],_=>rfl
 |x::l,hv=>by simp only[bp,gj h x hv.1,u4 h l hv.2]
end
theorem dW {J ρ':Env} (h:Env.bE N J ρ') (v:V) (hv:ok N v):cells ρ' v=cells J v:=by simp only[cells,gj h v hv]
end Go.Sx
namespace Go.Sx
variable {N:Nat->Prop}
theorem cL.fY (s:cL) (i:Nat) (k:Key) (j:Nat) (h:i<16):(s.put i k).at j=if j=i then k else s.at j:=by
 unfold cL.at cL.put;simp only[Vector.toArray_setIfInBounds,Array.getD_eq_getD_getElem?];by_cases e:j=i
 ·subst e;simp[h]
 ·rw[aa8 e,Array.getElem?_setIfInBounds_ne (Ne.symm e)]
theorem Bytes.fY (s:Bytes) (i:Nat) (k:UInt8) (j:Nat) (h:i<64):(s.put i k).at j=if j=i then k else s.at j:=by
 unfold Bytes.at Bytes.put;simp only[Vector.toArray_setIfInBounds,Array.getD_eq_getD_getElem?];by_cases e:j=i
 ·subst e;simp[h]
 ·rw[aa8 e,Array.getElem?_setIfInBounds_ne (Ne.symm e)]
theorem pL {α:Type} (f:Nat->List α) (n i:Nat) (h:i<n):
  (List.range n).flatMap f=(List.range i).flatMap f++f i++(List.range' (i+1) (n-i-1)).flatMap f:=by
 have e:List.range n=List.range i++(i::List.range' (i+1) (n-i-1)):=by
  have h1:=List.range'_append (s:=0) (m:=i) (n:=n-i-1+1) (step:=1);rw[List.range_eq_range',List.range_eq_range',<-List.range'_succ];simp only[Nat.zero_add,Nat.one_mul]at h1;rw[h1];congr 1;omega
 rw[e];simp
theorem ny {α:Type} (f g:Nat->List α) (l:List Nat) (h:∀j∈l,f j=g j):l.flatMap f=l.flatMap g:=by
 induction l with
 |nil=>rfl
 |cons x l ih=>simp[h x (by simp),ih fun j hj=>h j (by simp[hj])]
theorem wS {α:Type} (f:Nat->List α) (m:Nat) (l:List Nat) (h:∀j,(f j).length=m):(l.flatMap f).length=l.length*m:=by
 induction l with
 |nil=>simp
 |cons x l ih=>simp[h x,ih,Nat.succ_mul];omega
theorem nA (s:cL) (i:Nat) (h:i<16):
  ∃p q,gg s=p++dZ (s.at i)++q/\p.length=i*6/\∀k,gg (s.put i k)=p++dZ k++q:=by
 refine⟨_,_,pL _ 16 i h,by rw[wS _ 6 _ (fun j=>mO _)];simp,fun k=>?_⟩
 unfold gg;rw[pL _ 16 i h,cL.fY _ _ _ _ h,aa9 rfl];congr 1
 ·grind[ny,cL.fY]
 ·grind[ny,cL.fY]
theorem cL.Mq {s:cL} {i:Nat} {k:Key} (h:s.wf) (hk:k.wf) (hi:i<16):(s.put i k).wf:=by
 intro j hj;rw[cL.fY _ _ _ _ hi];split
 ·exact hk
 ·exact h j hj
theorem nq (s:Bytes) (i:Nat) (h:i<64):
  ∃p q,cZ s=p++ [.int .u8 ((s.at i).toNat:Int)]++q/\p.length=i/\∀k,cZ (s.put i k)=p++ [.int .u8 (k.toNat:Int)]++q:=by
 have e:∀t:Bytes,cZ t=(List.range 64).flatMap fun j=> [.int .u8 ((t.at j).toNat:Int)]:=fun t=>by
  simp[cZ,<-List.map_eq_flatMap]
 refine⟨_,_,(e s).trans (pL _ 64 i h),by rw[wS _ 1 _ (fun j=>rfl)];simp,fun k=>?_⟩
 rw[e,pL _ 64 i h,Bytes.fY _ _ _ _ h,aa9 rfl];congr 1
 ·grind[ny,Bytes.fY]
 ·grind[ny,Bytes.fY]
def AP:V->Option Int
 | .ci .i64 n=>some n
 | .it .i64 n=>some n
 |_=>none
theorem zi (J:Env) {v:V} {n:Int} (h:AP v=some n):cells J v= [i64 n]/\fi v=1/\(ok N v->bY .i64 n):=by
 cases v<;>simp[AP]at h
 ·rename_i k m;cases k<;>simp at h;subst h;exact⟨rfl,rfl,id⟩
 ·rename_i k m;cases k<;>simp at h;subst h;exact⟨rfl,rfl,id⟩
def toByte:V->Option UInt8
 | .bt b=>some b
 | .ci .u8 n=>if decide (0<=n)&&decide (n<256)then some (UInt8.ofNat n.toNat)else none
 |_=>none
theorem rk (J:Env) {v:V} {n:UInt8} (h:toByte v=some n):cells J v= [.int .u8 (n.toNat:Int)]/\fi v=1:=by
 cases v<;>simp[toByte]at h
 ·rename_i k m;cases k<;>simp at h
  obtain⟨⟨h1,h2⟩,rfl⟩:=h;refine⟨?_,rfl⟩;simp only[cells,den,Value.cells];simp;omega
 ·subst h;exact⟨rfl,rfl⟩
def z6 (g:V->Nat->V->Option V):List V->Nat->V->Option (List V)
 | [],_,_=>none
 |x::l,off,y=>if off<fi x then(g x off y).map (· ::l)else(z6 g l (off-fi x) y).map (x:: ·)
def GY (k:Key) (off:Nat) (y:V):Option V:=
 match AP y with
 |none=>none
 |some n=>match off with
  |0=>some (.key {k with kind:=n})
  |1=>some (.key {k with oid:=n})
  |2=>some (.key {k with count:=n})
  |3=>some (.key {k with call:=n})
  |4=>some (.key {k with rights:=n})
  |5=>some (.key {k with value:=n})
  |_=>none
def oz (o:Obj) (off:Nat) (y:V):Option V:=
 match AP y with
 |none=>none
 |some n=>match off with
  |0=>some (.ob {o with kind:=n})
  |1=>some (.ob {o with count:=n})
  |2=>some (.ob {o with calls:=n})
  |_=>none
def setAt:Nat->V->Nat->V->Option V
 |0,_,_,_=>none
 |f+1,v,off,y=>
  if off==0&&fi y==fi v&&jP y==jP v then some y
  else match v with
   | .ag l=>(z6 (setAt f) l off y).map .ag
   | .key k=>GY k off y
   | .sl s=>if off<96 then match setAt f (.key (s.at (off / 6))) (off%6) y with
     |some (.key k)=>some (.sl (s.put (off / 6) k))
     |_=>none
     else none
   | .by b=>if off<64 then(toByte y).map fun x=> .by (b.put off x)else none
   | .ob o=>if off<3 then oz o off y
     else if off<99 then match setAt f (.sl o.slots) (off-3) y with
      |some (.sl s)=>some (.ob {o with slots:=s})
      |_=>none
     else match setAt f (.by o.bytes) (off-99) y with
      |some (.by s)=>some (.ob {o with bytes:=s})
      |_=>none
   |_=>none
def HQ (N:Nat->Prop) (J:Env) (v v':V) (off:Nat) (y:V):Prop:=
 (∃p m q,cells J v=p++m++q/\cells J v'=p++cells J y++q/\p.length=off/\m.length=fi y)/\jP v'=jP v/\ok N v'/\cS v'=false
theorem EJ (J:Env) {k:Key} {off:Nat} {y v':V} (hk0:k.wf) (hy0:ok N y) (h:GY k off y=some v'):HQ N J (.key k) v' off y:=by
 obtain⟨w1,w2,w3,w4,w5,w6⟩:=hk0;unfold GY at h;cases hy:AP y with
 |none=>simp[hy]at h
 |some n=>
  simp only[hy]at h;obtain⟨h1,h2,hn⟩:=zi (N:=N) J hy;have hn:=hn hy0;have hk:cells J (.key k)=dZ k:=by simp[cells,den,Value.cells]
  split at h<;>simp only[aa0,reduceCtorEq]at h<;>subst h<;>
   refine⟨?_,rfl,⟨by assumption,by assumption,by assumption,by assumption,by assumption,by assumption⟩,rfl⟩<;>rw[h1,h2,hk]<;>simp only[cells,den,Value.cells,dZ]
  ·exact⟨[],[i64 k.kind],_,rfl,rfl,rfl,rfl⟩
  ·exact⟨[i64 k.kind],[i64 k.oid],_,rfl,rfl,rfl,rfl⟩
  ·exact⟨[i64 k.kind,i64 k.oid],[i64 k.count],_,rfl,rfl,rfl,rfl⟩
  ·exact⟨[i64 k.kind,i64 k.oid,i64 k.count],[i64 k.call],_,rfl,rfl,rfl,rfl⟩
  ·exact⟨[i64 k.kind,i64 k.oid,i64 k.count,i64 k.call],[i64 k.rights],_,rfl,rfl,rfl,rfl⟩
  ·exact⟨[i64 k.kind,i64 k.oid,i64 k.count,i64 k.call,i64 k.rights],[i64 k.value],[],rfl,rfl,rfl,rfl⟩
theorem jQ (J:Env) (o:Obj):cells J (.ob o)=eE o:=by simp[cells,den,Value.cells]
theorem nY (J:Env) (o:cL):cells J (.sl o)=gg o:=by simp[cells,den,Value.cells]
theorem kF (J:Env) (o:Bytes):cells J (.by o)=cZ o:=by simp[cells,den,Value.cells]
theorem sq (J:Env) (o:Key):cells J (.key o)=dZ o:=by simp[cells,den,Value.cells]
theorem fB (J:Env) (l:List V):cells J (.ag l)=bp J l:=by simp[cells,den,Value.cells]
theorem F2 (J:Env) {o:Obj} {off:Nat} {y v':V} (hk0:o.wf) (hy0:ok N y) (h:oz o off y=some v'):HQ N J (.ob o) v' off y:=by
 obtain⟨w1,w2,w3,w4⟩:=hk0;unfold oz at h;cases hy:AP y with
 |none=>simp[hy]at h
 |some n=>
  simp only[hy]at h;obtain⟨h1,h2,hn⟩:=zi (N:=N) J hy;have hn:=hn hy0
  split at h<;>simp only[aa0,reduceCtorEq]at h<;>subst h<;>
   refine⟨?_,rfl,⟨by assumption,by assumption,by assumption,by assumption⟩,rfl⟩<;>rw[h1,h2,jQ,jQ]<;>simp only[eE]
  ·exact⟨[],[i64 o.kind],_,rfl,rfl,rfl,rfl⟩
  ·exact⟨[i64 o.kind],[i64 o.count],_,rfl,rfl,rfl,rfl⟩
  ·exact⟨[i64 o.kind,i64 o.count],[i64 o.calls],_,rfl,rfl,rfl,rfl⟩
theorem HQ.whole (J:Env) {v y:V} (hv:ok N v) (hy:ok N y) (hs:fi y=fi v) (ha:jP y=jP v) (ht:cS y=false):HQ N J v y 0 y:=
 ⟨⟨[],cells J v,[],by simp,by simp,rfl,by rw[bg J v hv,hs]⟩,ha,hy,ht⟩
theorem z9 (J:Env) (g:V->Nat->V->Option V) (y:V)
  (hg:∀x off x',ok N x->cS x=false->g x off y=some x'->HQ N J x x' off y):
  ∀(l:List V) (off:Nat) (l':List V),fM N l->tg l->z6 g l off y=some l'->HQ N J (.ag l) (.ag l') off y
 | [],_,_,_,_,h=>by simp[z6]at h
 |x::l,off,l',hk,hc,h=>by
  have hc':=(eF _).1 hc;simp only[fM]at hk;simp only[z6]at h;split at h
  ·cases hx:g x off y with
   |none=>simp[hx]at h
   |some x'=>
    simp only[hx,Option.map_some,aa0]at h;subst h;obtain⟨⟨p,m,q,h1,h2,h3,h4⟩,_,h6,h7⟩:=hg x off x' hk.1 (hc' x (by simp)) hx
    refine⟨⟨p,m,q++bp J l,?_,?_,h3,h4⟩,rfl,⟨⟨h6,hk.2⟩,(eF _).2 ?_⟩,rfl⟩
    ·grind[fB,bp,den,cells]
    ·grind[fB,bp,den,cells]
    ·simp_all
  ·cases hx:z6 g l (off-fi x) y with
   |none=>simp[hx]at h
   |some l2=>
    simp only[hx,Option.map_some,aa0]at h;subst h;obtain⟨⟨p,m,q,h1,h2,h3,h4⟩,_,h6,_⟩:=z9 J g y hg l _ l2 hk.2 ((eF _).2 fun z hz=>hc' z (by simp[hz])) hx
    have hl:=bg J x hk.1;rw[fB]at h1 h2;refine⟨⟨cells J x++p,m,q,?_,?_,by simp;omega,h4⟩,rfl,⟨⟨hk.1,h6.1⟩,(eF _).2 ?_⟩,rfl⟩
    ·rw[fB];simp only[bp,h1];simp[cells]
    ·rw[fB];simp only[bp,h2];simp[cells]
    ·intro z hz;rcases List.mem_cons.1 hz with rfl|hz
     ·exact hc' _ (by simp)
     ·exact(eF _).1 h6.2 z hz
theorem iy (J:Env) (y:V) (hy:ok N y) (hty:cS y=false):∀(f:Nat) (v:V) (off:Nat) (v':V),ok N v->cS v=false->setAt f v off y=some v'->HQ N J v v' off y
 |0,_,_,_,_,_,h=>by simp[setAt]at h
 |f+1,v,off,v',hv,ht,h=>by
  simp only[setAt]at h;split at h
  ·simp_all[HQ.whole]
  ·split at h
   ·rename_i l _;cases hs:z6 (setAt f) l off y with
    |none=>simp[hs]at h
    |some l'=>
     simp only[hs,Option.map_some,aa0]at h;subst h;exact z9 J _ y (fun x o x' hx hxt hg=>iy J y hy hty f x o x' hx hxt hg) l off l' hv.1 hv.2 hs
   ·exact EJ J hv hy h
   ·rename_i s _;split at h
    ·rename_i hlt;split at h<;>simp only[aa0,reduceCtorEq]at h
     rename_i k hk;subst h;obtain⟨⟨p,m,q,h1,h2,h3,h4⟩,_,hkw,_⟩:=iy J y hy hty f (.key _) _ _ (hv (off / 6) (by omega)) rfl hk
     obtain⟨P,Q,e1,e2,e3⟩:=nA s (off / 6) (by omega)
     rw[sq]at h1 h2;refine⟨⟨P++p,m,q++Q,?_,?_,by simp;omega,h4⟩,rfl,cL.Mq hv hkw (by omega),rfl⟩
     ·rw[nY,e1,h1];simp
     ·rw[nY,e3,h2];simp
    ·simp at h
   ·rename_i b _;split at h
    ·rename_i hlt;cases hb:toByte y with
     |none=>simp[hb]at h
     |some x=>
      simp only[hb,Option.map_some,aa0]at h;subst h;obtain⟨h1,h2⟩:=rk J hb;obtain⟨P,Q,e1,e2,e3⟩:=nq b off hlt;refine⟨⟨P,[.int .u8 ((b.at off).toNat:Int)],Q,?_,?_,e2,?_⟩,rfl,trivial,rfl⟩
      ·rw[kF,e1]
      ·rw[kF,e3,h1]
      ·rw[h2];rfl
    ·simp at h
   ·rename_i o _;split at h
    ·exact F2 J hv hy h
    ·split at h
     ·split at h<;>simp only[aa0,reduceCtorEq]at h
      rename_i s hs;subst h;obtain⟨w1,w2,w3,w4⟩:=hv;obtain⟨⟨p,m,q,h1,h2,h3,h4⟩,_,hsw,_⟩:=iy J y hy hty f (.sl _) _ _ w4 rfl hs;rw[nY]at h1 h2;refine⟨⟨i64 o.kind::i64 o.count::i64 o.calls::p,m,q++cZ o.bytes,?_,?_,by simp;omega,h4⟩,rfl,⟨w1,w2,w3,hsw⟩,rfl⟩
      ·rw[jQ,eE,h1];simp
      ·rw[jQ,eE];simp only[h2];simp
     ·split at h<;>simp only[aa0,reduceCtorEq]at h
      rename_i s hs;subst h;obtain⟨⟨p,m,q,h1,h2,h3,h4⟩,_⟩:=iy J y hy hty f (.by _) _ _ trivial rfl hs
      rw[kF]at h1 h2;have hl:=iN o.slots;refine⟨⟨i64 o.kind::i64 o.count::i64 o.calls::(gg o.slots++p),m,q,?_,?_,by simp;omega,h4⟩,rfl,hv,rfl⟩
      ·rw[jQ,eE,h1];simp
      ·rw[jQ,eE];simp only[h2];simp
   ·simp at h
theorem HQ.size {J:Env} {v v' y:V} {off:Nat} (h:HQ N J v v' off y) (hy:ok N y):(cells J v').length=(cells J v).length:=by
 obtain⟨⟨p,m,q,h1,h2,h3,h4⟩,_⟩:=h;rw[h1,h2];simp[bg J y hy,h4]
def Yp (v:V) (esz n i inner sz:Nat) (a:Bool):Option V:=
 match v with
 | .sl s=>if esz==6&&n==16 then iP 3 (.key (s.at i)) inner sz a else none
 | .by b=>if esz==1&&n==64&&inner==0&&sz==1&& !a then some (.bt (b.at i))else none
 |_=>none
theorem Jk (J:Env) {v:V} {esz n i inner sz:Nat} {a:Bool} {r:V} (hv:ok N v) (hi:i<n) (h:Yp v esz n i inner sz a=some r):
  (∃p q,cells J v=p++cells J r++q/\i*esz+inner=p.length)/\fi r=sz/\jP r=a/\ok N r/\cS r=false:=by
 cases v<;>simp only[Yp,reduceCtorEq]at h
 ·rename_i s;split at h
  ·rename_i hc;simp only[aa2,aa4]at hc;obtain⟨rfl,rfl⟩:=hc;obtain⟨⟨p,q,h1,h2⟩,h3⟩:=ff J 3 (.key _) _ _ _ _ (hv i hi) rfl h;obtain⟨P,Q,e1,e2,e3⟩:=nA s i hi;rw[sq]at h1;exact⟨⟨P++p,q++Q,by rw[nY,e1,h1];simp,by simp;omega⟩,h3⟩
  ·simp at h
 ·rename_i b;split at h
  ·rename_i hc;simp only[aa2,aa4,Bool.not_eq_true']at hc;obtain⟨⟨⟨⟨rfl,rfl⟩,rfl⟩,rfl⟩,rfl⟩:=hc;simp only[aa0]at h;subst h;obtain⟨P,Q,e1,e2,e3⟩:=nq b i hi;exact⟨⟨P,Q,by rw[kF,e1];rfl,by omega⟩,rfl,rfl,trivial,rfl⟩
  ·simp at h
def Ud (v:V) (esz n i inner:Nat) (y:V):Option V:=
 match v with
 | .sl s=>if esz==6&&n==16 then match setAt 3 (.key (s.at i)) inner y with
   |some (.key k)=>some (.sl (s.put i k))
   |_=>none
   else none
 | .by b=>if esz==1&&n==64&&inner==0 then(toByte y).map fun x=> .by (b.put i x)else none
 |_=>none
theorem JW (J:Env) {v:V} {esz n i inner:Nat} {y v':V} (hv:ok N v) (hi:i<n) (hy:ok N y) (hty:cS y=false) (h:Ud v esz n i inner y=some v'):
  HQ N J v v' (i*esz+inner) y/\fi v'=fi v:=by
 cases v<;>simp only[Ud,reduceCtorEq]at h
 ·rename_i s;split at h
  ·rename_i hc;simp only[aa2,aa4]at hc;obtain⟨rfl,rfl⟩:=hc;split at h<;>simp only[aa0,reduceCtorEq]at h
   rename_i k hk;subst h;obtain⟨⟨p,m,q,h1,h2,h3,h4⟩,_,hkw,_⟩:=iy J y hy hty _ (.key _) _ _ (hv i hi) rfl hk;obtain⟨P,Q,e1,e2,e3⟩:=nA s i hi;rw[sq]at h1 h2;refine⟨⟨⟨P++p,m,q++Q,?_,?_,by simp;omega,h4⟩,rfl,cL.Mq hv hkw hi,rfl⟩,rfl⟩
   ·rw[nY,e1,h1];simp
   ·rw[nY,e3,h2];simp
  ·simp at h
 ·rename_i b;split at h
  ·rename_i hc;simp only[aa2,aa4]at hc;obtain⟨⟨rfl,rfl⟩,rfl⟩:=hc;cases hb:toByte y with
   |none=>simp[hb]at h
   |some x=>
    simp only[hb,Option.map_some,aa0]at h;subst h;obtain⟨h1,h2⟩:=rk J hb;obtain⟨P,Q,e1,e2,e3⟩:=nq b i hi;refine⟨⟨⟨P,[.int .u8 ((b.at i).toNat:Int)],Q,?_,?_,by omega,?_⟩,rfl,trivial,rfl⟩,rfl⟩
    ·rw[kF,e1]
    ·rw[kF,e3,h1]
    ·rw[h2];rfl
  ·simp at h
def IE (c:V) (off esz n i inner:Nat) (y:V):Option V:=
 match iP 8 c off (n*esz) true with
 |none=>none
 |some x=>match Ud x esz n i inner y with
  |none=>none
  |some x'=>setAt 8 c off x'
theorem lC {α:Type} {p p' m m' q q':List α} (h:p++m++q=p'++m'++q') (h1:p.length=p'.length) (h2:m.length=m'.length):p=p'/\m=m'/\q=q':=by
 rw[List.append_assoc,List.append_assoc]at h;obtain⟨e1,e2⟩:=List.append_inj h h1;obtain⟨e3,e4⟩:=List.append_inj e2 h2;exact⟨e1,e3,e4⟩
theorem GL (J:Env) {c:V} {off esz n i inner:Nat} {y c':V} (hc:ok N c) (ht:cS c=false) (hi:i<n) (hy:ok N y) (hty:cS y=false) (h:IE c off esz n i inner y=some c'):
  HQ N J c c' (off+i*esz+inner) y:=by
 unfold IE at h;cases hx:iP 8 c off (n*esz) true with
 |none=>simp[hx]at h
 |some x=>
  simp only[hx]at h;cases hx':Ud x esz n i inner y with
  |none=>simp[hx']at h
  |some x'=>
   simp only[hx']at h;obtain⟨⟨p,q,h1,h2⟩,hsz,_,h5,h6⟩:=ff J _ _ _ _ _ _ hc ht hx;obtain⟨⟨⟨P,M,Q,e1,e2,e3,e4⟩,e5,e6,e7⟩,e8⟩:=JW J h5 hi hy hty hx';obtain⟨⟨p2,m2,q2,f1,f2,f3,f4⟩,f5,f6,f7⟩:=iy J x' e6 e7 8 c off c' hc ht h;obtain⟨rfl,rfl,rfl⟩:=lC (f1.symm.trans h1) (by omega) (by rw[f4,bg J x h5,e8])
   refine⟨⟨p2++P,M,Q++q2,?_,?_,by simp;omega,e4⟩,f5,f6,f7⟩
   ·rw[h1,e1];simp
   ·rw[f2,e2];simp
end Go.Sx
namespace Go.Sx
open Go.RowKit (Below)
def aj {α:Type} (l:List α) (i:Nat) (d:α):α:=l.getD i d
def ai {α:Type} (l:List α):Nat:=l.length
inductive TL where
 |fn (n:Nat) (get:Nat->V)
 |ob (l:List Obj)
 |key (l:List Key)
 |it (k:IntKind) (l:List Int)
 |bo (l:List Bool)
 |st (l:List ByteArray)
def TL.len:TL->Nat
 | .fn n _=>n
 | .ob l=>ai l
 | .key l=>ai l
 | .it _ l=>ai l
 | .bo l=>ai l
 | .st l=>ai l
def TL.get:TL->Nat->V
 | .fn _ g,i=>g i
 | .ob l,i=> .ob (aj l i free)
 | .key l,i=> .key (aj l i void)
 | .it k l,i=> .it k (aj l i 0)
 | .bo l,i=> .bo (aj l i false)
 | .st l,i=> .st (aj l i ByteArray.empty)
inductive aK where
 |yet
 |gone
 |blk (ty:Nat) (c:V)
 |arr (own:Option Nat) (esz:Nat) (l:TL)
 |obs (ty q:Nat) (L:List Obj)
 |gen (j:Nat)
 |store (ty e:Nat) (L:List Obj)
 |lop (r:Loop) (s:LoopState) (j:Option Code)
 |dfr
 |mp (k:IntKind) (ks:List Int) (vs:List V)
 |mq (ks:List (List Int)) (vs:List V)
 |ro (r:aK)
def ay:List aK->Nat->aK
 | [],_=> .yet
 |r::_,0=>r
 |_::l,i+1=>ay l i
def bO:List aK->Nat->aK->List aK
 | [],_,_=> []
 |_::l,0,r=>r::l
 |x::l,i+1,r=>x::bO l i r
theorem m8:∀(l:List aK) (i:Nat),ay l i=l.getD i .yet
 | [],i=>by simp[ay]
 |r::l,0=>by simp[ay]
 |r::l,i+1=>by simp[ay,m8 l i]
theorem kJ:∀(l:List aK) (i:Nat) (r:aK),bO l i r=l.set i r
 | [],i,r=>by simp[bO]
 |x::l,0,r=>by simp[bO]
 |x::l,i+1,r=>by simp[bO,kJ l i]
theorem bK (l:List aK) (i j:Nat) (r:aK) (h:i<l.length):ay (bO l i r) j=if j=i then r else ay l j:=by
 grind[kJ,m8]
theorem aO {l:List aK} {i:Nat} (h:ay l i≠ .yet):i<l.length:=by
 grind[m8]
def known (res:List aK) (i:Nat):Prop:=ay res i≠ .yet
def Env.zero:Env:=⟨fun _=>0,fun _=>0,fun _=>⟨0,0,none⟩,fun _=>none,fun _=>0,fun _ _=>0⟩
def TL.cells (l:TL):List Value:=(List.range l.len).flatMap fun j=>Sx.cells Env.zero (l.get j)
def Env.sl (J:Env) (i:Nat):Value:= .slice (J.sa i) (J.sn i) (J.cap i)
def jZ (l:List Int):Value:= .agg (l.map i64).toArray
def aK.holds (K:Nat->Prop) (J:Env) (i:Nat) (fp:Nat->Prop) (w0:World) (F0:Nat->Prop) (w:World):aK->Prop
 | .yet=>True
 | .gone=>True
 | .blk ty c=>ok K c/\cS c=false/\fp (J.num i)/\w.heap[J.num i]? =some (.cells (cells J c).toArray ty (0,0))
 | .arr own esz l=>(∀j,j<l.len->ok (fun _=>False) (l.get j)/\cS (l.get j)=false/\fi (l.get j)=esz)/\
   J.sn i=l.len/\l.len<=9223372036854775807/\(∀a,J.sa i=some a->a=J.adr i)/\(0<l.len->(J.sa i).isSome=true)/\(0<l.len->(J.adr i).spot=none)/\
   ((own=none/\(0<l.len->¬F0 (J.adr i).block/\(J.adr i).block<w0.heap.size)/\
     ∀j,j<l.len->∀k,k<esz->w0.cell? ⟨(J.adr i).block,(J.adr i).off+(j*esz+k),none⟩=(cells J (l.get j))[k]?)\/
    ∃e,(∀e',own=some e'->e'=e)/\w.ownsRow 0 e esz (J.sl i) l.len l.cells/\∀a,J.sa i=some a->fp a.block)
 | .gen _=>True
 | .obs ty q L=>K q/\(∀o∈L,o.wf)/\J.sn i=L.length/\L.length<=9223372036854775807/\(∀a,J.sa i=some a->a=J.adr i/\fp a.block)/\(0<L.length->(J.sa i).isSome=true)/\
   w.ownsRow 0 ty 1 (J.sl i) L.length ((List.range L.length).map fun j=>Value.pointer (some ⟨J.ob q j,0,none⟩))/\
   ∀j,j<L.length->fp (J.ob q j)/\∃t,w.heap[J.ob q j]? =some (.cells (eE (L.getD j free)).toArray t (0,0))
 | .store ty e L=>fp (J.num i)/\(∀o∈L,o.wf)/\L.length<=9223372036854775807/\∃(sl:Value) (ob:Nat->Nat),w.heap[J.num i]? =some (.cells #[sl] ty (0,0))/\
   w.ownsRow 0 e 1 sl L.length ((List.range L.length).map fun j=>Value.pointer (some ⟨ob j,0,none⟩))/\(∀b,sl.ownBlock=some b->fp b/\b≠J.num i)/\
   ∀j,j<L.length->fp (ob j)/\ob j≠J.num i/\∃t,w.heap[ob j]? =some (.cells (eE (L.getD j free)).toArray t (0,0))
 | .lop r s j=>fp (J.num i)/\w.heap[J.num i]? =some (.loop {r with state:=s,pending:=j})
 | .dfr=>(∀j,j<J.sn i->fp (J.ob i j)/\w.heap[J.ob i j]? =some (.deferred (some [])))/\∀j k,j<J.sn i->k<J.sn i->J.ob i j=J.ob i k->j=k
 | .mp k ks vs=>fp (J.num i)/\fM K vs/\tg vs/\(∀c∈ks,bY k c)/\ks.length=vs.length/\∃es clock,w.heap[J.num i]? =some (.map es clock)/\es.toList.map (·.key)=ks.map (Value.int k)/\es.toList.map (·.val)=bB J vs
 | .mq ks vs=>fp (J.num i)/\fM K vs/\tg vs/\(ks.length=vs.length/\ks.Nodup)/\∃es clock,w.heap[J.num i]? =some (.map es clock)/\(es.toList.map fun e=>(e.key,e.val)).Perm ((ks.map jZ).zip (bB J vs))
 | .ro r=>∃fp':Nat->Prop,aK.holds K J i fp' w0 F0 w0 r/\∀b,fp' b->b<w0.heap.size/\¬F0 b
theorem AB {w w':World} {e size:Nat} {v:Value} {n:Nat} {xs:List Value} (h:w.ownsRow 0 e size v n xs) (hw:∀b,v.ownBlock=some b->w'.heap[b]? =w.heap[b]?):w'.ownsRow 0 e size v n xs:=by
 refine⟨h.1,?_⟩;rcases h.2 with h0|⟨g,cap,cur,h1,h2,h3,h4⟩
 ·exact .inl h0
 ·refine .inr ⟨g,cap,cur,h1,h2,?_,h4⟩;rw[hw g (by rw[h1];rfl)]
  exact h3
theorem vB {w w':World} {e size:Nat} {J:Env} {i n:Nat} {xs:List Value} (h:w.ownsRow 0 e size (J.sl i) n xs) (hw:∀a,J.sa i=some a->w'.heap[a.block]? =w.heap[a.block]?):w'.ownsRow 0 e size (J.sl i) n xs:=by
 refine⟨h.1,?_⟩;rcases h.2 with h0|⟨g,cap,cur,h1,h2,h3,h4⟩
 ·exact .inl h0
 ·grind[Env.sl]
theorem aK.gm {K:Nat->Prop} {J:Env} {i:Nat} {fp:Nat->Prop} {w0:World} {F0:Nat->Prop} {w w':World} (r:aK)
  (h:r.holds K J i fp w0 F0 w) (hw:∀b,fp b->w'.heap[b]? =w.heap[b]?):r.holds K J i fp w0 F0 w':=by
 cases r with
 |yet=>trivial
 |gone=>trivial
 |blk ty c=>exact⟨h.1,h.2.1,h.2.2.1,by rw[hw _ h.2.2.1];exact h.2.2.2⟩
 |arr own esz l=>
  obtain⟨h1,h2,h3,h4,h5,h6,h7⟩:=h;refine⟨h1,h2,h3,h4,h5,h6,?_⟩;rcases h7 with h7|⟨e,e1,e2,e3⟩
  ·exact .inl h7
  ·exact .inr ⟨e,e1,vB e2 fun a ha=>hw _ (e3 a ha),e3⟩
 |gen j=>trivial
 |obs ty q L=>
  obtain⟨h0,h1,h2,h3,h4,h5,h6,h7⟩:=h;refine⟨h0,h1,h2,h3,h4,h5,vB h6 fun a ha=>hw _ (h4 a ha).2,fun j hj=>?_⟩
  obtain⟨g1,t,g2⟩:=h7 j hj;exact⟨g1,t,by rw[hw _ g1];exact g2⟩
 |store ty e L=>
  obtain⟨h0,h1,h2,sl,ob,h3,h5,h6,h7⟩:=h;refine⟨h0,h1,h2,sl,ob,by rw[hw _ h0];exact h3,AB h5 fun b hb=>hw _ (h6 b hb).1,h6,fun j hj=>?_⟩
  obtain⟨g1,g0,t,g2⟩:=h7 j hj;exact⟨g1,g0,t,by rw[hw _ g1];exact g2⟩
 |lop r s j=>exact⟨h.1,by rw[hw _ h.1];exact h.2⟩
 |dfr=>exact⟨fun j hj=>⟨(h.1 j hj).1,by rw[hw _ (h.1 j hj).1];exact(h.1 j hj).2⟩,h.2⟩
 |mp k ks vs=>
  obtain⟨h0,h1,h2,h3,h4,es,cl,h5,h6⟩:=h;exact⟨h0,h1,h2,h3,h4,es,cl,by rw[hw _ h0];exact h5,h6⟩
 |mq ks vs=>
  obtain⟨h0,h1,h2,h4,es,cl,h5,h6⟩:=h;exact⟨h0,h1,h2,h4,es,cl,by rw[hw _ h0];exact h5,h6⟩
 |ro r=>exact h
theorem aK.sI {K K':Nat->Prop} {J ρ':Env} {i:Nat} {fp:Nat->Prop} {w0:World} {F0:Nat->Prop} {w:World} (r:aK)
  (h:r.holds K J i fp w0 F0 w) (hK:∀j,K j->K' j) (ha:Env.bE K J ρ') (hi:K i):r.holds K' ρ' i fp w0 F0 w:=by
 obtain⟨a1,a2,a3,a4,a5,a6⟩:=ha i hi;have hsl:ρ'.sl i=J.sl i:=by simp only[Env.sl,a2,a4,a5]
 induction r generalizing fp w with
 |lop r s j=>exact⟨by rw[a1];exact h.1,by rw[a1];exact h.2⟩
 |dfr=>exact⟨fun j hj=>by rw[a5]at hj;rw[a6];exact h.1 j hj,by rw[a5,a6];exact h.2⟩
 |mp k ks vs=>
  obtain⟨h0,h1,h2,h3,h4,es,cl,h5,h6,h7⟩:=h;exact⟨by rw[a1];exact h0,dt hK _ h1,h2,h3,h4,es,cl,by rw[a1];exact h5,h6,by rw[fT ha vs h1];exact h7⟩
 |mq ks vs=>
  obtain⟨h0,h1,h2,h4,es,cl,h5,h7⟩:=h;exact⟨by rw[a1];exact h0,dt hK _ h1,h2,h4,es,cl,by rw[a1];exact h5,by rw[fT ha vs h1];exact h7⟩
 |store ty e L=>
  obtain⟨h0,h1,h2,sl,ob,h3,h5,h6,h7⟩:=h;exact⟨by rw[a1];exact h0,h1,h2,sl,ob,by rw[a1];exact h3,h5,by rw[a1];exact h6,by rw[a1];exact h7⟩
 |ro r ih=>
  obtain⟨fp',h1,h2⟩:=h;exact⟨fp',ih h1,h2⟩
 |yet=>trivial
 |gone=>trivial
 |blk ty c=>exact⟨dY hK _ h.1,h.2.1,by rw[a1];exact h.2.2.1,by rw[a1,dW ha c h.1];exact h.2.2.2⟩
 |arr own esz l=>
  obtain⟨h1,h2,h3,h4,h5,h6,h7⟩:=h;refine⟨h1,by rw[a5];exact h2,h3,by rw[a4,a3];exact h4,by rw[a4];exact h5,by rw[a3];exact h6,?_⟩
  rcases h7 with⟨e1,e2,e3⟩|⟨e,e1,e2,e3⟩
  ·refine .inl ⟨e1,by rw[a3];exact e2,fun j hj k hk=>?_⟩
   rw[a3,e3 j hj k hk,dW (N:=fun _=>False) (J:=J) (ρ':=ρ') (fun _ h=>h.elim) _ (h1 j hj).1]
  ·exact .inr ⟨e,e1,by rw[hsl];exact e2,by rw[a4];exact e3⟩
 |gen j=>trivial
 |obs ty q L=>
  obtain⟨h0,h1,h2,h3,h4,h5,h6,h7⟩:=h;have a6:=(ha q h0).2.2.2.2.2;exact⟨hK q h0,h1,by rw[a5];exact h2,h3,by rw[a4,a3];exact h4,by rw[a4];exact h5,by rw[hsl,a6];exact h6,by rw[a6];exact h7⟩
structure bq (J:Env) (fps:Nat->Nat->Prop) (res:List aK) (K:Nat->Prop) (w0:World) (F0:Nat->Prop) (w:World):Prop where
 sub:∀i,known res i->K i
 old:w0.heap.size<=w.heap.size
 os:w.os=w0.os
 tape:w.tape=w0.tape
 output:w.output=w0.output
 holds:∀i,known res i->(ay res i).holds K J i (fps i) w0 F0 w
 lt:∀i b,known res i->fps i b->b<w.heap.size
 disj:∀i j b,known res i->known res j->i≠j->fps i b->¬fps j b
 inF:∀i b,known res i->fps i b->b<w0.heap.size->F0 b
 same:∀b,b<w0.heap.size->¬F0 b->w.heap[b]? =w0.heap[b]?
def cH (l:List aK) (i:Nat):aK:=
 match ay l i with
 | .ro r=>r
 |r=>r
theorem dV {l:List aK} {i:Nat} {r:aK} (h:cH l i=r) (hr:r≠ .yet):known l i:=by
 grind[cH,known]
theorem bq.look {J:Env} {fps:Nat->Nat->Prop} {res:List aK} {K:Nat->Prop} {w0:World} {F0:Nat->Prop} {w:World} (h:bq J fps res K w0 F0 w) {i:Nat} {r:aK}
  (hr:cH res i=r) (hne:r≠ .yet):∃fp:Nat->Prop,r.holds K J i fp w0 F0 w/\∀b,fp b->b<w.heap.size:=by
 have hk:=dV hr hne;have hh:=h.holds i hk;unfold cH at hr;split at hr
 ·rename_i r' he;rw[he]at hh;subst hr;obtain⟨fp',h1,h2⟩:=hh;exact⟨fp',aK.gm _ h1 fun b hb=>h.same b (h2 b hb).1 (h2 b hb).2,fun b hb=>Nat.lt_of_lt_of_le (h2 b hb).1 h.old⟩
 ·subst hr;exact⟨fps i,hh,fun b hb=>h.lt i b hk hb⟩
def fresh (nid n:Nat) (i:Nat):Prop:=nid<=i/\i<nid+n
def n9 (K:Nat->Prop) (J ρ':Env) (nid:Nat) (new:List aK) (w0:World) (F0:Nat->Prop) (w w':World):Prop:=
 Below w.heap.size w w'/\Env.bE (fun i=>¬fresh nid new.length i) J ρ'/\
 ∃fp:Nat->Nat->Prop,(∀k,k<new.length->(ay new k).holds (fun i=>K i\/fresh nid new.length i) ρ' (nid+k) (fp k) w0 F0 w'/\∀b,fp k b->w.heap.size<=b/\b<w'.heap.size)/\
  ∀k l b,k<new.length->l<new.length->k≠l->fp k b->¬fp l b
theorem n9.refl (K:Nat->Prop) (J:Env) (nid:Nat) (w0:World) (F0:Nat->Prop) (w:World):n9 K J J nid [] w0 F0 w w:=
 ⟨Below.refl _ _,Env.bE.refl _ _,fun _ _=>False,fun k hk=>by simp at hk,fun k l b hk=>by simp at hk⟩
def Tp (res res':List aK) (nid:Nat) (new:List aK):Prop:=
 (∀i,known res i->ay res' i=ay res i/\¬fresh nid new.length i)/\
 (∀i,known res' i->known res i\/fresh nid new.length i)/\
 ∀k,k<new.length->ay res' (nid+k)=ay new k
theorem aK.oi {K K':Nat->Prop} {J:Env} {i:Nat} {fp:Nat->Prop} {w0:World} {F0:Nat->Prop} {w:World} (r:aK)
  (h:r.holds K J i fp w0 F0 w) (hK:∀j,K j->K' j):r.holds K' J i fp w0 F0 w:=by
 induction r generalizing fp w with
 |blk ty c=>exact⟨dY hK _ h.1,h.2⟩
 |mp k ks vs=>exact⟨h.1,dt hK _ h.2.1,h.2.2⟩
 |mq ks vs=>exact⟨h.1,dt hK _ h.2.1,h.2.2⟩
 |obs ty q L=>exact⟨hK q h.1,h.2⟩
 |ro r ih=>
  obtain⟨fp',h1,h2⟩:=h;exact⟨fp',ih h1,h2⟩
 |_=>exact h
theorem bq.grow {J ρ':Env} {fps:Nat->Nat->Prop} {res res':List aK} {w0:World} {F0:Nat->Prop} {w w':World} {nid:Nat} {new:List aK} {K K':Nat->Prop}
  (h:bq J fps res K w0 F0 w) (ha:Tp res res' nid new) (hKf:∀i,K i->¬fresh nid new.length i) (hK':∀i,K i\/fresh nid new.length i->K' i)
  (hg:n9 K J ρ' nid new w0 F0 w w'):
  ∃fps',bq ρ' fps' res' K' w0 F0 w'/\Env.bE K J ρ':=by
 obtain⟨hb,hag,fp,h1,h2⟩:=hg;obtain⟨a1,a2,a3⟩:=ha;have hag':Env.bE K J ρ':=hag.mono hKf;have hkey:∀i,known res i->¬fresh nid new.length i:=fun i hi=>(a1 i hi).2
 classical
 refine⟨fun i=>if fresh nid new.length i then fp (i-nid)else fps i,⟨?_,Nat.le_trans h.old hb.size,hb.os.trans h.os,hb.tape.trans h.tape,hb.output.trans h.output,?_,?_,?_,?_,?_⟩,hag'⟩
 ·intro i hi;rcases a2 i hi with hk|hf
  ·exact hK' i (.inl (h.sub i hk))
  ·exact hK' i (.inr hf)
 ·intro i hi;rcases a2 i hi with hk|hf
  ·simp only[aa8 (hkey i hk)];rw[(a1 i hk).1];exact aK.sI _ (aK.gm _ (h.holds i hk) fun b hbb=>hb.block b (h.lt i b hk hbb)) (fun j hj=>hK' j (.inl hj)) hag' (h.sub i hk)
  ·simp only[aa9 hf];obtain⟨e1,e2⟩:=hf;have:=(h1 (i-nid) (by omega)).1
   rw[show nid+(i-nid)=i by omega]at this
   have h3:=a3 (i-nid) (by omega)
   rw[show nid+(i-nid)=i by omega]at h3
   rw[h3];exact aK.oi _ this hK'
 ·intro i b hi hbb;rcases a2 i hi with hk|hf
  ·simp only[aa8 (hkey i hk)]at hbb;exact Nat.lt_of_lt_of_le (h.lt i b hk hbb) hb.size
  ·grind[fresh]
 ·intro i j b hi hj hne hbi hbj;rcases a2 i hi with hk|hf<;>rcases a2 j hj with hk'|hf'
  ·simp only[aa8 (hkey i hk)]at hbi;simp only[aa8 (hkey j hk')]at hbj;exact h.disj i j b hk hk' hne hbi hbj
  ·simp only[aa8 (hkey i hk)]at hbi;simp only[aa9 hf']at hbj;have:=((h1 (j-nid) (by unfold fresh at hf';omega)).2 b hbj).1
   have:=h.lt i b hk hbi;omega
  ·simp only[aa9 hf]at hbi;simp only[aa8 (hkey j hk')]at hbj;have:=((h1 (i-nid) (by unfold fresh at hf;omega)).2 b hbi).1
   have:=h.lt j b hk' hbj;omega
  ·grind[fresh]
 ·intro i b hi hbb hlt;rcases a2 i hi with hk|hf
  ·simp only[aa8 (hkey i hk)]at hbb;exact h.inF i b hk hbb hlt
  ·simp only[aa9 hf]at hbb;have:=((h1 (i-nid) (by unfold fresh at hf;omega)).2 b hbb).1
   have:=h.old;omega
 ·intro b hlt hF;rw[hb.block b (Nat.lt_of_lt_of_le hlt h.old)];exact h.same b hlt hF
theorem cF (l m:List aK) (i:Nat):ay (l++m) i=if i<l.length then ay l i else ay m (i-l.length):=by
 grind[m8]
theorem kV (res new:List aK):Tp res (res++new) res.length new:=by
 refine⟨fun i hi=>?_,fun i hi=>?_,fun k hk=>?_⟩
 ·have:=aO hi;exact⟨by rw[cF,aa9 this],by unfold fresh;omega⟩
 ·unfold known at hi⊢;rw[cF]at hi;by_cases h:i<res.length
  ·rw[aa9 h]at hi;exact .inl hi
  ·rw[aa8 h]at hi;have:=aO hi;exact .inr ⟨by omega,by omega⟩
 ·rw[cF,aa8 (by omega)];congr 1;omega
def Env.bT (J:Env) (i b:Nat):Env:= {J with num:=fun j=>if j=i then b else J.num j}
theorem nf (J:Env) (i b:Nat):Env.bE (fun j=>¬fresh i 1 j) J (J.bT i b):=fun j hj=>by
 have:j≠i:=fun e=>hj ⟨by omega,by omega⟩
 simp[Env.bT,this]
theorem n9.alloc {K:Nat->Prop} {J:Env} {nid ty:Nat} {c:V} {w0:World} {F0:Nat->Prop} {w:World} (hc:ok K c) (ht:cS c=false) (hn:¬K nid):
  n9 K J (J.bT nid w.heap.size) nid [.blk ty c] w0 F0 w (w.alloc (.cells (cells J c).toArray ty)):=by
 refine⟨(Below.refl _ _).alloc (Nat.le_refl _) _,nf J nid _,fun _ b=>b=w.heap.size,fun k hk=>?_,fun k l b hk hl hne=>?_⟩
 ·simp only[List.length_singleton,Nat.lt_one_iff]at hk;subst hk
  have ha:Env.bE K J (J.bT nid w.heap.size):=(nf J nid _).mono fun i hi hf=>by
   grind[fresh]
  refine⟨⟨dY (fun i hi=> .inl hi) c hc,ht,by simp[Env.bT],?_⟩,fun b hb=>by subst hb;simp⟩
  rw[dW ha c hc,show(J.bT nid w.heap.size).num (nid+0)=w.heap.size by simp[Env.bT]]
  exact heap_alloc_new w _
 ·simp only[List.length_singleton,Nat.lt_one_iff]at hk hl;omega
theorem bq.write {J:Env} {fps:Nat->Nat->Prop} {res:List aK} {K:Nat->Prop} {w0:World} {F0:Nat->Prop} {w w':World} {i ty:Nat} {c c':V}
  (h:bq J fps res K w0 F0 w) (hi:ay res i= .blk ty c) (hc:ok K c') (ht:cS c'=false)
  (hos:w'.os=w.os) (htape:w'.tape=w.tape) (hout:w'.output=w.output) (hsize:w'.heap.size=w.heap.size)
  (hnew:w'.heap[J.num i]? =some (.cells (cells J c').toArray ty (0,0))) (hold:∀b,b≠J.num i->w'.heap[b]? =w.heap[b]?):
  bq J fps (bO res i (.blk ty c')) K w0 F0 w':=by
 have hk:known res i:=by unfold known;rw[hi];simp
 have hlt:=aO hk;have hh:=h.holds i hk;rw[hi]at hh;obtain⟨_,_,hfp,_⟩:=hh
 have hkn:∀j,known (bO res i (.blk ty c')) j↔known res j:=fun j=>by
  grind[known,bK]
 refine⟨fun j hj=>h.sub j ((hkn j).1 hj),by rw[hsize];exact h.old,hos.trans h.os,htape.trans h.tape,hout.trans h.output,fun j hj=>?_,fun j b hj hb=>by rw[hsize];exact h.lt j b ((hkn j).1 hj) hb,
  fun j l b hj hl=>h.disj j l b ((hkn j).1 hj) ((hkn l).1 hl),fun j b hj=>h.inF j b ((hkn j).1 hj),fun b hb hF=>?_⟩
 ·rw[bK _ _ _ _ hlt];by_cases e:j=i
  ·subst e;simp only[if_true];exact⟨hc,ht,hfp,hnew⟩
  ·simp only[aa8 e];have hj':=(hkn j).1 hj;refine aK.gm _ (h.holds j hj') fun b hb=>hold b fun eb=>?_
   subst eb;exact h.disj j i _ hj' hk e hb hfp
 ·rw[hold b fun e=>hF (h.inF i _ hk hfp (e▸hb) |> fun x=>e▸x)]
  exact h.same b hb hF
theorem bq.forget {J:Env} {fps:Nat->Nat->Prop} {res res':List aK} {K:Nat->Prop} {w0:World} {F0:Nat->Prop} {w:World}
  (h:bq J fps res K w0 F0 w) (hf:∀i,known res' i->ay res' i=ay res i):bq J fps res' K w0 F0 w:=by
 have hk:∀i,known res' i->known res i:=fun i hi=>by
  have:=hf i hi;unfold known at hi⊢;rwa [this]at hi
 exact⟨fun i hi=>h.sub i (hk i hi),h.old,h.os,h.tape,h.output,fun i hi=>by rw[hf i hi];exact h.holds i (hk i hi),fun i b hi=>h.lt i b (hk i hi),
  fun i j b hi hj=>h.disj i j b (hk i hi) (hk j hj),fun i b hi=>h.inF i b (hk i hi),h.same⟩
theorem bq.u6 {J:Env} {fps:Nat->Nat->Prop} {res:List aK} {K K':Nat->Prop} {w0:World} {F0:Nat->Prop} {w:World}
  (h:bq J fps res K w0 F0 w) (hK:∀i,K i->K' i):bq J fps res K' w0 F0 w:=
 ⟨fun i hi=>hK i (h.sub i hi),h.old,h.os,h.tape,h.output,fun i hi=>aK.oi _ (h.holds i hi) hK,h.lt,h.disj,h.inF,h.same⟩
theorem bq.turn {J ρ':Env} {fps:Nat->Nat->Prop} {res res':List aK} {K K':Nat->Prop} {w0:World} {F0:Nat->Prop} {w w':World} (h:bq J fps res K w0 F0 w) (T B:Nat->Prop) (fp':Nat->Nat->Prop)
  (hK:∀i,known res' i->K' i) (hKK:∀i,K i->K' i) (hag:Env.bE K J ρ')
  (hA:∀i,known res' i->¬B i->known res i/\¬T i/\ay res' i=ay res i)
  (hB:∀i,known res' i->B i->(ay res' i).holds K' ρ' i (fp' i) w0 F0 w'/\∀b,fp' i b->(∃t,T t/\known res t/\fps t b)\/(w.heap.size<=b/\b<w'.heap.size))
  (hBd:∀i j b,B i->B j->i≠j->fp' i b->¬fp' j b)
  (hos:w'.os=w.os) (htape:w'.tape=w.tape) (hout:w'.output=w.output) (hsize:w.heap.size<=w'.heap.size)
  (hsame:∀b,b<w.heap.size->(∀t,T t->known res t->¬fps t b)->w'.heap[b]? =w.heap[b]?):
  ∃fps',bq ρ' fps' res' K' w0 F0 w':=by
 classical
 have hAB:∀i j b,known res' i->known res' j->¬B i->B j->fps i b->¬fp' j b:=by
  intro i j b hi hj hbi hbj hf hf';obtain⟨k1,k2,_⟩:=hA i hi hbi;rcases(hB j hj hbj).2 b hf' with⟨t,ht,hkt,hft⟩|⟨hge,_⟩
  ·exact h.disj i t b k1 hkt (fun e=>k2 (e▸ht)) hf hft
  ·have:=h.lt i b k1 hf;omega
 refine⟨fun i=>if B i then fp' i else fps i,⟨hK,Nat.le_trans h.old hsize,hos.trans h.os,htape.trans h.tape,hout.trans h.output,?_,?_,?_,?_,?_⟩⟩
 ·intro i hi;by_cases hb:B i
  ·simp only[aa9 hb];exact(hB i hi hb).1
  ·simp only[aa8 hb];obtain⟨k1,k2,k3⟩:=hA i hi hb;rw[k3];exact aK.sI _ (aK.gm _ (h.holds i k1) fun b hf=>hsame b (h.lt i b k1 hf) fun t ht hkt hft=>h.disj i t b k1 hkt (fun e=>k2 (e▸ht)) hf hft) hKK hag (h.sub i k1)
 ·intro i b hi hf;by_cases hb:B i
  ·simp only[aa9 hb]at hf;rcases(hB i hi hb).2 b hf with⟨t,ht,hkt,hft⟩|⟨_,hlt⟩
   ·exact Nat.lt_of_lt_of_le (h.lt t b hkt hft) hsize
   ·exact hlt
  ·simp only[aa8 hb]at hf;exact Nat.lt_of_lt_of_le (h.lt i b (hA i hi hb).1 hf) hsize
 ·intro i j b hi hj hne hf hf';by_cases hbi:B i<;>by_cases hbj:B j
  ·grind
  ·grind
  ·grind
  ·simp only[aa8 hbi]at hf;simp only[aa8 hbj]at hf';exact h.disj i j b (hA i hi hbi).1 (hA j hj hbj).1 hne hf hf'
 ·intro i b hi hf hlt;by_cases hb:B i
  ·simp only[aa9 hb]at hf;rcases(hB i hi hb).2 b hf with⟨t,ht,hkt,hft⟩|⟨hge,_⟩
   ·exact h.inF t b hkt hft hlt
   ·have:=h.old;omega
  ·simp only[aa8 hb]at hf;exact h.inF i b (hA i hi hb).1 hf hlt
 ·intro b hlt hF;rw[hsame b (Nat.lt_of_lt_of_le hlt h.old) fun t _ hkt hft=>hF (h.inF t b hkt hft hlt)]
  exact h.same b hlt hF
inductive S where
 |und
 |ud
 |v (x:V)
 |gv (ch:List (Nat×Bool)) (x:V)
def b9:List S->Nat->S
 | [],_=> .und
 |x::_,0=>x
 |_::l,n+1=>b9 l n
def sset:List S->Nat->S->List S
 | [],_,_=> []
 |_::l,0,y=>y::l
 |x::l,n+1,y=>x::sset l n y
theorem lu:∀(l:List S) (i:Nat),b9 l i=l.getD i .und
 | [],i=>by simp[b9]
 |r::l,0=>by simp[b9]
 |r::l,i+1=>by simp[b9,lu l i]
theorem CA:∀(l:List S) (i:Nat) (r:S),sset l i r=l.set i r
 | [],i,r=>by simp[sset]
 |x::l,0,r=>by simp[sset]
 |x::l,i+1,r=>by simp[sset,CA l i]
theorem ia (l:List S) (i:Nat) (r:S):(sset l i r).length=l.length:=by rw[CA];simp
theorem gI (l:List S) (i j:Nat) (r:S):b9 (sset l i r) j=if j=i/\i<l.length then r else b9 l j:=by
 grind[CA,lu]
theorem HX {l:List S} {i:Nat} (h:b9 l i≠ .und):i<l.length:=by
 grind[lu]
def Ve (a b:Bool):Bool:=a&&b
def Yv (a b:Bool):Bool:=a||b
def QF (a:Bool):Bool:= !a
def YT (c a b:Bool):Bool:=if c then a else b
def FE (a b:Bool):Bool:=a==b
def ilt (a b:Int):Bool:=decide (a<b)
def ile (a b:Int):Bool:=decide (a<=b)
def Dv (a b:Int):Bool:=decide (a=b)
def lQ (a b:Int):Int:=if b<a then b else a
def imax (a b:Int):Int:=if a<b then b else a
def yf (a b:Key):Bool:=decide (a=b)
def D4 (a b:cL):Bool:=decide (a=b)
def Fg (a b:Bytes):Bool:=decide (a=b)
def CR (a b:Obj):Bool:=decide (a=b)
def Ax (a b:ByteArray):Bool:=decide (a=b)
def zc (a b:Int):Int:=a+b
def sU (a b:Int):Int:=a-b
def Yh (a b:Int):Int:=a*b
def Wq (a b:Int):Int:=a.tdiv b
def XR (a b:Int):Int:=a.tmod b
def pH (a:Int):Nat:=a.toNat
def bD (a:Nat):Int:=(a:Int)
def Ux (a:UInt8):Int:=(a.toNat:Int)
def bN (a:ByteArray):Int:=(a.size:Int)
def aF (k:IntKind) (n:Int):Prop:=bY k n
abbrev abd(x:Int):Prop:=aF IntKind.i64 x
def YI (j:Int) (n:Nat):Prop:=0<=j/\j<(n:Int)
def Kq (i n:Nat):Prop:=i<n
def nU (b:Int):Prop:=b≠0
def dX:Option Prop->Prop
 |none=>True
 |some p=>p
def DB:Option Prop->Prop->Prop
 |none,k=>k
 |some p,k=>p/\k
def VA (g:Bool):Option Prop->Prop->Prop
 |none,k=>k
 |some p,k=>(g=true->p)/\k
theorem qH {q:Option Prop} {k:Prop} (h:DB q k):dX q/\k:=by cases q with
 |none=>exact⟨trivial,h⟩
 |some p=>exact h
theorem Ee {g:Bool} {q:Option Prop} {k:Prop} (h:VA g q k):(g=true->dX q)/\k:=by cases q with
 |none=>exact⟨fun _=>trivial,h⟩
 |some p=>exact h
def raw:S->Option Bool
 | .v (.cb b)=>some b
 | .v (.bo b)=>some b
 | .gv _ (.cb b)=>some b
 | .gv _ (.bo b)=>some b
 |_=>none
def mU (sl:List S):List (Nat×Bool)->Bool
 | []=>true
 | (s,w)::c=>match raw (b9 sl s)with
   |some b=>match c with
    | []=>if w then b else QF b
    |_=>Ve (if w then b else QF b) (mU sl c)
   |none=>false
def Ha (ch:List (Nat×Bool)) (s:Nat) (w:Bool):Bool:=ch.any fun p=>p.1==s&&p.2==w
def Ia (a b:List (Nat×Bool)):Bool:=a.all fun p=>Ha b p.1 p.2
theorem jn (sl:List S) (s:Nat) (w:Bool) (c:List (Nat×Bool)):mU sl ((s,w)::c)=((match raw (b9 sl s)with|some b=>(if w then b else !b)|none=>false)&&mU sl c):=by
 grind[mU,raw,b9,Ve,QF]
theorem yt (sl:List S) (ch:List (Nat×Bool)):mU sl ch=true↔ ∀p∈ch,raw (b9 sl p.1)=some p.2:=by
 induction ch with
 |nil=>simp[mU]
 |cons p c ih=>
  obtain⟨s,w⟩:=p;rw[jn];simp only[aa2,ih,List.mem_cons,forall_eq_or_imp];refine and_congr_left fun _=>?_
  cases raw (b9 sl s)with
  |none=>simp
  |some b=>cases w<;>cases b<;>simp
theorem HZ {sl:List S} {a b:List (Nat×Bool)} (h:Ia a b=true) (hb:mU sl b=true):mU sl a=true:=by
 simp_all[yt,Ia,Ha]
def g8 (J:Env) (K:Nat->Prop) (sl:List S) (x:Value):S->Prop
 | .und=>True
 | .ud=>x=undef
 | .v y=>x=den J y/\ok K y
 | .gv ch y=>(mU sl ch=true->x=den J y/\ok K y)/\(mU sl ch=false->x=undef)
def jo (J:Env) (K:Nat->Prop) (sl:List S) (a:Act):Prop:=
 a.tmps.size=sl.length/\∀t,g8 J K sl (a.tmps.getD t undef) (b9 sl t)
theorem g8.env {J ρ':Env} {K K':Nat->Prop} {sl:List S} {x:Value} {s:S} (h:g8 J K sl x s) (hK:∀i,K i->K' i) (ha:Env.bE K J ρ'):g8 ρ' K' sl x s:=by
 cases s with
 |und=>trivial
 |ud=>exact h
 |v y=>exact⟨by rw[gj ha y h.2];exact h.1,dY hK y h.2⟩
 |gv ch y=>exact⟨fun hg=>⟨by rw[gj ha y (h.1 hg).2];exact(h.1 hg).1,dY hK y (h.1 hg).2⟩,h.2⟩
theorem jo.env {J ρ':Env} {K K':Nat->Prop} {sl:List S} {a:Act} (h:jo J K sl a) (hK:∀i,K i->K' i) (ha:Env.bE K J ρ'):jo ρ' K' sl a:=
 ⟨h.1,fun t=>(h.2 t).env hK ha⟩
def named (d:Nat) (ch:List (Nat×Bool)):Bool:=ch.any fun p=>p.1==d
def yS (d:Nat) (sl:List S):Bool:=sl.all fun s=>match s with| .gv ch _=> !named d ch|_=>true
theorem uT {sl:List S} {d:Nat} {s:S} {ch:List (Nat×Bool)} (h:named d ch=false):mU (sset sl d s) ch=mU sl ch:=by
 induction ch with
 |nil=>rfl
 |cons p c ih=>
  obtain⟨t,w⟩:=p;simp only[named,List.any_cons,Bool.or_eq_false_iff,beq_eq_false_iff_ne,ne_eq]at h;have h2:named d c=false:=h.2;rw[jn,jn,ih h2,gI,aa8 (fun hh=>h.1 hh.1)]
theorem FR {sl:List S} {d t:Nat} {ch:List (Nat×Bool)} {y:V} (h:yS d sl=true) (ht:b9 sl t= .gv ch y):named d ch=false:=by
 have hlt:t<sl.length:=HX (by rw[ht];simp)
 rw[lu,aa7,List.getElem?_eq_getElem hlt]at ht;simp only[Option.getD_some]at ht;have:=(List.all_eq_true.1 h) _ (List.getElem_mem hlt);rw[ht]at this;simpa using this
theorem jo.put {J:Env} {K:Nat->Prop} {sl:List S} {a:Act} {d:Nat} {s:S} {x:Value} (h:jo J K sl a) (hf:yS d sl=true)
  (hs:g8 J K (sset sl d s) x s):jo J K (sset sl d s) (a.put (some d) x):=by
 refine⟨by simp[Act.put,ia,h.1],fun t=>?_⟩
 rw[gI];by_cases e:t=d/\d<sl.length
 ·rw[aa9 e];obtain⟨rfl,hd⟩:=e
  have:(a.put (some t) x).tmps.getD t undef=x:=by
   simp[Act.put,h.1,hd]
  rw[this];exact hs
 ·rw[aa8 e]
  have hx:(a.put (some d) x).tmps.getD t undef=a.tmps.getD t undef:=by
   simp only[Act.put,Array.getD_eq_getD_getElem?,Array.getElem?_setIfInBounds];by_cases ed:d=t
   ·subst ed;have:¬d<sl.length:=fun hl=>e ⟨rfl,hl⟩
    simp[h.1,this]
   ·simp[ed]
  rw[hx];have:=h.2 t;cases hst:b9 sl t with
  |und=>trivial
  |ud=>rw[hst]at this;exact this
  |v y=>rw[hst]at this;exact this
  |gv ch y=>
   rw[hst]at this;have hn:=FR hf hst;exact⟨fun hg=>this.1 (by rwa [uT hn]at hg),fun hg=>this.2 (by rwa [uT hn]at hg)⟩
def FP:Value->Option V
 | .bool b=>some (.cb b)
 | .int k n=>if bY k n then some (.ci k n)else none
 | .string s=>some (.st s)
 | .pointer none=>some (.nl (.pointer none))
 | .slice none 0 0=>some (.nl (.slice none 0 0))
 | .map none=>some (.nl (.map none))
 | .nilFunc=>some (.nl .nilFunc)
 | .nilIface=>some (.nl .nilIface)
 |_=>none
theorem DX {c:Value} {x:V} (J:Env) (K:Nat->Prop) (h:FP c=some x):c=den J x/\ok K x:=by
 unfold FP at h;split at h
 ·simp only[aa0]at h;subst h;exact⟨rfl,trivial⟩
 ·split at h
  ·simp only[aa0]at h;subst h;exact⟨rfl,by assumption⟩
  ·simp at h
 ·simp only[aa0]at h;subst h;exact⟨rfl,trivial⟩
 ·simp only[aa0]at h;subst h;exact⟨rfl,rfl⟩
 ·simp only[aa0]at h;subst h;exact⟨rfl,rfl⟩
 ·simp only[aa0]at h;subst h;exact⟨rfl,rfl⟩
 ·simp only[aa0]at h;subst h;exact⟨rfl,rfl⟩
 ·simp only[aa0]at h;subst h;exact⟨rfl,rfl⟩
 ·simp at h
def fo (sl:List S) (ch:List (Nat×Bool)):Operand->Option V
 | .tmp t=>match b9 sl t with
   | .v x=>some x
   | .gv c x=>if Ia c ch then some x else none
   |_=>none
 | .const v=>FP v
 | .func f=>if Nat.blt f 2000 then some (.fn f [])else none
 | .global _=>none
theorem h9 {J:Env} {K:Nat->Prop} {sl:List S} {a:Act} {ch:List (Nat×Bool)} {o:Operand} {x:V} (h:jo J K sl a) (hg:mU sl ch=true)
  (ho:fo sl ch o=some x):a.eval o=den J x/\ok K x:=by
 cases o with
 |tmp t=>
  simp only[fo]at ho;have ht:=h.2 t;cases hs:b9 sl t with
  |und=>simp[hs]at ho
  |ud=>simp[hs]at ho
  |v y=>
   simp only[hs,aa0]at ho;subst ho;rw[hs]at ht;exact ht
  |gv c y=>
   simp only[hs]at ho;split at ho
   ·rename_i hc;simp only[aa0]at ho;subst ho;rw[hs]at ht;exact ht.1 (HZ hc hg)
   ·simp at ho
 |const v=>exact DX J K ho
 |func f=>
  simp only[fo]at ho;split at ho
  ·rename_i hlo;simp only[aa0]at ho;subst ho;exact⟨by simp[Act.eval,den,bB,z0 hlo],trivial⟩
  ·simp at ho
 |global g=>simp[fo]at ho
def mQ (sl:List S) (ch:List (Nat×Bool)):List Operand->Option (List V)
 | []=>some []
 |o::l=>match fo sl ch o,mQ sl ch l with
  |some x,some xs=>some (x::xs)
  |_,_=>none
theorem gR {J:Env} {K:Nat->Prop} {sl:List S} {a:Act} {ch:List (Nat×Bool)} (h:jo J K sl a) (hg:mU sl ch=true):
  ∀{l:List Operand} {xs:List V},mQ sl ch l=some xs->l.map a.eval=bB J xs/\fM K xs
 | [],xs,ho=>by simp only[mQ,aa0]at ho;subst ho;exact⟨rfl,trivial⟩
 |o::l,xs,ho=>by
  simp only[mQ]at ho;split at ho
  ·rename_i x ys hx hl;simp only[aa0]at ho;subst ho;obtain⟨h1,h2⟩:=h9 h hg hx;obtain⟨h3,h4⟩:=gR h hg hl;exact⟨by simp[h1,h3,bB],h2,h4⟩
  ·simp at ho
def sr (sl:List S) (ops:List Oper):Option (Nat×Bool)->Option (Option (List (Nat×Bool)))
 |none=>some (some [])
 |some (j,w)=>match (ops[j]?).bind (·.dst)with
  |none=>none
  |some s=>match b9 sl s with
   | .ud=>some none
   | .v (.cb b)=>if b==w then some (some [])else some none
   | .v (.bo _)=>some (some [(s,w)])
   | .gv c (.bo _)=>some (some ((s,w)::c))
   | .gv c (.cb b)=>if b==w then some (some c)else some none
   |_=>none
def xw (sl:List S):Option (List (Nat×Bool))->Bool
 |none=>false
 |some ch=>mU sl ch
theorem nc {J:Env} {K:Nat->Prop} {sl:List S} {a:Act} {ops:Array Oper} {o:Oper} {r:Option (List (Nat×Bool))} (h:jo J K sl a)
  (hc:sr sl ops.toList o.guard=some r):Region.wanted o (yielded ops a.tmps)=xw sl r:=by
 unfold Region.wanted;cases hg:o.guard with
 |none=>rw[hg]at hc;simp only[sr,aa0]at hc;subst hc;rfl
 |some jw=>
  obtain⟨j,w⟩:=jw;rw[hg]at hc;simp only[sr,Array.getElem?_toList]at hc;simp only[yielded];cases hs:(ops[j]?).bind (·.dst)with
  |none=>simp[hs]at hc
  |some s=>
   simp only[hs,Option.bind_some]at hc⊢;have hsl:=h.2 s
   have hval:∀x,b9 sl s≠ .und->a.tmps.getD s undef=x->a.tmps[s]? =some x:=fun x hne hx=>by
    have:=HX hne;rw[<-h.1]at this;rw[Array.getD_eq_getD_getElem?,Array.getElem?_eq_getElem this]at hx;rw[Array.getElem?_eq_getElem this];simpa using hx
   cases hss:b9 sl s with
   |und=>simp[hss]at hc
   |ud=>
    rw[hss]at hsl hc;simp only[aa0]at hc;subst hc;rw[hval _ (by rw[hss];simp) hsl]
    simp[undef,xw]
   |v y=>
    rw[hss]at hsl hc;rw[hval _ (by rw[hss];simp) hsl.1]
    cases y<;>simp only[reduceCtorEq]at hc
    ·grind[den,xw,mU]
    ·grind[den,xw,jn,raw,mU]
   |gv c y=>
    rw[hss]at hsl hc;obtain⟨h1,h3⟩:=hsl;cases y<;>simp only[reduceCtorEq]at hc
    ·rename_i b;cases hgc:mU sl c with
     |true=>
      rw[hval _ (by rw[hss];simp) (h1 hgc).1]
      simp only[den];clear hval;split at hc<;>simp only[aa0]at hc<;>subst hc<;>rename_i hb
      ·simpa[xw,hgc]using hb
      ·simpa[xw]using hb
     |false=>
      rw[hval _ (by rw[hss];simp) (h3 hgc)]
      split at hc<;>simp only[aa0]at hc<;>subst hc<;>simp[undef,hgc,xw]
    ·rename_i b;simp only[aa0]at hc;subst hc;simp only[xw];rw[jn];simp only[hss,raw];cases hgc:mU sl c with
     |true=>
      rw[hval _ (by rw[hss];simp) (h1 hgc).1]
      simp only[den];cases w<;>cases b<;>rfl
     |false=>
      rw[hval _ (by rw[hss];simp) (h3 hgc)]
      simp[undef]
def clean:List S->List S
 | []=> []
 | .v x::l=> .v x::clean l
 |_::l=> .und::clean l
theorem kT:∀(l:List S) (t:Nat),b9 (clean l) t=match b9 l t with| .v x=> .v x|_=> .und
 | [],t=>by simp[clean,b9]
 |s::l,0=>by cases s<;>simp[clean,b9]
 |s::l,t+1=>by cases s<;>simp[clean,b9,kT l t]
theorem j9:∀(l:List S),(clean l).length=l.length
 | []=>rfl
 |s::l=>by cases s<;>simp[clean,j9 l]
theorem jo.clean {J:Env} {K:Nat->Prop} {sl:List S} {a:Act} (h:jo J K sl a):jo J K (clean sl) a:=by
 refine⟨by rw[j9];exact h.1,fun t=>?_⟩
 rw[kT];have:=h.2 t;split
 ·rename_i x hx;rw[hx]at this;exact this
 ·trivial
section runs
variable {P:Program}
def mb (P:Program) (t:Nat):Option Bool:=
 match P.underlying t with
 |some (.struct _)=>some true
 |some (.array _ _)=>some true
 |some _=>some false
 |none=>none
def oZ (P:Program) (t:Nat):Option Nat:=(P.info? t).map (·.size)
theorem bG {t:Nat} {d:TypeDesc} (w:World) (h:P.underlying t=some d):(underlying t).run P w= .ok d w:=by
 simp[underlying,h]
theorem sj {t:Nat} {b:Bool} (w:World) (h:mb P t=some b):(Go.isAgg t).run P w= .ok b w:=by
 unfold mb at h;unfold Go.isAgg;split at h<;>simp only[aa0,reduceCtorEq]at h<;>subst h
 ·rename_i hu;simp[bG w hu]
 ·rename_i hu;simp[bG w hu]
 ·simp_all[bG]
theorem gF {t n:Nat} (w:World) (h:oZ P t=some n):(sizeOf t).run P w= .ok n w:=by
 unfold oZ at h;cases hi:P.info? t with
 |none=>simp[hi]at h
 |some i=>
  simp only[hi,Option.map_some,aa0]at h;simp[sizeOf,typeInfo,hi,h]
theorem add_lit (b o n:Nat):Addr.add ⟨b,o,none⟩ n=⟨b,o+n,none⟩:=by unfold Addr.add;split<;>simp_all
theorem lA {J:Env} {K:Nat->Prop} {t b off:Nat} {r:V} (w:World) (hr:ok K r) (ht:cS r=false) (ha:mb P t=some (jP r)) (hs:oZ P t=some (fi r))
  (hc:∀k,k<fi r->w.cell? ⟨b,off+k,none⟩=(cells J r)[k]?):(loadVar t ⟨b,off,none⟩).run P w= .ok (den J r) w:=by
 have hl:=bg J r hr;unfold loadVar;rw[Sem.run_bind,sj w ha,pT J hr ht];cases hag:Sx.jP r with
 |true=>
  have:=run_loadCells_list (P:=P) w ⟨b,off,none⟩ (cells J r) (fun j v hv=>by
   have hj:j<fi r:=by
    rw[<-hl];exact(List.getElem?_eq_some_iff.1 hv).1
   rw[add_lit,hc j hj,hv])
  rw[hl]at this;simp[gF w hs,this,jV]
 |false=>
  have h1:fi r=1:=by
   grind[ou,cells,dT]
  have h0:=hc 0 (by omega)
  simp only[Nat.add_zero]at h0
  have:(cells J r)[0]? =some ((cells J r).getD 0 undef):=by
   simp_all
  simp only[Result.andThen_ok,Bool.false_eq_true,if_false,run_load];rw[h0,this];rfl
theorem j7 {α:Type} (p m q:List α) (k:Nat) (hk:k<m.length):(p++m++q)[p.length+k]? =m[k]? :=by
 grind
theorem oX {J:Env} {K:Nat->Prop} {t b off ty:Nat} {c r:V} (w:World) (hr:ok K r) (ht:cS r=false) (ha:mb P t=some (jP r)) (hs:oZ P t=some (fi r))
  (hb:w.heap[b]? =some (.cells (cells J c).toArray ty (0,0))) (hp:∃p q,cells J c=p++cells J r++q/\off=p.length):(loadVar t ⟨b,off,none⟩).run P w= .ok (den J r) w:=by
 obtain⟨p,q,e1,rfl⟩:=hp;refine lA w hr ht ha hs fun k hk=>?_
 have hl:=bg J r hr;rw[cell_of_row w b _ _ _ _ hb];simp only[List.getElem?_toArray,e1];exact j7 p _ q k (by omega)
end runs
mutual
theorem jt (J:Env) {K:Nat->Prop}:∀v,ok K v->cS v=false->∀x∈cells J v,x.oneCell'=true
 | .ag l,hv,_,x,hx=>rR J l hv.1 hv.2 x (by rwa [fB]at hx)
 | .key k,_,_,x,hx=>by
   rw[sq]at hx;simp only[dZ,List.mem_cons,List.not_mem_nil,or_false,i64]at hx;rcases hx with rfl|rfl|rfl|rfl|rfl|rfl<;>rfl
 | .sl s,_,_,x,hx=>by
   rw[nY]at hx;simp only[gg,List.mem_flatMap,dZ,List.mem_cons,List.not_mem_nil,or_false,i64]at hx;obtain⟨i,_,hx⟩:=hx;rcases hx with rfl|rfl|rfl|rfl|rfl|rfl<;>rfl
 | .by b,_,_,x,hx=>by
   rw[kF]at hx;simp only[cZ,List.mem_map]at hx;obtain⟨i,_,rfl⟩:=hx;rfl
 | .ob o,_,_,x,hx=>by
   rw[jQ]at hx;simp only[eE,List.mem_cons,List.mem_append,gg,List.mem_flatMap,cZ,List.mem_map,dZ,i64,List.not_mem_nil,or_false]at hx;rcases hx with rfl|rfl|rfl|⟨i,_,hx⟩|⟨i,_,rfl⟩
   ·rfl
   ·rfl
   ·rfl
   ·rcases hx with rfl|rfl|rfl|rfl|rfl|rfl<;>rfl
   ·rfl
 | .tp l,_,h,_,_=>by simp[cS]at h
 | .mp id,_,_,x,hx=>by
   simp only[cells,den,Value.cells,List.mem_singleton]at hx;subst hx;rfl
 | .fn f l,hv,_,x,hx=>by
   simp_all[cells,den,dT,oC]
 | .ch b f l y,hv,_,x,hx=>by
   have h1:(den J (.ch b f l y)).oneCell'=true:=ou J (.ch b f l y) hv rfl rfl;simp only[cells,dT h1,List.mem_singleton]at hx;subst hx;exact h1
 | .bs y lo hi,hv,_,x,hx=>by
   simp_all[cells,den,dT,wH]
 | .ks y e n lo hi,hv,_,x,hx=>by
   simp_all[cells,den,dT,wg]
 | .nl v,hv,_,x,hx=>by
   simp only[cells,den,dT hv,List.mem_singleton]at hx;subst hx;exact hv
 | .cb _,_,_,x,hx| .bo _,_,_,x,hx| .ci _ _,_,_,x,hx| .it _ _,_,_,x,hx| .bt _,_,_,x,hx| .st _,_,_,x,hx| .lp _ _,_,_,x,hx| .lx _ _ _ _ _ _,_,_,x,hx
 | .sc _ _ _,_,_,x,hx| .so _ _,_,_,x,hx| .ap _ _ _ _,_,_,x,hx| .sa _,_,_,x,hx| .op _ _,_,_,x,hx| .yl _,_,_,x,hx| .ic _ _,_,_,x,hx| .ax _ _ _ _ _ _ _ _,_,_,x,hx=>by
   simp only[cells,den,Value.cells,List.mem_singleton]at hx;subst hx;rfl
theorem rR (J:Env) {K:Nat->Prop}:∀l,fM K l->tg l->∀x∈bp J l,x.oneCell'=true
 | [],_,_,x,hx=>by simp[bp]at hx
 |y::l,hv,hc,x,hx=>by
  simp only[bp,List.mem_append]at hx;rcases hx with hx|hx
  ·exact jt J y hv.1 ((eF _).1 hc y (by simp)) x hx
  ·exact rR J l hv.2 ((eF _).2 fun z hz=>(eF _).1 hc z (by simp[hz])) x hx
end
section stores
variable {P:Program}
theorem setRow_other (w:World) (g:Nat) (cs:Array Value) (b:Nat) (h:b≠g):(w.setRow g cs).heap[b]? =w.heap[b]? :=by
 simp only[World.setRow,Array.getElem?_modify];rw[aa8 (Ne.symm h)]
theorem zP {J:Env} {K:Nat->Prop} {t b off ty:Nat} {c c' y:V} (w:World) (hy:ok K y) (ht:cS y=false) (hs:oZ P t=some (fi y))
  (hb:w.heap[b]? =some (.cells (cells J c).toArray ty (0,0))) (hp:HQ K J c c' off y):
  (storeVar t ⟨b,off,none⟩ (den J y)).run P w= .ok () (w.setRow b (cells J c').toArray):=by
 obtain⟨⟨p,m,q,e1,e2,rfl,e4⟩,_⟩:=hp;have hl:=bg J y hy;have hz:(den J y).cells.size=fi y:=by rw[<-hl];simp[cells]
 have hst:=run_storeCells_at (P:=P) b p.length ty (cells J y) 0 (cells J c).toArray w hb (by simp[e1];omega) (jt J y hy ht)
 simp only[Nat.add_zero]at hst;simp only[storeVar,Sem.run_bind,gF w hs,Result.andThen_ok,hz,ne_eq,not_true_eq_false,if_false];rw[show(den J y).cells.toList=cells J y from rfl,hst];congr 3
 rw[e2];simp only[e1]
 rw[show List.take p.length (p++m++q)=p by simp,show List.drop (p.length+(cells J y).length) (p++m++q)=q by
  rw[hl,<-e4,<-List.length_append,List.drop_left]]
end stores
end Go.Sx
