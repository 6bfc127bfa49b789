import Derived.WalkKit
import Derived.Laws.OwnMore
import Derived.MapKept
import Derived.Carry
import Derived.Laws.AppendOwn
import Derived.Laws.BytesString
import Derived.Laws.CopyRow
import Derived.DefersIn
import Derived.ArgAppend
set_option linter.unusedSimpArgs false
set_option linter.unusedVariables false
namespace Go.Sx
abbrev aba(c:Bool)(A B:Prop):Prop:=(c=true->A)/\(c=false->B)
abbrev abJ:ByteArray:=ByteArray.mk (Array.mk [])
abbrev abb(A:Prop):Prop:=true=true/\A
theorem aaV {α : Type _} (a b : α) : (some a = some b) = (a = b):=Option.some.injEq a b
theorem aaW {α β : Type _} (a : α) (b : β) (c : α) (d : β) : ((a, b) = (c, d)) = (a = c ∧ b = d):=Prod.mk.injEq a b c d
theorem aaX (a b : Bool) : ((a && b) = true) = (a = true ∧ b = true):=Bool.and_eq_true a b
theorem aaY {p : Prop} [Decidable p] : (decide p = true) = p:=decide_eq_true_eq
theorem aaZ {α : Type _} [BEq α] [LawfulBEq α] {a b : α} : (a == b) = true ↔ a = b:=beq_iff_eq
theorem aa0 {p : Prop} [Decidable p] : decide p = false → ¬p:=of_decide_eq_false
theorem aa1 {p : Prop} [Decidable p] : decide p = true → p:=of_decide_eq_true
theorem aa2 {α : Type _} {l : List α} {i : Nat} {a : α} : l.getD i a = l[i]?.getD a:=List.getD_eq_getElem?_getD
theorem aa3 {c : Prop} {h : Decidable c} (hc : ¬c) {α : Sort _} {t e : α} : ite c t e = e:=if_neg hc
theorem aa4 {c : Prop} {h : Decidable c} (hc : c) {α : Sort _} {t e : α} : ite c t e = t:=if_pos hc
structure Key where
 kind:Int
 oid:Int
 count:Int
 call:Int
 rights:Int
 value:Int
 deriving DecidableEq,Inhabited
abbrev cL:=Vector Key 16
abbrev Bytes:=Vector UInt8 64
def void:Key:=⟨0,0,0,0,0,0⟩
abbrev abE(n:Int)(k:Key)(x:Int):Key:=Key.mk n k.oid k.count void.call void.rights x
abbrev abg(x:Int):Key:=Key.mk 1 void.oid void.count void.call void.rights x
def cL.at (s:cL) (i:Nat):Key:=s.toArray.getD i void
def cL.put (s:cL) (i:Nat) (k:Key):cL:=s.setIfInBounds i k
def Bytes.at (s:Bytes) (i:Nat):UInt8:=s.toArray.getD i 0
def Bytes.put (s:Bytes) (i:Nat) (k:UInt8):Bytes:=s.setIfInBounds i k
structure Obj where
 kind:Int
 count:Int
 calls:Int
 slots:cL
 bytes:Bytes
 deriving DecidableEq
def gU:cL:=Vector.replicate 16 void
def fa:Bytes:=Vector.replicate 64 0
def free:Obj:=⟨0,0,0,gU,fa⟩
instance:Inhabited Obj:=⟨free⟩
def i64 (n:Int):Value:= .int .i64 n
def ea (k:Key):List Value:= [i64 k.kind,i64 k.oid,i64 k.count,i64 k.call,i64 k.rights,i64 k.value]
def gj (s:cL):List Value:=(List.range 16).flatMap fun i=>ea (s.at i)
def cZ (s:Bytes):List Value:=(List.range 64).map fun i=> .int .u8 ((s.at i).toNat:Int)
def eF (o:Obj):List Value:=i64 o.kind::i64 o.count::i64 o.calls::(gj o.slots++cZ o.bytes)
inductive V where
 |cb (b:Bool)|bo (b:Bool)
 |ci (k:IntKind) (n:Int)|it (k:IntKind) (n:Int)|bt (b:UInt8)
 |st (s:ByteArray)
 |nl (v:Value)
 |lp (id off:Nat)
 |lx (id off esz n i inner:Nat)
 |sc (id len cap:Nat)
 |so (id len:Nat)
 |ap (id esz i off:Nat)
 |sa (id:Nat)
 |op (id i:Nat)
 |yl (id:Nat)
 |fn (f:Nat) (l:List V)
 |ic (t:Nat) (x:V)
 |ag (l:List V)|tp (l:List V)
 |key (k:Key)|sl (s:cL)|by(b:Bytes)|ob (o:Obj)
 |mp (id:Nat)
 |ch (b:Bool) (f:Nat) (l:List V) (y:V)
 |ax (id esz k off sz n i inner:Nat)
 |bs (x:V) (lo hi:Nat)
 |ks (x:V) (e n lo hi:Nat)
structure Env where
 num:Nat->Nat
 cap:Nat->Nat
 adr:Nat->Addr
 sa:Nat->Option Addr
 sn:Nat->Nat
 ob:Nat->Nat->Nat
def bY:IntKind->Int->Prop
 | .i8,n=> -128<=n/\n<=127
 | .i16,n=> -32768<=n/\n<=32767
 | .i32,n=> -2147483648<=n/\n<=2147483647
 | .i64,n=> -9223372036854775808<=n/\n<=9223372036854775807
 | .u8,n=>0<=n/\n<=255
 | .u16,n=>0<=n/\n<=65535
 | .u32,n=>0<=n/\n<=4294967295
 | .u64,n=>0<=n/\n<=18446744073709551615
instance (k:IntKind) (n:Int):Decidable (bY k n):=by cases k<;>unfold bY<;>infer_instance
def Key.wf (k:Key):Prop:=bY .i64 k.kind/\bY .i64 k.oid/\bY .i64 k.count/\bY .i64 k.call/\bY .i64 k.rights/\bY .i64 k.value
def cL.wf (s:cL):Prop:=∀i,i<16->(s.at i).wf
def Obj.wf (o:Obj):Prop:=bY .i64 o.kind/\bY .i64 o.count/\bY .i64 o.calls/\o.slots.wf
def wZ (v:Value) (lo hi:Nat):Value:=
 match v with
 | .pointer (some a)=> .slice (some (if lo=64 then a else a.add lo)) (hi-lo) (64-lo)
 |_=> .slice none 0 0
def wS (v:Value) (e n lo hi:Nat):Value:=
 match v with
 | .pointer (some a)=> .slice (some (if lo=n then a else a.add (lo*e))) (hi-lo) (n-lo)
 |_=> .slice none 0 0
theorem wg (v:Value) (e n lo hi:Nat):(wS v e n lo hi).oneCell'=true:=by
 unfold wS;split<;>rfl
theorem vX (v:Value) (lo hi:Nat):(wZ v lo hi).oneCell'=true:=by
 unfold wZ;split<;>rfl
def FC (f:Nat) (l:List Value):Value:=if Nat.blt f 2000 then .func (.func f) #[] l.toArray else .func (.func (f-2000)) l.toArray #[]
theorem ou (f:Nat) (l:List Value):(FC f l).oneCell'=true:=by unfold FC;split<;>rfl
theorem Qo (f:Nat) (l:List Value):∃g b c,FC f l= .func (.func g) b c:=by unfold FC;split<;>exact⟨_,_,_,rfl⟩
def FA (f:Nat):Nat:=if Nat.blt f 2000 then f else f-2000
def Uq {α:Type} (f:Nat) (vs caps:List α):List α:=if Nat.blt f 2000 then vs++caps else caps++vs
theorem zU {f:Nat} {l:List Value} (h:Nat.blt f 2000=true):FC f l= .func (.func f) #[] l.toArray:=by unfold FC;rw[aa4 h]
mutual
def den (J:Env):V->Value
 | .cb b=> .bool b
 | .bo b=> .bool b
 | .ci k n=> .int k n
 | .it k n=> .int k n
 | .bt b=> .int .u8 (b.toNat:Int)
 | .st s=> .string s
 | .nl v=>v
 | .lp id off=> .pointer (some ⟨J.num id,off,none⟩)
 | .lx id off esz _ i inner=> .pointer (some ⟨J.num id,off+i*esz+inner,none⟩)
 | .sc id len cap=> .slice (some ⟨J.num id,0,none⟩) len cap
 | .so id len=> .slice (some ⟨J.num id,0,none⟩) len (J.cap id)
 | .ap id esz i off=> .pointer (some ⟨(J.adr id).block,(J.adr id).off+(i*esz+off),none⟩)
 | .ax id esz k off sz _ i inner=> .pointer (some ⟨(J.adr id).block,(J.adr id).off+(k*esz+(off+i*sz+inner)),none⟩)
 | .sa id=> .slice (J.sa id) (J.sn id) (J.cap id)
 | .op id i=> .pointer (some ⟨J.ob id i,0,none⟩)
 | .yl id=> .func (.yield (J.num id)) #[] #[]
 | .fn f l=>FC f (bB J l)
 | .ic t x=> .iface t (den J x)
 | .ag l=> .agg (bp J l).toArray
 | .tp l=> .tuple (bB J l).toArray
 | .key k=> .agg (ea k).toArray
 | .sl s=> .agg (gj s).toArray
 | .by b=> .agg (cZ b).toArray
 | .ob o=> .agg (eF o).toArray
 | .mp id=> .map (some (J.num id))
 | .bs x lo hi=>wZ (den J x) lo hi
 | .ks x e n lo hi=>wS (den J x) e n lo hi
 | .ch b f l y=>match b with
   |true=>FC f (bB J l)
   |false=>den J y
def bB (J:Env):List V->List Value
 | []=> []
 |x::l=>den J x::bB J l
def bp (J:Env):List V->List Value
 | []=> []
 |x::l=>(den J x).cells.toList++bp J l
end
def cells (J:Env) (v:V):List Value:=(den J v).cells.toList
def jK:V->Bool
 | .ag _| .key _| .sl _| .by _| .ob _=>true
 |_=>false
mutual
def fg:V->Nat
 | .ag l=>FZ l
 | .key _=>6
 | .sl _=>96
 | .by _=>64
 | .ob _=>163
 |_=>1
def FZ:List V->Nat
 | []=>0
 |x::l=>fg x+FZ l
end
mutual
def ok (N:Nat->Prop):V->Prop
 | .nl v=>v.oneCell'=true
 | .ci k n=>bY k n
 | .it k n=>bY k n
 | .key k=>k.wf
 | .sl s=>s.wf
 | .ob o=>o.wf
 | .lp id _=>N id
 | .lx id _ _ n i _=>N id/\i<n
 | .sc id _ _=>N id
 | .so id _=>N id
 | .ap id _ _ _=>N id
 | .ax id _ _ _ _ n i _=>N id/\i<n
 | .sa id=>N id
 | .op id _=>N id
 | .yl id=>N id
 | .fn _ l=>fM N l
 | .ic _ x=>ok N x
 | .ag l=>fM N l/\ti l
 | .tp l=>fM N l
 | .mp id=>N id
 | .bs x lo hi=>ok N x/\lo<=hi/\hi<=64
 | .ks x _ n lo hi=>ok N x/\lo<=hi/\hi<=n
 | .ch _ _ l y=>fM N l/\ok N y/\∀J:Env,(den J y).oneCell'=true
 |_=>True
def fM (N:Nat->Prop):List V->Prop
 | []=>True
 |x::l=>ok N x/\fM N l
def ti:List V->Prop
 | []=>True
 |x::l=>(match x with| .tp _=>False|_=>True)/\ti l
end
variable {N:Nat->Prop}
section lists
variable (J:Env)
theorem jD (l:List V):bB J l=l.map (den J):=by
 induction l with
 |nil=>simp[bB]
 |cons x l ih=>simp[bB,ih]
theorem A7 (l:List V):bp J l=l.flatMap (cells J):=by
 induction l with
 |nil=>simp[bp]
 |cons x l ih=>simp[bp,ih,cells]
theorem ja (l:List V):fM N l↔ ∀x∈l,ok N x:=by
 induction l with
 |nil=>simp[fM]
 |cons x l ih=>simp[fM,ih]
end lists
def cV:V->Bool
 | .tp _=>true
 |_=>false
theorem eE (l:List V):ti l↔ ∀x∈l,cV x=false:=by
 induction l with
 |nil=>simp[ti]
 |cons x l ih=>
  simp only[ti,ih,List.mem_cons,forall_eq_or_imp];refine and_congr_left fun _=>?_
  cases x<;>simp[cV]
theorem mM (k:Key):(ea k).length=6:=rfl
theorem iS (s:cL):(gj s).length=96:=by
 simp[gj,mM,List.range,List.range.loop]
theorem fB (s:Bytes):(cZ s).length=64:=by simp[cZ]
theorem nC (s:Obj):(eF s).length=163:=by simp[eF,iS,fB]
theorem dS {v:Value} (h:v.oneCell'=true):v.cells= #[v]:=by
 cases v<;>simp_all[Value.oneCell',Value.cells]
theorem ow (J:Env):∀v,ok N v->jK v=false->cV v=false->(den J v).oneCell'=true:=by
 intro v h h1 h2;cases v<;>try(simp_all[jK,cV,den,Value.oneCell',ok];done)
 ·exact ou _ _
 ·rename_i b f l y;cases b
  ·exact h.2.2 J
  ·exact ou _ _
 ·exact vX _ _ _
 ·exact wg _ _ _ _ _
mutual
theorem bg (J:Env):∀v,ok N v->(cells J v).length=fg v
 | .ag l,h=>by
   simp only[ok]at h;simpa[cells,den,Value.cells,fg]using tf J l h.1
 | .tp l,_=>by simp[cells,den,Value.cells,fg]
 | .key k,_=>by simp[cells,den,Value.cells,fg,mM]
 | .sl k,_=>by simp[cells,den,Value.cells,fg,iS]
 | .by k,_=>by simp[cells,den,Value.cells,fg,fB]
 | .ob k,_=>by simp[cells,den,Value.cells,fg,nC]
 | .nl v,h=>by simp only[ok]at h;simp[cells,den,dS h,fg]
 | .cb _,_| .bo _,_| .ci _ _,_| .it _ _,_| .bt _,_| .st _,_| .lp _ _,_| .lx _ _ _ _ _ _,_| .sc _ _ _,_| .so _ _,_
 | .ap _ _ _ _,_| .sa _,_| .op _ _,_| .yl _,_| .ic _ _,_| .mp _,_| .ax _ _ _ _ _ _ _ _,_=>by simp[cells,den,Value.cells,fg]
 | .fn _ _,_=>by simp[cells,den,dS (ou _ _),fg]
 | .bs x lo hi,h=>by simp[cells,den,dS (vX _ _ _),fg]
 | .ks x e n lo hi,h=>by simp[cells,den,dS (wg _ _ _ _ _),fg]
 | .ch b f l y,h=>by
   have:(den J (.ch b f l y)).oneCell'=true:=by
    cases b
    ·exact h.2.2 J
    ·exact ou _ _
   simp[cells,dS this,fg]
theorem tf (J:Env):∀l,fM N l->(bp J l).length=FZ l
 | [],_=>by simp[bp,FZ]
 |x::l,h=>by
  simp only[fM]at h;have h1:=bg J x h.1;have h2:=tf J l h.2;simp only[cells]at h1;simp only[bp,List.length_append,FZ];omega
end
def parts:V->Option (List V)
 | .ag l=>some l
 | .key k=>some [.it .i64 k.kind,.it .i64 k.oid,.it .i64 k.count,.it .i64 k.call,.it .i64 k.rights,.it .i64 k.value]
 | .sl s=>some ((List.range 16).map fun i=> .key (s.at i))
 | .by b=>some ((List.range 64).map fun i=> .bt (b.at i))
 | .ob o=>some [.it .i64 o.kind,.it .i64 o.count,.it .i64 o.calls,.sl o.slots,.by o.bytes]
 |_=>none
theorem Jc (J:Env) {v:V} {l:List V} (h:parts v=some l):den J v= .agg (bp J l).toArray:=by
 cases v<;>simp[parts]at h<;>subst h
 ·simp[den]
 ·simp[den,bp,Value.cells,ea,i64]
 ·rfl
 ·simp only[den,A7,cells,List.flatMap_map,Value.cells,cZ,<-List.map_eq_flatMap]
 ·simp[den,bp,Value.cells,eF,i64]
theorem PU {v:V} {l:List V} (h:parts v=some l) (hv:ok N v):fM N l/\ti l:=by
 cases v<;>simp[parts]at h<;>subst h
 ·exact hv
 ·obtain⟨h1,h2,h3,h4,h5,h6⟩:=hv;simp[fM,ti,ok,h1,h2,h3,h4,h5,h6]
 ·simp only[ja,eE,List.mem_map,List.mem_range];exact⟨by rintro x ⟨i,hi,rfl⟩;exact hv i hi,by rintro x ⟨i,hi,rfl⟩;rfl⟩
 ·simp[ja,eE,ok,cV]
 ·obtain⟨h1,h2,h3,h4⟩:=hv;simp[fM,ti,ok,h1,h2,h3,h4]
def find:List V->Nat->Option (V×Nat)
 | [],_=>none
 |x::l,off=>if off<fg x then some (x,off)else find l (off-fg x)
def iN:Nat->V->Nat->Nat->Bool->Option V
 |0,_,_,_,_=>none
 |f+1,v,off,n,a=>
  if off==0&&n==fg v&&a==jK v then some v
  else match parts v with
   |none=>none
   |some l=>match find l off with
    |none=>none
    |some (x,o)=>iN f x o n a
def jN (a:Bool) (cs:List Value):Value:=if a then .agg cs.toArray else cs.getD 0 undef
theorem find_spec (J:Env):∀(l:List V) (off:Nat) (x:V) (o:Nat),fM N l->ti l->find l off=some (x,o)->
  ∃p q,bp J l=p++cells J x++q/\off=p.length+o/\o<fg x/\ok N x/\cV x=false
 | [],_,_,_,_,_,h=>by simp[find]at h
 |y::l,off,x,o,hk,hc,h=>by
  simp only[fM]at hk;rw[eE]at hc;simp only[find]at h;split at h
  ·simp_all[bp,cells]
  ·rename_i hlt;obtain⟨p,q,h1,h2,h3⟩:=find_spec J l _ x o hk.2 ((eE l).2 fun z hz=>hc z (by simp[hz])) h
   have hl:=bg J y hk.1;exact⟨cells J y++p,q,by simp[bp,h1,cells],by simp;omega,h3⟩
theorem pM (J:Env) {v:V} (hv:ok N v) (ht:cV v=false):den J v=jN (jK v) (cells J v):=by
 cases h:jK v with
 |true=>cases v<;>simp_all[jK,jN,cells,den,Value.cells]
 |false=>
  have:=ow J v hv h ht;simp[jN,cells,dS this]
theorem ff (J:Env):∀(f:Nat) (v:V) (off n:Nat) (a:Bool) (r:V),ok N v->cV v=false->iN f v off n a=some r->
  (∃p q,cells J v=p++cells J r++q/\off=p.length)/\fg r=n/\jK r=a/\ok N r/\cV r=false
 |0,_,_,_,_,_,_,_,h=>by simp[iN]at h
 |f+1,v,off,n,a,r,hv,ht,h=>by
  simp only[iN]at h;split at h
  ·rename_i hc;simp only[aaX,aaZ]at hc;obtain⟨⟨h1,h2⟩,h3⟩:=hc;simp only[aaV]at h;subst h;exact⟨⟨[],[],by simp,by simpa using h1⟩,h2.symm,h3.symm,hv,ht⟩
  ·cases hp:parts v with
   |none=>simp[hp]at h
   |some l=>
    simp only[hp]at h;cases hf:find l off with
    |none=>simp[hf]at h
    |some xo=>
     obtain⟨x,o⟩:=xo;simp only[hf]at h;obtain⟨hl,hlc⟩:=PU hp hv;obtain⟨p,q,h1,h2,h3,h4,h4'⟩:=find_spec J l off x o hl hlc hf;obtain⟨⟨p',q',h5,h6⟩,h7⟩:=ff J f x o n a r h4 h4' h;refine⟨⟨p++p',q'++q,?_,by simp;omega⟩,h7⟩
     rw[cells,Jc J hp];simp[Value.cells,h1,h5]
mutual
theorem ec {M:Nat->Prop} (hM:∀i,N i->M i):∀v,ok N v->ok M v
 | .lp _ _,h| .sc _ _ _,h| .so _ _,h| .ap _ _ _ _,h| .sa _,h| .op _ _,h| .yl _,h| .mp _,h=>hM _ h
 | .ch _ _ l y,h=>⟨dt hM l h.1,ec hM y h.2.1,h.2.2⟩
 | .lx _ _ _ _ _ _,h=>⟨hM _ h.1,h.2⟩
 | .ax _ _ _ _ _ _ _ _,h=>⟨hM _ h.1,h.2⟩
 | .bs x _ _,h=>⟨ec hM x h.1,h.2⟩
 | .ks x _ _ _ _,h=>⟨ec hM x h.1,h.2⟩
 | .fn _ l,h| .tp l,h=>dt hM l h
 | .ic _ x,h=>ec hM x h
 | .ag l,h=>⟨dt hM l h.1,h.2⟩
 | .cb _,h| .bo _,h| .ci _ _,h| .it _ _,h| .bt _,h| .st _,h| .nl _,h| .key _,h| .sl _,h| .by _,h| .ob _,h=>h
theorem dt {M:Nat->Prop} (hM:∀i,N i->M i):∀l,fM N l->fM M l
 | [],_=>trivial
 |x::l,h=>⟨ec hM x h.1,dt hM l h.2⟩
end
def Env.bE (N:Nat->Prop) (J ρ':Env):Prop:=∀i,N i->ρ'.num i=J.num i/\ρ'.cap i=J.cap i/\ρ'.adr i=J.adr i/\ρ'.sa i=J.sa i/\ρ'.sn i=J.sn i/\ρ'.ob i=J.ob i
theorem Env.bE.refl (N:Nat->Prop) (J:Env):Env.bE N J J:=fun _ _=>⟨rfl,rfl,rfl,rfl,rfl,rfl⟩
theorem Env.bE.trans {J ρ' ρ'':Env} {M:Nat->Prop} (h:Env.bE N J ρ') (h':Env.bE M ρ' ρ'') (hM:∀i,N i->M i):Env.bE N J ρ'':=fun i hi=>by
 obtain⟨a,b,c,d,e,f⟩:=h i hi;obtain⟨a',b',c',d',e',f'⟩:=h' i (hM i hi);exact⟨a'.trans a,b'.trans b,c'.trans c,d'.trans d,e'.trans e,f'.trans f⟩
theorem Env.bE.mono {J ρ':Env} {M:Nat->Prop} (h:Env.bE N J ρ') (hM:∀i,M i->N i):Env.bE M J ρ':=fun i hi=>h i (hM i hi)
mutual
theorem gh {J ρ':Env} (h:Env.bE N J ρ'):∀v,ok N v->den ρ' v=den J v
 | .lp id _,hv=>by simp only[den,(h id hv).1]
 | .yl id,hv=>by simp only[den,(h id hv).1]
 | .mp id,hv=>by simp only[den,(h id hv).1]
 | .ch b f l y,hv=>by
   cases b
   ·simp only[den];exact gh h y hv.2.1
   ·simp only[den,fS h l hv.1]
 | .lx id _ _ _ _ _,hv=>by simp only[den,(h id hv.1).1]
 | .sc id _ _,hv=>by simp only[den,(h id hv).1]
 | .so id _,hv=>by simp only[den,(h id hv).1,(h id hv).2.1]
 | .ap id _ _ _,hv=>by simp only[den,(h id hv).2.2.1]
 | .ax id _ _ _ _ _ _ _,hv=>by simp only[den,(h id hv.1).2.2.1]
 | .bs x _ _,hv=>by simp only[den,gh h x hv.1]
 | .ks x _ _ _ _,hv=>by simp only[den,gh h x hv.1]
 | .sa id,hv=>by simp only[den,(h id hv).2.1,(h id hv).2.2.2.1,(h id hv).2.2.2.2.1]
 | .op id _,hv=>by simp only[den,(h id hv).2.2.2.2.2]
 | .fn _ l,hv=>by simp only[den,fS h l hv]
 | .tp l,hv=>by simp only[den,fS h l hv]
 | .ag l,hv=>by simp only[den,vK h l hv.1]
 | .ic _ x,hv=>by simp only[den,gh h x hv]
 | .cb _,_| .bo _,_| .ci _ _,_| .it _ _,_| .bt _,_| .st _,_| .nl _,_| .key _,_| .sl _,_| .by _,_| .ob _,_=>by simp only[den]
theorem fS {J ρ':Env} (h:Env.bE N J ρ'):∀l,fM N l->bB ρ' l=bB J l
 | [],_=>rfl
 |x::l,hv=>by simp only[bB,gh h x hv.1,fS h l hv.2]
theorem vK {J ρ':Env} (h:Env.bE N J ρ'):∀l,fM N l->bp ρ' l=bp J l
 | [],_=>rfl
 |x::l,hv=>by simp only[bp,gh h x hv.1,vK h l hv.2]
end
theorem dV {J ρ':Env} (h:Env.bE N J ρ') (v:V) (hv:ok N v):cells ρ' v=cells J v:=by simp only[cells,gh h v hv]
end Go.Sx
namespace Go.Sx
variable {N:Nat->Prop}
theorem cL.fX (s:cL) (i:Nat) (k:Key) (j:Nat) (h:i<16):(s.put i k).at j=if j=i then k else s.at j:=by
 unfold cL.at cL.put;simp only[Vector.toArray_setIfInBounds,Array.getD_eq_getD_getElem?];by_cases e:j=i
 ·subst e;simp[h]
 ·rw[aa3 e,Array.getElem?_setIfInBounds_ne (Ne.symm e)]
theorem Bytes.fX (s:Bytes) (i:Nat) (k:UInt8) (j:Nat) (h:i<64):(s.put i k).at j=if j=i then k else s.at j:=by
 unfold Bytes.at Bytes.put;simp only[Vector.toArray_setIfInBounds,Array.getD_eq_getD_getElem?];by_cases e:j=i
 ·subst e;simp[h]
 ·rw[aa3 e,Array.getElem?_setIfInBounds_ne (Ne.symm e)]
theorem pO {α:Type} (f:Nat->List α) (n i:Nat) (h:i<n):
  (List.range n).flatMap f=(List.range i).flatMap f++f i++(List.range' (i+1) (n-i-1)).flatMap f:=by
 have e:List.range n=List.range i++(i::List.range' (i+1) (n-i-1)):=by
  have h1:=List.range'_append (s:=0) (m:=i) (n:=n-i-1+1) (step:=1);rw[List.range_eq_range',List.range_eq_range',<-List.range'_succ];simp only[Nat.zero_add,Nat.one_mul]at h1;rw[h1];congr 1;omega
 rw[e];simp
theorem nU {α:Type} (f g:Nat->List α) (l:List Nat) (h:∀j∈l,f j=g j):l.flatMap f=l.flatMap g:=by
 induction l with
 |nil=>rfl
 |cons x l ih=>simp[h x (by simp),ih fun j hj=>h j (by simp[hj])]
theorem wX {α:Type} (f:Nat->List α) (m:Nat) (l:List Nat) (h:∀j,(f j).length=m):(l.flatMap f).length=l.length*m:=by
 induction l with
 |nil=>simp
 |cons x l ih=>simp[h x,ih,Nat.succ_mul];omega
theorem nQ (s:cL) (i:Nat) (h:i<16):
  ∃p q,gj s=p++ea (s.at i)++q/\p.length=i*6/\∀k,gj (s.put i k)=p++ea k++q:=by
 refine⟨_,_,pO _ 16 i h,by rw[wX _ 6 _ (fun j=>mM _)];simp,fun k=>?_⟩
 unfold gj;rw[pO _ 16 i h,cL.fX _ _ _ _ h,aa4 rfl];congr 1
 ·grind[nU,cL.fX]
 ·grind[nU,cL.fX]
theorem cL.OY {s:cL} {i:Nat} {k:Key} (h:s.wf) (hk:k.wf) (hi:i<16):(s.put i k).wf:=by
 intro j hj;rw[cL.fX _ _ _ _ hi];split
 ·exact hk
 ·exact h j hj
theorem nX (s:Bytes) (i:Nat) (h:i<64):
  ∃p q,cZ s=p++ [.int .u8 ((s.at i).toNat:Int)]++q/\p.length=i/\∀k,cZ (s.put i k)=p++ [.int .u8 (k.toNat:Int)]++q:=by
 have e:∀t:Bytes,cZ t=(List.range 64).flatMap fun j=> [.int .u8 ((t.at j).toNat:Int)]:=fun t=>by
  simp[cZ,<-List.map_eq_flatMap]
 refine⟨_,_,(e s).trans (pO _ 64 i h),by rw[wX _ 1 _ (fun j=>rfl)];simp,fun k=>?_⟩
 rw[e,pO _ 64 i h,Bytes.fX _ _ _ _ h,aa4 rfl];congr 1
 ·grind[nU,Bytes.fX]
 ·grind[nU,Bytes.fX]
def Bd:V->Option Int
 | .ci .i64 n=>some n
 | .it .i64 n=>some n
 |_=>none
theorem yH (J:Env) {v:V} {n:Int} (h:Bd v=some n):cells J v= [i64 n]/\fg v=1/\(ok N v->bY .i64 n):=by
 cases v<;>simp[Bd]at h
 ·rename_i k m;cases k<;>simp at h;subst h;exact⟨rfl,rfl,id⟩
 ·rename_i k m;cases k<;>simp at h;subst h;exact⟨rfl,rfl,id⟩
def toByte:V->Option UInt8
 | .bt b=>some b
 | .ci .u8 n=>if decide (0<=n)&&decide (n<256)then some (UInt8.ofNat n.toNat)else none
 |_=>none
theorem rQ (J:Env) {v:V} {n:UInt8} (h:toByte v=some n):cells J v= [.int .u8 (n.toNat:Int)]/\fg v=1:=by
 cases v<;>simp[toByte]at h
 ·rename_i k m;cases k<;>simp at h
  obtain⟨⟨h1,h2⟩,rfl⟩:=h;refine⟨?_,rfl⟩;simp only[cells,den,Value.cells];simp;omega
 ·subst h;exact⟨rfl,rfl⟩
def zR (g:V->Nat->V->Option V):List V->Nat->V->Option (List V)
 | [],_,_=>none
 |x::l,off,y=>if off<fg x then(g x off y).map (· ::l)else(zR g l (off-fg x) y).map (x:: ·)
def FM (k:Key) (off:Nat) (y:V):Option V:=
 match Bd y with
 |none=>none
 |some n=>match off with
  |0=>some (.key {k with kind:=n})
  |1=>some (.key {k with oid:=n})
  |2=>some (.key {k with count:=n})
  |3=>some (.key {k with call:=n})
  |4=>some (.key {k with rights:=n})
  |5=>some (.key {k with value:=n})
  |_=>none
def oE (o:Obj) (off:Nat) (y:V):Option V:=
 match Bd y with
 |none=>none
 |some n=>match off with
  |0=>some (.ob {o with kind:=n})
  |1=>some (.ob {o with count:=n})
  |2=>some (.ob {o with calls:=n})
  |_=>none
def setAt:Nat->V->Nat->V->Option V
 |0,_,_,_=>none
 |f+1,v,off,y=>
  if off==0&&fg y==fg v&&jK y==jK v then some y
  else match v with
   | .ag l=>(zR (setAt f) l off y).map .ag
   | .key k=>FM k off y
   | .sl s=>if off<96 then match setAt f (.key (s.at (off / 6))) (off%6) y with
     |some (.key k)=>some (.sl (s.put (off / 6) k))
     |_=>none
     else none
   | .by b=>if off<64 then(toByte y).map fun x=> .by (b.put off x)else none
   | .ob o=>if off<3 then oE o off y
     else if off<99 then match setAt f (.sl o.slots) (off-3) y with
      |some (.sl s)=>some (.ob {o with slots:=s})
      |_=>none
     else match setAt f (.by o.bytes) (off-99) y with
      |some (.by s)=>some (.ob {o with bytes:=s})
      |_=>none
   |_=>none
def Iu (N:Nat->Prop) (J:Env) (v v':V) (off:Nat) (y:V):Prop:=
 (∃p m q,cells J v=p++m++q/\cells J v'=p++cells J y++q/\p.length=off/\m.length=fg y)/\jK v'=jK v/\ok N v'/\cV v'=false
theorem DF (J:Env) {k:Key} {off:Nat} {y v':V} (hk0:k.wf) (hy0:ok N y) (h:FM k off y=some v'):Iu N J (.key k) v' off y:=by
 obtain⟨w1,w2,w3,w4,w5,w6⟩:=hk0;unfold FM at h;cases hy:Bd y with
 |none=>simp[hy]at h
 |some n=>
  simp only[hy]at h;obtain⟨h1,h2,hn⟩:=yH (N:=N) J hy;have hn:=hn hy0;have hk:cells J (.key k)=ea k:=by simp[cells,den,Value.cells]
  split at h<;>simp only[aaV,reduceCtorEq]at h<;>subst h<;>
   refine⟨?_,rfl,⟨by assumption,by assumption,by assumption,by assumption,by assumption,by assumption⟩,rfl⟩<;>rw[h1,h2,hk]<;>simp only[cells,den,Value.cells,ea]
  ·exact⟨[],[i64 k.kind],_,rfl,rfl,rfl,rfl⟩
  ·exact⟨[i64 k.kind],[i64 k.oid],_,rfl,rfl,rfl,rfl⟩
  ·exact⟨[i64 k.kind,i64 k.oid],[i64 k.count],_,rfl,rfl,rfl,rfl⟩
  ·exact⟨[i64 k.kind,i64 k.oid,i64 k.count],[i64 k.call],_,rfl,rfl,rfl,rfl⟩
  ·exact⟨[i64 k.kind,i64 k.oid,i64 k.count,i64 k.call],[i64 k.rights],_,rfl,rfl,rfl,rfl⟩
  ·exact⟨[i64 k.kind,i64 k.oid,i64 k.count,i64 k.call,i64 k.rights],[i64 k.value],[],rfl,rfl,rfl,rfl⟩
theorem jT (J:Env) (o:Obj):cells J (.ob o)=eF o:=by simp[cells,den,Value.cells]
theorem nD (J:Env) (o:cL):cells J (.sl o)=gj o:=by simp[cells,den,Value.cells]
theorem kC (J:Env) (o:Bytes):cells J (.by o)=cZ o:=by simp[cells,den,Value.cells]
theorem sO (J:Env) (o:Key):cells J (.key o)=ea o:=by simp[cells,den,Value.cells]
theorem fE (J:Env) (l:List V):cells J (.ag l)=bp J l:=by simp[cells,den,Value.cells]
theorem Gc (J:Env) {o:Obj} {off:Nat} {y v':V} (hk0:o.wf) (hy0:ok N y) (h:oE o off y=some v'):Iu N J (.ob o) v' off y:=by
 obtain⟨w1,w2,w3,w4⟩:=hk0;unfold oE at h;cases hy:Bd y with
 |none=>simp[hy]at h
 |some n=>
  simp only[hy]at h;obtain⟨h1,h2,hn⟩:=yH (N:=N) J hy;have hn:=hn hy0
  split at h<;>simp only[aaV,reduceCtorEq]at h<;>subst h<;>
   refine⟨?_,rfl,⟨by assumption,by assumption,by assumption,by assumption⟩,rfl⟩<;>rw[h1,h2,jT,jT]<;>simp only[eF]
  ·exact⟨[],[i64 o.kind],_,rfl,rfl,rfl,rfl⟩
  ·exact⟨[i64 o.kind],[i64 o.count],_,rfl,rfl,rfl,rfl⟩
  ·exact⟨[i64 o.kind,i64 o.count],[i64 o.calls],_,rfl,rfl,rfl,rfl⟩
theorem Iu.whole (J:Env) {v y:V} (hv:ok N v) (hy:ok N y) (hs:fg y=fg v) (ha:jK y=jK v) (ht:cV y=false):Iu N J v y 0 y:=
 ⟨⟨[],cells J v,[],by simp,by simp,rfl,by rw[bg J v hv,hs]⟩,ha,hy,ht⟩
theorem zE (J:Env) (g:V->Nat->V->Option V) (y:V)
  (hg:∀x off x',ok N x->cV x=false->g x off y=some x'->Iu N J x x' off y):
  ∀(l:List V) (off:Nat) (l':List V),fM N l->ti l->zR g l off y=some l'->Iu N J (.ag l) (.ag l') off y
 | [],_,_,_,_,h=>by simp[zR]at h
 |x::l,off,l',hk,hc,h=>by
  have hc':=(eE _).1 hc;simp only[fM]at hk;simp only[zR]at h;split at h
  ·cases hx:g x off y with
   |none=>simp[hx]at h
   |some x'=>
    simp only[hx,Option.map_some,aaV]at h;subst h;obtain⟨⟨p,m,q,h1,h2,h3,h4⟩,_,h6,h7⟩:=hg x off x' hk.1 (hc' x (by simp)) hx
    refine⟨⟨p,m,q++bp J l,?_,?_,h3,h4⟩,rfl,⟨⟨h6,hk.2⟩,(eE _).2 ?_⟩,rfl⟩
    ·grind[fE,bp,den,cells]
    ·grind[fE,bp,den,cells]
    ·simp_all
  ·cases hx:zR g l (off-fg x) y with
   |none=>simp[hx]at h
   |some l2=>
    simp only[hx,Option.map_some,aaV]at h;subst h;obtain⟨⟨p,m,q,h1,h2,h3,h4⟩,_,h6,_⟩:=zE J g y hg l _ l2 hk.2 ((eE _).2 fun z hz=>hc' z (by simp[hz])) hx
    have hl:=bg J x hk.1;rw[fE]at h1 h2;refine⟨⟨cells J x++p,m,q,?_,?_,by simp;omega,h4⟩,rfl,⟨⟨hk.1,h6.1⟩,(eE _).2 ?_⟩,rfl⟩
    ·rw[fE];simp only[bp,h1];simp[cells]
    ·rw[fE];simp only[bp,h2];simp[cells]
    ·intro z hz;rcases List.mem_cons.1 hz with rfl|hz
     ·exact hc' _ (by simp)
     ·exact(eE _).1 h6.2 z hz
theorem iz (J:Env) (y:V) (hy:ok N y) (hty:cV y=false):∀(f:Nat) (v:V) (off:Nat) (v':V),ok N v->cV v=false->setAt f v off y=some v'->Iu N J v v' off y
 |0,_,_,_,_,_,h=>by simp[setAt]at h
 |f+1,v,off,v',hv,ht,h=>by
  simp only[setAt]at h;split at h
  ·simp_all[Iu.whole]
  ·split at h
   ·rename_i l _;cases hs:zR (setAt f) l off y with
    |none=>simp[hs]at h
    |some l'=>
     simp only[hs,Option.map_some,aaV]at h;subst h;exact zE J _ y (fun x o x' hx hxt hg=>iz J y hy hty f x o x' hx hxt hg) l off l' hv.1 hv.2 hs
   ·exact DF J hv hy h
   ·rename_i s _;split at h
    ·rename_i hlt;split at h<;>simp only[aaV,reduceCtorEq]at h
     rename_i k hk;subst h;obtain⟨⟨p,m,q,h1,h2,h3,h4⟩,_,hkw,_⟩:=iz J y hy hty f (.key _) _ _ (hv (off / 6) (by omega)) rfl hk
     obtain⟨P,Q,e1,e2,e3⟩:=nQ s (off / 6) (by omega)
     rw[sO]at h1 h2;refine⟨⟨P++p,m,q++Q,?_,?_,by simp;omega,h4⟩,rfl,cL.OY hv hkw (by omega),rfl⟩
     ·rw[nD,e1,h1];simp
     ·rw[nD,e3,h2];simp
    ·simp at h
   ·rename_i b _;split at h
    ·rename_i hlt;cases hb:toByte y with
     |none=>simp[hb]at h
     |some x=>
      simp only[hb,Option.map_some,aaV]at h;subst h;obtain⟨h1,h2⟩:=rQ J hb;obtain⟨P,Q,e1,e2,e3⟩:=nX b off hlt;refine⟨⟨P,[.int .u8 ((b.at off).toNat:Int)],Q,?_,?_,e2,?_⟩,rfl,trivial,rfl⟩
      ·rw[kC,e1]
      ·rw[kC,e3,h1]
      ·rw[h2];rfl
    ·simp at h
   ·rename_i o _;split at h
    ·exact Gc J hv hy h
    ·split at h
     ·split at h<;>simp only[aaV,reduceCtorEq]at h
      rename_i s hs;subst h;obtain⟨w1,w2,w3,w4⟩:=hv;obtain⟨⟨p,m,q,h1,h2,h3,h4⟩,_,hsw,_⟩:=iz J y hy hty f (.sl _) _ _ w4 rfl hs;rw[nD]at h1 h2;refine⟨⟨i64 o.kind::i64 o.count::i64 o.calls::p,m,q++cZ o.bytes,?_,?_,by simp;omega,h4⟩,rfl,⟨w1,w2,w3,hsw⟩,rfl⟩
      ·rw[jT,eF,h1];simp
      ·rw[jT,eF];simp only[h2];simp
     ·split at h<;>simp only[aaV,reduceCtorEq]at h
      rename_i s hs;subst h;obtain⟨⟨p,m,q,h1,h2,h3,h4⟩,_⟩:=iz J y hy hty f (.by _) _ _ trivial rfl hs
      rw[kC]at h1 h2;have hl:=iS o.slots;refine⟨⟨i64 o.kind::i64 o.count::i64 o.calls::(gj o.slots++p),m,q,?_,?_,by simp;omega,h4⟩,rfl,hv,rfl⟩
      ·rw[jT,eF,h1];simp
      ·rw[jT,eF];simp only[h2];simp
   ·simp at h
theorem Iu.size {J:Env} {v v' y:V} {off:Nat} (h:Iu N J v v' off y) (hy:ok N y):(cells J v').length=(cells J v).length:=by
 obtain⟨⟨p,m,q,h1,h2,h3,h4⟩,_⟩:=h;rw[h1,h2];simp[bg J y hy,h4]
def Xq (v:V) (esz n i inner sz:Nat) (a:Bool):Option V:=
 match v with
 | .sl s=>if esz==6&&n==16 then iN 3 (.key (s.at i)) inner sz a else none
 | .by b=>if esz==1&&n==64&&inner==0&&sz==1&& !a then some (.bt (b.at i))else none
 |_=>none
theorem JZ (J:Env) {v:V} {esz n i inner sz:Nat} {a:Bool} {r:V} (hv:ok N v) (hi:i<n) (h:Xq v esz n i inner sz a=some r):
  (∃p q,cells J v=p++cells J r++q/\i*esz+inner=p.length)/\fg r=sz/\jK r=a/\ok N r/\cV r=false:=by
 cases v<;>simp only[Xq,reduceCtorEq]at h
 ·rename_i s;split at h
  ·rename_i hc;simp only[aaX,aaZ]at hc;obtain⟨rfl,rfl⟩:=hc;obtain⟨⟨p,q,h1,h2⟩,h3⟩:=ff J 3 (.key _) _ _ _ _ (hv i hi) rfl h;obtain⟨P,Q,e1,e2,e3⟩:=nQ s i hi;rw[sO]at h1;exact⟨⟨P++p,q++Q,by rw[nD,e1,h1];simp,by simp;omega⟩,h3⟩
  ·simp at h
 ·rename_i b;split at h
  ·rename_i hc;simp only[aaX,aaZ,Bool.not_eq_true']at hc;obtain⟨⟨⟨⟨rfl,rfl⟩,rfl⟩,rfl⟩,rfl⟩:=hc;simp only[aaV]at h;subst h;obtain⟨P,Q,e1,e2,e3⟩:=nX b i hi;exact⟨⟨P,Q,by rw[kC,e1];rfl,by omega⟩,rfl,rfl,trivial,rfl⟩
  ·simp at h
def TV (v:V) (esz n i inner:Nat) (y:V):Option V:=
 match v with
 | .sl s=>if esz==6&&n==16 then match setAt 3 (.key (s.at i)) inner y with
   |some (.key k)=>some (.sl (s.put i k))
   |_=>none
   else none
 | .by b=>if esz==1&&n==64&&inner==0 then(toByte y).map fun x=> .by (b.put i x)else none
 |_=>none
theorem IK (J:Env) {v:V} {esz n i inner:Nat} {y v':V} (hv:ok N v) (hi:i<n) (hy:ok N y) (hty:cV y=false) (h:TV v esz n i inner y=some v'):
  Iu N J v v' (i*esz+inner) y/\fg v'=fg v:=by
 cases v<;>simp only[TV,reduceCtorEq]at h
 ·rename_i s;split at h
  ·rename_i hc;simp only[aaX,aaZ]at hc;obtain⟨rfl,rfl⟩:=hc;split at h<;>simp only[aaV,reduceCtorEq]at h
   rename_i k hk;subst h;obtain⟨⟨p,m,q,h1,h2,h3,h4⟩,_,hkw,_⟩:=iz J y hy hty _ (.key _) _ _ (hv i hi) rfl hk;obtain⟨P,Q,e1,e2,e3⟩:=nQ s i hi;rw[sO]at h1 h2;refine⟨⟨⟨P++p,m,q++Q,?_,?_,by simp;omega,h4⟩,rfl,cL.OY hv hkw hi,rfl⟩,rfl⟩
   ·rw[nD,e1,h1];simp
   ·rw[nD,e3,h2];simp
  ·simp at h
 ·rename_i b;split at h
  ·rename_i hc;simp only[aaX,aaZ]at hc;obtain⟨⟨rfl,rfl⟩,rfl⟩:=hc;cases hb:toByte y with
   |none=>simp[hb]at h
   |some x=>
    simp only[hb,Option.map_some,aaV]at h;subst h;obtain⟨h1,h2⟩:=rQ J hb;obtain⟨P,Q,e1,e2,e3⟩:=nX b i hi;refine⟨⟨⟨P,[.int .u8 ((b.at i).toNat:Int)],Q,?_,?_,by omega,?_⟩,rfl,trivial,rfl⟩,rfl⟩
    ·rw[kC,e1]
    ·rw[kC,e3,h1]
    ·rw[h2];rfl
  ·simp at h
def Ik (c:V) (off esz n i inner:Nat) (y:V):Option V:=
 match iN 8 c off (n*esz) true with
 |none=>none
 |some x=>match TV x esz n i inner y with
  |none=>none
  |some x'=>setAt 8 c off x'
theorem lB {α:Type} {p p' m m' q q':List α} (h:p++m++q=p'++m'++q') (h1:p.length=p'.length) (h2:m.length=m'.length):p=p'/\m=m'/\q=q':=by
 rw[List.append_assoc,List.append_assoc]at h;obtain⟨e1,e2⟩:=List.append_inj h h1;obtain⟨e3,e4⟩:=List.append_inj e2 h2;exact⟨e1,e3,e4⟩
theorem Gw (J:Env) {c:V} {off esz n i inner:Nat} {y c':V} (hc:ok N c) (ht:cV c=false) (hi:i<n) (hy:ok N y) (hty:cV y=false) (h:Ik c off esz n i inner y=some c'):
  Iu N J c c' (off+i*esz+inner) y:=by
 unfold Ik at h;cases hx:iN 8 c off (n*esz) true with
 |none=>simp[hx]at h
 |some x=>
  simp only[hx]at h;cases hx':TV x esz n i inner y with
  |none=>simp[hx']at h
  |some x'=>
   simp only[hx']at h;obtain⟨⟨p,q,h1,h2⟩,hsz,_,h5,h6⟩:=ff J _ _ _ _ _ _ hc ht hx;obtain⟨⟨⟨P,M,Q,e1,e2,e3,e4⟩,e5,e6,e7⟩,e8⟩:=IK J h5 hi hy hty hx';obtain⟨⟨p2,m2,q2,f1,f2,f3,f4⟩,f5,f6,f7⟩:=iz J x' e6 e7 8 c off c' hc ht h;obtain⟨rfl,rfl,rfl⟩:=lB (f1.symm.trans h1) (by omega) (by rw[f4,bg J x h5,e8])
   refine⟨⟨p2++P,M,Q++q2,?_,?_,by simp;omega,e4⟩,f5,f6,f7⟩
   ·rw[h1,e1];simp
   ·rw[f2,e2];simp
end Go.Sx
namespace Go.Sx
open Go.RowKit (Below)
def aj {α:Type} (l:List α) (i:Nat) (d:α):α:=l.getD i d
def ai {α:Type} (l:List α):Nat:=l.length
inductive TL where
 |fn (n:Nat) (get:Nat->V)
 |ob (l:List Obj)
 |key (l:List Key)
 |it (k:IntKind) (l:List Int)
 |bo (l:List Bool)
 |st (l:List ByteArray)
def TL.len:TL->Nat
 | .fn n _=>n
 | .ob l=>ai l
 | .key l=>ai l
 | .it _ l=>ai l
 | .bo l=>ai l
 | .st l=>ai l
def TL.get:TL->Nat->V
 | .fn _ g,i=>g i
 | .ob l,i=> .ob (aj l i free)
 | .key l,i=> .key (aj l i void)
 | .it k l,i=> .it k (aj l i 0)
 | .bo l,i=> .bo (aj l i false)
 | .st l,i=> .st (aj l i ByteArray.empty)
inductive aK where
 |yet
 |gone
 |blk (ty:Nat) (c:V)
 |arr (own:Option Nat) (esz:Nat) (l:TL)
 |obs (ty q:Nat) (L:List Obj)
 |gen (j:Nat)
 |store (ty e:Nat) (L:List Obj)
 |lop (r:Loop) (s:LoopState) (j:Option Code)
 |dfr
 |mp (k:IntKind) (ks:List Int) (vs:List V)
 |mq (ks:List (List Int)) (vs:List V)
 |ro (r:aK)
def ay:List aK->Nat->aK
 | [],_=> .yet
 |r::_,0=>r
 |_::l,i+1=>ay l i
def bO:List aK->Nat->aK->List aK
 | [],_,_=> []
 |_::l,0,r=>r::l
 |x::l,i+1,r=>x::bO l i r
theorem m9:∀(l:List aK) (i:Nat),ay l i=l.getD i .yet
 | [],i=>by simp[ay]
 |r::l,0=>by simp[ay]
 |r::l,i+1=>by simp[ay,m9 l i]
theorem kH:∀(l:List aK) (i:Nat) (r:aK),bO l i r=l.set i r
 | [],i,r=>by simp[bO]
 |x::l,0,r=>by simp[bO]
 |x::l,i+1,r=>by simp[bO,kH l i]
theorem bJ (l:List aK) (i j:Nat) (r:aK) (h:i<l.length):ay (bO l i r) j=if j=i then r else ay l j:=by
 grind[kH,m9]
theorem aO {l:List aK} {i:Nat} (h:ay l i≠ .yet):i<l.length:=by
 grind[m9]
def known (res:List aK) (i:Nat):Prop:=ay res i≠ .yet
def Env.zero:Env:=⟨fun _=>0,fun _=>0,fun _=>⟨0,0,none⟩,fun _=>none,fun _=>0,fun _ _=>0⟩
def TL.cells (l:TL):List Value:=(List.range l.len).flatMap fun j=>Sx.cells Env.zero (l.get j)
def Env.sl (J:Env) (i:Nat):Value:= .slice (J.sa i) (J.sn i) (J.cap i)
def j5 (l:List Int):Value:= .agg (l.map i64).toArray
def aK.holds (K:Nat->Prop) (J:Env) (i:Nat) (fp:Nat->Prop) (w0:World) (F0:Nat->Prop) (w:World):aK->Prop
 | .yet=>True
 | .gone=>True
 | .blk ty c=>ok K c/\cV c=false/\fp (J.num i)/\w.heap[J.num i]? =some (.cells (cells J c).toArray ty (0,0))
 | .arr own esz l=>(∀j,j<l.len->ok (fun _=>False) (l.get j)/\cV (l.get j)=false/\fg (l.get j)=esz)/\
   J.sn i=l.len/\l.len<=9223372036854775807/\(∀a,J.sa i=some a->a=J.adr i)/\(0<l.len->(J.sa i).isSome=true)/\(0<l.len->(J.adr i).spot=none)/\
   ((own=none/\(0<l.len->¬F0 (J.adr i).block/\(J.adr i).block<w0.heap.size)/\
     ∀j,j<l.len->∀k,k<esz->w0.cell? ⟨(J.adr i).block,(J.adr i).off+(j*esz+k),none⟩=(cells J (l.get j))[k]?)\/
    ∃e,(∀e',own=some e'->e'=e)/\w.ownsRow 0 e esz (J.sl i) l.len l.cells/\∀a,J.sa i=some a->fp a.block)
 | .gen _=>True
 | .obs ty q L=>K q/\(∀o∈L,o.wf)/\J.sn i=L.length/\L.length<=9223372036854775807/\(∀a,J.sa i=some a->a=J.adr i/\fp a.block)/\(0<L.length->(J.sa i).isSome=true)/\
   w.ownsRow 0 ty 1 (J.sl i) L.length ((List.range L.length).map fun j=>Value.pointer (some ⟨J.ob q j,0,none⟩))/\
   ∀j,j<L.length->fp (J.ob q j)/\∃t,w.heap[J.ob q j]? =some (.cells (eF (L.getD j free)).toArray t (0,0))
 | .store ty e L=>fp (J.num i)/\(∀o∈L,o.wf)/\L.length<=9223372036854775807/\∃(sl:Value) (ob:Nat->Nat),w.heap[J.num i]? =some (.cells #[sl] ty (0,0))/\
   w.ownsRow 0 e 1 sl L.length ((List.range L.length).map fun j=>Value.pointer (some ⟨ob j,0,none⟩))/\(∀b,sl.ownBlock=some b->fp b/\b≠J.num i)/\
   ∀j,j<L.length->fp (ob j)/\ob j≠J.num i/\∃t,w.heap[ob j]? =some (.cells (eF (L.getD j free)).toArray t (0,0))
 | .lop r s j=>fp (J.num i)/\w.heap[J.num i]? =some (.loop {r with state:=s,pending:=j})
 | .dfr=>(∀j,j<J.sn i->fp (J.ob i j)/\w.heap[J.ob i j]? =some (.deferred (some [])))/\∀j k,j<J.sn i->k<J.sn i->J.ob i j=J.ob i k->j=k
 | .mp k ks vs=>fp (J.num i)/\fM K vs/\ti vs/\(∀c∈ks,bY k c)/\ks.length=vs.length/\∃es clock,w.heap[J.num i]? =some (.map es clock)/\es.toList.map (·.key)=ks.map (Value.int k)/\es.toList.map (·.val)=bB J vs
 | .mq ks vs=>fp (J.num i)/\fM K vs/\ti vs/\(ks.length=vs.length/\ks.Nodup)/\∃es clock,w.heap[J.num i]? =some (.map es clock)/\(es.toList.map fun e=>(e.key,e.val)).Perm ((ks.map j5).zip (bB J vs))
 | .ro r=>∃fp':Nat->Prop,aK.holds K J i fp' w0 F0 w0 r/\∀b,fp' b->b<w0.heap.size/\¬F0 b
theorem At {w w':World} {e size:Nat} {v:Value} {n:Nat} {xs:List Value} (h:w.ownsRow 0 e size v n xs) (hw:∀b,v.ownBlock=some b->w'.heap[b]? =w.heap[b]?):w'.ownsRow 0 e size v n xs:=by
 refine⟨h.1,?_⟩;rcases h.2 with h0|⟨g,cap,cur,h1,h2,h3,h4⟩
 ·exact .inl h0
 ·refine .inr ⟨g,cap,cur,h1,h2,?_,h4⟩;rw[hw g (by rw[h1];rfl)]
  exact h3
theorem vP {w w':World} {e size:Nat} {J:Env} {i n:Nat} {xs:List Value} (h:w.ownsRow 0 e size (J.sl i) n xs) (hw:∀a,J.sa i=some a->w'.heap[a.block]? =w.heap[a.block]?):w'.ownsRow 0 e size (J.sl i) n xs:=by
 refine⟨h.1,?_⟩;rcases h.2 with h0|⟨g,cap,cur,h1,h2,h3,h4⟩
 ·exact .inl h0
 ·grind[Env.sl]
theorem aK.gp {K:Nat->Prop} {J:Env} {i:Nat} {fp:Nat->Prop} {w0:World} {F0:Nat->Prop} {w w':World} (r:aK)
  (h:r.holds K J i fp w0 F0 w) (hw:∀b,fp b->w'.heap[b]? =w.heap[b]?):r.holds K J i fp w0 F0 w':=by
 cases r with
 |yet=>trivial
 |gone=>trivial
 |blk ty c=>exact⟨h.1,h.2.1,h.2.2.1,by rw[hw _ h.2.2.1];exact h.2.2.2⟩
 |arr own esz l=>
  obtain⟨h1,h2,h3,h4,h5,h6,h7⟩:=h;refine⟨h1,h2,h3,h4,h5,h6,?_⟩;rcases h7 with h7|⟨e,e1,e2,e3⟩
  ·exact .inl h7
  ·exact .inr ⟨e,e1,vP e2 fun a ha=>hw _ (e3 a ha),e3⟩
 |gen j=>trivial
 |obs ty q L=>
  obtain⟨h0,h1,h2,h3,h4,h5,h6,h7⟩:=h;refine⟨h0,h1,h2,h3,h4,h5,vP h6 fun a ha=>hw _ (h4 a ha).2,fun j hj=>?_⟩
  obtain⟨g1,t,g2⟩:=h7 j hj;exact⟨g1,t,by rw[hw _ g1];exact g2⟩
 |store ty e L=>
  obtain⟨h0,h1,h2,sl,ob,h3,h5,h6,h7⟩:=h;refine⟨h0,h1,h2,sl,ob,by rw[hw _ h0];exact h3,At h5 fun b hb=>hw _ (h6 b hb).1,h6,fun j hj=>?_⟩
  obtain⟨g1,g0,t,g2⟩:=h7 j hj;exact⟨g1,g0,t,by rw[hw _ g1];exact g2⟩
 |lop r s j=>exact⟨h.1,by rw[hw _ h.1];exact h.2⟩
 |dfr=>exact⟨fun j hj=>⟨(h.1 j hj).1,by rw[hw _ (h.1 j hj).1];exact(h.1 j hj).2⟩,h.2⟩
 |mp k ks vs=>
  obtain⟨h0,h1,h2,h3,h4,es,cl,h5,h6⟩:=h;exact⟨h0,h1,h2,h3,h4,es,cl,by rw[hw _ h0];exact h5,h6⟩
 |mq ks vs=>
  obtain⟨h0,h1,h2,h4,es,cl,h5,h6⟩:=h;exact⟨h0,h1,h2,h4,es,cl,by rw[hw _ h0];exact h5,h6⟩
 |ro r=>exact h
theorem aK.sk {K K':Nat->Prop} {J ρ':Env} {i:Nat} {fp:Nat->Prop} {w0:World} {F0:Nat->Prop} {w:World} (r:aK)
  (h:r.holds K J i fp w0 F0 w) (hK:∀j,K j->K' j) (ha:Env.bE K J ρ') (hi:K i):r.holds K' ρ' i fp w0 F0 w:=by
 obtain⟨a1,a2,a3,a4,a5,a6⟩:=ha i hi;have hsl:ρ'.sl i=J.sl i:=by simp only[Env.sl,a2,a4,a5]
 induction r generalizing fp w with
 |lop r s j=>exact⟨by rw[a1];exact h.1,by rw[a1];exact h.2⟩
 |dfr=>exact⟨fun j hj=>by rw[a5]at hj;rw[a6];exact h.1 j hj,by rw[a5,a6];exact h.2⟩
 |mp k ks vs=>
  obtain⟨h0,h1,h2,h3,h4,es,cl,h5,h6,h7⟩:=h;exact⟨by rw[a1];exact h0,dt hK _ h1,h2,h3,h4,es,cl,by rw[a1];exact h5,h6,by rw[fS ha vs h1];exact h7⟩
 |mq ks vs=>
  obtain⟨h0,h1,h2,h4,es,cl,h5,h7⟩:=h;exact⟨by rw[a1];exact h0,dt hK _ h1,h2,h4,es,cl,by rw[a1];exact h5,by rw[fS ha vs h1];exact h7⟩
 |store ty e L=>
  obtain⟨h0,h1,h2,sl,ob,h3,h5,h6,h7⟩:=h;exact⟨by rw[a1];exact h0,h1,h2,sl,ob,by rw[a1];exact h3,h5,by rw[a1];exact h6,by rw[a1];exact h7⟩
 |ro r ih=>
  obtain⟨fp',h1,h2⟩:=h;exact⟨fp',ih h1,h2⟩
 |yet=>trivial
 |gone=>trivial
 |blk ty c=>exact⟨ec hK _ h.1,h.2.1,by rw[a1];exact h.2.2.1,by rw[a1,dV ha c h.1];exact h.2.2.2⟩
 |arr own esz l=>
  obtain⟨h1,h2,h3,h4,h5,h6,h7⟩:=h;refine⟨h1,by rw[a5];exact h2,h3,by rw[a4,a3];exact h4,by rw[a4];exact h5,by rw[a3];exact h6,?_⟩
  rcases h7 with⟨e1,e2,e3⟩|⟨e,e1,e2,e3⟩
  ·refine .inl ⟨e1,by rw[a3];exact e2,fun j hj k hk=>?_⟩
   rw[a3,e3 j hj k hk,dV (N:=fun _=>False) (J:=J) (ρ':=ρ') (fun _ h=>h.elim) _ (h1 j hj).1]
  ·exact .inr ⟨e,e1,by rw[hsl];exact e2,by rw[a4];exact e3⟩
 |gen j=>trivial
 |obs ty q L=>
  obtain⟨h0,h1,h2,h3,h4,h5,h6,h7⟩:=h;have a6:=(ha q h0).2.2.2.2.2;exact⟨hK q h0,h1,by rw[a5];exact h2,h3,by rw[a4,a3];exact h4,by rw[a4];exact h5,by rw[hsl,a6];exact h6,by rw[a6];exact h7⟩
structure bq (J:Env) (fps:Nat->Nat->Prop) (res:List aK) (K:Nat->Prop) (w0:World) (F0:Nat->Prop) (w:World):Prop where
 sub:∀i,known res i->K i
 old:w0.heap.size<=w.heap.size
 os:w.os=w0.os
 tape:w.tape=w0.tape
 output:w.output=w0.output
 holds:∀i,known res i->(ay res i).holds K J i (fps i) w0 F0 w
 lt:∀i b,known res i->fps i b->b<w.heap.size
 disj:∀i j b,known res i->known res j->i≠j->fps i b->¬fps j b
 inF:∀i b,known res i->fps i b->b<w0.heap.size->F0 b
 same:∀b,b<w0.heap.size->¬F0 b->w.heap[b]? =w0.heap[b]?
def cG (l:List aK) (i:Nat):aK:=
 match ay l i with
 | .ro r=>r
 |r=>r
theorem dU {l:List aK} {i:Nat} {r:aK} (h:cG l i=r) (hr:r≠ .yet):known l i:=by
 grind[cG,known]
theorem bq.look {J:Env} {fps:Nat->Nat->Prop} {res:List aK} {K:Nat->Prop} {w0:World} {F0:Nat->Prop} {w:World} (h:bq J fps res K w0 F0 w) {i:Nat} {r:aK}
  (hr:cG res i=r) (hne:r≠ .yet):∃fp:Nat->Prop,r.holds K J i fp w0 F0 w/\∀b,fp b->b<w.heap.size:=by
 have hk:=dU hr hne;have hh:=h.holds i hk;unfold cG at hr;split at hr
 ·rename_i r' he;rw[he]at hh;subst hr;obtain⟨fp',h1,h2⟩:=hh;exact⟨fp',aK.gp _ h1 fun b hb=>h.same b (h2 b hb).1 (h2 b hb).2,fun b hb=>Nat.lt_of_lt_of_le (h2 b hb).1 h.old⟩
 ·subst hr;exact⟨fps i,hh,fun b hb=>h.lt i b hk hb⟩
def fresh (nid n:Nat) (i:Nat):Prop:=nid<=i/\i<nid+n
def n9 (K:Nat->Prop) (J ρ':Env) (nid:Nat) (new:List aK) (w0:World) (F0:Nat->Prop) (w w':World):Prop:=
 Below w.heap.size w w'/\Env.bE (fun i=>¬fresh nid new.length i) J ρ'/\
 ∃fp:Nat->Nat->Prop,(∀k,k<new.length->(ay new k).holds (fun i=>K i\/fresh nid new.length i) ρ' (nid+k) (fp k) w0 F0 w'/\∀b,fp k b->w.heap.size<=b/\b<w'.heap.size)/\
  ∀k l b,k<new.length->l<new.length->k≠l->fp k b->¬fp l b
theorem n9.refl (K:Nat->Prop) (J:Env) (nid:Nat) (w0:World) (F0:Nat->Prop) (w:World):n9 K J J nid [] w0 F0 w w:=
 ⟨Below.refl _ _,Env.bE.refl _ _,fun _ _=>False,fun k hk=>by simp at hk,fun k l b hk=>by simp at hk⟩
def QN (res res':List aK) (nid:Nat) (new:List aK):Prop:=
 (∀i,known res i->ay res' i=ay res i/\¬fresh nid new.length i)/\
 (∀i,known res' i->known res i\/fresh nid new.length i)/\
 ∀k,k<new.length->ay res' (nid+k)=ay new k
theorem aK.oG {K K':Nat->Prop} {J:Env} {i:Nat} {fp:Nat->Prop} {w0:World} {F0:Nat->Prop} {w:World} (r:aK)
  (h:r.holds K J i fp w0 F0 w) (hK:∀j,K j->K' j):r.holds K' J i fp w0 F0 w:=by
 induction r generalizing fp w with
 |blk ty c=>exact⟨ec hK _ h.1,h.2⟩
 |mp k ks vs=>exact⟨h.1,dt hK _ h.2.1,h.2.2⟩
 |mq ks vs=>exact⟨h.1,dt hK _ h.2.1,h.2.2⟩
 |obs ty q L=>exact⟨hK q h.1,h.2⟩
 |ro r ih=>
  obtain⟨fp',h1,h2⟩:=h;exact⟨fp',ih h1,h2⟩
 |_=>exact h
theorem bq.grow {J ρ':Env} {fps:Nat->Nat->Prop} {res res':List aK} {w0:World} {F0:Nat->Prop} {w w':World} {nid:Nat} {new:List aK} {K K':Nat->Prop}
  (h:bq J fps res K w0 F0 w) (ha:QN res res' nid new) (hKf:∀i,K i->¬fresh nid new.length i) (hK':∀i,K i\/fresh nid new.length i->K' i)
  (hg:n9 K J ρ' nid new w0 F0 w w'):
  ∃fps',bq ρ' fps' res' K' w0 F0 w'/\Env.bE K J ρ':=by
 obtain⟨hb,hag,fp,h1,h2⟩:=hg;obtain⟨a1,a2,a3⟩:=ha;have hag':Env.bE K J ρ':=hag.mono hKf;have hkey:∀i,known res i->¬fresh nid new.length i:=fun i hi=>(a1 i hi).2
 classical
 refine⟨fun i=>if fresh nid new.length i then fp (i-nid)else fps i,⟨?_,Nat.le_trans h.old hb.size,hb.os.trans h.os,hb.tape.trans h.tape,hb.output.trans h.output,?_,?_,?_,?_,?_⟩,hag'⟩
 ·intro i hi;rcases a2 i hi with hk|hf
  ·exact hK' i (.inl (h.sub i hk))
  ·exact hK' i (.inr hf)
 ·intro i hi;rcases a2 i hi with hk|hf
  ·simp only[aa3 (hkey i hk)];rw[(a1 i hk).1];exact aK.sk _ (aK.gp _ (h.holds i hk) fun b hbb=>hb.block b (h.lt i b hk hbb)) (fun j hj=>hK' j (.inl hj)) hag' (h.sub i hk)
  ·simp only[aa4 hf];obtain⟨e1,e2⟩:=hf;have:=(h1 (i-nid) (by omega)).1
   rw[show nid+(i-nid)=i by omega]at this
   have h3:=a3 (i-nid) (by omega)
   rw[show nid+(i-nid)=i by omega]at h3
   rw[h3];exact aK.oG _ this hK'
 ·intro i b hi hbb;rcases a2 i hi with hk|hf
  ·simp only[aa3 (hkey i hk)]at hbb;exact Nat.lt_of_lt_of_le (h.lt i b hk hbb) hb.size
  ·grind[fresh]
 ·intro i j b hi hj hne hbi hbj;rcases a2 i hi with hk|hf<;>rcases a2 j hj with hk'|hf'
  ·simp only[aa3 (hkey i hk)]at hbi;simp only[aa3 (hkey j hk')]at hbj;exact h.disj i j b hk hk' hne hbi hbj
  ·simp only[aa3 (hkey i hk)]at hbi;simp only[aa4 hf']at hbj;have:=((h1 (j-nid) (by unfold fresh at hf';omega)).2 b hbj).1
   have:=h.lt i b hk hbi;omega
  ·simp only[aa4 hf]at hbi;simp only[aa3 (hkey j hk')]at hbj;have:=((h1 (i-nid) (by unfold fresh at hf;omega)).2 b hbi).1
   have:=h.lt j b hk' hbj;omega
  ·grind[fresh]
 ·intro i b hi hbb hlt;rcases a2 i hi with hk|hf
  ·simp only[aa3 (hkey i hk)]at hbb;exact h.inF i b hk hbb hlt
  ·simp only[aa4 hf]at hbb;have:=((h1 (i-nid) (by unfold fresh at hf;omega)).2 b hbb).1
   have:=h.old;omega
 ·intro b hlt hF;rw[hb.block b (Nat.lt_of_lt_of_le hlt h.old)];exact h.same b hlt hF
theorem cF (l m:List aK) (i:Nat):ay (l++m) i=if i<l.length then ay l i else ay m (i-l.length):=by
 grind[m9]
theorem k8 (res new:List aK):QN res (res++new) res.length new:=by
 refine⟨fun i hi=>?_,fun i hi=>?_,fun k hk=>?_⟩
 ·have:=aO hi;exact⟨by rw[cF,aa4 this],by unfold fresh;omega⟩
 ·unfold known at hi⊢;rw[cF]at hi;by_cases h:i<res.length
  ·rw[aa4 h]at hi;exact .inl hi
  ·rw[aa3 h]at hi;have:=aO hi;exact .inr ⟨by omega,by omega⟩
 ·rw[cF,aa3 (by omega)];congr 1;omega
def Env.bT (J:Env) (i b:Nat):Env:= {J with num:=fun j=>if j=i then b else J.num j}
theorem mY (J:Env) (i b:Nat):Env.bE (fun j=>¬fresh i 1 j) J (J.bT i b):=fun j hj=>by
 have:j≠i:=fun e=>hj ⟨by omega,by omega⟩
 simp[Env.bT,this]
theorem n9.alloc {K:Nat->Prop} {J:Env} {nid ty:Nat} {c:V} {w0:World} {F0:Nat->Prop} {w:World} (hc:ok K c) (ht:cV c=false) (hn:¬K nid):
  n9 K J (J.bT nid w.heap.size) nid [.blk ty c] w0 F0 w (w.alloc (.cells (cells J c).toArray ty)):=by
 refine⟨(Below.refl _ _).alloc (Nat.le_refl _) _,mY J nid _,fun _ b=>b=w.heap.size,fun k hk=>?_,fun k l b hk hl hne=>?_⟩
 ·simp only[List.length_singleton,Nat.lt_one_iff]at hk;subst hk
  have ha:Env.bE K J (J.bT nid w.heap.size):=(mY J nid _).mono fun i hi hf=>by
   grind[fresh]
  refine⟨⟨ec (fun i hi=> .inl hi) c hc,ht,by simp[Env.bT],?_⟩,fun b hb=>by subst hb;simp⟩
  rw[dV ha c hc,show(J.bT nid w.heap.size).num (nid+0)=w.heap.size by simp[Env.bT]]
  exact heap_alloc_new w _
 ·simp only[List.length_singleton,Nat.lt_one_iff]at hk hl;omega
theorem bq.write {J:Env} {fps:Nat->Nat->Prop} {res:List aK} {K:Nat->Prop} {w0:World} {F0:Nat->Prop} {w w':World} {i ty:Nat} {c c':V}
  (h:bq J fps res K w0 F0 w) (hi:ay res i= .blk ty c) (hc:ok K c') (ht:cV c'=false)
  (hos:w'.os=w.os) (htape:w'.tape=w.tape) (hout:w'.output=w.output) (hsize:w'.heap.size=w.heap.size)
  (hnew:w'.heap[J.num i]? =some (.cells (cells J c').toArray ty (0,0))) (hold:∀b,b≠J.num i->w'.heap[b]? =w.heap[b]?):
  bq J fps (bO res i (.blk ty c')) K w0 F0 w':=by
 have hk:known res i:=by unfold known;rw[hi];simp
 have hlt:=aO hk;have hh:=h.holds i hk;rw[hi]at hh;obtain⟨_,_,hfp,_⟩:=hh
 have hkn:∀j,known (bO res i (.blk ty c')) j↔known res j:=fun j=>by
  grind[known,bJ]
 refine⟨fun j hj=>h.sub j ((hkn j).1 hj),by rw[hsize];exact h.old,hos.trans h.os,htape.trans h.tape,hout.trans h.output,fun j hj=>?_,fun j b hj hb=>by rw[hsize];exact h.lt j b ((hkn j).1 hj) hb,
  fun j l b hj hl=>h.disj j l b ((hkn j).1 hj) ((hkn l).1 hl),fun j b hj=>h.inF j b ((hkn j).1 hj),fun b hb hF=>?_⟩
 ·rw[bJ _ _ _ _ hlt];by_cases e:j=i
  ·subst e;simp only[if_true];exact⟨hc,ht,hfp,hnew⟩
  ·simp only[aa3 e];have hj':=(hkn j).1 hj;refine aK.gp _ (h.holds j hj') fun b hb=>hold b fun eb=>?_
   subst eb;exact h.disj j i _ hj' hk e hb hfp
 ·rw[hold b fun e=>hF (h.inF i _ hk hfp (e▸hb) |> fun x=>e▸x)]
  exact h.same b hb hF
theorem bq.forget {J:Env} {fps:Nat->Nat->Prop} {res res':List aK} {K:Nat->Prop} {w0:World} {F0:Nat->Prop} {w:World}
  (h:bq J fps res K w0 F0 w) (hf:∀i,known res' i->ay res' i=ay res i):bq J fps res' K w0 F0 w:=by
 have hk:∀i,known res' i->known res i:=fun i hi=>by
  have:=hf i hi;unfold known at hi⊢;rwa [this]at hi
 exact⟨fun i hi=>h.sub i (hk i hi),h.old,h.os,h.tape,h.output,fun i hi=>by rw[hf i hi];exact h.holds i (hk i hi),fun i b hi=>h.lt i b (hk i hi),
  fun i j b hi hj=>h.disj i j b (hk i hi) (hk j hj),fun i b hi=>h.inF i b (hk i hi),h.same⟩
theorem bq.vz {J:Env} {fps:Nat->Nat->Prop} {res:List aK} {K K':Nat->Prop} {w0:World} {F0:Nat->Prop} {w:World}
  (h:bq J fps res K w0 F0 w) (hK:∀i,K i->K' i):bq J fps res K' w0 F0 w:=
 ⟨fun i hi=>hK i (h.sub i hi),h.old,h.os,h.tape,h.output,fun i hi=>aK.oG _ (h.holds i hi) hK,h.lt,h.disj,h.inF,h.same⟩
theorem bq.turn {J ρ':Env} {fps:Nat->Nat->Prop} {res res':List aK} {K K':Nat->Prop} {w0:World} {F0:Nat->Prop} {w w':World} (h:bq J fps res K w0 F0 w) (T B:Nat->Prop) (fp':Nat->Nat->Prop)
  (hK:∀i,known res' i->K' i) (hKK:∀i,K i->K' i) (hag:Env.bE K J ρ')
  (hA:∀i,known res' i->¬B i->known res i/\¬T i/\ay res' i=ay res i)
  (hB:∀i,known res' i->B i->(ay res' i).holds K' ρ' i (fp' i) w0 F0 w'/\∀b,fp' i b->(∃t,T t/\known res t/\fps t b)\/(w.heap.size<=b/\b<w'.heap.size))
  (hBd:∀i j b,B i->B j->i≠j->fp' i b->¬fp' j b)
  (hos:w'.os=w.os) (htape:w'.tape=w.tape) (hout:w'.output=w.output) (hsize:w.heap.size<=w'.heap.size)
  (hsame:∀b,b<w.heap.size->(∀t,T t->known res t->¬fps t b)->w'.heap[b]? =w.heap[b]?):
  ∃fps',bq ρ' fps' res' K' w0 F0 w':=by
 classical
 have hAB:∀i j b,known res' i->known res' j->¬B i->B j->fps i b->¬fp' j b:=by
  intro i j b hi hj hbi hbj hf hf';obtain⟨k1,k2,_⟩:=hA i hi hbi;rcases(hB j hj hbj).2 b hf' with⟨t,ht,hkt,hft⟩|⟨hge,_⟩
  ·exact h.disj i t b k1 hkt (fun e=>k2 (e▸ht)) hf hft
  ·have:=h.lt i b k1 hf;omega
 refine⟨fun i=>if B i then fp' i else fps i,⟨hK,Nat.le_trans h.old hsize,hos.trans h.os,htape.trans h.tape,hout.trans h.output,?_,?_,?_,?_,?_⟩⟩
 ·intro i hi;by_cases hb:B i
  ·simp only[aa4 hb];exact(hB i hi hb).1
  ·simp only[aa3 hb];obtain⟨k1,k2,k3⟩:=hA i hi hb;rw[k3];exact aK.sk _ (aK.gp _ (h.holds i k1) fun b hf=>hsame b (h.lt i b k1 hf) fun t ht hkt hft=>h.disj i t b k1 hkt (fun e=>k2 (e▸ht)) hf hft) hKK hag (h.sub i k1)
 ·intro i b hi hf;by_cases hb:B i
  ·simp only[aa4 hb]at hf;rcases(hB i hi hb).2 b hf with⟨t,ht,hkt,hft⟩|⟨_,hlt⟩
   ·exact Nat.lt_of_lt_of_le (h.lt t b hkt hft) hsize
   ·exact hlt
  ·simp only[aa3 hb]at hf;exact Nat.lt_of_lt_of_le (h.lt i b (hA i hi hb).1 hf) hsize
 ·intro i j b hi hj hne hf hf';by_cases hbi:B i<;>by_cases hbj:B j
  ·grind
  ·grind
  ·grind
  ·simp only[aa3 hbi]at hf;simp only[aa3 hbj]at hf';exact h.disj i j b (hA i hi hbi).1 (hA j hj hbj).1 hne hf hf'
 ·intro i b hi hf hlt;by_cases hb:B i
  ·simp only[aa4 hb]at hf;rcases(hB i hi hb).2 b hf with⟨t,ht,hkt,hft⟩|⟨hge,_⟩
   ·exact h.inF t b hkt hft hlt
   ·have:=h.old;omega
  ·simp only[aa3 hb]at hf;exact h.inF i b (hA i hi hb).1 hf hlt
 ·intro b hlt hF;rw[hsame b (Nat.lt_of_lt_of_le hlt h.old) fun t _ hkt hft=>hF (h.inF t b hkt hft hlt)]
  exact h.same b hlt hF
inductive S where
 |und
 |ud
 |v (x:V)
 |gv (ch:List (Nat×Bool)) (x:V)
def b9:List S->Nat->S
 | [],_=> .und
 |x::_,0=>x
 |_::l,n+1=>b9 l n
def sset:List S->Nat->S->List S
 | [],_,_=> []
 |_::l,0,y=>y::l
 |x::l,n+1,y=>x::sset l n y
theorem lh:∀(l:List S) (i:Nat),b9 l i=l.getD i .und
 | [],i=>by simp[b9]
 |r::l,0=>by simp[b9]
 |r::l,i+1=>by simp[b9,lh l i]
theorem Cl:∀(l:List S) (i:Nat) (r:S),sset l i r=l.set i r
 | [],i,r=>by simp[sset]
 |x::l,0,r=>by simp[sset]
 |x::l,i+1,r=>by simp[sset,Cl l i]
theorem ib (l:List S) (i:Nat) (r:S):(sset l i r).length=l.length:=by rw[Cl];simp
theorem gI (l:List S) (i j:Nat) (r:S):b9 (sset l i r) j=if j=i/\i<l.length then r else b9 l j:=by
 grind[Cl,lh]
theorem Ha {l:List S} {i:Nat} (h:b9 l i≠ .und):i<l.length:=by
 grind[lh]
def Vb (a b:Bool):Bool:=a&&b
def YK (a b:Bool):Bool:=a||b
def QB (a:Bool):Bool:= !a
def Zw (c a b:Bool):Bool:=if c then a else b
def GF (a b:Bool):Bool:=a==b
def ilt (a b:Int):Bool:=decide (a<b)
def ile (a b:Int):Bool:=decide (a<=b)
def Dy (a b:Int):Bool:=decide (a=b)
def lP (a b:Int):Int:=if b<a then b else a
def imax (a b:Int):Int:=if a<b then b else a
def yf (a b:Key):Bool:=decide (a=b)
def DC (a b:cL):Bool:=decide (a=b)
def DJ (a b:Bytes):Bool:=decide (a=b)
def C0 (a b:Obj):Bool:=decide (a=b)
def AB (a b:ByteArray):Bool:=decide (a=b)
def Al (a b:Int):Int:=a+b
def sW (a b:Int):Int:=a-b
def WS (a b:Int):Int:=a*b
def XN (a b:Int):Int:=a.tdiv b
def WX (a b:Int):Int:=a.tmod b
def pH (a:Int):Nat:=a.toNat
def bD (a:Nat):Int:=(a:Int)
def Sw (a:UInt8):Int:=(a.toNat:Int)
def bN (a:ByteArray):Int:=(a.size:Int)
def aF (k:IntKind) (n:Int):Prop:=bY k n
abbrev abd(x:Int):Prop:=aF IntKind.i64 x
def Yz (j:Int) (n:Nat):Prop:=0<=j/\j<(n:Int)
def Kq (i n:Nat):Prop:=i<n
def ny (b:Int):Prop:=b≠0
def dX:Option Prop->Prop
 |none=>True
 |some p=>p
def D0:Option Prop->Prop->Prop
 |none,k=>k
 |some p,k=>p/\k
def X1 (g:Bool):Option Prop->Prop->Prop
 |none,k=>k
 |some p,k=>(g=true->p)/\k
theorem qH {q:Option Prop} {k:Prop} (h:D0 q k):dX q/\k:=by cases q with
 |none=>exact⟨trivial,h⟩
 |some p=>exact h
theorem EM {g:Bool} {q:Option Prop} {k:Prop} (h:X1 g q k):(g=true->dX q)/\k:=by cases q with
 |none=>exact⟨fun _=>trivial,h⟩
 |some p=>exact h
def raw:S->Option Bool
 | .v (.cb b)=>some b
 | .v (.bo b)=>some b
 | .gv _ (.cb b)=>some b
 | .gv _ (.bo b)=>some b
 |_=>none
def mQ (sl:List S):List (Nat×Bool)->Bool
 | []=>true
 | (s,w)::c=>match raw (b9 sl s)with
   |some b=>match c with
    | []=>if w then b else QB b
    |_=>Vb (if w then b else QB b) (mQ sl c)
   |none=>false
def Hz (ch:List (Nat×Bool)) (s:Nat) (w:Bool):Bool:=ch.any fun p=>p.1==s&&p.2==w
def HA (a b:List (Nat×Bool)):Bool:=a.all fun p=>Hz b p.1 p.2
theorem ji (sl:List S) (s:Nat) (w:Bool) (c:List (Nat×Bool)):mQ sl ((s,w)::c)=((match raw (b9 sl s)with|some b=>(if w then b else !b)|none=>false)&&mQ sl c):=by
 grind[mQ,raw,b9,Vb,QB]
theorem yp (sl:List S) (ch:List (Nat×Bool)):mQ sl ch=true↔ ∀p∈ch,raw (b9 sl p.1)=some p.2:=by
 induction ch with
 |nil=>simp[mQ]
 |cons p c ih=>
  obtain⟨s,w⟩:=p;rw[ji];simp only[aaX,ih,List.mem_cons,forall_eq_or_imp];refine and_congr_left fun _=>?_
  cases raw (b9 sl s)with
  |none=>simp
  |some b=>cases w<;>cases b<;>simp
theorem HD {sl:List S} {a b:List (Nat×Bool)} (h:HA a b=true) (hb:mQ sl b=true):mQ sl a=true:=by
 simp_all[yp,HA,Hz]
def g8 (J:Env) (K:Nat->Prop) (sl:List S) (x:Value):S->Prop
 | .und=>True
 | .ud=>x=undef
 | .v y=>x=den J y/\ok K y
 | .gv ch y=>(mQ sl ch=true->x=den J y/\ok K y)/\(mQ sl ch=false->x=undef)
def jo (J:Env) (K:Nat->Prop) (sl:List S) (a:Act):Prop:=
 a.tmps.size=sl.length/\∀t,g8 J K sl (a.tmps.getD t undef) (b9 sl t)
theorem g8.env {J ρ':Env} {K K':Nat->Prop} {sl:List S} {x:Value} {s:S} (h:g8 J K sl x s) (hK:∀i,K i->K' i) (ha:Env.bE K J ρ'):g8 ρ' K' sl x s:=by
 cases s with
 |und=>trivial
 |ud=>exact h
 |v y=>exact⟨by rw[gh ha y h.2];exact h.1,ec hK y h.2⟩
 |gv ch y=>exact⟨fun hg=>⟨by rw[gh ha y (h.1 hg).2];exact(h.1 hg).1,ec hK y (h.1 hg).2⟩,h.2⟩
theorem jo.env {J ρ':Env} {K K':Nat->Prop} {sl:List S} {a:Act} (h:jo J K sl a) (hK:∀i,K i->K' i) (ha:Env.bE K J ρ'):jo ρ' K' sl a:=
 ⟨h.1,fun t=>(h.2 t).env hK ha⟩
def named (d:Nat) (ch:List (Nat×Bool)):Bool:=ch.any fun p=>p.1==d
def zi (d:Nat) (sl:List S):Bool:=sl.all fun s=>match s with| .gv ch _=> !named d ch|_=>true
theorem vO {sl:List S} {d:Nat} {s:S} {ch:List (Nat×Bool)} (h:named d ch=false):mQ (sset sl d s) ch=mQ sl ch:=by
 induction ch with
 |nil=>rfl
 |cons p c ih=>
  obtain⟨t,w⟩:=p;simp only[named,List.any_cons,Bool.or_eq_false_iff,beq_eq_false_iff_ne,ne_eq]at h;have h2:named d c=false:=h.2;rw[ji,ji,ih h2,gI,aa3 (fun hh=>h.1 hh.1)]
theorem FH {sl:List S} {d t:Nat} {ch:List (Nat×Bool)} {y:V} (h:zi d sl=true) (ht:b9 sl t= .gv ch y):named d ch=false:=by
 have hlt:t<sl.length:=Ha (by rw[ht];simp)
 rw[lh,aa2,List.getElem?_eq_getElem hlt]at ht;simp only[Option.getD_some]at ht;have:=(List.all_eq_true.1 h) _ (List.getElem_mem hlt);rw[ht]at this;simpa using this
theorem jo.put {J:Env} {K:Nat->Prop} {sl:List S} {a:Act} {d:Nat} {s:S} {x:Value} (h:jo J K sl a) (hf:zi d sl=true)
  (hs:g8 J K (sset sl d s) x s):jo J K (sset sl d s) (a.put (some d) x):=by
 refine⟨by simp[Act.put,ib,h.1],fun t=>?_⟩
 rw[gI];by_cases e:t=d/\d<sl.length
 ·rw[aa4 e];obtain⟨rfl,hd⟩:=e
  have:(a.put (some t) x).tmps.getD t undef=x:=by
   simp[Act.put,h.1,hd]
  rw[this];exact hs
 ·rw[aa3 e]
  have hx:(a.put (some d) x).tmps.getD t undef=a.tmps.getD t undef:=by
   simp only[Act.put,Array.getD_eq_getD_getElem?,Array.getElem?_setIfInBounds];by_cases ed:d=t
   ·subst ed;have:¬d<sl.length:=fun hl=>e ⟨rfl,hl⟩
    simp[h.1,this]
   ·simp[ed]
  rw[hx];have:=h.2 t;cases hst:b9 sl t with
  |und=>trivial
  |ud=>rw[hst]at this;exact this
  |v y=>rw[hst]at this;exact this
  |gv ch y=>
   rw[hst]at this;have hn:=FH hf hst;exact⟨fun hg=>this.1 (by rwa [vO hn]at hg),fun hg=>this.2 (by rwa [vO hn]at hg)⟩
def Gv:Value->Option V
 | .bool b=>some (.cb b)
 | .int k n=>if bY k n then some (.ci k n)else none
 | .string s=>some (.st s)
 | .pointer none=>some (.nl (.pointer none))
 | .slice none 0 0=>some (.nl (.slice none 0 0))
 | .map none=>some (.nl (.map none))
 | .nilFunc=>some (.nl .nilFunc)
 | .nilIface=>some (.nl .nilIface)
 |_=>none
theorem DB {c:Value} {x:V} (J:Env) (K:Nat->Prop) (h:Gv c=some x):c=den J x/\ok K x:=by
 unfold Gv at h;split at h
 ·simp only[aaV]at h;subst h;exact⟨rfl,trivial⟩
 ·split at h
  ·simp only[aaV]at h;subst h;exact⟨rfl,by assumption⟩
  ·simp at h
 ·simp only[aaV]at h;subst h;exact⟨rfl,trivial⟩
 ·simp only[aaV]at h;subst h;exact⟨rfl,rfl⟩
 ·simp only[aaV]at h;subst h;exact⟨rfl,rfl⟩
 ·simp only[aaV]at h;subst h;exact⟨rfl,rfl⟩
 ·simp only[aaV]at h;subst h;exact⟨rfl,rfl⟩
 ·simp only[aaV]at h;subst h;exact⟨rfl,rfl⟩
 ·simp at h
def fm (sl:List S) (ch:List (Nat×Bool)):Operand->Option V
 | .tmp t=>match b9 sl t with
   | .v x=>some x
   | .gv c x=>if HA c ch then some x else none
   |_=>none
 | .const v=>Gv v
 | .func f=>if Nat.blt f 2000 then some (.fn f [])else none
 | .global _=>none
theorem h9 {J:Env} {K:Nat->Prop} {sl:List S} {a:Act} {ch:List (Nat×Bool)} {o:Operand} {x:V} (h:jo J K sl a) (hg:mQ sl ch=true)
  (ho:fm sl ch o=some x):a.eval o=den J x/\ok K x:=by
 cases o with
 |tmp t=>
  simp only[fm]at ho;have ht:=h.2 t;cases hs:b9 sl t with
  |und=>simp[hs]at ho
  |ud=>simp[hs]at ho
  |v y=>
   simp only[hs,aaV]at ho;subst ho;rw[hs]at ht;exact ht
  |gv c y=>
   simp only[hs]at ho;split at ho
   ·rename_i hc;simp only[aaV]at ho;subst ho;rw[hs]at ht;exact ht.1 (HD hc hg)
   ·simp at ho
 |const v=>exact DB J K ho
 |func f=>
  simp only[fm]at ho;split at ho
  ·rename_i hlo;simp only[aaV]at ho;subst ho;exact⟨by simp[Act.eval,den,bB,zU hlo],trivial⟩
  ·simp at ho
 |global g=>simp[fm]at ho
def mT (sl:List S) (ch:List (Nat×Bool)):List Operand->Option (List V)
 | []=>some []
 |o::l=>match fm sl ch o,mT sl ch l with
  |some x,some xs=>some (x::xs)
  |_,_=>none
theorem gO {J:Env} {K:Nat->Prop} {sl:List S} {a:Act} {ch:List (Nat×Bool)} (h:jo J K sl a) (hg:mQ sl ch=true):
  ∀{l:List Operand} {xs:List V},mT sl ch l=some xs->l.map a.eval=bB J xs/\fM K xs
 | [],xs,ho=>by simp only[mT,aaV]at ho;subst ho;exact⟨rfl,trivial⟩
 |o::l,xs,ho=>by
  simp only[mT]at ho;split at ho
  ·rename_i x ys hx hl;simp only[aaV]at ho;subst ho;obtain⟨h1,h2⟩:=h9 h hg hx;obtain⟨h3,h4⟩:=gO h hg hl;exact⟨by simp[h1,h3,bB],h2,h4⟩
  ·simp at ho
def sF (sl:List S) (ops:List Oper):Option (Nat×Bool)->Option (Option (List (Nat×Bool)))
 |none=>some (some [])
 |some (j,w)=>match (ops[j]?).bind (·.dst)with
  |none=>none
  |some s=>match b9 sl s with
   | .ud=>some none
   | .v (.cb b)=>if b==w then some (some [])else some none
   | .v (.bo _)=>some (some [(s,w)])
   | .gv c (.bo _)=>some (some ((s,w)::c))
   | .gv c (.cb b)=>if b==w then some (some c)else some none
   |_=>none
def xE (sl:List S):Option (List (Nat×Bool))->Bool
 |none=>false
 |some ch=>mQ sl ch
theorem mW {J:Env} {K:Nat->Prop} {sl:List S} {a:Act} {ops:Array Oper} {o:Oper} {r:Option (List (Nat×Bool))} (h:jo J K sl a)
  (hc:sF sl ops.toList o.guard=some r):Region.wanted o (yielded ops a.tmps)=xE sl r:=by
 unfold Region.wanted;cases hg:o.guard with
 |none=>rw[hg]at hc;simp only[sF,aaV]at hc;subst hc;rfl
 |some jw=>
  obtain⟨j,w⟩:=jw;rw[hg]at hc;simp only[sF,Array.getElem?_toList]at hc;simp only[yielded];cases hs:(ops[j]?).bind (·.dst)with
  |none=>simp[hs]at hc
  |some s=>
   simp only[hs,Option.bind_some]at hc⊢;have hsl:=h.2 s
   have hval:∀x,b9 sl s≠ .und->a.tmps.getD s undef=x->a.tmps[s]? =some x:=fun x hne hx=>by
    have:=Ha hne;rw[<-h.1]at this;rw[Array.getD_eq_getD_getElem?,Array.getElem?_eq_getElem this]at hx;rw[Array.getElem?_eq_getElem this];simpa using hx
   cases hss:b9 sl s with
   |und=>simp[hss]at hc
   |ud=>
    rw[hss]at hsl hc;simp only[aaV]at hc;subst hc;rw[hval _ (by rw[hss];simp) hsl]
    simp[undef,xE]
   |v y=>
    rw[hss]at hsl hc;rw[hval _ (by rw[hss];simp) hsl.1]
    cases y<;>simp only[reduceCtorEq]at hc
    ·grind[den,xE,mQ]
    ·grind[den,xE,ji,raw,mQ]
   |gv c y=>
    rw[hss]at hsl hc;obtain⟨h1,h3⟩:=hsl;cases y<;>simp only[reduceCtorEq]at hc
    ·rename_i b;cases hgc:mQ sl c with
     |true=>
      rw[hval _ (by rw[hss];simp) (h1 hgc).1]
      simp only[den];clear hval;split at hc<;>simp only[aaV]at hc<;>subst hc<;>rename_i hb
      ·simpa[xE,hgc]using hb
      ·simpa[xE]using hb
     |false=>
      rw[hval _ (by rw[hss];simp) (h3 hgc)]
      split at hc<;>simp only[aaV]at hc<;>subst hc<;>simp[undef,hgc,xE]
    ·rename_i b;simp only[aaV]at hc;subst hc;simp only[xE];rw[ji];simp only[hss,raw];cases hgc:mQ sl c with
     |true=>
      rw[hval _ (by rw[hss];simp) (h1 hgc).1]
      simp only[den];cases w<;>cases b<;>rfl
     |false=>
      rw[hval _ (by rw[hss];simp) (h3 hgc)]
      simp[undef]
def clean:List S->List S
 | []=> []
 | .v x::l=> .v x::clean l
 |_::l=> .und::clean l
theorem kQ:∀(l:List S) (t:Nat),b9 (clean l) t=match b9 l t with| .v x=> .v x|_=> .und
 | [],t=>by simp[clean,b9]
 |s::l,0=>by cases s<;>simp[clean,b9]
 |s::l,t+1=>by cases s<;>simp[clean,b9,kQ l t]
theorem ka:∀(l:List S),(clean l).length=l.length
 | []=>rfl
 |s::l=>by cases s<;>simp[clean,ka l]
theorem jo.clean {J:Env} {K:Nat->Prop} {sl:List S} {a:Act} (h:jo J K sl a):jo J K (clean sl) a:=by
 refine⟨by rw[ka];exact h.1,fun t=>?_⟩
 rw[kQ];have:=h.2 t;split
 ·rename_i x hx;rw[hx]at this;exact this
 ·trivial
section runs
variable {P:Program}
def lZ (P:Program) (t:Nat):Option Bool:=
 match P.underlying t with
 |some (.struct _)=>some true
 |some (.array _ _)=>some true
 |some _=>some false
 |none=>none
def oZ (P:Program) (t:Nat):Option Nat:=(P.info? t).map (·.size)
theorem bG {t:Nat} {d:TypeDesc} (w:World) (h:P.underlying t=some d):(underlying t).run P w= .ok d w:=by
 simp[underlying,h]
theorem sD {t:Nat} {b:Bool} (w:World) (h:lZ P t=some b):(Go.isAgg t).run P w= .ok b w:=by
 unfold lZ at h;unfold Go.isAgg;split at h<;>simp only[aaV,reduceCtorEq]at h<;>subst h
 ·rename_i hu;simp[bG w hu]
 ·rename_i hu;simp[bG w hu]
 ·simp_all[bG]
theorem gz {t n:Nat} (w:World) (h:oZ P t=some n):(sizeOf t).run P w= .ok n w:=by
 unfold oZ at h;cases hi:P.info? t with
 |none=>simp[hi]at h
 |some i=>
  simp only[hi,Option.map_some,aaV]at h;simp[sizeOf,typeInfo,hi,h]
theorem add_lit (b o n:Nat):Addr.add ⟨b,o,none⟩ n=⟨b,o+n,none⟩:=by unfold Addr.add;split<;>simp_all
theorem lq {J:Env} {K:Nat->Prop} {t b off:Nat} {r:V} (w:World) (hr:ok K r) (ht:cV r=false) (ha:lZ P t=some (jK r)) (hs:oZ P t=some (fg r))
  (hc:∀k,k<fg r->w.cell? ⟨b,off+k,none⟩=(cells J r)[k]?):(loadVar t ⟨b,off,none⟩).run P w= .ok (den J r) w:=by
 have hl:=bg J r hr;unfold loadVar;rw[Sem.run_bind,sD w ha,pM J hr ht];cases hag:Sx.jK r with
 |true=>
  have:=run_loadCells_list (P:=P) w ⟨b,off,none⟩ (cells J r) (fun j v hv=>by
   have hj:j<fg r:=by
    rw[<-hl];exact(List.getElem?_eq_some_iff.1 hv).1
   rw[add_lit,hc j hj,hv])
  rw[hl]at this;simp[gz w hs,this,jN]
 |false=>
  have h1:fg r=1:=by
   grind[ow,cells,dS]
  have h0:=hc 0 (by omega)
  simp only[Nat.add_zero]at h0
  have:(cells J r)[0]? =some ((cells J r).getD 0 undef):=by
   simp_all
  simp only[Result.andThen_ok,Bool.false_eq_true,if_false,run_load];rw[h0,this];rfl
theorem jZ {α:Type} (p m q:List α) (k:Nat) (hk:k<m.length):(p++m++q)[p.length+k]? =m[k]? :=by
 grind
theorem oJ {J:Env} {K:Nat->Prop} {t b off ty:Nat} {c r:V} (w:World) (hr:ok K r) (ht:cV r=false) (ha:lZ P t=some (jK r)) (hs:oZ P t=some (fg r))
  (hb:w.heap[b]? =some (.cells (cells J c).toArray ty (0,0))) (hp:∃p q,cells J c=p++cells J r++q/\off=p.length):(loadVar t ⟨b,off,none⟩).run P w= .ok (den J r) w:=by
 obtain⟨p,q,e1,rfl⟩:=hp;refine lq w hr ht ha hs fun k hk=>?_
 have hl:=bg J r hr;rw[cell_of_row w b _ _ _ _ hb];simp only[List.getElem?_toArray,e1];exact jZ p _ q k (by omega)
end runs
mutual
theorem jq (J:Env) {K:Nat->Prop}:∀v,ok K v->cV v=false->∀x∈cells J v,x.oneCell'=true
 | .ag l,hv,_,x,hx=>rJ J l hv.1 hv.2 x (by rwa [fE]at hx)
 | .key k,_,_,x,hx=>by
   rw[sO]at hx;simp only[ea,List.mem_cons,List.not_mem_nil,or_false,i64]at hx;rcases hx with rfl|rfl|rfl|rfl|rfl|rfl<;>rfl
 | .sl s,_,_,x,hx=>by
   rw[nD]at hx;simp only[gj,List.mem_flatMap,ea,List.mem_cons,List.not_mem_nil,or_false,i64]at hx;obtain⟨i,_,hx⟩:=hx;rcases hx with rfl|rfl|rfl|rfl|rfl|rfl<;>rfl
 | .by b,_,_,x,hx=>by
   rw[kC]at hx;simp only[cZ,List.mem_map]at hx;obtain⟨i,_,rfl⟩:=hx;rfl
 | .ob o,_,_,x,hx=>by
   rw[jT]at hx;simp only[eF,List.mem_cons,List.mem_append,gj,List.mem_flatMap,cZ,List.mem_map,ea,i64,List.not_mem_nil,or_false]at hx;rcases hx with rfl|rfl|rfl|⟨i,_,hx⟩|⟨i,_,rfl⟩
   ·rfl
   ·rfl
   ·rfl
   ·rcases hx with rfl|rfl|rfl|rfl|rfl|rfl<;>rfl
   ·rfl
 | .tp l,_,h,_,_=>by simp[cV]at h
 | .mp id,_,_,x,hx=>by
   simp only[cells,den,Value.cells,List.mem_singleton]at hx;subst hx;rfl
 | .fn f l,hv,_,x,hx=>by
   simp_all[cells,den,dS,ou]
 | .ch b f l y,hv,_,x,hx=>by
   have h1:(den J (.ch b f l y)).oneCell'=true:=ow J (.ch b f l y) hv rfl rfl;simp only[cells,dS h1,List.mem_singleton]at hx;subst hx;exact h1
 | .bs y lo hi,hv,_,x,hx=>by
   simp_all[cells,den,dS,vX]
 | .ks y e n lo hi,hv,_,x,hx=>by
   simp_all[cells,den,dS,wg]
 | .nl v,hv,_,x,hx=>by
   simp only[cells,den,dS hv,List.mem_singleton]at hx;subst hx;exact hv
 | .cb _,_,_,x,hx| .bo _,_,_,x,hx| .ci _ _,_,_,x,hx| .it _ _,_,_,x,hx| .bt _,_,_,x,hx| .st _,_,_,x,hx| .lp _ _,_,_,x,hx| .lx _ _ _ _ _ _,_,_,x,hx
 | .sc _ _ _,_,_,x,hx| .so _ _,_,_,x,hx| .ap _ _ _ _,_,_,x,hx| .sa _,_,_,x,hx| .op _ _,_,_,x,hx| .yl _,_,_,x,hx| .ic _ _,_,_,x,hx| .ax _ _ _ _ _ _ _ _,_,_,x,hx=>by
   simp only[cells,den,Value.cells,List.mem_singleton]at hx;subst hx;rfl
theorem rJ (J:Env) {K:Nat->Prop}:∀l,fM K l->ti l->∀x∈bp J l,x.oneCell'=true
 | [],_,_,x,hx=>by simp[bp]at hx
 |y::l,hv,hc,x,hx=>by
  simp only[bp,List.mem_append]at hx;rcases hx with hx|hx
  ·exact jq J y hv.1 ((eE _).1 hc y (by simp)) x hx
  ·exact rJ J l hv.2 ((eE _).2 fun z hz=>(eE _).1 hc z (by simp[hz])) x hx
end
section stores
variable {P:Program}
theorem setRow_other (w:World) (g:Nat) (cs:Array Value) (b:Nat) (h:b≠g):(w.setRow g cs).heap[b]? =w.heap[b]? :=by
 simp only[World.setRow,Array.getElem?_modify];rw[aa3 (Ne.symm h)]
theorem zo {J:Env} {K:Nat->Prop} {t b off ty:Nat} {c c' y:V} (w:World) (hy:ok K y) (ht:cV y=false) (hs:oZ P t=some (fg y))
  (hb:w.heap[b]? =some (.cells (cells J c).toArray ty (0,0))) (hp:Iu K J c c' off y):
  (storeVar t ⟨b,off,none⟩ (den J y)).run P w= .ok () (w.setRow b (cells J c').toArray):=by
 obtain⟨⟨p,m,q,e1,e2,rfl,e4⟩,_⟩:=hp;have hl:=bg J y hy;have hz:(den J y).cells.size=fg y:=by rw[<-hl];simp[cells]
 have hst:=run_storeCells_at (P:=P) b p.length ty (cells J y) 0 (cells J c).toArray w hb (by simp[e1];omega) (jq J y hy ht)
 simp only[Nat.add_zero]at hst;simp only[storeVar,Sem.run_bind,gz w hs,Result.andThen_ok,hz,ne_eq,not_true_eq_false,if_false];rw[show(den J y).cells.toList=cells J y from rfl,hst];congr 3
 rw[e2];simp only[e1]
 rw[show List.take p.length (p++m++q)=p by simp,show List.drop (p.length+(cells J y).length) (p++m++q)=q by
  rw[hl,<-e4,<-List.length_append,List.drop_left]]
end stores
inductive Kd where
 |b
 |s
 |i (k:IntKind)
 deriving DecidableEq
def Kd.of:Kd->Value->Prop
 | .b,v=>∃x,v= .bool x
 | .s,v=>∃x,v= .string x
 | .i k,v=>∃n,v= .int k n
def mV:List Kd->List Value->Prop
 | [],[]=>True
 |k::ks,v::vs=>k.of v/\mV ks vs
 |_,_=>False
theorem mV.length:∀{ks:List Kd} {vs:List Value},mV ks vs->vs.length=ks.length
 | [],[],_=>rfl
 |_::_,_::_,h=>by simp[mV.length h.2]
 | [],_::_,h=>h.elim
 |_::_,[],h=>h.elim
theorem mV.split:∀{a b:List Kd} {vs:List Value},mV (a++b) vs->mV a (vs.take a.length)/\mV b (vs.drop a.length)
 | [],b,vs,h=>by simpa[mV]using h
 |k::a,b,[],h=>h.elim
 |k::a,b,v::vs,h=>by
  obtain⟨h1,h2⟩:=mV.split (a:=a) h.2;exact⟨by simpa[mV]using⟨h.1,h1⟩,by simpa using h2⟩
theorem mV.join:∀{a b:List Kd} {vs us:List Value},mV a vs->mV b us->mV (a++b) (vs++us)
 | [],_,[],_,_,h=>by simpa using h
 |k::a,_,v::vs,_,h,h'=>⟨h.1,mV.join h.2 h'⟩
 | [],_,_::_,_,h,_=>h.elim
 |_::_,_,[],_,h,_=>h.elim
def mb (g:Nat->Option (List Kd)):Nat->List Field->Option (List Kd)
 |_,[]=>some []
 |off,f::fs=>if f.name != "_" &&f.offset==off then
  match g f.type with
  |none=>none
  |some ks=>(mb g (off+ks.length) fs).map (ks++ ·)
  else none
def fw (P:Program):Nat->Nat->Option (List Kd)
 |0,_=>none
 |f+1,t=>match P.underlying t with
  |some .bool=>some [.b]
  |some .string=>some [.s]
  |some (.int k)=>some [.i k]
  |some (.struct fs)=>if P.stoodInHeld t then none else
   match mb (fw P f) 0 fs.toList with
   |none=>none
   |some ks=>if oZ P t==some ks.length then some ks else none
  |some (.array n e)=>match fw P f e with
   |none=>none
   |some ks=>if oZ P e==some ks.length&&oZ P t==some (n*ks.length)then some (List.replicate n ks).flatten else none
  |_=>none
theorem A5 (x y:ByteArray):(x==y)=decide (x=y):=by
 rw[beq_toListBytes,ByteArray.toList_eq,ByteArray.toList_eq];obtain⟨⟨x⟩⟩:=x;obtain⟨⟨y⟩⟩:=y;rw[Bool.eq_iff_iff];simp
section
variable {P:Program}
theorem tg {f t:Nat} {ks:List Kd} {a:Bool} (h:fw P f t=some ks) (ha:lZ P t=some a):(a=true->oZ P t=some ks.length)/\(a=false->ks.length=1):=by
 cases f with
 |zero=>simp[fw]at h
 |succ f=>
  unfold fw at h;unfold lZ at ha;split at h
  ·rename_i hu;rw[hu]at ha;simp at ha h;subst ha;subst h;simp
  ·rename_i hu;rw[hu]at ha;simp at ha h;subst ha;subst h;simp
  ·rename_i hu;rw[hu]at ha;simp at ha h;subst ha;subst h;simp
  ·grind
  ·rename_i hu;rw[hu]at ha;simp at ha;subst ha;split at h
   ·simp at h
   ·split at h
    ·rename_i hs;simp at h;subst h;simp only[aaX,aaZ]at hs;simp[hs.2]
    ·simp at h
  ·simp at h
theorem sj {f t:Nat} {ks:List Kd} (h:fw P f t=some ks):∃a,lZ P t=some a:=by
 cases f with
 |zero=>simp[fw]at h
 |succ f=>
  unfold fw at h;unfold lZ;split at h<;>first| (rename_i hu;rw[hu];exact⟨_,rfl⟩)| (simp at h)
theorem kE {f t off:Nat} {ks:List Kd} {a:Bool} {xs:List Value} (w:World) (h:fw P f t=some ks) (ha:lZ P t=some a)
  (hl:off+ks.length<=xs.length):(part t xs.toArray off).run P w= .ok (jN a ((xs.drop off).take ks.length)) w:=by
 obtain⟨h1,h2⟩:=tg h ha;unfold part;rw[Sem.run_bind,sD w ha];cases a with
 |true=>
  simp only[Result.andThen_ok,if_true,Sem.run_bind,gz w (h1 rfl),Sem.run_pure,jN];congr 2
  apply Array.ext'
  simp[List.extract_eq_take_drop]
 |false=>
  have h2:=h2 rfl;have hlt:off<xs.length:=by omega
  simp only[Result.andThen_ok,Bool.false_eq_true,if_false,List.getElem?_toArray,List.getElem?_eq_getElem hlt,Sem.run_pure,jN,h2];congr 1
  rw[aa2,List.getElem?_take_of_lt (by omega),List.getElem?_drop]
  simp[List.getElem?_eq_getElem hlt]
def Eqs (P:Program) (d t:Nat) (a:Bool) (xs ys:List Value):Prop:=
 ∀w,∃b,(Op.equalIn d t (jN a xs) (jN a ys)).run P w= .ok b w/\(b=true↔xs=ys)
theorem vF {α:Type} (n:Nat) (xs ys:List α):xs=ys↔xs.take n=ys.take n/\xs.drop n=ys.drop n:=
 ⟨fun h=>by subst h;exact⟨rfl,rfl⟩,fun⟨h1,h2⟩=>by rw[<-List.take_append_drop n xs,<-List.take_append_drop n ys,h1,h2]⟩
theorem uB (f d:Nat) (hd:∀t ks a xs ys,fw P f t=some ks->lZ P t=some a->mV ks xs->mV ks ys->Eqs P d t a xs ys) (X Y:List Value) (hXY:X.length=Y.length) (w:World):
  ∀(fs:List Field) (off:Nat) (ks:List Kd),mb (fw P f) off fs=some ks->off+ks.length=X.length->mV ks (X.drop off)->mV ks (Y.drop off)->
  ∃b,(Op.eqFields d X.toArray Y.toArray fs).run P w= .ok b w/\(b=true↔X.drop off=Y.drop off)
 | [],off,ks,h,hl,hx,hy=>by
   simp only[mb,aaV]at h;subst h;refine⟨true,rfl,?_⟩;simp only[List.length_nil,Nat.add_zero]at hl;simp[List.drop_eq_nil_of_le (show X.length<=off by omega),List.drop_eq_nil_of_le (show Y.length<=off by omega)]
 |g::fs,off,ks,h,hl,hx,hy=>by
  simp only[mb]at h;split at h
  ·rename_i hc;simp only[aaX,bne_iff_ne,ne_eq,aaZ]at hc;obtain⟨hn,ho⟩:=hc;cases hg:fw P f g.type with
   |none=>simp[hg]at h
   |some k1=>
    simp only[hg]at h;cases hr:mb (fw P f) (off+k1.length) fs with
    |none=>simp[hr]at h
    |some k2=>
     simp only[hr,Option.map_some,aaV]at h;subst h;simp only[List.length_append]at hl;obtain⟨a,ha⟩:=sj hg;obtain⟨x1,x2⟩:=mV.split hx;obtain⟨y1,y2⟩:=mV.split hy;obtain⟨b,hb,hbi⟩:=hd _ _ _ _ _ hg ha x1 y1 w;simp only[List.drop_drop]at x2 y2;obtain⟨b',hb',hbi'⟩:=uB f d hd X Y hXY w fs (off+k1.length) k2 hr (by omega) x2 y2
     have e1:=kE (xs:=X) (off:=off) w hg ha (by omega)
     have e2:=kE (xs:=Y) (off:=off) w hg ha (by omega)
     simp only[Op.eqFields,aa4 hn,ho,Sem.run_bind,e1,e2,hb,Result.andThen_ok,Sem.run_ite];rw[vF k1.length (X.drop off) (Y.drop off)];simp only[List.drop_drop];cases b with
     |false=>exact⟨false,by simp,by simp;exact fun h=>absurd (hbi.2 h) (by simp)⟩
     |true=>exact⟨b',by simpa using hb',by rw[hbi'];exact⟨fun h=>⟨hbi.1 rfl,h⟩,fun h=>h.2⟩⟩
  ·simp at h
theorem xF (n:Nat) (ks:List Kd):(List.replicate n ks).flatten.length=n*ks.length:=by simp
def Bb (d e n:Nat) (X Y:Array Value):List Nat->Sem Bool
 | []=>pure true
 |i::is=>do
  let a<-part e X (i*n)
  let b<-part e Y (i*n)
  let r<-Op.equalIn d e a b
  if(!r)=true then pure false else Bb d e n X Y is
theorem Ba (f d:Nat) (hd:∀t ks a xs ys,fw P f t=some ks->lZ P t=some a->mV ks xs->mV ks ys->Eqs P d t a xs ys) {e:Nat} {ks:List Kd} {a:Bool} (he:fw P f e=some ks) (ha:lZ P e=some a)
  (X Y:List Value) (hXY:X.length=Y.length) (w:World):∀(m j:Nat),j*ks.length+m*ks.length=X.length->mV (List.replicate m ks).flatten (X.drop (j*ks.length))->mV (List.replicate m ks).flatten (Y.drop (j*ks.length))->
  ∃b,(Bb d e ks.length X.toArray Y.toArray (List.range' j m)).run P w= .ok b w/\(b=true↔X.drop (j*ks.length)=Y.drop (j*ks.length))
 |0,j,hl,hx,hy=>by
  refine⟨true,rfl,?_⟩;simp only[Nat.zero_mul,Nat.add_zero]at hl;simp[List.drop_eq_nil_of_le (show X.length<=j*ks.length by omega),List.drop_eq_nil_of_le (show Y.length<=j*ks.length by omega)]
 |m+1,j,hl,hx,hy=>by
  rw[List.replicate_succ,List.flatten_cons]at hx hy;obtain⟨x1,x2⟩:=mV.split hx;obtain⟨y1,y2⟩:=mV.split hy;rw[Nat.succ_mul]at hl;obtain⟨b,hb,hbi⟩:=hd _ _ _ _ _ he ha x1 y1 w;simp only[List.drop_drop,show j*ks.length+ks.length=(j+1)*ks.length by rw[Nat.succ_mul]]at x2 y2
  obtain⟨b',hb',hbi'⟩:=Ba f d hd he ha X Y hXY w m (j+1) (by rw[Nat.succ_mul];omega) x2 y2
  have e1:=kE (xs:=X) (off:=j*ks.length) w he ha (by omega)
  have e2:=kE (xs:=Y) (off:=j*ks.length) w he ha (by omega)
  simp only[List.range'_succ,Bb,Sem.run_bind,e1,e2,hb,Result.andThen_ok,Sem.run_ite];rw[vF ks.length (X.drop (j*ks.length)) (Y.drop (j*ks.length))];simp only[List.drop_drop,show j*ks.length+ks.length=(j+1)*ks.length by rw[Nat.succ_mul]]
  cases b with
  |false=>exact⟨false,by simp,by simp;exact fun h=>absurd (hbi.2 h) (by simp)⟩
  |true=>exact⟨b',by simpa using hb',by rw[hbi'];exact⟨fun h=>⟨hbi.1 rfl,h⟩,fun h=>h.2⟩⟩
theorem run_equalIn_array (d t len e n:Nat) (X Y:Array Value) (w:World) (hu:P.underlying t=some (.array len e)) (hn:oZ P e=some n):
  (Op.equalIn (d+1) t (.agg X) (.agg Y)).run P w=(Bb d e n X Y (List.range' 0 len)).run P w:=by
 simp only[Op.equalIn,Sem.run_bind,bG w hu,Result.andThen_ok,gz w hn];rw[Std.Legacy.Range.forIn_eq_forIn_range'];simp only[Std.Legacy.Range.size,Nat.sub_zero,Nat.add_sub_cancel,Nat.div_one];generalize List.range' 0 len=is
 induction is generalizing w with
 |nil=>simp[Bb]
 |cons i is ih=>
  simp only[List.forIn_cons,Bb,Sem.run_bind,Sem.run_ite];generalize (part e X (i*n)).run P w=r1
  cases r1 with
  |ok a w1=>
   simp only[Result.andThen_ok];generalize (part e Y (i*n)).run P w1=r2
   cases r2 with
   |ok b w2=>
    simp only[Result.andThen_ok];generalize (Op.equalIn d e a b).run P w2=r3
    cases r3 with
    |ok r w3=>
     cases r
     ·simp only[Result.andThen_ok,Bool.not_false,if_true,Sem.run_pure]
     ·simp_all
    |halt x w3=>simp[Result.andThen]
   |halt x w2=>simp[Result.andThen]
  |halt x w1=>simp[Result.andThen]
theorem rq:∀(f d:Nat),f<=d->∀t ks a xs ys,fw P f t=some ks->lZ P t=some a->mV ks xs->mV ks ys->Eqs P d t a xs ys
 |0,_,_,_,_,_,_,_,h,_,_,_=>by simp[fw]at h
 |f+1,0,hfd,_,_,_,_,_,_,_,_,_=>by omega
 |f+1,d+1,hfd,t,ks,a,xs,ys,h,ha,hx,hy=>by
  intro w;have ih:=fun t ks a xs ys=>rq f d (by omega) t ks a xs ys
  unfold fw at h;split at h
  ·rename_i hu;simp only[lZ,hu,aaV]at ha h;subst ha;subst h;match xs,ys,hx,hy with
   | [_],[_],⟨⟨x,rfl⟩,_⟩,⟨⟨y,rfl⟩,_⟩=>
     exact⟨x==y,by simp[jN,Op.equalIn,bG w hu],by simp⟩
  ·rename_i hu;simp only[lZ,hu,aaV]at ha h;subst ha;subst h;match xs,ys,hx,hy with
   | [_],[_],⟨⟨x,rfl⟩,_⟩,⟨⟨y,rfl⟩,_⟩=>
     refine⟨x==y,by simp[jN,Op.equalIn,bG w hu],?_⟩
     rw[A5];simp
  ·rename_i k hu;simp only[lZ,hu,aaV]at ha h;subst ha;subst h;match xs,ys,hx,hy with
   | [_],[_],⟨⟨x,rfl⟩,_⟩,⟨⟨y,rfl⟩,_⟩=>
     exact⟨x==y,by simp[jN,Op.equalIn,bG w hu],by simp⟩
  ·rename_i fs hu;simp only[lZ,hu,aaV]at ha;subst ha;split at h
   ·simp at h
   ·rename_i hst;split at h
    ·simp at h
    ·rename_i k hk;split at h<;>simp only[aaV,reduceCtorEq]at h
     subst h;have hlx:=hx.length;have hly:=hy.length;obtain⟨b,hb,hbi⟩:=uB f d ih xs ys (by omega) w fs.toList 0 k hk (by omega) (by simpa using hx) (by simpa using hy)
     have hff:P.fieldsOf t=fs:=by simp[Program.fieldsOf,hu]
     refine⟨b,?_,by simpa using hbi⟩
     rw[<-hb];have:=run_equalIn_struct (P:=P) w d t xs.toArray ys.toArray (by rw[hu,hff]) (by simpa using hst)
     rw[hff]at this;simpa[jN]using this
  ·rename_i n e hu;simp only[lZ,hu,aaV]at ha;subst ha;split at h
   ·simp at h
   ·rename_i k hk;split at h<;>simp only[aaV,reduceCtorEq]at h
    rename_i hs;simp only[aaX,aaZ]at hs;subst h;have hlx:=hx.length;have hly:=hy.length;rw[xF]at hlx hly;obtain⟨a,ha⟩:=sj hk;obtain⟨b,hb,hbi⟩:=Ba f d ih hk ha xs ys (by omega) w n 0 (by omega) (by simpa using hx) (by simpa using hy)
    refine⟨b,?_,by simpa using hbi⟩
    rw[<-hb];simpa[jN]using run_equalIn_array (P:=P) d t n e k.length xs.toArray ys.toArray w hu hs.1
  ·simp at h
end
structure Ctx where
 P:Program
 Z:Nat->Option V
 Γ:Nat->Option (List aK->Nat->List V->Option (Option Prop×V×List aK))
 D:Nat->Option (Nat×Nat):=fun _=>none
theorem lC {k:IntKind} {n:Int} (h:bY k n):k.wrap n=n:=by
 cases k<;>simp only[bY]at h<;>simp[IntKind.wrap,IntKind.bits,IntKind.signed]<;>omega
theorem vg (k:IntKind) (n:Int):bY k (k.wrap n):=by
 cases k<;>simp[IntKind.wrap,IntKind.bits,IntKind.signed,bY]<;>omega
def toInt:V->Option (IntKind×Int)
 | .ci k n=>some (k,n)
 | .it k n=>some (k,n)
 | .bt b=>some (.u8,Sw b)
 |_=>none
def xD:V->Bool
 | .ci _ _=>true
 |_=>false
theorem eu {J:Env} {K:Nat->Prop} {v:V} {k:IntKind} {n:Int} (h:toInt v=some (k,n)) (hv:ok K v):den J v= .int k n/\bY k n:=by
 cases v<;>simp[toInt]at h
 ·obtain⟨rfl,rfl⟩:=h;exact⟨rfl,hv⟩
 ·obtain⟨rfl,rfl⟩:=h;exact⟨rfl,hv⟩
 ·obtain⟨rfl,rfl⟩:=h;rename_i b;have:=b.toNat_lt;exact⟨rfl,by simp only[bY,Sw];omega⟩
def toBool:V->Option Bool
 | .cb b=>some b
 | .bo b=>some b
 |_=>none
theorem ej {J:Env} {v:V} {b:Bool} (h:toBool v=some b):den J v= .bool b:=by
 cases v<;>simp[toBool]at h<;>subst h<;>rfl
def QM:V->Bool
 | .cb _=>true
 |_=>false
def Wt (c:Bool) (b:Bool):V:=if c then .cb b else .bo b
theorem Tw (J:Env) (c:Bool) (b:Bool):den J (Wt c b)= .bool b:=by unfold Wt;split<;>rfl
theorem Xd {K:Nat->Prop} {c:Bool} {b:Bool}:ok K (Wt c b):=by unfold Wt;split<;>trivial
def RM (op:BinOp) (a b:Int):Option Bool:=
 match op with
 | .lss=>some (ilt a b)
 | .leq=>some (ile a b)
 | .gtr=>some (ilt b a)
 | .geq=>some (ile b a)
 | .eql=>some (Dy a b)
 | .neq=>some (QB (Dy a b))
 |_=>none
def bm (op:BinOp) (k:IntKind) (x y:Int):Int:=
 let a:=BitVec.ofInt k.bits x
 let b:=BitVec.ofInt k.bits y
 match op with
 | .and=>k.wrap (a &&& b).toNat
 | .or=>k.wrap (a ||| b).toNat
 | .xor=>k.wrap (a ^^^ b).toNat
 |_=>k.wrap (a &&& ~~~b).toNat
def arith (op:BinOp) (k:IntKind) (a b:Int):Option (Option Prop×Int):=
 match op with
 | .add=>some (some (aF k (Al a b)),Al a b)
 | .sub=>some (some (aF k (sW a b)),sW a b)
 | .mul=>some (some (aF k (WS a b)),WS a b)
 | .quo=>some (some (ny b/\aF k (XN a b)),XN a b)
 | .rem=>some (some (ny b/\aF k (WX a b)),WX a b)
 | .and=>some (none,bm .and k a b)
 | .or=>some (none,bm .or k a b)
 | .xor=>some (none,bm .xor k a b)
 | .andNot=>some (none,bm .andNot k a b)
 |_=>none
def Z6 (op:BinOp) (a b:Int):Option Bool:=
 match op with
 | .lss=>some (decide (a<b))
 | .leq=>some (decide (a<=b))
 | .gtr=>some (decide (b<a))
 | .geq=>some (decide (b<=a))
 | .eql=>some (decide (a=b))
 | .neq=>some (!decide (a=b))
 |_=>none
def GG (op:BinOp) (a b:Int):Option Int:=
 match op with
 | .add=>some (a+b)
 | .sub=>some (a-b)
 | .mul=>some (a*b)
 |_=>none
theorem UH (op:BinOp) (a b:Int):Z6 op a b=RM op a b:=by cases op<;>rfl
section
variable {P:Program}
theorem FE {op:BinOp} {k:IntKind} {a b n:Int} (t:Nat) (w:World) (h:GG op a b=some n) (hp:bY k n):
  (binOp op t (.int k a) (.int k b)).run P w= .ok (.int k n) w:=by
 cases op<;>simp only[GG,aaV,reduceCtorEq]at h<;>subst h<;>simp[binOp,Op.intArith,lC hp]
theorem HK {op:BinOp} {k:IntKind} {a b:Int} {r:Bool} (t:Nat) (w:World) (h:RM op a b=some r):(binOp op t (.int k a) (.int k b)).run P w= .ok (.bool r) w:=by
 cases op<;>simp only[RM,aaV,reduceCtorEq]at h<;>subst h<;>simp[binOp,Op.intCmp,ilt,ile,Dy,QB]<;>rw[Bool.eq_iff_iff]<;>simp
theorem Km {op:BinOp} {k:IntKind} {a b n:Int} {p:Option Prop} (t:Nat) (w:World) (h:arith op k a b=some (p,n)) (hp:dX p):
  (binOp op t (.int k a) (.int k b)).run P w= .ok (.int k n) w/\bY k n:=by
 cases op<;>simp only[arith,aaV,aaW,reduceCtorEq]at h<;>obtain⟨rfl,rfl⟩:=h
 ·exact⟨by simp[binOp,Op.intArith,Al,lC (show bY k (a+b)from hp)],hp⟩
 ·exact⟨by simp[binOp,Op.intArith,sW,lC (show bY k (a-b)from hp)],hp⟩
 ·exact⟨by simp[binOp,Op.intArith,WS,lC (show bY k (a*b)from hp)],hp⟩
 ·exact⟨by simp[binOp,Op.intDiv,XN,lC (show bY k (a.tdiv b)from hp.2),show b≠0 from hp.1],hp.2⟩
 ·exact⟨by simp[binOp,Op.intDiv,WX,show b≠0 from hp.1],hp.2⟩
 ·exact⟨by simp[binOp,Op.intBits,bm],vg _ _⟩
 ·exact⟨by simp[binOp,Op.intBits,bm],vg _ _⟩
 ·exact⟨by simp[binOp,Op.intBits,bm],vg _ _⟩
 ·exact⟨by simp[binOp,Op.intBits,bm],vg _ _⟩
end
def S4:List Kd:=List.replicate 6 (.i .i64)
def YF:List Kd:=List.replicate 96 (.i .i64)
def YG:List Kd:=List.replicate 64 (.i .u8)
def QH:List Kd:=List.replicate 99 (.i .i64)++List.replicate 64 (.i .u8)
theorem xZ (k:Kd):∀(l:List Value),(∀v∈l,k.of v)->mV (List.replicate l.length k) l
 | [],_=>trivial
 |v::l,h=>⟨h v (by simp),xZ k l fun u hu=>h u (by simp[hu])⟩
theorem yo (k:Key):mV S4 (ea k):=by
 refine xZ (.i .i64) (ea k) fun v hv=>?_
 simp only[ea,List.mem_cons,List.not_mem_nil,or_false,i64]at hv;rcases hv with rfl|rfl|rfl|rfl|rfl|rfl<;>exact⟨_,rfl⟩
theorem zW (s:cL):mV YF (gj s):=by
 have:=xZ (.i .i64) (gj s) fun v hv=>by
  simp only[gj,List.mem_flatMap,ea,List.mem_cons,List.not_mem_nil,or_false,i64]at hv;obtain⟨i,_,hx⟩:=hv;rcases hx with rfl|rfl|rfl|rfl|rfl|rfl<;>exact⟨_,rfl⟩
 rwa [iS]at this
theorem z6 (s:Bytes):mV YG (cZ s):=by
 have:=xZ (.i .u8) (cZ s) fun v hv=>by
  simp only[cZ,List.mem_map]at hv;obtain⟨i,_,rfl⟩:=hv;exact⟨_,rfl⟩
 rwa [fB]at this
theorem Dt (o:Obj):mV QH (eF o):=by
 have h1:mV (List.replicate 3 (.i .i64)) [i64 o.kind,i64 o.count,i64 o.calls]:=⟨⟨_,rfl⟩,⟨_,rfl⟩,⟨_,rfl⟩,trivial⟩;have h2:=mV.join h1 (mV.join (zW o.slots) (z6 o.bytes));have e:QH=List.replicate 3 (.i .i64)++(YF++YG):=rfl;rw[e];simpa[eF]using h2
theorem qf {a b:Key}:ea a=ea b↔a=b:=by
 refine⟨fun h=>?_,fun h=>by rw[h]⟩
 simp only[ea,i64,List.cons.injEq,Value.int.injEq,true_and,and_true]at h;cases a;cases b;simp_all
theorem ra {a b:cL}:gj a=gj b↔a=b:=by
 refine⟨fun h=>?_,fun h=>by rw[h]⟩
 have key:∀i,i<16->a.at i=b.at i:=fun i hi=>by
  obtain⟨p,q,e1,e2,_⟩:=nQ a i hi;obtain⟨p',q',e1',e2',_⟩:=nQ b i hi;rw[e1,e1']at h;exact qf.1 (lB h (by omega) rfl).2.1
 ext i hi
 have:=key i hi;simp only[cL.at,Array.getD_eq_getD_getElem?,Vector.getElem?_toArray,Vector.getElem?_eq_getElem hi,Option.getD_some]at this;all_goals(first| (rw[this])| (simp[this]))
theorem rF {a b:Bytes}:cZ a=cZ b↔a=b:=by
 refine⟨fun h=>?_,fun h=>by rw[h]⟩
 have key:∀i,i<64->a.at i=b.at i:=fun i hi=>by
  obtain⟨p,q,e1,e2,_⟩:=nX a i hi;obtain⟨p',q',e1',e2',_⟩:=nX b i hi;rw[e1,e1']at h;have:=(lB h (by omega) rfl).2.1
  simp only[List.cons.injEq,Value.int.injEq,true_and,and_true]at this;exact UInt8.toNat_inj.1 (by omega)
 ext i hi
 have:=key i hi;simp only[Bytes.at,Array.getD_eq_getD_getElem?,Vector.getElem?_toArray,Vector.getElem?_eq_getElem hi,Option.getD_some]at this;rw[this]
theorem xd {a b:Obj}:eF a=eF b↔a=b:=by
 refine⟨fun h=>?_,fun h=>by rw[h]⟩
 simp only[eF,i64,List.cons.injEq,Value.int.injEq,true_and]at h;obtain⟨h1,h2,h3,h4⟩:=h;obtain⟨h5,h6⟩:=List.append_inj h4 (by rw[iS,iS])
 cases a;cases b;simp_all[ra,rF]
def pN (P:Program) (t:Nat):Bool:= !(P.eqGuardType P.depth t)
mutual
def kdS:V->Option (List Kd)
 | .cb _| .bo _=>some [.b]
 | .ci k _| .it k _=>some [.i k]
 | .st _=>some [.s]
 | .key _=>some S4
 | .sl _=>some YF
 | .by _=>some YG
 | .ob _=>some QH
 | .ag l=>N8 l
 |_=>none
def N8:List V->Option (List Kd)
 | []=>some []
 |x::l=>match kdS x with
  |some a=>match N8 l with
   |some b=>some (a++b)
   |none=>none
  |none=>none
end
mutual
def eqS:V->V->Option Bool
 | .ag l,.ag m=>Er l m
 | .key a,.key b=>some (yf a b)
 | .sl a,.sl b=>some (DC a b)
 | .by a,.by b=>some (DJ a b)
 | .ob a,.ob b=>some (C0 a b)
 | .st a,.st b=>some (AB a b)
 |x,y=>match toBool x,toBool y with
  |some a,some b=>some (GF a b)
  |_,_=>match x with
   | .bt _=>none
   |_=>match y with
    | .bt _=>none
    |_=>match toInt x,toInt y with
     |some (k,a),some (k',b)=>if k==k' then some (Dy a b)else none
     |_,_=>none
def Er:List V->List V->Option Bool
 | [],[]=>some true
 |x::l,y::m=>match eqS x y with
  |some a=>match Er l m with
   |some b=>some (Vb a b)
   |none=>none
  |none=>none
 |_,_=>none
end
theorem R8 {ks:List Kd}:∀{a b c d:List Value},mV ks a->mV ks b->(a++c=b++d↔a=b/\c=d):=fun ha hb=>
 ⟨fun h=>List.append_inj h (by rw[ha.length,hb.length]),fun h=>by rw[h.1,h.2]⟩
mutual
theorem Mv (J:Env):∀(x y:V) (b:Bool),eqS x y=some b->∃ks,kdS x=some ks/\mV ks (cells J x)/\mV ks (cells J y)/\(b=true↔cells J x=cells J y)
 |x,y,b,h=>by
  unfold eqS at h;split at h
  ·rename_i l m;obtain⟨ks,h1,h2,h3,h4⟩:=wc J l m b h;refine⟨ks,by rw[kdS];exact h1,?_⟩
   simp only[cells,den];exact⟨by simpa[Value.cells]using h2,by simpa[Value.cells]using h3,by simpa[Value.cells]using h4⟩
  ·rename_i u v;simp only[aaV]at h;subst h;exact⟨S4,rfl,yo u,yo v,by show yf u v=true↔ea u=ea v;rw[qf];simp[yf]⟩
  ·rename_i u v;simp only[aaV]at h;subst h;exact⟨YF,rfl,zW u,zW v,by show DC u v=true↔gj u=gj v;rw[ra];simp[DC]⟩
  ·rename_i u v;simp only[aaV]at h;subst h;exact⟨YG,rfl,z6 u,z6 v,by show DJ u v=true↔cZ u=cZ v;rw[rF];simp[DJ]⟩
  ·rename_i u v;simp only[aaV]at h;subst h;exact⟨QH,rfl,Dt u,Dt v,by show C0 u v=true↔eF u=eF v;rw[xd];simp[C0]⟩
  ·rename_i u v;simp only[aaV]at h;subst h;exact⟨[.s],rfl,⟨⟨_,rfl⟩,trivial⟩,⟨⟨_,rfl⟩,trivial⟩,by show AB u v=true↔ [Value.string u]= [Value.string v];simp[AB]⟩
  ·split at h
   ·rename_i u v hu hv;simp only[aaV]at h;subst h;refine⟨[.b],?_,?_,?_,?_⟩
    ·cases x<;>simp[toBool]at hu<;>rfl
    ·rw[cells,ej hu];exact⟨⟨_,rfl⟩,trivial⟩
    ·rw[cells,ej hv];exact⟨⟨_,rfl⟩,trivial⟩
    ·rw[cells,cells,ej hu,ej hv];show GF u v=true↔ [Value.bool u]= [Value.bool v]
     simp[GF]
   ·split at h
    ·simp at h
    ·rename_i hx;split at h
     ·simp at h
     ·rename_i hy;split at h
      ·rename_i k u k' v hu hv;split at h<;>simp only[aaV,reduceCtorEq]at h
       rename_i hk;have hk:=aaZ.1 hk;subst hk;subst h
       have e1:den J x= .int k u:=by
        cases x<;>simp[toInt]at hu
        ·obtain⟨rfl,rfl⟩:=hu;rfl
        ·obtain⟨rfl,rfl⟩:=hu;rfl
        ·exact absurd rfl (hx _)
       have e2:den J y= .int k v:=by
        cases y<;>simp[toInt]at hv
        ·obtain⟨rfl,rfl⟩:=hv;rfl
        ·obtain⟨rfl,rfl⟩:=hv;rfl
        ·exact absurd rfl (hy _)
       refine⟨[.i k],?_,?_,?_,?_⟩
       ·cases x<;>simp[toInt]at hu
        ·obtain⟨rfl,rfl⟩:=hu;rfl
        ·obtain⟨rfl,rfl⟩:=hu;rfl
        ·exact absurd rfl (hx _)
       ·rw[cells,e1];exact⟨⟨_,rfl⟩,trivial⟩
       ·rw[cells,e2];exact⟨⟨_,rfl⟩,trivial⟩
       ·rw[cells,cells,e1,e2];show Dy u v=true↔ [Value.int k u]= [Value.int k v]
        simp[Dy]
      ·simp at h
theorem wc (J:Env):∀(l m:List V) (b:Bool),Er l m=some b->∃ks,N8 l=some ks/\mV ks (bp J l)/\mV ks (bp J m)/\(b=true↔bp J l=bp J m)
 | [],[],b,h=>by
   simp only[Er,aaV]at h;subst h;exact⟨[],rfl,trivial,trivial,by simp[bp]⟩
 |x::l,y::m,b,h=>by
  simp only[Er]at h;split at h
  case h_2=>simp at h
  rename_i a ha;split at h<;>simp only[aaV,reduceCtorEq]at h
  rename_i c hc;subst h;obtain⟨k1,h1,h2,h3,h4⟩:=Mv J x y a ha;obtain⟨k2,i1,i2,i3,i4⟩:=wc J l m c hc;refine⟨k1++k2,by simp only[N8,h1,i1],?_,?_,?_⟩
  ·simp only[bp];exact mV.join h2 i2
  ·simp only[bp];exact mV.join h3 i3
  ·grind[bp,R8,cells,Vb]
 | [],_::_,_,h=>by simp[Er]at h
 |_::_,[],_,h=>by simp[Er]at h
end
def V9 (P:Program) (t:Nat):V->V->Option V
 | .key a,.key b=>if pN P t&&fw P 8 t==some S4 then some (.bo (yf a b))else none
 | .sl a,.sl b=>if pN P t&&fw P 8 t==some YF then some (.bo (DC a b))else none
 | .by a,.by b=>if pN P t&&fw P 8 t==some YG then some (.bo (DJ a b))else none
 | .ob a,.ob b=>if pN P t&&fw P 8 t==some QH then some (.bo (C0 a b))else none
 | .st a,.st b=>some (.bo (AB a b))
 | .ag l,.ag m=>match N8 l with
   |some ks=>if pN P t&&fw P 8 t==some ks&&Nat.ble 2 ks.length then match Er l m with
    |some b=>some (.bo b)
    |none=>none
    else none
   |none=>none
 | .nl (.pointer none),.nl (.pointer none)=>match P.underlying t with
   |some (.pointer _)=>some (.cb true)
   |_=>none
 | .lp _ _,.nl (.pointer none)=>match P.underlying t with
   |some (.pointer _)=>some (.cb false)
   |_=>none
 | .fn _ _,.nl .nilFunc=>match P.underlying t with
   |some (.func _ _ _)=>some (.cb false)
   |_=>none
 | .nl .nilFunc,.nl .nilFunc=>match P.underlying t with
   |some (.func _ _ _)=>some (.cb true)
   |_=>none
 |x,y=>match toBool x,toBool y with
  |some a,some b=>match P.underlying t with
   |some .bool=>some (Wt (QM x&&QM y) (GF a b))
   |_=>none
  |_,_=>none
section
variable {P:Program}
theorem nR {t:Nat} {ks:List Kd} {xs ys:List Value} (w:World) (o1 o2:Operand) (hk:fw P 8 t=some ks) (hg:pN P t=true) (ha:lZ P t=some true) (hx:mV ks xs) (hy:mV ks ys):
  ∃b,(do eqGuard .eql t o1 o2 (.agg xs.toArray) (.agg ys.toArray);binOp .eql t (.agg xs.toArray) (.agg ys.toArray)).run P w= .ok (.bool b) w/\
   (do eqGuard .neq t o1 o2 (.agg xs.toArray) (.agg ys.toArray);binOp .neq t (.agg xs.toArray) (.agg ys.toArray)).run P w= .ok (.bool !b) w/\(b=true↔xs=ys):=by
 obtain⟨b,hb,hbi⟩:=rq (P:=P) 8 10000 (by omega) t ks true xs ys hk ha hx hy w
 have hg':P.eqGuardType P.depth t=false:=by simpa[pN]using hg
 simp only[jN,if_true]at hb;refine⟨b,?_,?_,hbi⟩
 ·simp only[Sem.run_bind,run_eqGuard_agg w .eql t o1 o2 _ _ hg',Result.andThen_ok,run_eql_struct,hb]
 ·simp only[Sem.run_bind,run_eqGuard_agg w .neq t o1 o2 _ _ hg',Result.andThen_ok,run_neq_struct,hb]
theorem me {t:Nat} {ks:List Kd} (hk:fw P 8 t=some ks) (h:2<=ks.length):lZ P t=some true:=by
 obtain⟨a,ha⟩:=sj hk;cases a with
 |true=>exact ha
 |false=>have:=(tg hk ha).2 rfl;omega
def tF (P:Program) (t:Nat) (x y:Value) (b:Bool):Prop:=
 ∀w o1 o2,(do eqGuard .eql t o1 o2 x y;binOp .eql t x y).run P w= .ok (.bool b) w/\(do eqGuard .neq t o1 o2 x y;binOp .neq t x y).run P w= .ok (.bool !b) w
theorem sN {t:Nat} {x y:Value} {b:Bool} (h1:binOp .eql t x y=(do pure (.bool (<-Op.equal t x y)))) (h2:binOp .neq t x y=(do pure (.bool (!(<-Op.equal t x y)))))
  (hg:∀op w o1 o2,(eqGuard op t o1 o2 x y).run P w= .ok () w) (he:∀d w,(Op.equalIn (d+1) t x y).run P w= .ok b w):tF P t x y b:=by
 intro w o1 o2;have he':(Op.equal t x y).run P w= .ok b w:=he 9999 w;constructor
 ·simp_all
 ·simp_all
theorem EI {t:Nat} (a b:Bool) (hu:P.underlying t=some .bool):tF P t (.bool a) (.bool b) (GF a b):=
 sN rfl rfl (fun op w o1 o2=>by cases op<;>simp[eqGuard]) (fun d w=>by simp[Op.equalIn,bG w hu,GF])
theorem sZ {t e:Nat} (b:Option Addr) (hu:P.underlying t=some (.pointer e)):tF P t (.pointer b) (.pointer none) b.isNone:=
 sN rfl rfl (fun op w o1 o2=>by cases op<;>simp[eqGuard]) (fun d w=>by cases b<;>simp[Op.equalIn,bG w hu])
theorem yM {t:Nat} {p r:Array Nat} {v:Bool} (hu:P.underlying t=some (.func p r v)):tF P t .nilFunc .nilFunc true:=
 sN rfl rfl (fun op w o1 o2=>by cases op<;>simp[eqGuard]) (fun d w=>by simp[Op.equalIn,bG w hu])
theorem Eg {t:Nat} {p r:Array Nat} {v:Bool} (f:Fn) (a c:Array Value) (hu:P.underlying t=some (.func p r v)):tF P t (.func f a c) .nilFunc false:=
 sN rfl rfl (fun op w o1 o2=>by cases op<;>simp[eqGuard]) (fun d w=>by simp[Op.equalIn,bG w hu])
theorem Aw {t:Nat} (a b:ByteArray):tF P t (.string a) (.string b) (AB a b):=by
 intro w o1 o2;unfold AB;rw[<-A5,beq_toListBytes];constructor<;>simp[eqGuard,binOp,Op.stringOp]
theorem Aq {J:Env} {t:Nat} {x y r:V} (h:V9 P t x y=some r):∃b,toBool r=some b/\tF P t (den J x) (den J y) b:=by
 unfold V9 at h;split at h
 ·rename_i u v;split at h<;>simp only[aaV,reduceCtorEq]at h
  rename_i hc;subst h;simp only[aaX,aaZ]at hc;refine⟨_,rfl,fun w o1 o2=>?_⟩
  obtain⟨b,h1,h2,h3⟩:=nR w o1 o2 hc.2 hc.1 (me hc.2 (by decide)) (yo u) (yo v)
  rw[qf]at h3;have:b=yf u v:=Bool.eq_iff_iff.2 (by rw[h3];simp[yf])
  subst this;exact⟨h1,h2⟩
 ·rename_i u v;split at h<;>simp only[aaV,reduceCtorEq]at h
  rename_i hc;subst h;simp only[aaX,aaZ]at hc;refine⟨_,rfl,fun w o1 o2=>?_⟩
  obtain⟨b,h1,h2,h3⟩:=nR w o1 o2 hc.2 hc.1 (me hc.2 (by simp[YF])) (zW u) (zW v)
  rw[ra]at h3;have:b=DC u v:=Bool.eq_iff_iff.2 (by rw[h3];simp[DC])
  subst this;exact⟨h1,h2⟩
 ·rename_i u v;split at h<;>simp only[aaV,reduceCtorEq]at h
  rename_i hc;subst h;simp only[aaX,aaZ]at hc;refine⟨_,rfl,fun w o1 o2=>?_⟩
  obtain⟨b,h1,h2,h3⟩:=nR w o1 o2 hc.2 hc.1 (me hc.2 (by simp[YG])) (z6 u) (z6 v)
  rw[rF]at h3;have:b=DJ u v:=Bool.eq_iff_iff.2 (by rw[h3];simp[DJ])
  subst this;exact⟨h1,h2⟩
 ·rename_i u v;split at h<;>simp only[aaV,reduceCtorEq]at h
  rename_i hc;subst h;simp only[aaX,aaZ]at hc;refine⟨_,rfl,fun w o1 o2=>?_⟩
  obtain⟨b,h1,h2,h3⟩:=nR w o1 o2 hc.2 hc.1 (me hc.2 (by simp[QH])) (Dt u) (Dt v)
  rw[xd]at h3;have:b=C0 u v:=Bool.eq_iff_iff.2 (by rw[h3];simp[C0])
  subst this;exact⟨h1,h2⟩
 ·rename_i a b;simp only[aaV]at h;subst h;exact⟨_,rfl,Aw _ _⟩
 ·rename_i l m;split at h
  case h_2=>simp at h
  rename_i ks hks;split at h
  case isFalse=>simp at h
  rename_i hc;simp only[aaX,aaZ]at hc;split at h<;>simp only[aaV,reduceCtorEq]at h
  rename_i b hb;subst h;obtain⟨ks',g1,g2,g3,g4⟩:=wc J l m b hb;rw[hks]at g1;simp only[aaV]at g1;subst g1;refine⟨_,rfl,fun w o1 o2=>?_⟩
  obtain⟨b',h1,h2,h3⟩:=nR w o1 o2 hc.1.2 hc.1.1 (me hc.1.2 (Nat.le_of_ble_eq_true hc.2)) g2 g3;have:b'=b:=Bool.eq_iff_iff.2 (by rw[h3,g4])
  subst this;exact⟨h1,h2⟩
 ·split at h<;>simp only[aaV,reduceCtorEq]at h
  rename_i hu;subst h;exact⟨_,rfl,sZ none hu⟩
 ·split at h<;>simp only[aaV,reduceCtorEq]at h
  rename_i hu;subst h;exact⟨_,rfl,sZ (some _) hu⟩
 ·split at h<;>simp only[aaV,reduceCtorEq]at h
  rename_i hu;subst h;exact⟨_,rfl,by simp only[den];unfold FC;split<;>exact Eg _ _ _ hu⟩
 ·split at h<;>simp only[aaV,reduceCtorEq]at h
  rename_i hu;subst h;exact⟨_,rfl,yM hu⟩
 ·split at h
  ·rename_i a b ha hb;split at h<;>simp only[aaV,reduceCtorEq]at h
   rename_i hu;subst h;refine⟨GF a b,by unfold Wt;split<;>rfl,?_⟩
   rw[ej ha,ej hb];exact EI _ _ hu
  ·simp at h
theorem VP {t:Nat} {x y r:V} {K:Nat->Prop} (h:V9 P t x y=some r):ok K r/\cV r=false:=by
 obtain⟨b,hb,_⟩:=Aq (J:=Env.zero) h;cases r<;>simp[toBool]at hb<;>exact⟨trivial,rfl⟩
end
def SF (P:Program) (op:BinOp) (t:Nat) (x y:V):Option (Option Prop×V):=
 match toInt x,toInt y with
 |some (k,a),some (k',b)=>
  if k==k' then
   if xD x&&xD y then
    match Z6 op a b with
    |some r=>some (none,.cb r)
    |none=>match GG op a b with
     |some n=>if bY k n then some (none,.ci k n)else none
     |none=>none
   else match RM op a b with
   |some r=>some (none,.bo r)
   |none=>match arith op k a b with
    |some (p,n)=>some (p,.it k n)
    |none=>none
  else none
 |_,_=>match op with
  | .eql=>(V9 P t x y).map fun r=>(none,r)
  | .neq=>match V9 P t x y with
    |some r=>match toBool r with
     |some b=>some (none,Wt (QM r) (QB b))
     |none=>none
    |none=>none
  |_=>none
theorem JO {P:Program} {J:Env} {K:Nat->Prop} {op:BinOp} {t:Nat} {x y r:V} {p:Option Prop} (w:World) (o1 o2:Operand) (h:SF P op t x y=some (p,r)) (hp:dX p) (hx:ok K x) (hy:ok K y):
  (do eqGuard op t o1 o2 (den J x) (den J y);binOp op t (den J x) (den J y)).run P w= .ok (den J r) w/\ok K r:=by
 unfold SF at h;split at h
 ·rename_i k a k' b ha hb;obtain⟨e1,r1⟩:=eu (J:=J) ha hx;obtain⟨e2,r2⟩:=eu (J:=J) hb hy;split at h
  ·rename_i hk;have hk:=aaZ.1 hk;subst hk;have hgd:∀w,(eqGuard op t o1 o2 (.int k a) (.int k b)).run P w= .ok () w:=fun w=>by cases op<;>simp[eqGuard]
   rw[e1,e2];split at h
   ·split at h
    ·rename_i r hr;simp only[aaV,aaW]at h;obtain⟨_,rfl⟩:=h;rw[UH]at hr;exact⟨by rw[Sem.run_bind,hgd,Result.andThen_ok,HK t w hr];rfl,trivial⟩
    ·split at h
     ·rename_i n hn;split at h<;>simp only[aaV,aaW,reduceCtorEq]at h
      rename_i hin;obtain⟨_,rfl⟩:=h;exact⟨by rw[Sem.run_bind,hgd,Result.andThen_ok,FE t w hn hin];rfl,hin⟩
     ·simp at h
   ·split at h
    ·rename_i r hr;simp only[aaV,aaW]at h;obtain⟨_,rfl⟩:=h;exact⟨by rw[Sem.run_bind,hgd,Result.andThen_ok,HK t w hr];rfl,trivial⟩
    ·split at h<;>simp only[aaV,aaW,reduceCtorEq]at h
     rename_i p n hn;obtain⟨rfl,rfl⟩:=h;obtain⟨h1,h2⟩:=Km (P:=P) t w hn hp;exact⟨by rw[Sem.run_bind,hgd,Result.andThen_ok,h1];rfl,h2⟩
  ·simp at h
 ·split at h
  ·cases he:V9 P t x y with
   |none=>simp[he]at h
   |some r'=>
    simp only[he,Option.map_some,aaV,aaW]at h;obtain⟨_,rfl⟩:=h;obtain⟨b,hb,hr⟩:=Aq (J:=J) he;rw[ej hb];exact⟨(hr w o1 o2).1,(VP he).1⟩
  ·cases he:V9 P t x y with
   |none=>simp[he]at h
   |some r'=>
    simp only[he]at h;obtain⟨b,hb,hr⟩:=Aq (J:=J) he;simp only[hb,aaV,aaW]at h;obtain⟨_,rfl⟩:=h;rw[Tw];exact⟨(hr w o1 o2).2,Xd⟩
  ·simp at h
def allM {α β:Type} (g:α->Option β):List α->Option (List β)
 | []=>some []
 |x::l=>match g x,allM g l with
  |some y,some ys=>some (y::ys)
  |_,_=>none
theorem qI {α β:Type} {g:α->Option β}:∀{l:List α} {r:List β},allM g l=some r->r.length=l.length
 | [],r,h=>by simp only[allM,aaV]at h;subst h;rfl
 |x::l,r,h=>by
  simp only[allM]at h;split at h
  ·rename_i y ys _ hys;simp only[aaV]at h;subst h;simp[qI hys]
  ·simp at h
theorem pz {α β:Type} {g:α->Option β}:∀{l:List α} {r:List β},allM g l=some r->∀(i:Nat) (x:α),l[i]? =some x->∃y,r[i]? =some y/\g x=some y
 | [],r,h,i,x,hx=>by simp at hx
 |a::l,r,h,i,x,hx=>by
  simp only[allM]at h;split at h
  ·rename_i y ys hy hys;simp only[aaV]at h;subst h;cases i with
   |zero=>simp only[List.getElem?_cons_zero,aaV]at hx;subst hx;exact⟨y,rfl,hy⟩
   |succ i=>simp only[List.getElem?_cons_succ]at hx⊢;exact pz hys i x hx
  ·simp at h
def asI (k:IntKind):V->Option Int
 | .ci k' n=>if k'==k then some n else none
 | .it k' n=>if k'==k then some n else none
 |_=>none
def U0:V->Option ByteArray
 | .st s=>some s
 |_=>none
def asKey:V->Option Key
 | .key k=>some k
 |_=>none
def VV:V->Option (List V)
 | .ag l=>some l
 |_=>none
def wu (g:List V->Option V) (rows:List (List V)):Nat->Nat->Option (List V)
 |_,0=>some []
 |j,n+1=>match allM (fun m:List V=>m[j]?) rows with
  |none=>none
  |some c=>match g c,wu g rows (j+1) n with
   |some x,some xs=>some (x::xs)
   |_,_=>none
def F3:Nat->List V->Nat->Option V
 |0,_,_=>none
 |f+1,l,i=>match l with
  | []=>none
  |x::_=>match x with
   | .ci k _=>(allM (asI k) l).map fun ns=> .it k (aj ns i 0)
   | .it k _=>(allM (asI k) l).map fun ns=> .it k (aj ns i 0)
   | .cb _=>(allM toBool l).map fun bs=> .bo (aj bs i false)
   | .bo _=>(allM toBool l).map fun bs=> .bo (aj bs i false)
   | .st _=>(allM U0 l).map fun bs=> .st (aj bs i ByteArray.empty)
   | .key _=>(allM asKey l).map fun bs=> .key (aj bs i void)
   | .ag m=>match allM VV l with
     |none=>none
     |some rows=>if rows.all fun r=>r.length==m.length then(wu (fun c=>F3 f c i) rows 0 m.length).map .ag else none
   |_=>none
def Jp (J:Env) (K:Nat->Prop) (r x:V):Prop:=cells J r=cells J x/\jK r=jK x/\ok K r/\cV r=false
theorem Sl {α:Type} {l:List α} {i:Nat} {a d:α} (h:l[i]? =some a):l.getD i d=a:=by simp[aa2,h]
theorem xg {J:Env} {K:Nat->Prop} {g:List V->Option V} {i:Nat} {rows:List (List V)} {row:List V} (hrow:rows[i]? =some row)
  (hg:∀c r x,g c=some r->c[i]? =some x->(∀y∈c,ok K y/\cV y=false)->Jp J K r x) (hok:∀m∈rows,∀y∈m,ok K y/\cV y=false):
  ∀(n j:Nat) (rs:List V),wu g rows j n=some rs->rs.length=n/\(∀k,k<n->∃r x,rs[k]? =some r/\row[j+k]? =some x/\Jp J K r x)
 |0,j,rs,h=>by simp only[wu,aaV]at h;subst h;exact⟨rfl,fun k hk=>absurd hk (by omega)⟩
 |n+1,j,rs,h=>by
  simp only[wu]at h;split at h
  ·simp at h
  ·rename_i c hc;split at h
   ·rename_i x xs hx hxs;simp only[aaV]at h;subst h;obtain⟨h1,h2⟩:=xg hrow hg hok n (j+1) xs hxs;refine⟨by simp[h1],fun k hk=>?_⟩
    cases k with
    |zero=>
     obtain⟨y,hy1,hy2⟩:=pz hc i row hrow;refine⟨x,y,rfl,hy2,hg c x y hx hy1 fun z hz=>?_⟩
     obtain⟨q,hq⟩:=List.getElem?_of_mem hz
     have hql:q<rows.length:=by
      grind[qI]
     obtain⟨z',hz1,hz2⟩:=pz hc q rows[q] (List.getElem?_eq_getElem hql);rw[hz1]at hq;simp only[aaV]at hq;subst hq;exact hok rows[q] (List.getElem_mem hql) _ (List.mem_of_getElem? hz2)
    |succ k=>
     obtain⟨r,y,e1,e2,e3⟩:=h2 k (by omega)
     exact⟨r,y,by simpa using e1,by rw[<-e2];congr 1;omega,e3⟩
   ·simp at h
theorem Fy {J:Env} {K:Nat->Prop} {k:IntKind} {v:V} {n:Int} (h:asI k v=some n):cells J v= [.int k n]/\jK v=false/\(ok K v->bY k n):=by
 cases v<;>simp[asI]at h
 ·obtain⟨rfl,rfl⟩:=h;exact⟨rfl,rfl,id⟩
 ·obtain⟨rfl,rfl⟩:=h;exact⟨rfl,rfl,id⟩
theorem sJ {α:Type} {J:Env} {K:Nat->Prop} {g:V->Option α} {mk:α->V} {d:α} {l:List V} {i:Nat} {r x:V} (h:(allM g l).map (fun ns=>mk (aj ns i d))=some r) (hx:l[i]? =some x)
  (H:∀a,g x=some a->Jp J K (mk a) x):Jp J K r x:=by
 cases hm:allM g l with
 |none=>simp[hm]at h
 |some ns=>
  simp only[hm,Option.map_some,aaV]at h;subst h;obtain⟨n,hn1,hn2⟩:=pz hm i x hx;rw[aj,Sl hn1];exact H n hn2
theorem Bk {J:Env} {K:Nat->Prop}:∀(a b:List V),a.length=b.length->(∀k,k<a.length->∃r x,a[k]? =some r/\b[k]? =some x/\Jp J K r x)->bp J a=bp J b/\fM K a/\ti a
 | [],[],_,_=>⟨rfl,trivial,trivial⟩
 | [],_::_,h,_=>by simp at h
 |_::_,[],h,_=>by simp at h
 |a0::a,b0::b,hb,hh=>by
  obtain⟨r,x,e1,e2,e3⟩:=hh 0 (by simp)
  simp only[List.getElem?_cons_zero,aaV]at e1 e2;subst e1;subst e2
  obtain⟨i1,i2,i3⟩:=Bk a b (by simpa using hb) fun k hk=>by
   obtain⟨r,x,e1,e2,e3⟩:=hh (k+1) (by simp;omega)
   exact⟨r,x,by simpa using e1,by simpa using e2,e3⟩
  refine⟨?_,⟨e3.2.2.1,i2⟩,(eE _).2 fun z hz=>?_⟩
  ·simp only[bp,i1];rw[show(den J a0).cells.toList=cells J a0 from rfl,e3.1];rfl
  ·rcases List.mem_cons.1 hz with rfl|hz
   ·exact e3.2.2.2
   ·exact(eE _).1 i3 z hz
theorem B0 {J:Env} {K:Nat->Prop} {i:Nat}:∀(f:Nat) (l:List V) (r x:V),F3 f l i=some r->l[i]? =some x->(∀y∈l,ok K y/\cV y=false)->Jp J K r x
 |0,_,_,_,h,_,_=>by simp[F3]at h
 |f+1,[],_,_,h,_,_=>by simp[F3]at h
 |f+1,y::l,r,x,h,hx,hok=>by
  have hxm:ok K x/\cV x=false:=hok x (List.mem_of_getElem? hx);simp only[F3]at h;split at h
  ·exact sJ h hx fun a ha=>by
    obtain⟨e1,e2,e3⟩:=Fy (J:=J) (K:=K) ha;exact⟨by rw[e1];rfl,e2.symm,e3 hxm.1,rfl⟩
  ·exact sJ h hx fun a ha=>by
    obtain⟨e1,e2,e3⟩:=Fy (J:=J) (K:=K) ha;exact⟨by rw[e1];rfl,e2.symm,e3 hxm.1,rfl⟩
  ·exact sJ h hx fun a ha=>⟨by unfold cells;rw[ej ha];rfl,by cases x<;>simp[toBool]at ha<;>rfl,trivial,rfl⟩
  ·exact sJ h hx fun a ha=>⟨by unfold cells;rw[ej ha];rfl,by cases x<;>simp[toBool]at ha<;>rfl,trivial,rfl⟩
  ·exact sJ h hx fun a ha=>by
    cases x<;>simp[U0]at ha
    subst ha;exact⟨rfl,rfl,trivial,rfl⟩
  ·exact sJ h hx fun a ha=>by
    cases x<;>simp[asKey]at ha
    subst ha;exact⟨rfl,rfl,hxm.1,rfl⟩
  ·rename_i m;generalize V.ag m::l=L at h hx hok
   split at h
   ·simp at h
   ·rename_i rows hm;split at h
    ·rename_i hlen;cases hc:wu (fun c=>F3 f c i) rows 0 m.length with
     |none=>simp[hc]at h
     |some rs=>
      simp only[hc,Option.map_some,aaV]at h;subst h;obtain⟨row,hr1,hr2⟩:=pz hm i x hx;cases x<;>simp[VV]at hr2
      subst hr2;rename_i row
      have hrl:row.length=m.length:=by
       grind
      obtain⟨h1,h2⟩:=xg (J:=J) (K:=K) hr1 (fun c r x hg hc hok=>B0 f c r x hg hc hok) (fun q hq z hz=>by
       obtain⟨p,hp⟩:=List.getElem?_of_mem hq
       have hpl:p<L.length:=by
        grind[qI]
       obtain⟨q',hq1,hq2⟩:=pz hm p _ (List.getElem?_eq_getElem hpl);rw[hq1]at hp;simp only[aaV]at hp;subst hp;have hk:=hok _ (List.getElem_mem hpl);generalize L[p]=t at hk hq2
       cases t<;>simp[VV]at hq2
       subst hq2;exact⟨(ja _).1 hk.1.1 z hz,(eE _).1 hk.1.2 z hz⟩) m.length 0 rs hc
      obtain⟨c1,c2,c3⟩:=Bk (J:=J) (K:=K) rs row (by omega) fun k hk=>by
       simp_all
      exact⟨by rw[fE,fE,c1],rfl,⟨c2,c3⟩,rfl⟩
    ·simp at h
  ·simp at h
def Qs (v:V) (esz n i inner sz:Nat) (a:Bool):Option V:=
 match v with
 | .ag l=>if l.length==n&&l.all (fun x=>fg x==esz)then
   match F3 4 l i with
   |none=>none
   |some x=>iN 8 x inner sz a
   else none
 |_=>Xq v esz n i inner sz a
theorem A2 (J:Env) {K:Nat->Prop}:∀(l:List V) (esz i:Nat) (x:V),fM K l->(∀y∈l,fg y=esz)->l[i]? =some x->∃p q,bp J l=p++cells J x++q/\p.length=i*esz
 | [],_,_,_,_,_,h=>by simp at h
 |y::l,esz,0,x,hk,hs,h=>by
  simp_all[bp,cells]
 |y::l,esz,i+1,x,hk,hs,h=>by
  simp only[List.getElem?_cons_succ]at h;obtain⟨p,q,h1,h2⟩:=A2 J l esz i x hk.2 (fun z hz=>hs z (by simp[hz])) h
  have hl:=bg J y hk.1;have:=hs y (by simp)
  exact⟨cells J y++p,q,by simp[bp,h1,cells],by simp;rw[Nat.succ_mul];omega⟩
theorem A4 (J:Env) {N:Nat->Prop} {v:V} {esz n i inner sz:Nat} {a:Bool} {r:V} (hv:ok N v) (hi:i<n) (h:Qs v esz n i inner sz a=some r):
  (∃p q,cells J v=p++cells J r++q/\i*esz+inner=p.length)/\fg r=sz/\jK r=a/\ok N r/\cV r=false:=by
 unfold Qs at h;split at h
 ·rename_i l;split at h
  ·rename_i hc;simp only[aaX,aaZ,List.all_eq_true]at hc;obtain⟨rfl,hs⟩:=hc;split at h
   ·simp at h
   ·rename_i x hx;have hxl:l[i]? =some l[i]:=List.getElem?_eq_getElem hi;obtain⟨e1,e2,e3,e4⟩:=B0 (J:=J) (K:=N) 4 l x _ hx hxl fun y hy=>⟨(ja _).1 hv.1 y hy,(eE _).1 hv.2 y hy⟩
    obtain⟨⟨p,q,h1,h2⟩,h3⟩:=ff J 8 x inner sz a r e3 e4 h;obtain⟨P,Q,f1,f2⟩:=A2 J l esz i _ hv.1 hs hxl;exact⟨⟨P++p,q++Q,by rw[fE,f1,<-e1,h1];simp,by simp;omega⟩,h3⟩
  ·simp at h
 ·exact JZ J hv hi h
def Bn (c:V) (off esz n i inner sz:Nat) (a:Bool):Option V:=
 match iN 8 c off (n*esz) true with
 |none=>none
 |some x=>Qs x esz n i inner sz a
theorem ze (J:Env) {N:Nat->Prop} {c:V} {off esz n i inner sz:Nat} {a:Bool} {r:V} (hc:ok N c) (ht:cV c=false) (hi:i<n) (h:Bn c off esz n i inner sz a=some r):
  (∃p q,cells J c=p++cells J r++q/\off+i*esz+inner=p.length)/\fg r=sz/\jK r=a/\ok N r/\cV r=false:=by
 unfold Bn at h;cases hx:iN 8 c off (n*esz) true with
 |none=>simp[hx]at h
 |some x=>
  simp only[hx]at h;obtain⟨⟨p,q,h1,h2⟩,_,_,h5,h6⟩:=ff J _ _ _ _ _ _ hc ht hx;obtain⟨⟨p',q',h1',h2'⟩,h3⟩:=A4 J h5 hi h;exact⟨⟨p++p',q'++q,by rw[h1,h1'];simp,by simp;omega⟩,h3⟩
def Ctx.Kr (C:Ctx):Prop:=∀t z,C.Z t=some z->∃i,C.P.info? t=some i/\(∀J,i.zero=some (den J z))/\ok (fun _=>False) z/\cV z=false/\i.size=fg z
theorem fQ {K:Nat->Prop} {v:V} (h:ok (fun _=>False) v):ok K v:=ec (fun _ h=>h.elim) v h
section
variable {C:Ctx} {J:Env} {fps:Nat->Nat->Prop} {res:List aK} {K:Nat->Prop} {w0 w:World} {F0:Nat->Prop}
def za (C:Ctx) (res:List aK) (t:Nat) (p:V):Option (Option Prop×V):=
 match lZ C.P t,oZ C.P t with
 |some a,some n=>match p with
  | .lp id off=>match cG res id with
    | .blk _ c=>(iN 8 c off n a).map fun r=>(none,r)
    |_=>none
  | .lx id off esz m i inner=>match cG res id with
    | .blk _ c=>(Bn c off esz m i inner n a).map fun r=>(none,r)
    |_=>none
  | .ap id esz i off=>match cG res id with
    | .arr _ esz' l=>if esz==esz' then(iN 8 (l.get i) off n a).map fun r=>(some (Kq i l.len),r)else none
    | .obs _ q L=>if esz==1&&off==0&&n==1&&a==false then some (some (Kq i (ai L)),.op q i)else none
    |_=>none
  | .ax id esz k off sz m i inner=>match cG res id with
    | .arr _ esz' l=>if esz==esz' then(Bn (l.get k) off sz m i inner n a).map fun r=>(some (Kq k l.len),r)else none
    |_=>none
  | .op q i=>match cG res q with
    | .gen id=>match cG res id with
      | .obs _ q' L=>if q==q' then(iN 8 (.ob (aj L i free)) 0 n a).map fun r=>(some (Kq i (ai L)),r)else none
      |_=>none
    |_=>none
  |_=>none
 |_,_=>none
theorem uH {α:Type} {f:Nat->List α} {esz:Nat}:∀{n:Nat},(∀j,j<n->(f j).length=esz)->∀{i k:Nat},i<n->k<esz->((List.range n).flatMap f)[i*esz+k]? =(f i)[k]?
 |0,_,i,k,hi,_=>by omega
 |n+1,h,i,k,hi,hk=>by
  rw[List.range_succ,List.flatMap_append]
  have hlen:((List.range n).flatMap f).length=n*esz:=by
   clear hi hk;induction n with
   |zero=>simp
   |succ n ih=>
    rw[List.range_succ,List.flatMap_append,List.length_append,ih fun j hj=>h j (by omega)]
    simp[h n (by omega),Nat.succ_mul]
  by_cases e:i<n
  ·rw[List.getElem?_append_left (by rw[hlen];have:(i+1)*esz<=n*esz:=Nat.mul_le_mul_right _ e;rw[Nat.succ_mul]at this;omega)]
   exact uH (fun j hj=>h j (by omega)) e hk
  ·have:i=n:=by omega
   subst this;rw[List.getElem?_append_right (by rw[hlen];omega),hlen]
   simp
theorem kY {w:World} {e size n:Nat} {J:Env} {i:Nat} {xs:List Value} (h:w.ownsRow 0 e size (J.sl i) n xs) (hn:0<n):∃g,J.sa i=some ⟨g,0,none⟩/\J.sn i=n/\g<w.heap.size/\∀j,j<n*size->w.cell? ⟨g,j,none⟩=xs[j]? :=by
 have h':=h;rcases h.2 with⟨_,h0⟩|⟨g,cap,cur,h1,h2,h3,h4⟩
 ·omega
 ·have hh:=h1;simp only[Env.sl,Value.slice.injEq]at h1;rw[hh]at h';exact⟨g,h1.1,h1.2.1,(Array.getElem?_eq_some_iff.1 h3).1,fun j hj=>h'.cellAt j hj⟩
theorem nj {id esz:Nat} {own:Option Nat} {l:TL} (h:bq J fps res K w0 F0 w) (hr:cG res id= .arr own esz l) {i:Nat} (hi:i<l.len):
  ok (fun _=>False) (l.get i)/\cV (l.get i)=false/\fg (l.get i)=esz/\∀k,k<esz->w.cell? ⟨(J.adr id).block,(J.adr id).off+(i*esz+k),none⟩=(cells J (l.get i))[k]? :=by
 obtain⟨fp,hh,_⟩:=h.look hr (by simp)
 obtain⟨h1,h2,h3,h4,h5,h6,h7⟩:=hh;obtain⟨g1,g2,g3⟩:=h1 i hi;refine⟨g1,g2,g3,fun k hk=>?_⟩
 have hl:=bg J (l.get i) g1;rcases h7 with⟨_,h7,h8⟩|⟨e,_,e2,e3⟩
 ·have e:=h8 i hi k hk
  have hlt:(J.adr id).block<w0.heap.size:=by
   omega
  rw[<-e];exact World.cell?_of_block (w:=w0) (h.same _ hlt (h7 (by omega)).1)
 ·obtain⟨g,f1,f2,f3,f4⟩:=kY e2 (by omega)
  have ha:=h4 _ f1;rw[<-ha];simp only[Nat.zero_add]
  have hlt:i*esz+k<l.len*esz:=by
   have:(i+1)*esz<=l.len*esz:=Nat.mul_le_mul_right _ hi;rw[Nat.succ_mul]at this;omega
  rw[f4 _ hlt];unfold TL.cells;rw[uH (esz:=esz) (fun j hj=>by rw[bg Env.zero _ (h1 j hj).1];exact(h1 j hj).2.2) hi hk]
  rw[dV (N:=fun _=>False) (J:=J) (ρ':=Env.zero) (fun _ h=>h.elim) _ g1]
theorem Om {id ty q:Nat} {L:List Obj} (h:bq J fps res K w0 F0 w) (hr:cG res id= .obs ty q L) {i:Nat} (hi:i<ai L):
  w.cell? ⟨(J.adr id).block,(J.adr id).off+i,none⟩=some (.pointer (some ⟨J.ob q i,0,none⟩))/\((L.getD i free).wf/\K q)/\∃t,w.heap[J.ob q i]? =some (.cells (eF (L.getD i free)).toArray t (0,0)):=by
 obtain⟨fp,hh,_⟩:=h.look hr (by simp)
 obtain⟨h0,h1,h2,h3,h4,h5,h6,h7⟩:=hh;have hi:i<L.length:=hi;obtain⟨g,f1,f2,f3,f4⟩:=kY h6 (by omega)
 have ha:=(h4 _ f1).1;refine⟨?_,?_,(h7 i hi).2⟩
 ·grind
 ·simp_all
theorem tU {t:Nat} {p r:V} {q:Option Prop} (h:bq J fps res K w0 F0 w) (hl:za C res t p=some (q,r)) (hq:dX q) (hp:ok K p):
  (Instr.loadAt t (den J p)).run C.P w= .ok (den J r) w/\ok K r/\cV r=false:=by
 unfold za at hl;split at hl
 ·rename_i a n ha hn
  have run:∀b off,(Instr.loadAt t (.pointer (some ⟨b,off,none⟩))).run C.P w=(loadVar t ⟨b,off,none⟩).run C.P w:=fun b off=>by
   simp[Instr.loadAt,Instr.sureAddr]
  split at hl
  ·rename_i id off;split at hl
   ·rename_i ty c hc;cases hg:iN 8 c off n a with
    |none=>simp[hg]at hl
    |some r'=>
     simp only[hg,Option.map_some,aaV,aaW]at hl;obtain⟨_,rfl⟩:=hl;obtain⟨fp,hh,_⟩:=h.look hc (by simp)
     obtain⟨h1,h2,h3,h4⟩:=hh;obtain⟨e1,e2,e3,e4,e5⟩:=ff J 8 c off n a r' h1 h2 hg;refine⟨?_,e4,e5⟩;simp only[den];rw[run];exact oJ w e4 e5 (by rw[e3];exact ha) (by rw[e2];exact hn) h4 e1
   ·simp at hl
  ·rename_i id off esz m i inner;split at hl
   ·rename_i ty c hc;cases hg:Bn c off esz m i inner n a with
    |none=>simp[hg]at hl
    |some r'=>
     simp only[hg,Option.map_some,aaV,aaW]at hl;obtain⟨_,rfl⟩:=hl;obtain⟨fp,hh,_⟩:=h.look hc (by simp)
     obtain⟨h1,h2,h3,h4⟩:=hh;obtain⟨e1,e2,e3,e4,e5⟩:=ze J h1 h2 hp.2 hg;refine⟨?_,e4,e5⟩;simp only[den];rw[run];exact oJ w e4 e5 (by rw[e3];exact ha) (by rw[e2];exact hn) h4 e1
   ·simp at hl
  ·rename_i id esz i off;split at hl
   ·rename_i own esz' l hc;split at hl
    ·rename_i he;have he:=aaZ.1 he;subst he;cases hg:iN 8 (l.get i) off n a with
     |none=>simp[hg]at hl
     |some r'=>
      simp only[hg,Option.map_some,aaV,aaW]at hl;obtain⟨rfl,rfl⟩:=hl;obtain⟨g1,g2,g3,g4⟩:=nj h hc hq;obtain⟨⟨P,Q,f1,f2⟩,e2,e3,e4,e5⟩:=ff J 8 (l.get i) off n a r' g1 g2 hg;have hlr:=bg J r' e4;have hlg:=bg J _ g1;refine⟨?_,fQ e4,e5⟩;simp only[den];rw[run];refine lq w e4 e5 (by rw[e3];exact ha) (by rw[e2];exact hn) fun k hk=>?_
      have hk2:off+k<esz:=by
       rw[<-g3,<-hlg,f1];simp;omega
      have:=g4 (off+k) hk2;rw[show(J.adr id).off+(i*esz+off)+k=(J.adr id).off+(i*esz+(off+k)) by omega,this,f1,f2]
      exact jZ P _ Q k (by omega)
    ·simp at hl
   ·rename_i ty q' L hc;split at hl
    ·rename_i hb;simp only[aaX,aaZ]at hb;obtain⟨⟨⟨rfl,rfl⟩,rfl⟩,rfl⟩:=hb;simp only[aaV,aaW]at hl;obtain⟨rfl,rfl⟩:=hl;obtain⟨f1,⟨_,f2⟩,_⟩:=Om h hc hq;refine⟨?_,f2,rfl⟩;simp only[den];rw[run]
     have:=lq (P:=C.P) (J:=J) (K:=K) (t:=t) (b:=(J.adr id).block) (off:=(J.adr id).off+(i*1+0)) (r:= .op q' i) w f2 rfl ha hn (fun k hk=>by
      have hk:k<1:=hk;rw[show(J.adr id).off+(i*1+0)+k=(J.adr id).off+i by omega,f1,show k=0 by omega]
      simp[cells,den,Value.cells])
     rw[this];simp only[den]
    ·simp at hl
   ·simp at hl
  ·rename_i id esz k off sz m i inner;split at hl
   ·rename_i own esz' l hc;split at hl
    ·rename_i he;have he:=aaZ.1 he;subst he;cases hg:Bn (l.get k) off sz m i inner n a with
     |none=>simp[hg]at hl
     |some r'=>
      simp only[hg,Option.map_some,aaV,aaW]at hl;obtain⟨rfl,rfl⟩:=hl;obtain⟨g1,g2,g3,g4⟩:=nj h hc hq;obtain⟨⟨P,Q,f1,f2⟩,e2,e3,e4,e5⟩:=ze J g1 g2 hp.2 hg;have hlr:=bg J r' e4;have hlg:=bg J _ g1;refine⟨?_,fQ e4,e5⟩;simp only[den];rw[run];refine lq w e4 e5 (by rw[e3];exact ha) (by rw[e2];exact hn) fun x hx=>?_
      have hk2:off+i*sz+inner+x<esz:=by
       rw[<-g3,<-hlg,f1];simp;omega
      have:=g4 (off+i*sz+inner+x) hk2;rw[show(J.adr id).off+(k*esz+(off+i*sz+inner))+x=(J.adr id).off+(k*esz+(off+i*sz+inner+x)) by omega,this,f1,f2]
      exact jZ P _ Q x (by omega)
    ·simp at hl
   ·simp at hl
  ·rename_i q0 i;split at hl
   ·split at hl
    ·rename_i ty q' L hc;split at hl
     ·rename_i hqq;have hqq:=aaZ.1 hqq;subst hqq;cases hg:iN 8 (.ob (aj L i free)) 0 n a with
      |none=>simp[hg]at hl
      |some r'=>
       simp only[hg,Option.map_some,aaV,aaW]at hl;obtain⟨rfl,rfl⟩:=hl;obtain⟨_,⟨f2,_⟩,t',f3⟩:=Om h hc hq;have hobk:ok (fun _=>False) (.ob (aj L i free)):=f2
       obtain⟨e1,e2,e3,e4,e5⟩:=ff J 8 (.ob (aj L i free)) 0 n a r' hobk rfl hg;refine⟨?_,fQ e4,e5⟩;simp only[den];rw[run];exact oJ (c:= .ob (aj L i free)) w e4 e5 (by rw[e3];exact ha) (by rw[e2];exact hn) (by rw[jT];exact f3) e1
     ·simp at hl
    ·simp at hl
   ·simp at hl
  ·simp at hl
 ·simp at hl
def faV (P:Program) (t:Nat) (p:V) (f:Nat):Option V:=
 match P.underlying t with
 |some (.struct fs)=>match fs[f]? with
  |some fd=>match oZ P fd.type with
   |some (_+1)=>match p with
    | .lp id off=>some (.lp id (off+fd.offset))
    | .lx id off esz n i inner=>some (.lx id off esz n i (inner+fd.offset))
    | .ap id esz i off=>some (.ap id esz i (off+fd.offset))
    | .ax id esz k off sz n i inner=>some (.ax id esz k off sz n i (inner+fd.offset))
    |_=>none
   |_=>none
  |none=>none
 |_=>none
theorem LZ {P:Program} {t f:Nat} {p r:V} (hl:faV P t p f=some r) (hp:ok K p):
  (Instr.fieldAt t (den J p) f).run P w= .ok (den J r) w/\ok K r/\cV r=false:=by
 unfold faV at hl;split at hl
 ·rename_i fs hu;split at hl
  ·rename_i fd hf;split at hl
   ·rename_i m hs
    have run:∀b off,(Instr.fieldAt t (.pointer (some ⟨b,off,none⟩)) f).run P w= .ok (.pointer (some ⟨b,off+fd.offset,none⟩)) w:=fun b off=>by
     simp[Instr.fieldAt,bG w hu,hf,Instr.sureAddr,fieldPlace,gz w hs,add_lit]
    split at hl<;>simp only[aaV,reduceCtorEq]at hl<;>subst hl<;>simp only[den]<;>rw[run]
    ·exact⟨rfl,hp,rfl⟩
    ·exact⟨by simp only[Nat.add_assoc],hp,rfl⟩
    ·exact⟨by simp only[Nat.add_assoc],hp,rfl⟩
    ·exact⟨by simp only[Nat.add_assoc],hp,rfl⟩
   ·simp at hl
  ·simp at hl
 ·simp at hl
def inside (j:Int) (n:Nat):Bool:=decide (0<=j)&&decide (j<(n:Int))
def iaV (P:Program) (res:List aK) (t:Nat) (p i:V):Option (Option Prop×V):=
 match toInt i with
 |none=>none
 |some (_,j)=>match P.underlying t with
  |some (.array len e)=>match oZ P e with
   |none=>none
   |some sz=>match p with
    | .lp id off=>if xD i then(if inside j len then some (none,.lp id (off+j.toNat*sz))else none)
      else some (some (Yz j len),.lx id off sz len (pH j) 0)
    | .ap id esz k off=>if xD i then(if inside j len then some (none,.ap id esz k (off+j.toNat*sz))else none)
      else some (some (Yz j len),.ax id esz k off sz len (pH j) 0)
    | .lx id off esz n k inner=>if xD i&&inside j len then some (none,.lx id off esz n k (inner+j.toNat*sz))else none
    |_=>none
  |some (.slice e)=>match oZ P e with
   |none=>none
   |some sz=>match p with
    | .sa id=>match cG res id with
      | .arr _ esz l=>if esz==sz then some (some (Yz j l.len),.ap id esz (pH j) 0)else none
      | .obs _ _ L=>if 1==sz then some (some (Yz j (ai L)),.ap id 1 (pH j) 0)else none
      |_=>none
    | .sc id len _=>if xD i then(if inside j len then some (none,.lp id (j.toNat*sz))else none)
      else some (some (Yz j len),.lx id 0 sz len (pH j) 0)
    | .ks x z n lo hi=>match x with
      | .lp id off=>if xD i&&inside j (hi-lo)&&z==sz then some (none,.lp id (off+(lo+j.toNat)*sz))else none
      |_=>none
    |_=>none
  |_=>none
theorem lK {P:Program} {t e len sz b off:Nat} {k:IntKind} {j:Int} (w:World) (hu:P.underlying t=some (.array len e)) (hs:oZ P e=some sz) (h0:0<=j) (h1:j<(len:Int)):
  (Instr.indexAt t (.pointer (some ⟨b,off,none⟩)) (.int k j)).run P w= .ok (.pointer (some ⟨b,off+j.toNat*sz,none⟩)) w:=by
 simp[Instr.indexAt,asIntOf,bG w hu,Instr.sureAddr,h0,h1,gz w hs,add_lit]
theorem lr {P:Program} {t e len cap sz:Nat} {a:Addr} {k:IntKind} {j:Int} (w:World) (hu:P.underlying t=some (.slice e)) (hs:oZ P e=some sz) (ha:a.spot=none) (h0:0<=j) (h1:j<(len:Int)):
  (Instr.indexAt t (.slice (some a) len cap) (.int k j)).run P w= .ok (.pointer (some ⟨a.block,a.off+j.toNat*sz,none⟩)) w:=by
 obtain⟨b,o,s⟩:=a;simp only at ha;subst ha;simp[Instr.indexAt,asIntOf,bG w hu,h0,h1,gz w hs,add_lit]
theorem Lr {t:Nat} {p i r:V} {q:Option Prop} (h:bq J fps res K w0 F0 w) (hl:iaV C.P res t p i=some (q,r)) (hq:dX q) (hp:ok K p) (hi:ok K i):
  (Instr.indexAt t (den J p) (den J i)).run C.P w= .ok (den J r) w/\ok K r/\cV r=false:=by
 unfold iaV at hl;split at hl
 ·simp at hl
 ·rename_i k j hj;rw[(eu (J:=J) hj hi).1];have hin:∀n,inside j n=true->0<=j/\j<(n:Int):=fun n hn=>by simpa[inside]using hn
  split at hl
  ·rename_i len e hu;split at hl
   ·simp at hl
   ·rename_i sz hs;split at hl
    ·split at hl
     ·split at hl<;>simp only[aaV,aaW,reduceCtorEq]at hl
      rename_i hb;obtain⟨_,rfl⟩:=hl;exact⟨by simp only[den];exact lK w hu hs (hin _ hb).1 (hin _ hb).2,hp,rfl⟩
     ·simp only[aaV,aaW]at hl;obtain⟨rfl,rfl⟩:=hl;exact⟨by simp only[den,Nat.add_zero];exact lK w hu hs hq.1 hq.2,⟨hp,by have:=hq.1;have:=hq.2;unfold pH;omega⟩,rfl⟩
    ·split at hl
     ·split at hl<;>simp only[aaV,aaW,reduceCtorEq]at hl
      rename_i hb;obtain⟨_,rfl⟩:=hl;have hb:=hin _ hb;exact⟨by simp only[den];rw[lK w hu hs hb.1 hb.2];simp only[Nat.add_assoc],hp,rfl⟩
     ·simp only[aaV,aaW]at hl;obtain⟨rfl,rfl⟩:=hl;exact⟨by simp only[den,Nat.add_zero];rw[lK w hu hs hq.1 hq.2];simp only[Nat.add_assoc,pH],⟨hp,by have:=hq.1;have:=hq.2;unfold pH;omega⟩,rfl⟩
    ·split at hl<;>simp only[aaV,aaW,reduceCtorEq]at hl
     rename_i hb;obtain⟨_,rfl⟩:=hl;have hb:=hin _ (by simp only[aaX]at hb;exact hb.2)
     exact⟨by simp only[den];rw[lK w hu hs hb.1 hb.2];simp only[Nat.add_assoc],hp,rfl⟩
    ·simp at hl
  ·rename_i e hu;split at hl
   ·simp at hl
   ·rename_i sz hs;split at hl
    ·rename_i id;split at hl
     ·rename_i own esz l hc;split at hl<;>simp only[aaV,aaW,reduceCtorEq]at hl
      rename_i he;have he:=aaZ.1 he;obtain⟨rfl,rfl⟩:=hl;subst he;obtain⟨fp,hh,_⟩:=h.look hc (by simp)
      obtain⟨h1,h2,_,h3,h4,h5,h7⟩:=hh;have h5:=h5 (by have:=hq.1;have:=hq.2;omega)
      obtain⟨hq1,hq2⟩:=hq;have hn:=h4 (by omega)
      cases ha:J.sa id with
      |none=>rw[ha]at hn;simp at hn
      |some a=>
       have:=h3 a ha;refine⟨?_,hp,rfl⟩;simp only[den,ha,h2];subst this;rw[lr w hu hs h5 hq1 hq2];simp[pH]
     ·rename_i ty q' L hc;split at hl<;>simp only[aaV,aaW,reduceCtorEq]at hl
      rename_i he;have he:=aaZ.1 he;obtain⟨rfl,rfl⟩:=hl;subst he;obtain⟨fp,hh,_⟩:=h.look hc (by simp)
      obtain⟨_,h1,h2,h3,h4,h5,h6,h7⟩:=hh;obtain⟨hq1,hq2⟩:=hq;have hq2:j<(L.length:Int):=hq2;obtain⟨g,f1,f2,f3,f4⟩:=kY h6 (by omega)
      have hadr:=(h4 _ f1).1;refine⟨?_,hp,rfl⟩;simp only[den,f1,h2];rw[lr w hu hs rfl hq1 hq2,<-hadr];simp[pH]
     ·simp at hl
    ·split at hl
     ·split at hl<;>simp only[aaV,aaW,reduceCtorEq]at hl
      rename_i hb;obtain⟨_,rfl⟩:=hl;refine⟨?_,hp,rfl⟩;simp only[den];rw[lr w hu hs rfl (hin _ hb).1 (hin _ hb).2];simp
     ·simp only[aaV,aaW]at hl;obtain⟨rfl,rfl⟩:=hl;refine⟨?_,⟨hp,by have:=hq.1;have:=hq.2;unfold pH;omega⟩,rfl⟩
      simp only[den];rw[lr w hu hs rfl hq.1 hq.2];simp[pH]
    ·rename_i p z n lo hi;split at hl
     case h_2=>simp at hl
     rename_i id off;split at hl<;>simp only[aaV,aaW,reduceCtorEq]at hl
     rename_i hc;simp only[aaX,aaZ]at hc;obtain⟨⟨_,hin'⟩,rfl⟩:=hc;obtain⟨_,rfl⟩:=hl;obtain⟨j0,j1⟩:=hin _ hin';obtain⟨hp1,hp2,hp3⟩:=hp;refine⟨?_,hp1,rfl⟩;simp only[den,wS];rw[aa3 (by omega),add_lit,lr w hu hs rfl j0 j1]
     simp only[Nat.add_mul,Nat.add_assoc]
    ·simp at hl
  ·simp at hl
theorem rl {P:Program} {t off:Nat} {cs:List Value} {r:V} (hr:ok K r) (ht:cV r=false) (ha:lZ P t=some (jK r)) (hs:oZ P t=some (fg r))
  (hp:∃p q,cs=p++cells J r++q/\off=p.length):(part t cs.toArray off).run P w= .ok (den J r) w:=by
 obtain⟨p,q,rfl,rfl⟩:=hp;have hl:=bg J r hr;unfold part;rw[Sem.run_bind,sD w ha,pM J hr ht];cases hag:Sx.jK r with
 |true=>
  simp only[Result.andThen_ok,if_true,Sem.run_bind,gz w hs,Sem.run_pure,jN];congr 2
  apply Array.ext'
  rw[<-hl];simp[List.extract_eq_take_drop]
 |false=>
  have h1:fg r=1:=by
   grind[ow,cells,dS]
  have hlt:0<(cells J r).length:=by omega
  have:=jZ p (cells J r) q 0 hlt;simp only[Nat.add_zero]at this;simp only[Result.andThen_ok,Bool.false_eq_true,if_false,List.getElem?_toArray,this,List.getElem?_eq_getElem hlt,Sem.run_pure,jN];congr 1
  simp[aa2,List.getElem?_eq_getElem hlt]
theorem xI {x:V} (hx:ok K x) (ha:jK x=true):den J x= .agg (cells J x).toArray:=by
 have ht:cV x=false:=by cases x<;>simp_all[jK,cV]
 rw[pM J hx ht,ha];rfl
def fdV (P:Program) (t:Nat) (x:V) (f:Nat):Option V:=
 match P.underlying t with
 |some (.struct fs)=>match fs[f]? with
  |some fd=>match lZ P fd.type,oZ P fd.type with
   |some a,some n=>if jK x then iN 8 x fd.offset n a else none
   |_,_=>none
  |none=>none
 |_=>none
theorem Np {P:Program} {t f:Nat} {x r:V} (hl:fdV P t x f=some r) (hx:ok K x):
  (Instr.field t (den J x) f).run P w= .ok (den J r) w/\ok K r/\cV r=false:=by
 unfold fdV at hl;split at hl
 ·rename_i fs hu;split at hl
  ·rename_i fd hf;split at hl
   ·rename_i a n ha hn;split at hl
    ·rename_i hag;have ht:cV x=false:=by cases x<;>simp_all[jK,cV]
     obtain⟨e1,e2,e3,e4,e5⟩:=ff J 8 x fd.offset n a r hx ht hl;refine⟨?_,e4,e5⟩;rw[xI hx hag];simp only[Instr.field,Sem.run_bind,bG w hu,Result.andThen_ok,hf,asAgg,Sem.run_pure];exact rl e4 e5 (by rw[e3];exact ha) (by rw[e2];exact hn) e1
    ·simp at hl
   ·simp at hl
  ·simp at hl
 ·simp at hl
def ixV (P:Program) (t:Nat) (x i:V):Option (Option Prop×V):=
 match toInt i with
 |none=>none
 |some (_,j)=>match P.underlying t with
  |some (.array len e)=>match lZ P e,oZ P e with
   |some a,some sz=>if jK x then
    if xD i then(if inside j len then(iN 8 x (j.toNat*sz) sz a).map fun r=>(none,r)else none)
    else(Qs x sz len (pH j) 0 sz a).map fun r=>(some (Yz j len),r)
    else none
   |_,_=>none
  |_=>none
theorem O8 {P:Program} {t:Nat} {x i r:V} {q:Option Prop} (hl:ixV P t x i=some (q,r)) (hq:dX q) (hx:ok K x) (hi:ok K i):
  (Instr.index t (den J x) (den J i)).run P w= .ok (den J r) w/\ok K r/\cV r=false:=by
 unfold ixV at hl;split at hl
 ·simp at hl
 ·rename_i k j hj;rw[(eu (J:=J) hj hi).1];split at hl
  ·rename_i len e hu;split at hl
   ·rename_i a sz ha hs;split at hl
    ·rename_i hag;have ht:cV x=false:=by cases x<;>simp_all[jK,cV]
     have run:0<=j->j<(len:Int)->(Instr.index t (den J x) (.int k j)).run P w=(part e (cells J x).toArray (j.toNat*sz)).run P w:=fun h0 h1=>by
      rw[xI hx hag];simp[Instr.index,asIntOf,bG w hu,h0,h1,gz w hs]
     split at hl
     ·split at hl
      ·rename_i hb;have hb:0<=j/\j<(len:Int):=by simpa[inside]using hb
       cases hg:iN 8 x (j.toNat*sz) sz a with
       |none=>simp[hg]at hl
       |some r'=>
        simp only[hg,Option.map_some,aaV,aaW]at hl;obtain⟨_,rfl⟩:=hl;obtain⟨e1,e2,e3,e4,e5⟩:=ff J 8 x _ sz a r' hx ht hg;refine⟨?_,e4,e5⟩;rw[run hb.1 hb.2];exact rl e4 e5 (by rw[e3];exact ha) (by rw[e2];exact hs) e1
      ·simp at hl
     ·cases hg:Qs x sz len (pH j) 0 sz a with
      |none=>simp[hg]at hl
      |some r'=>
       simp only[hg,Option.map_some,aaV,aaW]at hl;obtain⟨rfl,rfl⟩:=hl;have h0:=hq.1;have h1:=hq.2;obtain⟨e1,e2,e3,e4,e5⟩:=A4 J hx (by unfold pH;omega) hg
       refine⟨?_,e4,e5⟩;rw[run h0 h1];simp only[Nat.add_zero]at e1;exact rl e4 e5 (by rw[e3];exact ha) (by rw[e2];exact hs) e1
    ·simp at hl
   ·simp at hl
  ·simp at hl
def U9 (n:Int):UInt8:=UInt8.ofNat n.toNat
theorem Tu {n:Int} (h:bY .u8 n):((U9 n).toNat:Int)=n:=by
 obtain⟨h0,h1⟩:=h;unfold U9;rw[UInt8.toNat_ofNat'];omega
def cvV (P:Program) (s d:Nat) (x:V):Option (Option Prop×V):=
 match P.underlying s,P.underlying d with
 |some _,some (.int k')=>match toInt x with
  |some (k,n)=>if k==k' then some (none,x)else if xD x then(if bY k' n then some (none,.ci k' n)else none)else if k'== .u8 then some (some (aF .u8 n),.bt (U9 n))else some (some (aF k' n),.it k' n)
  |none=>none
 |some .string,some .string=>match x with
  | .st b=>some (none,.st b)
  |_=>none
 |_,_=>none
theorem Mi {P:Program} {s d:Nat} {x r:V} {q:Option Prop} (hl:cvV P s d x=some (q,r)) (hq:dX q) (hx:ok K x):
  (convert s d (den J x)).run P w= .ok (den J r) w/\ok K r/\cV r=false:=by
 unfold cvV at hl;split at hl
 ·rename_i u k' h1 h2;split at hl
  ·rename_i k n hx';obtain⟨e1,e2⟩:=eu (J:=J) hx' hx;split at hl
   ·rename_i hk;have hk:=aaZ.1 hk;subst hk;simp only[aaV,aaW]at hl;obtain⟨_,rfl⟩:=hl;refine⟨?_,hx,by cases x<;>first|rfl| (simp[toInt]at hx')⟩
    rw[e1];simp[convert,bG w h1,bG w h2,Conv.intToInt,lC e2]
   ·split at hl
    ·split at hl<;>simp only[aaV,aaW,reduceCtorEq]at hl
     rename_i hin;obtain⟨_,rfl⟩:=hl;refine⟨?_,hin,rfl⟩;rw[e1];simp[convert,bG w h1,bG w h2,Conv.intToInt,lC hin,den]
    ·split at hl
     ·rename_i hk8;have hk8:=aaZ.1 hk8;subst hk8;simp only[aaV,aaW]at hl;obtain⟨rfl,rfl⟩:=hl;refine⟨?_,trivial,rfl⟩;rw[e1];simp[convert,bG w h1,bG w h2,Conv.intToInt,lC (show bY .u8 n from hq),den,Tu (show bY .u8 n from hq)]
     ·simp only[aaV,aaW]at hl;obtain⟨rfl,rfl⟩:=hl;refine⟨?_,hq,rfl⟩;rw[e1];simp[convert,bG w h1,bG w h2,Conv.intToInt,lC (show bY k' n from hq),den]
  ·simp at hl
 ·rename_i h1 h2;split at hl<;>simp only[aaV,aaW,reduceCtorEq]at hl
  obtain⟨_,rfl⟩:=hl;refine⟨?_,trivial,rfl⟩;simp[den,convert,bG w h1,bG w h2]
 ·simp at hl
end
theorem wY (off:Nat):∀(l:List Value) (k:Nat) (cur:Array Value),off+k+l.length<=cur.size->
  ((l.zipIdx k).foldl (fun(cs:Array Value) (x:Value×Nat)=>cs.setIfInBounds (off+x.2) x.1) cur).toList=cur.toList.take (off+k)++l++cur.toList.drop (off+k+l.length)
 | [],k,cur,_=>by simp
 |v::l,k,cur,h=>by
  simp only[List.length_cons]at h;simp only[List.zipIdx_cons,List.foldl_cons];rw[wY off l (k+1) _ (by simp;omega)]
  have e:=list_seg_step cur.toList (off+k) v l (by simp;omega)
  simpa[Array.toList_setIfInBounds,Nat.add_assoc,Nat.add_comm 1]using e
def nu (place:Nat->Option (Nat×Nat)):V->List (Nat×V)->Option V
 |z,[]=>some z
 |z,(i,y)::l=>match place i with
  |none=>none
  |some (off,size)=>if fg y==size&& !cV y then
   match setAt 8 z off y with
   |none=>none
   |some z'=>nu place z' l
   else none
theorem mo {J:Env} {K:Nat->Prop} (place:Nat->Option (Nat×Nat)):∀(l:List (Nat×V)) (z r:V),nu place z l=some r->ok K z->cV z=false->(∀p∈l,ok K p.2)->
  Instr.fill place (cells J z).toArray (l.map fun p=>(p.1,den J p.2))=some (cells J r).toArray/\ok K r/\cV r=false/\jK r=jK z/\(cells J r).length=(cells J z).length
 | [],z,r,h,hz,ht,_=>by
   simp only[nu,aaV]at h;subst h;exact⟨rfl,hz,ht,rfl,rfl⟩
 | (i,y)::l,z,r,h,hz,ht,hl=>by
   simp only[nu]at h;split at h
   ·simp at h
   ·rename_i off size hp;split at h
    ·rename_i hc;simp only[aaX,aaZ,Bool.not_eq_true']at hc;obtain⟨hs,hty⟩:=hc;split at h
     ·simp at h
     ·rename_i z' hz';have hy:ok K y:=hl (i,y) (by simp)
      have hput:=iz J y hy hty 8 z off z' hz ht hz';have hsz:=hput.size hy;obtain⟨⟨p,m,q,e1,e2,e3,e4⟩,e5,e6,e7⟩:=hput;obtain⟨f1,f2,f3,f4,f5⟩:=mo place l z' r h e6 e7 fun p hp=>hl p (by simp[hp])
      have hly:=bg J y hy;have hcs:(den J y).cells.size=size:=by rw[<-hs,<-hly];simp[cells]
      refine⟨?_,f2,f3,f4.trans e5,f5.trans hsz⟩;simp only[List.map_cons,Instr.fill,hp]
      have hbound:¬((den J y).cells.size≠size||off+(den J y).cells.size>(cells J z).toArray.size)=true:=by
       simp[hcs,e1];omega
      rw[aa3 hbound,<-f1];congr 1
      apply Array.ext'
      have hsp:=wY off (den J y).cells.toList 0 (cells J z).toArray (by simp[hcs,e1];omega)
      simp only[Nat.add_zero]at hsp;rw[<-Array.foldl_toList,Array.toList_zipIdx];refine hsp.trans ?_;simp only[Array.length_toList,hcs];rw[show(den J y).cells.toList=cells J y from rfl,e2,e1];subst e3
      rw[show List.take p.length (p++m++q)=p by simp,show List.drop (p.length+size) (p++m++q)=q by
       rw[<-hs,<-e4,<-List.length_append,List.drop_left]]
    ·simp at h
def Ca (P:Program) (fs:Array Field) (i:Nat):Option (Nat×Nat):=
 match fs[i]? with
 |none=>none
 |some f=>match oZ P f.type with
  |none=>none
  |some n=>some (f.offset,n)
def P4 (P:Program) (fs:Array Field):Bool:=fs.toList.all fun f=>(oZ P f.type).isSome
def CG (C:Ctx) (t:Nat) (parts:List (Nat×V)):Option V:=
 match C.Z t with
 |none=>none
 |some z=>if jK z then
  match C.P.underlying t with
  |some (.struct fs)=>if P4 C.P fs then nu (Ca C.P fs) z parts else none
  |some (.array _ e)=>match oZ C.P e with
   |none=>none
   |some n=>nu (fun i=>some (i*n,n)) z parts
  |_=>none
  else none
section
variable {C:Ctx} {J:Env} {K:Nat->Prop} {w:World}
theorem rT {t:Nat} {z:V} (hC:C.Kr) (h:C.Z t=some z):(zeroValue t).run C.P w= .ok (den J z) w:=by
 obtain⟨i,h1,h2,_⟩:=hC t z h;simp[zeroValue,typeInfo,h1,h2 J]
theorem E7 {P:Program} {α β:Type} (g:α->Sem β) (f:α->β) (w:World):∀(l:List α),(∀x∈l,(g x).run P w= .ok (f x) w)->(l.mapM g).run P w= .ok (l.map f) w
 | [],_=>by simp
 |x::l,h=>by
  simp_all[E7]
theorem qF {t:Nat} {parts:List (Nat×V)} {r:V} (hC:C.Kr) (h:CG C t parts=some r) (hp:∀p∈parts,ok K p.2):
  (Instr.build t (parts.map fun p=>(p.1,den J p.2)).toArray).run C.P w= .ok (den J r) w/\ok K r/\cV r=false:=by
 unfold CG at h;split at h
 ·simp at h
 ·rename_i z hz;obtain⟨i,h1,h2,h3,h4,h5⟩:=hC t z hz;split at h
  ·rename_i hag;have hz0:=rT (C:=C) (J:=J) (w:=w) hC hz;split at h
   ·rename_i fs hu;split at h
    ·rename_i hfs;obtain⟨f1,f2,f3,f4,_⟩:=mo (J:=J) (K:=K) _ parts z r h (fQ h3) h4 hp;refine⟨?_,f2,f3⟩;simp only[Instr.build,Sem.run_bind,hz0,Result.andThen_ok,bG w hu]
     have hm:(fs.mapM fun f=>do pure (f.offset,<-sizeOf f.type):Sem (Array (Nat×Nat))).run C.P w= .ok (fs.map fun f=>(f.offset,C.P.cellsOf f.type)) w:=by
      rw[Array.mapM_eq_mapM_toList];simp only[Sem.run_map]
      rw[E7 _ (fun f:Field=>(f.offset,C.P.cellsOf f.type)) w fs.toList fun f hf=>by
       have:=List.all_eq_true.1 hfs f hf;cases hs:oZ C.P f.type with
       |none=>simp[hs]at this
       |some n=>
        have e:C.P.cellsOf f.type=n:=by
         unfold oZ at hs;simp[Program.cellsOf,hs]
        simp[gz w hs,e]]
      simp only[Result.andThen_ok];congr 1
      apply Array.ext'
      simp
     rw[hm];simp only[Result.andThen_ok]
     have hpl:(fun i=>(fs.map fun f=>(f.offset,C.P.cellsOf f.type))[i]?)=Ca C.P fs:=by
      funext i
      unfold Ca;rw[Array.getElem?_map];cases hi:fs[i]? with
      |none=>simp
      |some f=>
       have hmem:f∈fs.toList:=by
        grind
       have:=List.all_eq_true.1 hfs f hmem;cases hs:oZ C.P f.type with
       |none=>simp[hs]at this
       |some n=>
        have e:C.P.cellsOf f.type=n:=by
         unfold oZ at hs;simp[Program.cellsOf,hs]
        simp[hs,e]
     rw[hpl];have hcz:(den J z).cells=(cells J z).toArray:=by simp[cells]
     rw[hcz,f1];simp only[Sem.run_pure];rw[xI f2 (f4.trans hag)]
    ·simp at h
   ·rename_i e hu;split at h
    ·simp at h
    ·rename_i m hm;obtain⟨f1,f2,f3,f4,_⟩:=mo (J:=J) (K:=K) _ parts z r h (fQ h3) h4 hp;refine⟨?_,f2,f3⟩;simp only[Instr.build,Sem.run_bind,hz0,Result.andThen_ok,bG w hu,gz w hm];have hcz:(den J z).cells=(cells J z).toArray:=by simp[cells]
     rw[hcz,f1];simp only[Sem.run_pure];rw[xI f2 (f4.trans hag)]
   ·simp at h
  ·simp at h
def ZM (C:Ctx) (t n:Nat) (parts:List (Nat×V)) (nid:Nat):Option (V×List aK):=
 match C.P.underlying t with
 |some (.slice e)=>match C.Z e with
  |none=>none
  |some z=>if decide (n*fg z<=16777216)then
   match nu (fun i=>some (i*fg z,fg z)) (.ag (List.replicate n z)) parts with
   |none=>none
   |some c=>some (.sc nid n n,[.blk e c])
   else none
 |_=>none
theorem pw (z:V):∀n,bp J (List.replicate n z)=(List.replicate n (cells J z)).flatten
 |0=>rfl
 |n+1=>by simp only[List.replicate_succ,bp,List.flatten_cons,pw z n];rfl
theorem jO {α:Type} (l:List α) (hl:0<l.length):∀(n i:Nat),i<n*l.length->(List.replicate n l).flatten[i]? =l[i%l.length]?
 |0,i,h=>by omega
 |n+1,i,h=>by
  rw[List.replicate_succ,List.flatten_cons];rw[Nat.succ_mul]at h;by_cases hi:i<l.length
  ·rw[List.getElem?_append_left hi,Nat.mod_eq_of_lt hi]
  ·rw[List.getElem?_append_right (by omega),jO l hl n _ (by omega),<-Nat.mod_eq_sub_mod (by omega)]
theorem wz (z:Array Value) (n:Nat):((Array.range (n*z.size)).map fun i=>z[i%z.size]!)=((List.replicate n z.toList).flatten).toArray:=by
 apply Array.ext'
 apply List.ext_getElem?
 intro i;by_cases hz:z.size=0
 ·simp_all
 ·by_cases hi:i<n*z.size
  ·have:=jO z.toList (by simpa using Nat.pos_of_ne_zero hz) n i (by simpa using hi)
   rw[show((List.replicate n z.toList).flatten).toArray.toList=(List.replicate n z.toList).flatten from rfl,this];have hm:i%z.size<z.size:=Nat.mod_lt _ (Nat.pos_of_ne_zero hz);simp[hi,hm]
  ·simp_all
theorem La {t n nid:Nat} {parts:List (Nat×V)} {r:V} {new:List aK} {w0:World} {F0:Nat->Prop} (hC:C.Kr) (h:ZM C t n parts nid=some (r,new)) (hp:∀p∈parts,ok K p.2) (hn:¬K nid):
  ∃w' ρ',(Instr.buildSlice t n (parts.map fun p=>(p.1,den J p.2)).toArray).run C.P w= .ok (den ρ' r) w'/\n9 K J ρ' nid new w0 F0 w w'/\ok (fun i=>K i\/fresh nid new.length i) r/\(∀k,k<new.length->ay new k≠ .yet):=by
 unfold ZM at h;split at h
 ·rename_i e hu;split at h
  ·simp at h
  ·rename_i z hz;obtain⟨i,h1,h2,h3,h4,h5⟩:=hC e z hz;split at h
   ·rename_i hle;have hle:n*fg z<=16777216:=by simpa using hle
    split at h
    ·simp at h
    ·rename_i c hc;simp only[aaV,aaW]at h;obtain⟨rfl,rfl⟩:=h;have hzok:ok K (.ag (List.replicate n z)):=⟨(ja _).2 fun x hx=>by rw[List.eq_of_mem_replicate hx];exact fQ h3,(eE _).2 fun x hx=>by rw[List.eq_of_mem_replicate hx];exact h4⟩
     obtain⟨f1,f2,f3,f4,_⟩:=mo (J:=J) (K:=K) _ parts _ c hc hzok rfl hp;refine⟨w.alloc (.cells (cells J c).toArray e),J.bT nid w.heap.size,?_,n9.alloc f2 f3 hn,?_,?_⟩
     ·have hs:oZ C.P e=some (fg z):=by simp[oZ,h1,h5]
      have hz0:=rT (C:=C) (J:=J) (w:=w) hC hz;have hzc:(den J z).cells.size=fg z:=by rw[<-bg J z h3];simp[cells]
      simp only[Instr.buildSlice,Sem.run_bind,bG w hu,Result.andThen_ok,gz w hs,Sem.run_ite];rw[aa3 (by omega)]
      simp only[Sem.run_pure,Result.andThen_ok]
      have key:∀zz:Array Value,(n*fg z=0\/zz=(den J z).cells)->((Array.range (n*fg z)).map fun x=>zz[x%zz.size]!)=(cells J (.ag (List.replicate n z))).toArray:=by
       grind[fE,pw,cells,bg,wz]
      by_cases h0:n*fg z=0
      ·rw[aa4 h0];rw[key #[] (.inl h0),f1];simp only[Sem.run_bind,newRow,run_newObj_alloc,Result.andThen_ok,Sem.run_pure];simp[den,Env.bT]
      ·rw[aa3 h0];simp only[hz0,Result.andThen_ok];rw[key _ (.inr rfl),f1];simp only[Sem.run_bind,newRow,run_newObj_alloc,Result.andThen_ok,Sem.run_pure];simp[den,Env.bT]
     ·exact .inr ⟨Nat.le_refl _,by simp⟩
     ·simp_all[ay]
   ·simp at h
 ·simp at h
end
theorem ot {K:Nat->Prop} {v:V} {k:IntKind} {n:Int} (h:toInt v=some (k,n)):(∀J,cells J (.it k n)=cells J v)/\(ok K v->ok (fun _=>False) (.it k n))/\fg (V.it k n)=fg v:=by
 cases v<;>simp only[toInt,aaV,aaW,reduceCtorEq]at h<;>obtain⟨rfl,rfl⟩:=h
 ·exact⟨fun _=>rfl,fun h=>h,rfl⟩
 ·exact⟨fun _=>rfl,fun h=>h,rfl⟩
 ·rename_i b;refine⟨fun _=>rfl,fun _=>?_,rfl⟩
  have:=b.toNat_lt;simp only[ok,bY,Sw];omega
theorem mZ {v:V} {b:Bool} (h:toBool v=some b):(∀J,cells J (.bo b)=cells J v)/\fg (V.bo b)=fg v:=by
 cases v<;>simp only[toBool,aaV,reduceCtorEq]at h<;>subst h<;>exact⟨fun _=>rfl,rfl⟩
def vd {α:Type} (n:Nat) (x:α):List α:=List.replicate n x
def U8 (n m:Int) (b:Nat):Prop:=m=n/\0<=n/\n<=9223372036854775807/\n*b<=281474976710656
def Qv (n:Nat) (v:V):Option TL:=
 match v with
 | .ob o=>some (.ob (vd n o))
 | .key k=>some (.key (vd n k))
 | .st s=>some (.st (vd n s))
 |_=>match toInt v with
  |some (k,i)=>some (.it k (vd n i))
  |none=>match toBool v with
   |some b=>some (.bo (vd n b))
   |none=>none
theorem rM {α:Type} {n i:Nat} (x d:α) (h:i<n):aj (vd n x) i d=x:=by
 simp[aj,vd,aa2,h]
theorem rp {α:Type} (n:Nat) (x:α):ai (vd n x)=n:=by simp[ai,vd]
theorem GA {K:Nat->Prop} {n:Nat} {v:V} {l:TL} (h:Qv n v=some l):
  l.len=n/\∀i,i<n->(∀J,cells J (l.get i)=cells J v)/\(ok K v->ok (fun _=>False) (l.get i))/\cV (l.get i)=false/\fg (l.get i)=fg v:=by
 unfold Qv at h;split at h
 ·rename_i x;simp only[aaV]at h;subst h;exact⟨rp _ _,fun i hi=>by rw[show(TL.ob (vd n x)).get i=V.ob x from congrArg V.ob (rM x free hi)];exact⟨fun _=>rfl,fun h=>h,rfl,rfl⟩⟩
 ·rename_i x;simp only[aaV]at h;subst h;exact⟨rp _ _,fun i hi=>by rw[show(TL.key (vd n x)).get i=V.key x from congrArg V.key (rM x void hi)];exact⟨fun _=>rfl,fun h=>h,rfl,rfl⟩⟩
 ·rename_i x;simp only[aaV]at h;subst h;exact⟨rp _ _,fun i hi=>by rw[show(TL.st (vd n x)).get i=V.st x from congrArg V.st (rM x ByteArray.empty hi)];exact⟨fun _=>rfl,fun h=>h,rfl,rfl⟩⟩
 ·split at h
  ·rename_i k i hki;simp only[aaV]at h;subst h;obtain⟨c1,c2,c3⟩:=ot (K:=K) hki;exact⟨rp _ _,fun j hj=>by rw[show(TL.it k (vd n i)).get j=V.it k i from congrArg (V.it k) (rM i 0 hj)];exact⟨c1,c2,rfl,c3⟩⟩
  ·split at h
   ·rename_i b hb;simp only[aaV]at h;subst h;obtain⟨c1,c2⟩:=mZ hb;exact⟨rp _ _,fun j hj=>by rw[show(TL.bo (vd n b)).get j=V.bo b from congrArg V.bo (rM b false hj)];exact⟨c1,fun _=>trivial,rfl,c2⟩⟩
   ·simp at h
theorem Bp (z:Array Value):∀n:Nat,(madeCells z (n*z.size)).toList=(List.range n).flatMap fun _=>z.toList
 |0=>by simp[madeCells]
 |n+1=>by
  rw[List.range_succ,List.flatMap_append,<-Bp z n];simp only[List.flatMap_cons,List.flatMap_nil,List.append_nil];apply List.ext_getElem?
  intro j;rw[List.getElem?_append];simp only[Array.length_toList,size_madeCells];by_cases h1:j<n*z.size
  ·rw[aa4 h1];have h2:j<(n+1)*z.size:=Nat.lt_of_lt_of_le h1 (Nat.mul_le_mul_right _ (Nat.le_succ n));simp[madeCells,h1,h2]
  ·rw[aa3 h1];have e:(n+1)*z.size=n*z.size+z.size:=Nat.succ_mul _ _;by_cases h2:j<(n+1)*z.size
   ·have hk:j-n*z.size<z.size:=by omega
    have hm:j%z.size=j-n*z.size:=by
     have:j=(j-n*z.size)+z.size*n:=by rw[Nat.mul_comm z.size n];omega
     conv=>lhs;rw[this]
     rw[Nat.add_mul_mod_self_left,Nat.mod_eq_of_lt hk]
    simp[madeCells,h2,hk,hm]
   ·simp[madeCells,h2];omega
def Fw (C:Ctx) (nid t:Nat) (a b:V):Option (Option Prop×V×List aK):=
 match C.P.underlying t with
 |some (.slice e)=>match C.Z e,C.P.info? e with
  |some z,some inf=>match toInt a,toInt b with
   |some (_,n),some (_,m)=>match Qv (pH n) z with
    |some l=>some (some (U8 n m inf.bytes),.sa nid,[.arr (some e) (fg z) l])
    |none=>none
   |_,_=>none
  |_,_=>none
 |_=>none
def Env.setRow (J:Env) (i:Nat) (a:Addr) (n:Nat):Env:=
 {num:=J.num,cap:=fun j=>if j=i then n else J.cap j,adr:=fun j=>if j=i then a else J.adr j,sa:=fun j=>if j=i then some a else J.sa j,sn:=fun j=>if j=i then n else J.sn j,ob:=J.ob}
theorem CJ {N:Nat->Prop} (J:Env) {i:Nat} {a:Addr} {n:Nat} (h:¬N i):Env.bE N J (J.setRow i a n):=fun j hj=>by
 have e1:j≠i:=fun e=>h (e▸hj)
 simp[Env.setRow,e1]
theorem BL {J:Env} {v:V} {k:IntKind} {n:Int} (h:toInt v=some (k,n)):den J v= .int k n:=by
 cases v<;>simp only[toInt,aaV,aaW,reduceCtorEq]at h<;>obtain⟨rfl,rfl⟩:=h<;>rfl
theorem JD {C:Ctx} {nid t:Nat} {a b x:V} {q:Option Prop} {new:List aK} (h:Fw C nid t a b=some (q,x,new)):x= .sa nid/\∃o e l,new= [.arr o e l]:=by
 unfold Fw at h;split at h
 ·grind
 ·simp at h
theorem F9 {C:Ctx} {J:Env} {K:Nat->Prop} {w0 w:World} {F0:Nat->Prop} {nid t:Nat} {a b x:V} {q:Option Prop} {new:List aK} (hC:C.Kr) (h:Fw C nid t a b=some (q,x,new)) (hq:dX q) (hn:¬K nid):
  ∃w' ρ',(Instr.makeSlice t (den J a) (den J b)).run C.P w= .ok (den ρ' x) w'/\n9 K J ρ' nid new w0 F0 w w':=by
 unfold Fw at h;split at h
 ·rename_i e ht;split at h
  ·rename_i z inf hZ hi;split at h
   ·rename_i k n k' m ha hb;split at h
    ·rename_i l hl;simp only[aaV,aaW]at h;obtain⟨rfl,rfl,rfl⟩:=h;obtain⟨rfl,h0,h1,h2⟩:=(show U8 n m inf.bytes from hq);obtain⟨l1,l2⟩:=GA (K:=fun _=>False) hl
     obtain⟨i',g1,g2,g3,g4,g5⟩:=hC e z hZ;have:inf=i':=by rw[hi]at g1;exact Option.some.inj g1
     subst this;obtain⟨N,rfl⟩:∃N:Nat,m=(N:Int):=⟨m.toNat,by omega⟩
     have hN:pH (N:Int)=N:=by simp[pH]
     rw[hN]at l1 l2
     have hb2:inf.bytes*N<=281474976710656:=by
      grind
     have hzs:(den Env.zero z).cells.size=fg z:=by rw[<-bg Env.zero z g3];simp[cells]
     obtain⟨w',r1,r2,r3⟩:=run_make_full (P:=C.P) (w:=w) 0 t e inf (den Env.zero z) (fg z) ht hi (g2 Env.zero) g5 k k' N hb2 (by simp only[maxLen];omega) (Nat.zero_le _)
     have hcells:(madeCells (den Env.zero z).cells (N*fg z)).toList=l.cells:=by
      rw[<-hzs,Bp,TL.cells,l1];exact nU _ _ _ fun j hj=>((l2 j (List.mem_range.1 hj)).1 Env.zero).symm
     rw[hcells]at r2
     have hblt:w.heap.size<w'.heap.size:=by
      rcases r2.2 with⟨hh,_⟩|⟨g,cap,cur,hh,_,hg,_⟩
      ·simp at hh
      ·grind
     refine⟨w',J.setRow nid ⟨w.heap.size,0,none⟩ N,?_,?_⟩
     ·grind[BL,den,Env.setRow]
     ·refine⟨(Below.refl _ _).grown r3 (Nat.le_refl _) (fun k hk=>by simp at hk),CJ J (fun hf=>hf ⟨Nat.le_refl _,by simp⟩),fun _ b=>b=w.heap.size,fun k hk=>?_,fun k l b hk hl hne=>?_⟩
      ·simp only[List.length_singleton,Nat.lt_one_iff]at hk;subst hk;refine⟨⟨fun j hj=>?_,by simp[Env.setRow,l1],by rw[l1];omega,fun a ha=>by simp[Env.setRow]at ha⊢;exact ha.symm,fun _=>by simp[Env.setRow],fun _=>by simp[Env.setRow],.inr ⟨e,fun e' he=>by simpa using he.symm,?_,fun a ha=>by simp[Env.setRow]at ha;rw[<-ha]⟩⟩,fun b hb=>by subst hb;exact⟨Nat.le_refl _,hblt⟩⟩
       ·simp_all
       ·simp_all[Env.sl,Env.setRow]
      ·simp_all
    ·simp at h
   ·simp at h
  ·simp at h
 ·simp at h
def z9 (b:Bool) (x y:Int):Int:=match b with
 |true=>x
 |false=>y
def UC (n:Int):List Int->Bool
 | []=>false
 |k::ks=>match ks with
  | []=>Dy n k
  |_=>YK (Dy n k) (UC n ks)
theorem E0 (n k:Int) (ks:List Int):UC n (k::ks)=(decide (n=k)||UC n ks):=by
 cases ks<;>simp[UC,Dy,YK]
def AA (n:Int) (z:V):List Int->List V->Option V
 | [],[]=>some z
 |k::ks,v::vs=>match v with
  | .fn f l=>match AA n z ks vs with
    |some y=>some (.ch (Dy n k) f l y)
    |none=>none
  |_=>none
 |_,_=>none
def FL (kd:IntKind) (n z:Int):List Int->List V->Option Int
 | [],[]=>some z
 |k::ks,v::vs=>match toInt v with
  |some (kd',a)=>if kd==kd' then match FL kd n z ks vs with
   |some y=>some (z9 (Dy n k) a y)
   |none=>none
   else none
  |none=>none
 |_,_=>none
def Xh (n:Int) (z:V) (ks:List Int) (vs:List V):Option V:=
 match z with
 | .nl v=>match v with
   | .nilFunc=>AA n (.nl .nilFunc) ks vs
   |_=>none
 | .ci kd a=>match FL kd n a ks vs with
   |some y=>some (.it kd y)
   |none=>none
 |_=>none
def Lc (C:Ctx) (res:List aK) (t:Nat) (m x:V) (two:Bool):Option V:=
 match m with
 | .mp i=>match toInt x with
   |some (kd,n)=>match cG res i with
    | .mp kd' ks vs=>match C.P.underlying t with
      |some (.map kt et)=>match C.P.underlying kt with
       |some (.int kd'')=>if kd==kd'&&kd==kd'' then match C.Z et with
        |some z=>match Xh n z ks vs with
         |some y=>if two then some (.tp [y,.bo (UC n ks)])else some y
         |none=>none
        |none=>none
        else none
       |_=>none
      |_=>none
    |_=>none
   |none=>none
 |_=>none
def TO (P:Program) (res:List aK) (t:Nat) (m x v:V):Option (List aK):=
 match m with
 | .mp i=>match x with
   | .ci kd n=>match ay res i with
     | .mp kd' ks vs=>match P.underlying t with
       |some (.map kt et)=>match P.underlying kt with
        |some (.int kd'')=>if kd==kd'&&kd==kd''&&decide (bY kd n)&& !ks.contains n&& !cV v then some (bO res i (.mp kd (ks++ [n]) (vs++ [v])))else none
        |_=>none
       |_=>none
     |_=>none
   |_=>none
 |_=>none
section
variable {J:Env} {fps:Nat->Nat->Prop} {res:List aK} {K:Nat->Prop} {w0 w:World} {F0:Nat->Prop}
theorem qL {kd:IntKind} {n:Int}:∀(ks:List Int) (xs:List Value) (l:List MapEntry) (i:Nat),l.map (·.key)=ks.map (Value.int kd)->l.map (·.val)=xs->
  ∃r,Instr.findNow (.int kd) (.int kd n) l i=some r/\r.isSome=UC n ks/\
   ((r=none/\n∉ks)\/∃j x,r=some (i+j,x)/\ks[j]? =some n/\xs[j]? =some x/\∀q<j,ks[q]? ≠some n)
 | [],xs,l,i,h,h'=>by
   cases l with
   |nil=>exact⟨none,rfl,rfl,.inl ⟨rfl,by simp⟩⟩
   |cons e l=>simp at h
 |k::ks,xs,l,i,h,h'=>by
  cases l with
  |nil=>simp at h
  |cons e l=>
   simp only[List.map_cons,List.cons.injEq]at h;obtain⟨hk,hl⟩:=h;subst h';by_cases e1:n=k
   ·subst e1;refine⟨some (i,e.val),by simp[Instr.findNow,hk,Instr.sameNow],by rw[E0];simp,.inr ⟨0,e.val,rfl,by simp,by simp,by simp⟩⟩
   ·obtain⟨r,r1,r2,r3⟩:=qL (n:=n) ks _ l (i+1) hl rfl;refine⟨r,by simp[Instr.findNow,hk,Instr.sameNow,beq_eq_false_iff_ne.2 e1,r1],by rw[E0,r2];simp[e1],?_⟩
    rcases r3 with⟨a,b⟩|⟨j,x,a,b,c,d⟩
    ·exact .inl ⟨a,by simp[e1,b]⟩
    ·refine .inr ⟨j+1,x,by rw[a];congr 2;omega,by simpa using b,by simpa using c,fun q hq=>?_⟩
     cases q with
     |zero=>simp;exact fun e=>e1 e.symm
     |succ q=>simpa using d q (by omega)
theorem E8 {n:Int} {z:V} (hz:ok K z) (hz1:∀J:Env,(den J z).oneCell'=true):∀(ks:List Int) (vs:List V) (y:V),AA n z ks vs=some y->fM K vs->
  ok K y/\(∀J:Env,(den J y).oneCell'=true)/\∀J:Env,(n∉ks->den J y=den J z)/\∀(j:Nat) x,ks[j]? =some n->(bB J vs)[j]? =some x->(∀q<j,ks[q]? ≠some n)->den J y=x
 | [],[],y,h,hv=>by
   simp_all[AA]
 | [],_::_,y,h,hv=>by simp[AA]at h
 |_::_,[],y,h,hv=>by simp[AA]at h
 |k::ks,v::vs,y,h,hv=>by
  simp only[AA]at h;split at h
  ·rename_i f l;split at h<;>simp only[aaV,reduceCtorEq]at h
   rename_i y' hy;subst h;obtain⟨a,b,c⟩:=E8 hz hz1 ks vs y' hy hv.2;refine⟨⟨hv.1,a,b⟩,fun J=>?_,fun J=>⟨fun hn=>?_,fun j x hj hx hq=>?_⟩⟩
   ·simp only[den];split
    ·exact ou _ _
    ·exact b J
   ·simp_all[den,Dy]
   ·simp only[den,Dy];cases j with
    |zero=>
     simp at hj;subst hj;simp[bB,den]at hx;simp[<-hx]
    |succ j=>
     have h0:=hq 0 (by omega)
     simp at h0;rw[decide_eq_false (fun e=>h0 e.symm)]
     refine(c J).2 j x (by simpa using hj) (by simpa[bB]using hx) fun q hq'=>?_
     have:=hq (q+1) (by omega)
     simpa using this
  ·simp at h
theorem Ew {kd:IntKind} {n z:Int} (hz:bY kd z):∀(ks:List Int) (vs:List V) (y:Int),FL kd n z ks vs=some y->fM K vs->
  bY kd y/\∀J:Env,(n∉ks->y=z)/\∀(j:Nat) x,ks[j]? =some n->(bB J vs)[j]? =some x->(∀q<j,ks[q]? ≠some n)-> .int kd y=x
 | [],[],y,h,hv=>by
   simp_all[FL]
 | [],_::_,y,h,hv=>by simp[FL]at h
 |_::_,[],y,h,hv=>by simp[FL]at h
 |k::ks,v::vs,y,h,hv=>by
  simp only[FL]at h;split at h
  ·rename_i kd' a ha;split at h
   ·rename_i hk;have hk:=aaZ.1 hk;subst hk;split at h<;>simp only[aaV,reduceCtorEq]at h
    rename_i y' hy;subst h;obtain⟨b,c⟩:=Ew hz ks vs y' hy hv.2;refine⟨?_,fun J=>⟨fun hn=>?_,fun j x hj hx hq=>?_⟩⟩
    ·cases Dy n k
     ·exact b
     ·exact(eu (J:=⟨fun _=>0,fun _=>0,fun _=>default,fun _=>none,fun _=>0,fun _ _=>0⟩) ha hv.1).2
    ·simp only[List.mem_cons,not_or]at hn;simp only[Dy];rw[decide_eq_false hn.1];exact(c J).1 hn.2
    ·simp only[Dy];cases j with
     |zero=>
      simp at hj;subst hj;simp[bB]at hx;simp[z9,<-hx,(eu (J:=J) ha hv.1).1]
     |succ j=>
      have h0:=hq 0 (by omega)
      simp at h0;rw[decide_eq_false (fun e=>h0 e.symm)]
      refine(c J).2 j x (by simpa using hj) (by simpa[bB]using hx) fun q hq'=>?_
      have:=hq (q+1) (by omega)
      simpa using this
   ·simp at h
  ·simp at h
theorem Oy {n:Int} {z y:V} {ks:List Int} {vs:List V} (hz:ok (fun _=>False) z) (h:Xh n z ks vs=some y) (hv:fM K vs):
  ok K y/\cV y=false/\∀J:Env,(n∉ks->den J y=den J z)/\∀(j:Nat) x,ks[j]? =some n->(bB J vs)[j]? =some x->(∀q<j,ks[q]? ≠some n)->den J y=x:=by
 unfold Xh at h;split at h
 ·split at h
  ·obtain⟨a,b,c⟩:=E8 (K:=K) (z:= .nl .nilFunc) rfl (fun _=>rfl) ks vs y h hv
   refine⟨a,?_,c⟩;cases ks with
   |nil=>cases vs<;>simp[AA]at h;subst h;rfl
   |cons k ks=>
    cases vs with
    |nil=>simp[AA]at h
    |cons v vs=>
     simp only[AA]at h;split at h
     ·split at h<;>simp only[aaV,reduceCtorEq]at h
      subst h;rfl
     ·simp at h
  ·simp at h
 ·rename_i kd a;split at h<;>simp only[aaV,reduceCtorEq]at h
  rename_i y' hy;subst h;obtain⟨b,c⟩:=Ew (K:=K) (show bY kd a from hz) ks vs y' hy hv;exact⟨b,rfl,fun J=>⟨fun hn=>by simp only[den];rw[(c J).1 hn],fun j x h1 h2 h3=>by simp only[den];exact(c J).2 j x h1 h2 h3⟩⟩
 ·simp at h
theorem F2 {C:Ctx} {t:Nat} {m x r:V} {two:Bool} (hC:C.Kr) (h:bq J fps res K w0 F0 w) (hl:Lc C res t m x two=some r) (hx:ok K x):
  (Instr.lookup t (den J m) (den J x) two).run C.P w= .ok (den J r) w/\ok K r:=by
 unfold Lc at hl;split at hl
 case h_2=>simp at hl
 rename_i i;split at hl
 case h_2=>simp at hl
 rename_i kd n hn;split at hl
 case h_2=>simp at hl
 rename_i kd' ks vs hr;split at hl
 case h_2=>simp at hl
 rename_i kt et hu;split at hl
 case h_2=>simp at hl
 rename_i kd'' hku;split at hl
 case isFalse=>simp at hl
 rename_i hkd;simp only[aaX,aaZ]at hkd;obtain⟨rfl,rfl⟩:=hkd;split at hl
 case h_2=>simp at hl
 rename_i z hz;split at hl
 case h_2=>simp at hl
 rename_i y hy;obtain⟨hx1,hx2⟩:=eu (J:=J) hn hx;obtain⟨fp,hh,_⟩:=h.look hr (by simp)
 obtain⟨_,a2,a3,a4,a5,es,cl,b1,b2,b3⟩:=hh;obtain⟨_,_,_,hz3,hz4,_⟩:=hC et z hz;obtain⟨y1,y2,y3⟩:=Oy hz3 hy a2;obtain⟨q,q1,q2,q3⟩:=qL (n:=n) ks _ es.toList 0 b2 b3;have hck:=MapKept.run_checkKey (P:=C.P) (w:=w) (k:= .int kd n) hku rfl es.isEmpty 9999;have hfk:=MapKept.run_findKey (w:=w) hku q1;have hzr:=rT (J:=J) (w:=w) hC hz
 have main:(Instr.lookup t (den J (.mp i)) (den J x) two).run C.P w= .ok (if two then .tuple #[den J y,.bool (UC n ks)]else den J y) w:=by
  rw[hx1];simp only[Instr.lookup,den,Sem.run_bind,bG w hu,Result.andThen_ok,MapKept.run_getObj_map b1,Sem.run_pure,hck,hfk];rcases q3 with⟨rfl,hnk⟩|⟨j,v,rfl,c1,c2,c3⟩
  ·simp_all
  ·simp only[Sem.run_pure,Result.andThen_ok];rw[(y3 J).2 j v c1 c2 c3,<-q2];rfl
 rw[main];cases two
 ·simp only[Bool.false_eq_true,if_false,aaV]at hl;subst hl;exact⟨by simp,y1⟩
 ·simp only[if_true,aaV]at hl;subst hl;exact⟨by simp[den,bB],y1,trivial,trivial⟩
theorem n9.W7 {nid:Nat} {kd:IntKind} (hn:¬K nid):
  n9 K J (J.bT nid w.heap.size) nid [.mp kd [] []] w0 F0 w (w.alloc (.map #[] 0)):=by
 refine⟨(Below.refl _ _).alloc (Nat.le_refl _) _,mY J nid _,fun _ b=>b=w.heap.size,fun k hk=>?_,fun k l b hk hl hne=>?_⟩
 ·simp only[List.length_singleton,Nat.lt_one_iff]at hk;subst hk;refine⟨⟨by simp[Env.bT],trivial,trivial,by simp,rfl, #[],0,?_,rfl,rfl⟩,fun b hb=>by subst hb;simp⟩
  rw[show(J.bT nid w.heap.size).num (nid+0)=w.heap.size by simp[Env.bT]]
  exact heap_alloc_new w _
 ·simp only[List.length_singleton,Nat.lt_one_iff]at hk hl;omega
theorem bq.PR {w':World} {i:Nat} {r r':aK} {b:Nat}
  (h:bq J fps res K w0 F0 w) (hi:ay res i=r) (hne:r≠ .yet) (hne':r'≠ .yet) (hfp:fps i b) (hnew:r'.holds K J i (fps i) w0 F0 w')
  (hos:w'.os=w.os) (htape:w'.tape=w.tape) (hout:w'.output=w.output) (hsize:w'.heap.size=w.heap.size) (hold:∀b',b'≠b->w'.heap[b']? =w.heap[b']?):
  bq J fps (bO res i r') K w0 F0 w'/\∀j,known (bO res i r') j↔known res j:=by
 have hk:known res i:=by unfold known;rw[hi];exact hne
 have hlt:=aO hk
 have hkn:∀j,known (bO res i r') j↔known res j:=fun j=>by
  grind[known,bJ]
 refine⟨⟨fun j hj=>h.sub j ((hkn j).1 hj),by rw[hsize];exact h.old,hos.trans h.os,htape.trans h.tape,hout.trans h.output,fun j hj=>?_,fun j b hj hb=>by rw[hsize];exact h.lt j b ((hkn j).1 hj) hb,
  fun j l b hj hl=>h.disj j l b ((hkn j).1 hj) ((hkn l).1 hl),fun j b hj=>h.inF j b ((hkn j).1 hj),fun c hc hF=>?_⟩,hkn⟩
 ·rw[bJ _ _ _ _ hlt];by_cases e:j=i
  ·subst e;simp only[if_true];exact hnew
  ·simp only[aa3 e];have hj':=(hkn j).1 hj;refine aK.gp _ (h.holds j hj') fun c hc=>hold c fun eb=>?_
   subst eb;exact h.disj j i _ hj' hk e hc hfp
 ·rw[hold c fun e=>hF (e▸h.inF i b hk hfp (e▸hc))]
  exact h.same c hc hF
theorem Bq (J:Env) (l:List V) (v:V):bB J (l++ [v])=bB J l++ [den J v]:=by simp[jD]
theorem Js {P:Program} {res':List aK} {t:Nat} {m x v:V} (h:bq J fps res K w0 F0 w) (hs:TO P res t m x v=some res') (hv:ok K v):
  ∃w',(Instr.mapUpdate t (den J m) (den J x) (den J v)).run P w= .ok () w'/\bq J fps res' K w0 F0 w'/\∀i,known res' i↔known res i:=by
 unfold TO at hs;split at hs
 case h_2=>simp at hs
 rename_i i;split at hs
 case h_2=>simp at hs
 rename_i kd n;split at hs
 case h_2=>simp at hs
 rename_i kd' ks vs hr;split at hs
 case h_2=>simp at hs
 rename_i kt et hu;split at hs
 case h_2=>simp at hs
 rename_i kd'' hku;split at hs
 case isFalse=>simp at hs
 rename_i hc;simp only[aaX,aaZ,aaY,Bool.not_eq_true',List.contains_eq_mem,decide_eq_false_iff_not]at hc;obtain⟨⟨⟨⟨rfl,rfl⟩,hin⟩,hnk⟩,htp⟩:=hc;simp only[aaV]at hs;subst hs;have hk:known res i:=by unfold known;rw[hr];simp
 have hh:=h.holds i hk;rw[hr]at hh;obtain⟨a1,a2,a3,a4,a5,es,cl,b1,b2,b3⟩:=hh;obtain⟨q,q1,q2,q3⟩:=qL (n:=n) ks _ es.toList 0 b2 b3
 have hq:q=none:=by
  grind
 subst hq;have hck:=MapKept.run_checkKey (P:=P) (w:=w) (k:= .int kd n) hku rfl false 9999;have hfk:=MapKept.run_findKey (w:=w) hku q1;have hset:=MapKept.heap_set (w:=w) (r:=J.num i) (o':= .map (es.push {key:= .int kd n,val:=den J v,born:=cl}) (cl+1)) b1;refine⟨{w with heap:=w.heap.setIfInBounds (J.num i) (.map (es.push {key:= .int kd n,val:=den J v,born:=cl}) (cl+1))},?_,?_⟩
 ·simp only[Instr.mapUpdate,den,Sem.run_bind,bG w hu,Result.andThen_ok,MapKept.run_getObj_map b1,hck,hfk,MapKept.run_setObj_map _ b1]
 ·refine h.PR (b:=J.num i) hr (by simp) (by simp) a1 ⟨a1,?_,?_,?_,by simp[a5],_,_,hset.1,by simp[b2],by simp[b3,Bq]⟩ rfl rfl rfl (by simp) hset.2
  ·grind[ja]
  ·grind[eE]
  ·grind
end
def yK:List V->Option (List (Bool×Int))
 | []=>some []
 |x::l=>match toInt x with
  |some (k,n)=>if k== .i64 then match yK l with
   |some m=>some ((xD x,n)::m)
   |none=>none
   else none
  |none=>none
def aau:List (Bool×Int)->Bool
 | []=>true
 | (c,_)::l=>c&&aau l
def kh:List (Bool×Int)->List Int
 | []=> []
 | (_,n)::l=>n::kh l
def aad:V->V->V
 | .cb true,y=>y
 | .cb false,_=> .cb false
 |x,.cb true=>x
 |_,.cb false=> .cb false
 | .bo a,.bo b=> .bo (Vb a b)
 |_,_=> .nl undef
def orV:V->V->V
 | .cb false,y=>y
 | .cb true,_=> .cb true
 |x,.cb false=>x
 |_,.cb true=> .cb true
 | .bo a,.bo b=> .bo (YK a b)
 |_,_=> .nl undef
theorem JC {x y:V} {a b:Bool} (h1:toBool x=some a) (h2:toBool y=some b):toBool (aad x y)=some (a&&b):=by
 cases x<;>simp[toBool]at h1<;>cases y<;>simp[toBool]at h2<;>subst h1<;>subst h2
 all_goals(rename_i p q;cases p<;>cases q<;>rfl)
theorem ND {x y:V} {a b:Bool} (h1:toBool x=some a) (h2:toBool y=some b):toBool (orV x y)=some (a||b):=by
 cases x<;>simp[toBool]at h1<;>cases y<;>simp[toBool]at h2<;>subst h1<;>subst h2
 all_goals(rename_i p q;cases p<;>cases q<;>rfl)
def eq1 (c:Bool) (n k:Int):V:=if c then .cb (decide (n=k))else .bo (Dy n k)
theorem Pf (c:Bool) (n k:Int):toBool (eq1 c n k)=some (decide (n=k)):=by cases c<;>simp[eq1,toBool,Dy]
def GI:List (Bool×Int)->List Int->V
 | [],[]=> .cb true
 | (c,n)::l,k::m=>aad (eq1 c n k) (GI l m)
 |_,_=> .cb false
theorem vW:∀(l:List (Bool×Int)) (m:List Int),toBool (GI l m)=some (decide (kh l=m))
 | [],[]=>rfl
 | [],_::_=>by simp[GI,kh,toBool]
 |_::_,[]=>by simp[GI,kh,toBool]
 | (c,n)::l,k::m=>by
   simp_all[GI,kh,JC,Pf,vW]
def Cu (x:List (Bool×Int)) (z:V):List (List Int)->List V->Option V
 | [],[]=>some z
 |k::ks,v::vs=>match v with
  | .fn f l=>match GI x k with
    | .cb true=>some (.fn f l)
    | .cb false=>Cu x z ks vs
    | .bo b=>match Cu x z ks vs with
      |some y=>some (.ch b f l y)
      |none=>none
    |_=>none
  |_=>none
 |_,_=>none
def UD (x:List (Bool×Int)):List (List Int)->V
 | []=> .cb false
 |k::ks=>orV (GI x k) (UD x ks)
theorem AK (x:List (Bool×Int)):∀ks,toBool (UD x ks)=some (decide (kh x∈ks))
 | []=>rfl
 |k::ks=>by
  simp_all[UD,ND,vW,AK]
def td (P:Program) (kt n:Nat):Bool:=
 Nat.ble 2 n&&fw P 8 kt==some (List.replicate n (.i .i64))&&match P.underlying kt with
  |some (.struct fs)=>fs.toList.all fun f=>match P.underlying f.type with
   |some (.int _)=>true
   |_=>false
  |_=>false
def DX (n:Nat):List (List Int)->Bool
 | []=>true
 |k::ks=>k.length==n&&DX n ks
theorem uf {n:Nat}:∀{ks:List (List Int)},DX n ks=true->∀k∈ks,k.length=n
 | [],_,_,h=>by simp at h
 |k::ks,h,c,hc=>by
  simp only[DX,aaX,aaZ]at h;rcases List.mem_cons.1 hc with rfl|hc
  ·exact h.1
  ·exact uf h.2 c hc
def MW (C:Ctx) (res:List aK) (t:Nat) (m x:V) (two:Bool):Option V:=
 match m with
 | .mp i=>match x with
   | .ag xl=>match yK xl with
     |some l=>match cG res i with
      | .mq ks vs=>match C.P.underlying t with
        |some (.map kt et)=>if td C.P kt l.length&&DX l.length ks then match C.Z et with
         |some z=>match z with
          | .nl v=>match v with
            | .nilFunc=>match Cu l (.nl .nilFunc) ks vs with
              |some y=>if two then some (.tp [y,UD l ks])else some y
              |none=>none
            |_=>none
          |_=>none
         |none=>none
         else none
        |_=>none
      |_=>none
     |none=>none
   |_=>none
 |_=>none
def UE (P:Program) (res:List aK) (t:Nat) (m x v:V):Option (List aK):=
 match m with
 | .mp i=>match x with
   | .ag xl=>match yK xl with
     |some l=>match ay res i with
      | .mq ks vs=>match P.underlying t with
        |some (.map kt et)=>if td P kt l.length&&DX l.length ks&&aau l&& !ks.contains (kh l)&& !cV v then some (bO res i (.mq (ks++ [kh l]) (vs++ [v])))else none
        |_=>none
      |_=>none
     |none=>none
   |_=>none
 |_=>none
section
variable {J:Env} {fps:Nat->Nat->Prop} {res:List aK} {K:Nat->Prop} {w0 w:World} {F0:Nat->Prop} {P:Program}
theorem A3 {xl:List V} {l:List (Bool×Int)} (h:yK xl=some l) (hk:fM K xl):den J (.ag xl)=j5 (kh l)/\(kh l).length=l.length:=by
 have:∀(xl:List V) (l:List (Bool×Int)),yK xl=some l->fM K xl->bp J xl=(kh l).map i64/\(kh l).length=l.length:=by
  intro xl;induction xl with
  |nil=>intro l h _;simp only[yK,aaV]at h;subst h;exact⟨rfl,rfl⟩
  |cons x xl ih=>
   intro l h hk;simp only[yK]at h;split at h
   case h_2=>simp at h
   rename_i k n hn;split at h
   case isFalse=>simp at h
   rename_i hki;have hki:=aaZ.1 hki;subst hki;split at h<;>simp only[aaV,reduceCtorEq]at h
   rename_i m hm;subst h;obtain⟨a,b⟩:=ih m hm hk.2;refine⟨?_,by simp[kh,b]⟩
   simp only[bp,kh,List.map_cons,a,(eu (J:=J) hn hk.1).1];rfl
 obtain⟨a,b⟩:=this xl l h hk;exact⟨by simp only[den,j5,a],b⟩
theorem vt:∀{a b:List Int},a.map i64=b.map i64↔a=b
 | [],[]=>by simp
 | [],_::_=>by simp
 |_::_,[]=>by simp
 |x::a,y::b=>by simp[vt (a:=a) (b:=b),i64]
theorem zC:∀(l:List Int),mV (List.replicate l.length (.i .i64)) (l.map i64)
 | []=>trivial
 |n::l=>⟨⟨n,rfl⟩,zC l⟩
theorem Su {kt n:Nat} (hk:td P kt n=true) {a b:List Int} (ha:a.length=n) (hb:b.length=n) (w:World):
  ∃r,(Op.equal kt (j5 a) (j5 b)).run P w= .ok r w/\(r=true↔a=b):=by
 unfold td at hk;simp only[aaX,aaZ]at hk;obtain⟨⟨h2,hf⟩,_⟩:=hk;have h2:=Nat.le_of_ble_eq_true h2;have hagg:lZ P kt=some true:=me hf (by simpa using h2)
 obtain⟨r,h1,h3⟩:=rq (P:=P) 8 10000 (by omega) kt _ true (a.map i64) (b.map i64) hf hagg (by rw[<-ha];exact zC a) (by rw[<-hb];exact zC b) w
 exact⟨r,h1,by rw[h3,vt]⟩
theorem tt {kt n:Nat} (hk:td P kt n=true) {a:List Int} (ha:a.length=n) (em:Bool) (w:World):(Instr.checkKey em 10000 kt (j5 a)).run P w= .ok () w:=by
 unfold td at hk;simp only[aaX,aaZ]at hk;obtain⟨⟨h2,hf⟩,hs⟩:=hk;split at hs
 case h_2=>simp at hs
 rename_i fs hu;unfold fw at hf;simp only[hu]at hf;split at hf
 ·simp at hf
 split at hf
 ·simp at hf
 rename_i ks hks;split at hf<;>simp only[aaV,reduceCtorEq]at hf
 have hl:ks.length=(a.map i64).length:=by rw[hf];simp[ha]
 clear hf;rw[show(10000:Nat)=9998+1+1 from rfl,Instr.checkKey];simp only[Sem.run_bind,bG w hu,Result.andThen_ok,j5];rw[<-Array.forIn_toList];generalize a.map i64=X at hl⊢
 have key:∀(L:List Field) (off:Nat) (ks:List Kd),mb (fw P 7) off L=some ks->off+ks.length<=X.length->(∀f∈L,(match P.underlying f.type with|some (.int _)=>true|_=>false)=true)->
   (forIn L PUnit.unit fun f (_:PUnit)=>if f.name≠ "_" then(do
    let v<-part f.type X.toArray f.offset
    Instr.checkKey em (9998+1) f.type v
    pure (ForInStep.yield PUnit.unit):Sem (ForInStep PUnit))else pure (ForInStep.yield PUnit.unit)).run P w= .ok () w:=by
  intro L;induction L with
  |nil=>intro off ks _ _ _;simp
  |cons f L ih=>
   intro off ks h hle hi;simp only[mb]at h;split at h
   case isFalse=>simp at h
   rename_i hc;simp only[aaX,bne_iff_ne,ne_eq,aaZ]at hc;obtain⟨hn,ho⟩:=hc;cases hg:fw P 7 f.type with
   |none=>simp[hg]at h
   |some k1=>
    simp only[hg]at h;cases hr:mb (fw P 7) (off+k1.length) L with
    |none=>simp[hr]at h
    |some k2=>
     simp only[hr,Option.map_some,aaV]at h;subst h;simp only[List.length_append]at hle;obtain⟨b,hb⟩:=sj hg;have e1:=kE (xs:=X) (off:=off) w hg hb (by omega)
     have hif:=hi f (by simp)
     split at hif
     case h_2=>simp at hif
     rename_i ik hik
     have e2:∀v,(Instr.checkKey em (9998+1) f.type v).run P w= .ok () w:=fun v=>by
      rw[Instr.checkKey];simp only[Sem.run_bind,bG w hik,Result.andThen_ok];rfl
     have e3:=ih (off+k1.length) k2 hr (by omega) fun g hg=>hi g (by simp[hg])
     simp only[List.forIn_cons,Sem.run_bind,hn,ne_eq,not_false_eq_true,if_true,ho,e1,Result.andThen_ok,e2,Sem.run_pure];exact e3
 have:=key fs.toList 0 ks hks (by omega) fun f hf=>by simpa using List.all_eq_true.1 hs f hf
 rw[this];rfl
theorem qt {kt n:Nat} (hk:td P kt n=true) {x:List Int} (hx:x.length=n) (w:World):∀(l:List MapEntry) (i:Nat),(∀e∈l,∃k:List Int,k.length=n/\e.key=j5 k)->
  ∃r,(Instr.findAsking kt (j5 x) l i).run P w= .ok r w/\
   ((r=none/\∀e∈l,e.key≠j5 x)\/∃j e,r=some (i+j,e.val)/\l[j]? =some e/\e.key=j5 x)
 | [],i,h=>⟨none,rfl,.inl ⟨rfl,by simp⟩⟩
 |e::l,i,h=>by
  obtain⟨k,hkl,hke⟩:=h e (by simp)
  obtain⟨b,hb,hbi⟩:=Su hk hx hkl w;cases b with
  |true=>
   have:=hbi.1 rfl;subst this;exact⟨some (i,e.val),by simp[Instr.findAsking,hke,hb],.inr ⟨0,e,rfl,rfl,hke⟩⟩
  |false=>
   have hne:e.key≠j5 x:=fun e'=>by
    rw[hke]at e';have:x=k:=(vt.1 (by simpa[j5]using e')).symm
    have:=hbi.2 this;simp at this
   obtain⟨r,r1,r3⟩:=qt hk hx w l (i+1) fun e he=>h e (by simp[he])
   refine⟨r,by simp[Instr.findAsking,hke,hb,r1],?_⟩
   rcases r3 with⟨a,b⟩|⟨j,e',a,b,c⟩
   ·simp_all
   ·exact .inr ⟨j+1,e',by rw[a];congr 2;omega,by simpa using b,c⟩
theorem pJ {kt n:Nat} (hk:td P kt n=true) {x:List Int} (hx:x.length=n) (w:World) (l:List MapEntry) (h:∀e∈l,∃k:List Int,k.length=n/\e.key=j5 k):
  ∃r,(Instr.findKey kt (j5 x) l).run P w= .ok r w/\
   ((r=none/\∀e∈l,e.key≠j5 x)\/∃j e,r=some (j,e.val)/\l[j]? =some e/\e.key=j5 x):=by
 obtain⟨r,h1,h2⟩:=qt hk hx w l 0 h;simp only[Nat.zero_add]at h2;refine⟨r,?_,h2⟩;unfold td at hk;simp only[aaX,aaZ]at hk;obtain⟨_,hs⟩:=hk;split at hs
 case h_2=>simp at hs
 rename_i fs hu;cases l with
 |nil=>
  simp only[Instr.findAsking,Sem.run_pure,Result.ok.injEq,and_true]at h1;subst h1;simp[Instr.findKey,bG w hu,Instr.findNow]
 |cons e l=>
  have:Instr.findNow (.struct fs) (j5 x) (e::l) 0=none:=by
   simp only[Instr.findNow,j5,Instr.sameNow]
  simp[Instr.findKey,bG w hu,this,h1]
theorem QL {a b:List Int} (h:j5 a=j5 b):a=b:=vt.1 (by simpa[j5]using h)
theorem AH {ks:List (List Int)} {xs:List Value} {l:List MapEntry} {x:List Int} {r:Option (Nat×Value)} (hp:(l.map fun e=>(e.key,e.val)).Perm ((ks.map j5).zip xs)) (hl:ks.length=xs.length) (hn:ks.Nodup)
  (h:(r=none/\∀e∈l,e.key≠j5 x)\/∃j e,r=some (j,e.val)/\l[j]? =some e/\e.key=j5 x):
  (r=none/\x∉ks)\/∃(i j:Nat) (v:Value),r=some (i,v)/\ks[j]? =some x/\xs[j]? =some v/\∀q<j,ks[q]? ≠some x:=by
 rcases h with⟨rfl,h⟩|⟨j,e,rfl,h1,h2⟩
 ·refine .inl ⟨rfl,fun hm=>?_⟩
  obtain⟨q,hq,rfl⟩:=List.getElem_of_mem hm
  have:(j5 ks[q],xs[q]'(by omega))∈(ks.map j5).zip xs:=by
   rw[List.mem_iff_getElem];exact⟨q,by simp;omega,by simp⟩
  obtain⟨e,he,hee⟩:=List.mem_map.1 (hp.mem_iff.2 this);simp only[aaW]at hee;exact h e he hee.1
 ·have:(e.key,e.val)∈(ks.map j5).zip xs:=hp.mem_iff.1 (List.mem_map.2 ⟨e,List.mem_of_getElem? h1,rfl⟩);rw[List.mem_iff_getElem]at this;obtain⟨q,hq,hqe⟩:=this;simp only[List.length_zip,List.length_map]at hq;simp only[List.getElem_zip,List.getElem_map,aaW]at hqe;have hk:ks[q]'(by omega)=x:=QL (hqe.1.trans h2)
  refine .inr ⟨j,q,e.val,rfl,by rw[List.getElem?_eq_getElem (by omega),hk],by rw[List.getElem?_eq_getElem (by omega),hqe.2],fun p hp' he=>?_⟩
  rw[List.getElem?_eq_getElem (by omega)]at he
  simp only[aaV]at he;exact List.pairwise_iff_getElem.1 hn p q (by omega) (by omega) hp' (he.trans hk.symm)
theorem perm_keys {ks:List (List Int)} {xs:List Value} {l:List MapEntry} {n:Nat} (hp:(l.map fun e=>(e.key,e.val)).Perm ((ks.map j5).zip xs)) (hl:∀k∈ks,k.length=n):∀e∈l,∃k:List Int,k.length=n/\e.key=j5 k:=fun e he=>by
 have:=List.of_mem_zip (hp.mem_iff.1 (List.mem_map.2 ⟨e,he,rfl⟩));obtain⟨k,hk,hke⟩:=List.mem_map.1 this.1;exact⟨k,hl k hk,hke.symm⟩
theorem vm {x:List (Bool×Int)} {z:V} (hz:ok K z) (hz1:∀J:Env,(den J z).oneCell'=true):∀(ks:List (List Int)) (vs:List V) (y:V),Cu x z ks vs=some y->fM K vs->
  ok K y/\(∀J:Env,(den J y).oneCell'=true)/\∀J:Env,(kh x∉ks->den J y=den J z)/\∀(j:Nat) v,ks[j]? =some (kh x)->(bB J vs)[j]? =some v->(∀q<j,ks[q]? ≠some (kh x))->den J y=v
 | [],[],y,h,hv=>by
   simp_all[Cu]
 | [],_::_,y,h,hv=>by simp[Cu]at h
 |_::_,[],y,h,hv=>by simp[Cu]at h
 |k::ks,v::vs,y,h,hv=>by
  simp only[Cu]at h;split at h
  case h_2=>simp at h
  rename_i f l;have hke:=vW x k
  have tail:∀y',Cu x z ks vs=some y'->kh x≠k->∀J:Env,(kh x∉k::ks->den J y'=den J z)/\∀(j:Nat) v,(k::ks)[j]? =some (kh x)->(bB J (.fn f l::vs))[j]? =some v->(∀q<j,(k::ks)[q]? ≠some (kh x))->den J y'=v:=by
   intro y' hy' hne J;obtain⟨_,_,c⟩:=vm hz hz1 ks vs y' hy' hv.2;refine⟨fun hn=>(c J).1 fun h=>hn (by simp[h]),fun j v hj hx hq=>?_⟩
   cases j with
   |zero=>simp at hj;exact absurd hj.symm hne
   |succ j=>
    refine(c J).2 j v (by simpa using hj) (by simpa[bB]using hx) fun q hq'=>?_
    have:=hq (q+1) (by omega)
    simpa using this
  have head:kh x=k->∀J:Env,(kh x∉k::ks->den J (.fn f l)=den J z)/\∀(j:Nat) v,(k::ks)[j]? =some (kh x)->(bB J (.fn f l::vs))[j]? =some v->(∀q<j,(k::ks)[q]? ≠some (kh x))->den J (.fn f l)=v:=by
   intro he J;refine⟨fun hn=>absurd (by simp[he]) hn,fun j v hj hx hq=>?_⟩
   cases j with
   |zero=>simpa[bB]using hx
   |succ j=>exact absurd (by simp[he]) (hq 0 (by omega))
  split at h
  ·rename_i hk;rw[hk]at hke;have he:kh x=k:=by simpa[toBool]using hke
   simp only[aaV]at h;subst h;exact⟨hv.1,fun J=>ou _ _,head he⟩
  ·rename_i hk;rw[hk]at hke;have hne:kh x≠k:=by simpa[toBool]using hke
   obtain⟨a,b,_⟩:=vm hz hz1 ks vs y h hv.2;exact⟨a,b,tail y h hne⟩
  ·rename_i b hk;rw[hk]at hke;have hb:b=decide (kh x=k):=by simpa[toBool]using hke
   subst hb;split at h<;>simp only[aaV,reduceCtorEq]at h
   rename_i y' hy';subst h;obtain⟨a,b,_⟩:=vm hz hz1 ks vs y' hy' hv.2;refine⟨⟨hv.1,a,b⟩,fun J=>?_,fun J=>?_⟩
   ·simp only[den];split
    ·exact ou _ _
    ·exact b J
   ·by_cases he:kh x=k
    ·grind[den]
    ·grind[den]
  ·simp at h
theorem JV {v:V} {b:Bool} (h:toBool v=some b) (J:Env):den J v= .bool b/\ok K v/\cV v=false:=by
 cases v<;>simp[toBool]at h<;>subst h<;>exact⟨rfl,trivial,rfl⟩
theorem Gl {C:Ctx} {t:Nat} {m x r:V} {two:Bool} (hC:C.Kr) (h:bq J fps res K w0 F0 w) (hl:MW C res t m x two=some r) (hx:ok K x):
  (Instr.lookup t (den J m) (den J x) two).run C.P w= .ok (den J r) w/\ok K r:=by
 unfold MW at hl;split at hl
 case h_2=>simp at hl
 rename_i i;split at hl
 case h_2=>simp at hl
 rename_i xl;split at hl
 case h_2=>simp at hl
 rename_i l hxl;split at hl
 case h_2=>simp at hl
 rename_i ks vs hr;split at hl
 case h_2=>simp at hl
 rename_i kt et hu;split at hl
 case isFalse=>simp at hl
 rename_i hc;simp only[aaX]at hc;obtain⟨hwide,hlens⟩:=hc;have hlens:=uf hlens;split at hl
 case h_2=>simp at hl
 rename_i z hz;split at hl
 case h_2=>simp at hl
 rename_i v;split at hl
 case h_2=>simp at hl
 split at hl
 case h_2=>simp at hl
 rename_i y hy;obtain⟨hx1,hx2⟩:=A3 (J:=J) hxl hx.1;obtain⟨fp,hh,_⟩:=h.look hr (by simp)
 obtain⟨_,a2,a3,⟨a5,a6⟩,es,cl,b1,b2⟩:=hh;obtain⟨y1,y2,y3⟩:=vm (K:=K) (z:= .nl .nilFunc) rfl (fun _=>rfl) ks vs y hy a2
 obtain⟨q,q1,q3⟩:=pJ hwide hx2 w es.toList (perm_keys b2 hlens);have q3:=AH b2 (by rw[a5,jD,List.length_map]) a6 q3
 have hck:=tt hwide hx2 es.isEmpty w;have hzr:=rT (J:=J) (w:=w) hC hz;obtain⟨f1,f2,_⟩:=JV (K:=K) (AK l ks) J
 have main:(Instr.lookup t (den J (.mp i)) (den J (.ag xl)) two).run C.P w= .ok (if two then .tuple #[den J y,.bool (decide (kh l∈ks))]else den J y) w:=by
  rw[hx1];simp only[Instr.lookup,den,Sem.run_bind,bG w hu,Result.andThen_ok,MapKept.run_getObj_map b1,Sem.run_pure,hck,q1];rcases q3 with⟨rfl,hnk⟩|⟨_,j,v,rfl,c1,c2,c3⟩
  ·simp_all
  ·have hmem:kh l∈ks:=List.mem_of_getElem? c1;simp only[Sem.run_pure,Result.andThen_ok];rw[(y3 J).2 j v c1 c2 c3];simp[hmem]
 rw[main];cases two
 ·simp only[Bool.false_eq_true,if_false,aaV]at hl;subst hl;exact⟨by simp,y1⟩
 ·simp only[if_true,aaV]at hl;subst hl;exact⟨by simp[den,bB,f1],y1,f2,trivial⟩
theorem n9.QZ {nid:Nat} (hn:¬K nid):
  n9 K J (J.bT nid w.heap.size) nid [.mq [] []] w0 F0 w (w.alloc (.map #[] 0)):=by
 refine⟨(Below.refl _ _).alloc (Nat.le_refl _) _,mY J nid _,fun _ b=>b=w.heap.size,fun k hk=>?_,fun k l b hk hl hne=>?_⟩
 ·simp only[List.length_singleton,Nat.lt_one_iff]at hk;subst hk;refine⟨⟨by simp[Env.bT],trivial,trivial,⟨rfl,List.nodup_nil⟩, #[],0,?_,List.Perm.refl _⟩,fun b hb=>by subst hb;simp⟩
  rw[show(J.bT nid w.heap.size).num (nid+0)=w.heap.size by simp[Env.bT]]
  exact heap_alloc_new w _
 ·simp only[List.length_singleton,Nat.lt_one_iff]at hk hl;omega
theorem Ju {res':List aK} {t:Nat} {m x v:V} (h:bq J fps res K w0 F0 w) (hs:UE P res t m x v=some res') (hx:ok K x) (hv:ok K v):
  ∃w',(Instr.mapUpdate t (den J m) (den J x) (den J v)).run P w= .ok () w'/\bq J fps res' K w0 F0 w'/\∀i,known res' i↔known res i:=by
 unfold UE at hs;split at hs
 case h_2=>simp at hs
 rename_i i;split at hs
 case h_2=>simp at hs
 rename_i xl;split at hs
 case h_2=>simp at hs
 rename_i l hxl;split at hs
 case h_2=>simp at hs
 rename_i ks vs hr;split at hs
 case h_2=>simp at hs
 rename_i kt et hu;split at hs
 case isFalse=>simp at hs
 rename_i hc;simp only[aaX,Bool.not_eq_true',List.contains_eq_mem,decide_eq_false_iff_not]at hc;obtain⟨⟨⟨⟨hwide,hlens⟩,_⟩,hnk⟩,htp⟩:=hc;have hlens:=uf hlens;simp only[aaV]at hs;subst hs;have hk:known res i:=by unfold known;rw[hr];simp
 have hh:=h.holds i hk;rw[hr]at hh;obtain⟨a1,a2,a3,⟨a5,a6⟩,es,cl,b1,b2⟩:=hh;obtain⟨hx1,hx2⟩:=A3 (J:=J) hxl hx.1;obtain⟨q,q1,q3⟩:=pJ hwide hx2 w es.toList (perm_keys b2 hlens);have q3:=AH b2 (by rw[a5,jD,List.length_map]) a6 q3
 have hq:q=none:=by
  grind
 subst hq;have hck:=tt hwide hx2 false w;have hset:=MapKept.heap_set (w:=w) (r:=J.num i) (o':= .map (es.push {key:=j5 (kh l),val:=den J v,born:=cl}) (cl+1)) b1;refine⟨{w with heap:=w.heap.setIfInBounds (J.num i) (.map (es.push {key:=j5 (kh l),val:=den J v,born:=cl}) (cl+1))},?_,?_⟩
 ·rw[hx1];simp only[Instr.mapUpdate,den,Sem.run_bind,bG w hu,Result.andThen_ok,MapKept.run_getObj_map b1,hck,q1,MapKept.run_setObj_map _ b1]
 ·refine h.PR (b:=J.num i) hr (by simp) (by simp) a1 ⟨a1,?_,?_,⟨by simp[a5],?_⟩,_,_,hset.1,?_⟩ rfl rfl rfl (by simp) hset.2
  ·grind[ja]
  ·grind[eE]
  ·grind
  ·simp only[Array.toList_push,List.map_append,List.map_cons,List.map_nil,Bq];rw[List.zip_append (by simp[a5,jD])]
   exact List.Perm.append_right _ b2
end
def OM (n b:Nat):Prop:=n<=maxLen/\n*b<=140737488355328
def NP (C:Ctx) (res:List aK) (nid:Nat) (ts:List Nat) (xs:List V):Option (Option Prop×V×List aK):=
 match ts,xs with
 | [t,t'],[x,y]=>match x with
   | .nl (.slice none 0 0)=>match y with
     | .sa j=>match cG res j with
       | .arr _ esz l=>match C.P.underlying t with
         |some (.slice e)=>match C.Z e,C.P.info? e with
          |some z,some inf=>if t==t'&&esz==fg z&&Nat.blt 0 (fg z)then some (some (OM l.len inf.bytes),.sa nid,[.arr (some e) esz l])else none
          |_,_=>none
         |_=>none
       |_=>none
     |_=>none
   |_=>none
 |_,_=>none
def Env.gZ (J:Env) (i:Nat) (a:Option Addr) (n cap:Nat):Env:=
 {num:=J.num,cap:=fun j=>if j=i then cap else J.cap j,adr:=fun j=>if j=i then a.getD ⟨0,0,none⟩else J.adr j,sa:=fun j=>if j=i then a else J.sa j,sn:=fun j=>if j=i then n else J.sn j,ob:=J.ob}
theorem uD {N:Nat->Prop} (J:Env) {i:Nat} {a:Option Addr} {n cap:Nat} (h:¬N i):Env.bE N J (J.gZ i a n cap):=fun j hj=>by
 have e1:j≠i:=fun e=>h (e▸hj)
 simp[Env.gZ,e1]
theorem A1 {α:Type} {f:Nat->List α} {esz:Nat}:∀{n:Nat},(∀j,j<n->(f j).length=esz)->((List.range n).flatMap f).length=n*esz
 |0,_=>by simp
 |n+1,h=>by
  rw[List.range_succ,List.flatMap_append,List.length_append,A1 fun j hj=>h j (by omega)]
  simp[h n (by omega),Nat.succ_mul]
theorem LC {C:Ctx} {res:List aK} {nid:Nat} {ts:List Nat} {xs:List V} {r:V} {q:Option Prop} {new:List aK} (h:NP C res nid ts xs=some (q,r,new)):r= .sa nid/\∃o e l,new= [.arr o e l]:=by
 unfold NP at h;split at h
 ·split at h
  ·split at h
   ·grind
   ·simp at h
  ·simp at h
 ·simp at h
theorem I8 {C:Ctx} {J:Env} {fps:Nat->Nat->Prop} {res:List aK} {K:Nat->Prop} {w0 w:World} {F0:Nat->Prop} {nid ty:Nat} {ts:List Nat} {xs:List V} {r:V} {q:Option Prop} {new:List aK} (hC:C.Kr)
  (hH:bq J fps res K w0 F0 w) (h:NP C res nid ts xs=some (q,r,new)) (hq:dX q) (hn:¬K nid):
  ∃w' ρ',(Builtin.append_ ts.toArray ty (bB J xs).toArray).run C.P w= .ok (den ρ' r) w'/\n9 K J ρ' nid new w0 F0 w w':=by
 unfold NP at h;split at h
 case h_2=>simp at h
 rename_i t t' x y;split at h
 case h_2=>simp at h
 split at h
 case h_2=>simp at h
 rename_i j;split at h
 case h_2=>simp at h
 rename_i own esz l hr;split at h
 case h_2=>simp at h
 rename_i e ht;split at h
 case h_2=>simp at h
 rename_i z inf hZ hi;split at h
 case isFalse=>simp at h
 rename_i hc;simp only[aaX,aaZ,Nat.blt_eq]at hc;obtain⟨⟨rfl,rfl⟩,hsz⟩:=hc;simp only[aaV,aaW]at h;obtain⟨rfl,rfl,rfl⟩:=h;obtain⟨q1,q2⟩:=(show OM l.len inf.bytes from hq);obtain⟨i',g1,g2,g3,g4,g5⟩:=hC e z hZ;have:inf=i':=by rw[hi]at g1;exact Option.some.inj g1
 subst this;have hzs:(den Env.zero z).cells.size=fg z:=by rw[<-bg Env.zero z g3];simp[cells]
 have hcl:=fun(i:Nat) (hi:i<l.len)=>nj hH hr hi
 have hlen:∀i,i<l.len->(cells Env.zero (l.get i)).length=fg z:=fun i hi=>by rw[bg Env.zero _ (hcl i hi).1];exact(hcl i hi).2.2.1
 have hxl:l.cells.length=l.len*fg z:=A1 hlen
 have hcell:∀k u,l.cells[k]? =some u->w.cell? ((J.adr j).add k)=some u\/(J.adr j).spot≠none:=fun k u hu=>by
  by_cases hs:(J.adr j).spot=none
  ·left
   have hk:k<l.len*fg z:=by rw[<-hxl];exact(List.getElem?_eq_some_iff.1 hu).1
   have hdiv:k / fg z<l.len:=(Nat.div_lt_iff_lt_mul hsz).2 hk;have hmod:k%fg z<fg z:=Nat.mod_lt _ hsz;have hkk:k / fg z*fg z+k%fg z=k:=by rw[Nat.mul_comm];exact Nat.div_add_mod k (fg z)
   have hcc:=(hcl _ hdiv).2.2.2 _ hmod;rw[hkk]at hcc
   have:(J.adr j).add k=⟨(J.adr j).block,(J.adr j).off+k,none⟩:=by
    cases had:J.adr j with
    |mk b o s=>rw[had]at hs;simp only at hs;subst hs;rw[add_lit]
   rw[this,hcc,dV (N:=fun _=>False) (J:=Env.zero) (ρ':=J) (fun _ h=>h.elim) _ (hcl _ hdiv).1,<-uH (f:=fun i=>cells Env.zero (l.get i)) hlen hdiv hmod,hkk]
   exact hu
  ·exact .inr hs
 have hone:∀u∈l.cells,u.oneCell'=true:=fun u hu=>by
  grind[TL.cells,jq,Env.zero]
 obtain⟨fp,hh,_⟩:=hH.look hr (by simp)
 obtain⟨a1,a2,a3,a4,a5,a6,_⟩:=hh
 have main:∃ao cap w',(Builtin.append_ #[t,t] ty #[.slice none 0 0,den J (.sa j)]).run C.P w= .ok (.slice ao l.len cap) w'/\w'.ownsRow w.heap.size e (fg z) (.slice ao l.len cap) l.len l.cells/\w.grownBy w' none:=by
  cases hs:J.sa j with
  |none=>
   have h0:l.len=0:=by
    simp_all
   have hxs:l.cells= []:=List.length_eq_zero_iff.1 (by rw[hxl,h0];simp)
   refine⟨none,0,w,?_,by rw[h0,hxs];exact World.ownsRow_nil w _ e _,⟨rfl,rfl,rfl,Nat.le_refl _,fun _ _ _=>rfl⟩⟩
   simp[Builtin.append_,den,Env.sl,hs,a2,h0,bG w ht,Builtin.lenOf,Builtin.firstCells,sizeOf,typeInfo,hi]
  |some a=>
   have ha:=a4 a hs;subst ha;by_cases h0:0<l.len
   ·obtain⟨v',w',r1,r2,r3,_⟩:=run_append_own (P:=C.P) w w.heap.size t ty e inf (den Env.zero z) (fg z) inf.bytes ht hi (g2 Env.zero) g5 rfl hzs hsz (.slice none 0 0) 0 [] (World.ownsRow_nil w _ e _)
     (J.adr j) l.len (J.cap j) l.cells hxl (fun k u hu=>(hcell k u hu).resolve_right (fun h=>h (a6 h0))) hone (by simpa using q1) (by simpa using q2) (Nat.le_refl _)
    simp only[Nat.zero_add,List.nil_append]at r2;have hd:den J (.sa j)= .slice (some (J.adr j)) l.len (J.cap j):=by simp[den,Env.sl,hs,a2]
    rw[hd];rcases r2.2 with⟨_,hz0⟩|⟨g,cap,cur,hv,_⟩
    ·omega
    ·subst hv;exact⟨_,_,w',r1,r2,r3⟩
   ·have h0:l.len=0:=by omega
    have hxs:l.cells= []:=List.length_eq_zero_iff.1 (by rw[hxl,h0];simp)
    obtain⟨v',w',r1,r2,r3,r4⟩:=run_append_own (P:=C.P) w w.heap.size t ty e inf (den Env.zero z) (fg z) inf.bytes ht hi (g2 Env.zero) g5 rfl hzs hsz (.slice none 0 0) 0 [] (World.ownsRow_nil w _ e _)
     (J.adr j) 0 (J.cap j) [] (by simp) (fun k u hu=>by simp at hu) (by simp) (by simp) (by simp) (Nat.le_refl _)
    have hv:=r4.2 ⟨rfl,rfl⟩;subst hv;have hd:den J (.sa j)= .slice (some (J.adr j)) 0 (J.cap j):=by simp[den,Env.sl,hs,a2,h0]
    rw[hd,h0,hxs];exact⟨none,0,w',r1,World.ownsRow_nil w' _ e _,r3⟩
 obtain⟨ao,cap,w',r1,r2,r3⟩:=main
 have hao:∀a,ao=some a->w.heap.size<=a.block/\a.block<w'.heap.size/\a.spot=none:=fun a ha=>by
  subst ha;have:=r2.lt a.block rfl;refine⟨this.1,this.2,?_⟩;rcases r2.2 with⟨hh,_⟩|⟨g,cap',cur,hh,_⟩
  ·simp at hh
  ·simp_all
 refine⟨w',J.gZ nid ao l.len cap,?_,?_⟩
 ·simp_all[bB,den,Env.sl,Env.gZ]
 ·refine⟨(Below.refl _ _).grown r3 (Nat.le_refl _) (fun k hk=>by simp at hk),uD J (fun hf=>hf ⟨Nat.le_refl _,by simp⟩),fun _ b=>∃a,ao=some a/\b=a.block,fun k hk=>?_,fun k m b hk hl hne=>?_⟩
  ·simp only[List.length_singleton,Nat.lt_one_iff]at hk;subst hk;refine⟨⟨a1,by simp[Env.gZ],a3,fun a ha=>by simp[Env.gZ]at ha⊢;simp[ha],fun hl=>?_,fun hl=>?_,.inr ⟨e,fun e' he=>by simpa using he.symm,?_,fun a ha=>by simp[Env.gZ]at ha;exact⟨a,ha,rfl⟩⟩⟩,fun b hb=>?_⟩
   ·rcases r2.2 with⟨_,hz0⟩|⟨g,cap',cur,hh,_⟩
    ·omega
    ·simp only[Value.slice.injEq]at hh;simp[Env.gZ,hh.1]
   ·rcases r2.2 with⟨_,hz0⟩|⟨g,cap',cur,hh,_⟩
    ·omega
    ·simp only[Value.slice.injEq]at hh;simp[Env.gZ,hh.1]
   ·have:(J.gZ nid ao l.len cap).sl (nid+0)= .slice ao l.len cap:=by simp[Env.sl,Env.gZ]
    rw[this];exact⟨r2.1,r2.2.imp id fun⟨g,cp,cu,b1,b2,b3⟩=>⟨g,cp,cu,b1,Nat.zero_le _,b3⟩⟩
   ·grind
  ·simp_all
def sat (s:ByteArray) (i:Nat):UInt8:=s.data.getD i 0
def xC (b:Bytes) (lo hi:Nat):ByteArray:=⟨b.toArray.extract lo hi⟩
def sV (b:Bytes) (lo n:Nat) (s:ByteArray):Bytes:=Vector.ofFn fun(i:Fin 64)=>if lo<=i.1/\i.1<lo+n then sat s (i.1-lo)else b.at i.1
def aai (s:ByteArray) (lo hi:Nat):ByteArray:=s.extract lo hi
def Z4 (a b:ByteArray):ByteArray:=a++b
def Jx (s:ByteArray) (lo hi:Nat):Nat:=Nat.min s.size (hi-lo)
def Ks (b:Bytes) (lo hi:Nat) (s:ByteArray):Bytes:=sV b lo (Jx s lo hi) s
def EA (b:Bytes) (lo hi:Nat):Bytes:=sV b lo (hi-lo) ByteArray.empty
def JH (l:List Int):ByteArray:=⟨(l.map fun i=>UInt8.ofNat i.toNat).toArray⟩
def B8 (lo hi n:Int):Prop:=0<=lo/\lo<=hi/\hi<=n
def pSz (s:ByteArray) (j:Int):Prop:=0<=j/\j<(s.size:Int)
def aaP (a b:ByteArray):Prop:=(a.size:Int)+(b.size:Int)<=9223372036854775807
theorem yq (b:Bytes) (lo n:Nat) (s:ByteArray) (i:Nat) (h:i<64):(sV b lo n s).at i=if lo<=i/\i<lo+n then sat s (i-lo)else b.at i:=by
 unfold sV;rw[show∀v:Bytes,v.at i=v.toArray.getD i 0 from fun _=>rfl]
 simp only[Vector.toArray_ofFn,Array.getD_eq_getD_getElem?];rw[Array.getElem?_eq_getElem (by simpa using h)]
 simp[Array.getElem_ofFn]
theorem JX (b:Bytes) (lo hi:Nat):(xC b lo hi).size=min hi 64-lo:=by simp[xC,ByteArray.size]
theorem sat_empty (k:Nat):sat ByteArray.empty k=0:=by
 rfl
def vS (o:Option V) (d:Int):Option Int:=
 match o with
 |none=>some d
 |some v=>match toInt v with
  |some (_,j)=>some j
  |none=>none
def IX:V->Bool
 | .lp _ _=>true
 | .ap _ _ _ _=>true
 |_=>false
def Z5 (o:Option V):Bool:=
 match o with
 |none=>true
 |some v=>xD v
def UQ (P:Program) (t:Nat) (x:V) (lo hi:Option V):Option (Option Prop×V):=
 match P.underlying t with
 |some .string=>match x with
  | .st s=>match vS lo 0,vS hi (bN s)with
    |some a,some b=>some (some (B8 a b (bN s)),.st (aai s (pH a) (pH b)))
    |_,_=>none
  |_=>none
 |some (.array n e)=>if n==64&&IX x&&oZ P e==some 1 then match vS lo 0,vS hi 64 with
  |some a,some b=>some (some (B8 a b 64),.bs x (pH a) (pH b))
  |_,_=>none
  else if IX x&&Z5 lo&&Z5 hi then match oZ P e with
   |some z=>match vS lo 0,vS hi (n:Int)with
    |some a,some b=>if decide (0<=a)&&decide (a<=b)&&decide (b<=(n:Int))then some (none,.ks x z n a.toNat b.toNat)else none
    |_,_=>none
   |none=>none
  else none
 |_=>none
section
variable {C:Ctx} {J:Env} {fps:Nat->Nat->Prop} {res:List aK} {K:Nat->Prop} {w0 w:World} {F0:Nat->Prop}
theorem ui {P:Program} {s:Bool} {n:Nat} {lo hi:Option V} {a b:Int} (ha:vS lo 0=some a) (hb:vS hi (n:Int)=some b) (hk:(∀v,lo=some v->ok K v)/\∀v,hi=some v->ok K v) (hp:B8 a b n):
  (Instr.sliceBounds s n n (lo.map (den J)) (hi.map (den J)) none).run P w= .ok (a.toNat,b.toNat,n) w:=by
 obtain⟨h0,h1,h2⟩:=hp
 have hlo:∀(c:BoundsCode) (y:Nat),a<=y->∀v,lo=some v->(Instr.sliceBound (den J v) y c).run P w= .ok a.toNat w:=fun c y hy v hv=>by
  subst hv;unfold vS at ha;cases ht:toInt v with
  |none=>simp[ht]at ha
  |some kj=>
   obtain⟨k,j⟩:=kj;simp only[ht,aaV]at ha;subst ha;rw[(eu (J:=J) ht (hk.1 v rfl)).1];simp[Instr.sliceBound,asIntOf,h0,hy]
 have hhi:∀(c:BoundsCode),∀v,hi=some v->(Instr.sliceBound (den J v) n c).run P w= .ok b.toNat w:=fun c v hv=>by
  subst hv;unfold vS at hb;cases ht:toInt v with
  |none=>simp[ht]at hb
  |some kj=>
   obtain⟨k,j⟩:=kj;simp only[ht,aaV]at hb;subst hb;rw[(eu (J:=J) ht (hk.2 v rfl)).1];simp[Instr.sliceBound,asIntOf,show 0<=j by omega,h2]
 unfold Instr.sliceBounds;cases hhe:hi with
 |none=>
  subst hhe;have hb':b=n:=by simpa[vS]using hb.symm
  subst hb';cases hle:lo with
  |none=>subst hle;have:a=0:=by simpa[vS]using ha.symm
         subst this;simp
  |some v=>simp[hlo _ n (by omega) v hle]
 |some u=>
  have e:=hhi (if s then .sliceAcap else .sliceAlen) u hhe
  cases hle:lo with
  |none=>subst hle;have:a=0:=by simpa[vS]using ha.symm
         subst this;simp[e]
  |some v=>simp[e,hlo .sliceB b.toNat (by omega) v hle]
theorem uZ {x:V} (h:IX x=true):∃b o,den J x= .pointer (some ⟨b,o,none⟩):=by
 cases x<;>simp[IX]at h
 ·exact⟨_,_,rfl⟩
 ·exact⟨_,_,rfl⟩
theorem PJ {P:Program} {t:Nat} {x r:V} {lo hi:Option V} {q:Option Prop} (h:UQ P t x lo hi=some (q,r)) (hq:dX q) (hx:ok K x) (hl:∀v,lo=some v->ok K v) (hh:∀v,hi=some v->ok K v):
  (Instr.sliceAt t (den J x) (lo.map (den J)) (hi.map (den J)) none).run P w= .ok (den J r) w/\ok K r:=by
 unfold UQ at h;split at h
 ·rename_i hu;split at h
  ·rename_i s;split at h
   ·rename_i a b ha hb;simp only[aaV,aaW]at h;obtain⟨rfl,rfl⟩:=h;have hb':=ui (J:=J) (K:=K) (w:=w) (P:=P) (s:=false) (n:=s.size) ha hb ⟨hl,hh⟩ hq;refine⟨?_,trivial⟩;simp only[Instr.sliceAt,Instr.slice,Sem.run_bind,bG w hu,Result.andThen_ok,den,Option.isSome_none,Bool.false_eq_true,if_false];simp[hb',aai,pH]
   ·simp at h
  ·simp at h
 ·rename_i n e hu;split at h
  ·rename_i hc;simp only[aaX,aaZ]at hc;obtain⟨⟨rfl,hp⟩,hs⟩:=hc;split at h
   ·rename_i a b ha hb;simp only[aaV,aaW]at h;obtain⟨rfl,rfl⟩:=h;have hb':=ui (J:=J) (K:=K) (w:=w) (P:=P) (s:=false) (n:=64) ha hb ⟨hl,hh⟩ hq;obtain⟨g,o,hd⟩:=uZ (J:=J) hp;obtain⟨q1,q2,q3⟩:=(show B8 a b 64 from hq);refine⟨?_,hx,by unfold pH;omega,by unfold pH;omega⟩
    simp only[Instr.sliceAt,Sem.run_bind,bG w hu,Result.andThen_ok,den,hd,Instr.sureAddr,Sem.run_pure,hb',gz w hs,wZ,Nat.mul_one];by_cases e:a.toNat=64
    ·rw[aa4 e.symm,aa4 (show pH a=64 from e)];rfl
    ·rw[aa3 (Ne.symm e),aa3 (show¬pH a=64 from e)];rfl
   ·simp at h
  ·split at h
   case isFalse=>simp at h
   rename_i hc;simp only[aaX]at hc;split at h
   case h_2=>simp at h
   rename_i z hs;split at h
   case h_2=>simp at h
   rename_i a b ha hb;split at h<;>simp only[aaV,aaW,reduceCtorEq]at h
   rename_i hd;simp only[aaX,aaY]at hd;obtain⟨⟨q1,q2⟩,q3⟩:=hd;obtain⟨_,rfl⟩:=h;have hb':=ui (J:=J) (K:=K) (w:=w) (P:=P) (s:=false) (n:=n) ha hb ⟨hl,hh⟩ ⟨q1,q2,q3⟩;obtain⟨g,o,hd⟩:=uZ (J:=J) hc.1.1;refine⟨?_,hx,by omega,by omega⟩
   simp only[Instr.sliceAt,Sem.run_bind,bG w hu,Result.andThen_ok,den,hd,Instr.sureAddr,Sem.run_pure,hb',gz w hs,wS];by_cases e:a.toNat=n
   ·rw[aa4 e.symm,aa4 e]
   ·rw[aa3 (Ne.symm e),aa3 e]
 ·simp at h
def GQ (res:List aK) (p:V):Option (Option Prop×Bytes):=
 match p with
 | .lp id off=>match cG res id with
   | .blk _ c=>match iN 8 c off 64 true with
     |some r=>match r with
      | .by b=>some (none,b)
      |_=>none
     |none=>none
   |_=>none
 | .ap id esz i off=>match cG res id with
   | .arr _ esz' l=>if esz==esz' then match iN 8 (l.get i) off 64 true with
     |some r=>match r with
      | .by b=>some (some (Kq i l.len),b)
      |_=>none
     |none=>none
     else none
   |_=>none
 |_=>none
theorem EY {p:V} {q:Option Prop} {b:Bytes} (h:bq J fps res K w0 F0 w) (hb:GQ res p=some (q,b)) (hq:dX q):
  ∃g o,den J p= .pointer (some ⟨g,o,none⟩)/\∀k,k<64->w.cell? ⟨g,o+k,none⟩=(cZ b)[k]? :=by
 unfold GQ at hb;split at hb
 ·rename_i id off;split at hb
  ·rename_i ty c hc;split at hb
   ·rename_i r hg;split at hb<;>simp only[aaV,aaW,reduceCtorEq]at hb
    rename_i b';obtain⟨_,rfl⟩:=hb;obtain⟨fp,hh,_⟩:=h.look hc (by simp)
    obtain⟨h1,h2,h3,h4⟩:=hh;obtain⟨⟨P,Q,e1,rfl⟩,_⟩:=ff J 8 c off 64 true _ h1 h2 hg;refine⟨_,_,rfl,fun k hk=>?_⟩
    rw[cell_of_row w _ _ _ _ _ h4];rw[kC]at e1;simp only[List.getElem?_toArray,e1];exact jZ P _ Q k (by rw[fB];exact hk)
   ·simp at hb
  ·simp at hb
 ·rename_i id esz i off;split at hb
  ·rename_i own esz' l hc;split at hb
   ·rename_i he;have he:=aaZ.1 he;subst he;split at hb
    ·rename_i r hg;split at hb<;>simp only[aaV,aaW,reduceCtorEq]at hb
     rename_i b';obtain⟨rfl,rfl⟩:=hb;obtain⟨g1,g2,g3,g4⟩:=nj h hc hq;obtain⟨⟨P,Q,e1,e2⟩,_⟩:=ff J 8 _ off 64 true _ g1 g2 hg;have hlg:=bg J _ g1;rw[kC]at e1;refine⟨_,_,rfl,fun k hk=>?_⟩
     have hk2:off+k<esz:=by
      rw[<-g3,<-hlg,e1];simp[fB];omega
     rw[show(J.adr id).off+(i*esz+off)+k=(J.adr id).off+(i*esz+(off+k)) by omega,g4 _ hk2,e1,e2]
     exact jZ P _ Q k (by rw[fB];exact hk)
    ·simp at hb
   ·simp at hb
  ·simp at hb
 ·simp at hb
theorem zc:∀(l:List Int) (s:ByteArray),(l.foldl (fun r n=>r.push (UInt8.ofNat n.toNat)) s).data=s.data++(l.map fun i=>UInt8.ofNat i.toNat).toArray
 | [],s=>by simp
 |x::l,s=>by
  rw[List.foldl_cons,zc l];simp[ByteArray.push]
theorem Br (l:List Int):l.foldl (fun r n=>r.push (UInt8.ofNat n.toNat)) ByteArray.empty=JH l:=by
 apply ByteArray.ext
 rw[zc];simp[JH]
def cvS (P:Program) (res:List aK) (s d:Nat) (x:V):Option (Option Prop×V):=
 match P.underlying s,P.underlying d with
 |some (.slice e),some .string=>match P.underlying e with
  |some (.int k)=>if k== .u8 then match x with
   | .bs p lo hi=>match GQ res p with
     |some r=>some (r.1,.st (xC r.2 lo hi))
     |none=>none
   | .sa id=>match cG res id with
     | .arr _ esz l=>match l with
       | .it k' m=>if esz==1&&k'== .u8 then some (none,.st (JH m))else none
       |_=>none
     |_=>none
   |_=>none
   else none
  |_=>none
 |_,_=>none
theorem NV (b:Bytes) (lo hi:Nat) (h:hi<=64):JH ((List.range (hi-lo)).map fun k=>((b.at (lo+k)).toNat:Int))=xC b lo hi:=by
 apply ByteArray.ext
 unfold JH xC;apply Array.ext
 ·simp;omega
 ·intro i h1 h2;simp at h1;have:lo+i<64:=by omega
  simp[Bytes.at,Array.getD_eq_getD_getElem?,Array.getElem?_eq_getElem,this]
theorem On {P:Program} {s d:Nat} {x r:V} {q:Option Prop} (h:bq J fps res K w0 F0 w) (hl:cvS P res s d x=some (q,r)) (hq:dX q) (hx:ok K x):
  (convert s d (den J x)).run P w= .ok (den J r) w/\ok K r:=by
 unfold cvS at hl;split at hl
 case h_2=>simp at hl
 rename_i e hs hd;split at hl
 case h_2=>simp at hl
 rename_i k he;split at hl
 case isFalse=>simp at hl
 rename_i hk;have hk:=aaZ.1 hk;subst hk;split at hl
 ·rename_i p lo hi;split at hl
  case h_2=>simp at hl
  rename_i qb hb;obtain⟨q',b⟩:=qb;simp only[aaV,aaW]at hl;obtain⟨rfl,rfl⟩:=hl;obtain⟨g,o,hg,hc⟩:=EY h hb hq;obtain⟨_,h1,h2⟩:=hx;refine⟨?_,trivial⟩;simp only[den,hg,wZ];rw[run_convert_bytes_string w s d e _ _ _ hs he hd]
  have hload:(loadCells (if lo=64 then(⟨g,o,none⟩:Addr)else(⟨g,o,none⟩:Addr).add lo) (hi-lo)).run P w= .ok ((((List.range (hi-lo)).map fun k=>((b.at (lo+k)).toNat:Int)).map (Value.int .u8)).toArray) w:=by
   have:=run_loadCells_list (P:=P) w (if lo=64 then(⟨g,o,none⟩:Addr)else(⟨g,o,none⟩:Addr).add lo) (((List.range (hi-lo)).map fun k=>((b.at (lo+k)).toNat:Int)).map (Value.int .u8)) (fun j v hv=>by
    have hj:j<hi-lo:=by have:=(List.getElem?_eq_some_iff.1 hv).1;simpa using this
    rw[aa3 (by omega),add_lit,add_lit,Nat.add_assoc,hc _ (by omega),<-hv]
    simp[cZ,hj,show lo+j<64 by omega])
   simpa using this
  rw[run_bytesToString w _ _ _ _ hload,Br,NV b lo hi h2]
 ·rename_i id;split at hl
  case h_2=>simp at hl
  rename_i own esz l hr;split at hl
  case h_2=>simp at hl
  rename_i k' m;split at hl
  case isFalse=>simp at hl
  rename_i hc;simp only[aaX,aaZ]at hc;obtain⟨rfl,rfl⟩:=hc;simp only[aaV,aaW]at hl;obtain⟨_,rfl⟩:=hl;refine⟨?_,trivial⟩;obtain⟨fp,hh,_⟩:=h.look hr (by simp)
  obtain⟨a1,a2,a3,a4,a5,a6,_⟩:=hh;have hlen:(TL.it .u8 m).len=m.length:=rfl;rw[hlen]at a2 a5 a6;simp only[den];rw[run_convert_bytes_string w s d e _ _ _ hs he hd];cases hsa:J.sa id with
  |none=>
   have:m= []:=by
    simp_all
   subst this;simp[Conv.bytesToString,JH,ByteArray.empty,ByteArray.emptyWithCapacity];rfl
  |some a=>
   have ha:=a4 a hsa;subst ha
   have hload:(loadCells (J.adr id) (J.sn id)).run P w= .ok ((m.map (Value.int .u8)).toArray) w:=by
    have:=run_loadCells_list (P:=P) w (J.adr id) (m.map (Value.int .u8)) (fun j v hv=>by
     have hj:j<m.length:=by have:=(List.getElem?_eq_some_iff.1 hv).1;simpa using this
     have hsp:=a6 (by omega)
     obtain⟨_,_,_,g4⟩:=nj h hr (i:=j) hj;have g:=g4 0 (by omega)
     have:(J.adr id).add j=⟨(J.adr id).block,(J.adr id).off+j,none⟩:=by
      cases had:J.adr id with
      |mk bb oo ss=>rw[had]at hsp;simp only at hsp;subst hsp;rw[add_lit]
     rw[this,<-hv];simp only[Nat.mul_one,Nat.add_zero]at g;rw[g];simp[TL.get,cells,den,Value.cells,aj,hj])
    simpa[a2]using this
   rw[run_bytesToString w _ _ _ _ hload,Br]
 ·simp at hl
theorem BF {P:Program} {id ty off lo n:Nat} {c c':V} {b b':Bytes} {xs:List Value} (h:bq J fps res K w0 F0 w) (hr:ay res id= .blk ty c) (hg:iN 8 c off 64 true=some (.by b)) (hs:setAt 8 c off (.by b')=some c')
  (hlo:lo+n<=64) (hx:xs.length=n) (hb:cZ b'=(cZ b).take lo++xs++(cZ b).drop (lo+n)) (h1:∀v∈xs,v.oneCell'=true):
  ∃w',(storeCells ⟨J.num id,off+lo,none⟩ xs).run P w= .ok () w'/\bq J fps (bO res id (.blk ty c')) K w0 F0 w'/\∀i,known (bO res id (.blk ty c')) i↔known res i:=by
 have hk:known res id:=by unfold known;rw[hr];simp
 have hh:=h.holds id hk;rw[hr]at hh;obtain⟨k1,k2,k3,k4⟩:=hh;obtain⟨⟨p,q,e1,e2⟩,_⟩:=ff J 8 c off 64 true _ k1 k2 hg;obtain⟨⟨p',m,q',f1,f2,f3,f4⟩,_,f6,f7⟩:=iz J (.by b') (N:=K) trivial rfl 8 c off c' k1 k2 hs
 rw[kC]at e1 f2;have hbl:=fB b;obtain⟨rfl,rfl,rfl⟩:=lB (f1.symm.trans e1) (by omega) (by rw[f4,hbl];rfl)
 have hcl:(cells J c).length=p'.length+64+q'.length:=by rw[e1];simp[hbl];omega
 have hst:=run_storeCells_at (P:=P) (J.num id) (off+lo) ty xs 0 (cells J c).toArray w k4 (by simp only[List.size_toArray];omega) h1
 have hrow:(cells J c).take (off+lo)++xs++(cells J c).drop (off+lo+xs.length)=cells J c':=by
  rw[f2,hb,e1,<-f3,hx]
  have t1:(p'++cZ b++q').take (p'.length+lo)=p'++(cZ b).take lo:=by
   rw[List.append_assoc,List.take_append,List.take_of_length_le (by omega)]
   rw[show p'.length+lo-p'.length=lo by omega,List.take_append_of_le_length (by omega)]
  have t2:(p'++cZ b++q').drop (p'.length+lo+n)=(cZ b).drop (lo+n)++q':=by
   rw[List.append_assoc,List.drop_append,List.drop_of_length_le (by omega)]
   rw[show p'.length+lo+n-p'.length=lo+n by omega,List.drop_append_of_le_length (by omega)]
   rfl
  rw[t1,t2];simp
 refine⟨w.setRow (J.num id) (cells J c').toArray,?_,?_,fun i=>?_⟩
 ·simp only[Nat.add_zero]at hst;rw[hst,hrow]
 ·exact h.write hr f6 f7 rfl rfl rfl (by simp[World.setRow]) (setRow_heap w _ _ _ _ (0,0) k4) fun b hb=>setRow_other w _ _ b hb
 ·grind[known,bJ,aO]
theorem wW (b:Bytes) (lo n:Nat) (s:ByteArray) (h:lo+n<=64):cZ (sV b lo n s)=(cZ b).take lo++(List.range n).map (fun k=>Value.int .u8 ((sat s k).toNat:Int))++(cZ b).drop (lo+n):=by
 apply List.ext_getElem?
 intro i;have hbl:=fB b;by_cases hi:i<64
 ·have hl:∀b:Bytes,(cZ b)[i]? =some (.int .u8 ((b.at i).toNat:Int)):=fun b=>by simp[cZ,hi]
  rw[hl,yq _ _ _ _ _ hi,List.append_assoc];by_cases h1:i<lo
  ·grind
  ·grind
 ·grind[fB]
def cpV (C:Ctx) (res:List aK) (ts:List Nat) (xs:List V):Option (V×List aK):=
 match ts,xs with
 | [t,_],[d,s]=>match C.P.underlying t with
   |some (.slice e)=>if oZ C.P e==some 1 then match d with
    | .bs p lo hi=>match p with
      | .lp id off=>match s with
        | .st z=>match ay res id with
          | .blk ty c=>match iN 8 c off 64 true with
            |some r=>match r with
             | .by b=>match setAt 8 c off (.by (Ks b lo hi z))with
               |some c'=>some (.it .i64 (bD (Jx z lo hi)),bO res id (.blk ty c'))
               |none=>none
             |_=>none
            |none=>none
          |_=>none
        |_=>none
      |_=>none
    |_=>none
    else none
   |_=>none
 |_,_=>none
theorem OH {ts:List Nat} {xs:List V} {ty:Nat} {r:V} {res':List aK} (h:bq J fps res K w0 F0 w) (hl:cpV C res ts xs=some (r,res')) (hx:fM K xs):
  ∃w',(Builtin.copy_ ts.toArray ty (bB J xs).toArray).run C.P w= .ok (den J r) w'/\bq J fps res' K w0 F0 w'/\(∀i,known res' i↔known res i)/\ok K r:=by
 unfold cpV at hl;split at hl
 case h_2=>simp at hl
 rename_i t t' d s;split at hl
 case h_2=>simp at hl
 rename_i e ht;split at hl
 case isFalse=>simp at hl
 rename_i hs;have hs:=aaZ.1 hs;split at hl
 case h_2=>simp at hl
 rename_i p lo hi;split at hl
 case h_2=>simp at hl
 rename_i id off;split at hl
 case h_2=>simp at hl
 rename_i z;split at hl
 case h_2=>simp at hl
 rename_i ty' c hr;split at hl
 case h_2=>simp at hl
 rename_i rb hg;split at hl
 case h_2=>simp at hl
 rename_i b;split at hl
 case h_2=>simp at hl
 rename_i c' hset;simp only[aaV,aaW]at hl;obtain⟨rfl,rfl⟩:=hl;obtain⟨⟨_,h1,h2⟩,_⟩:=hx;have hn:Jx z lo hi<=hi-lo:=Nat.min_le_right _ _;have hnz:Jx z lo hi<=z.size:=Nat.min_le_left _ _
 obtain⟨w',e1,e2,e3⟩:=BF (P:=C.P) (n:=Jx z lo hi) (xs:=(List.range (Jx z lo hi)).map fun k=>Value.int .u8 ((sat z k).toNat:Int)) h hr hg hset (by omega) (by simp) (wW b lo _ z (by omega)) (fun v hv=>by
  simp only[List.mem_map]at hv;obtain⟨_,_,rfl⟩:=hv;rfl)
 refine⟨w',?_,e2,e3,by simp only[ok,bY,bD];omega⟩
 have hcells:((z.extract 0 (Jx z lo hi)).data.map fun b=>Value.int .u8 (b.toNat:Int)).toList=(List.range (Jx z lo hi)).map fun k=>Value.int .u8 ((sat z k).toNat:Int):=by
  apply List.ext_getElem?
  intro i;by_cases hi:i<Jx z lo hi
  ·have:i<z.data.size:=Nat.lt_of_lt_of_le hi hnz;simp[sat,hi,ByteArray.data_extract,Array.getElem?_extract,this,Array.getElem?_eq_getElem this]
  ·simp_all
 have hcells2:=congrArg List.toArray hcells;simp only[Array.toArray_toList]at hcells2;have hsz:C.P.info? e=none\/∃inf,C.P.info? e=some inf:=by cases C.P.info? e<;>simp
 have hdst:∀xs:List Value,xs=(List.range (Jx z lo hi)).map (fun k=>Value.int .u8 ((sat z k).toNat:Int))->(storeCells (if lo=64 then(⟨J.num id,off,none⟩:Addr)else(⟨J.num id,off,none⟩:Addr).add lo) xs).run C.P w= .ok () w':=fun xs hxs=>by
  subst hxs;by_cases e:lo=64
  ·have h0:Jx z lo hi=0:=by omega
   rw[h0]at e1⊢;simp only[List.range_zero,List.map_nil,storeCells]at e1⊢;exact e1
  ·rw[aa3 e,add_lit];exact e1
 simp only[bB,den,wZ,Builtin.copy_,List.size_toArray,List.getElem?_toArray];simp only[List.getElem?_cons_zero,List.getElem?_cons_succ,Sem.run_bind,bG w ht,Result.andThen_ok,Builtin.lenOf,Sem.run_pure,gz w hs,Builtin.firstCells];rw[show Nat.min z.size (hi-lo)=Jx z lo hi from rfl,hcells2];simp only[Sem.run_bind,Result.andThen_ok,hdst _ rfl,Sem.run_pure,goInt,bD]
def VQ (C:Ctx) (res:List aK) (ts:List Nat) (xs:List V):Option (List aK):=
 match ts,xs with
 | [t],[d]=>match C.P.underlying t with
   |some (.slice e)=>match C.Z e with
    |some z=>match toByte z with
     |some y=>if y==0 then match d with
      | .bs p lo hi=>match p with
        | .lp id off=>match ay res id with
          | .blk ty c=>match iN 8 c off 64 true with
            |some r=>match r with
             | .by b=>match setAt 8 c off (.by (EA b lo hi))with
               |some c'=>some (bO res id (.blk ty c'))
               |none=>none
             |_=>none
            |none=>none
          |_=>none
        |_=>none
      |_=>none
      else none
     |none=>none
    |none=>none
   |_=>none
 |_,_=>none
theorem Ki {ts:List Nat} {xs:List V} {ty:Nat} {res':List aK} (hC:C.Kr) (h:bq J fps res K w0 F0 w) (hl:VQ C res ts xs=some res') (hx:fM K xs):
  ∃w',(Builtin.clear_ ts.toArray ty (bB J xs).toArray).run C.P w= .ok (.tuple #[]) w'/\bq J fps res' K w0 F0 w'/\(∀i,known res' i↔known res i):=by
 unfold VQ at hl;split at hl
 case h_2=>simp at hl
 rename_i t d;split at hl
 case h_2=>simp at hl
 rename_i e ht;split at hl
 case h_2=>simp at hl
 rename_i zv hz;split at hl
 case h_2=>simp at hl
 rename_i y hy;split at hl
 case isFalse=>simp at hl
 rename_i hy0;have hy0:=aaZ.1 hy0;subst hy0;split at hl
 case h_2=>simp at hl
 rename_i p lo hi;split at hl
 case h_2=>simp at hl
 rename_i id off;split at hl
 case h_2=>simp at hl
 rename_i ty' c hr;split at hl
 case h_2=>simp at hl
 rename_i rb hg;split at hl
 case h_2=>simp at hl
 rename_i b;split at hl
 case h_2=>simp at hl
 rename_i c' hset;simp only[aaV]at hl;subst hl;obtain⟨⟨_,h1,h2⟩,_⟩:=hx
 obtain⟨w',e1,e2,e3⟩:=BF (P:=C.P) (n:=hi-lo) (xs:=(List.range (hi-lo)).map fun k=>Value.int .u8 ((sat ByteArray.empty k).toNat:Int)) h hr hg hset (by omega) (by simp) (wW b lo _ _ (by omega)) (fun v hv=>by
  simp only[List.mem_map]at hv;obtain⟨_,_,rfl⟩:=hv;rfl)
 refine⟨w',?_,e2,e3⟩;have hs0:=sat_empty;obtain⟨inf,g1,g2,g3,g4,g5⟩:=hC e zv hz
 have hzc:(den J zv).cells= #[.int .u8 0]:=by
  have:=(rQ J hy).1;simp only[cells]at this;apply Array.ext'
  simpa using this
 by_cases hz0:hi-lo=0
 ·rw[hz0]at e1;simp only[List.range_zero,List.map_nil,storeCells,Sem.run_pure,Result.ok.injEq,true_and]at e1;subst e1;simp[bB,den,wZ,Builtin.clear_,bG w ht,hz0]
 ·have hz1:hi-lo=(hi-lo-1)+1:=by omega
  have hdst:(storeCells (if lo=64 then(⟨J.num id,off,none⟩:Addr)else(⟨J.num id,off,none⟩:Addr).add lo) (Builtin.zeroCells #[.int .u8 0] (hi-lo)).toList).run C.P w= .ok () w':=by
   rw[aa3 (by omega),add_lit,<-e1]
   congr 1
   congr 1
   unfold Builtin.zeroCells;apply List.ext_getElem?
   intro i;simp only[hs0];by_cases hi':i<hi-lo
   ·simp[hi',Nat.mod_one]
   ·simp[hi']
  rw[hz1]at hdst
  have hzero:(zeroValue e).run C.P w= .ok (den J zv) w:=by
   simp[zeroValue,typeInfo,g1,g2 J]
  simp only[bB,den,wZ,Builtin.clear_,List.getElem?_toArray,List.getElem?_cons_zero,Sem.run_bind,bG w ht,Result.andThen_ok];rw[hz1];simp[hzero,hzc,hdst]
end
abbrev RR:=Option (Option Prop×V×List aK)
def iP (P:Program) (f:Nat):Bool:=
 match P.funcs[f]? with
 |some fn=>fn.name != "runtime.NumGoroutine" &&fn.body.isSome
 |none=>false
def UO (C:Ctx) (res:List aK) (nid:Nat) (fv:V) (args:List V):RR:=
 match fv with
 | .fn f caps=>match C.Γ f with
   |some g=>if Nat.blt f 2000 then(if iP C.P f then g res nid (args++caps)else none)else none
   |none=>none
 |_=>none
def Vs (P:Program) (res:List aK) (t:Nat) (x:V):Option (Option Prop×V):=
 match P.underlying t with
 |some .string=>match x with
  | .st s=>some (some (aF .i64 (bN s)),.it .i64 (bN s))
  |_=>none
 |some (.slice _)=>match x with
  | .sa id=>match cG res id with
    | .arr _ _ l=>some (none,.it .i64 (bD l.len))
    | .obs _ _ L=>some (none,.it .i64 (bD (ai L)))
    |_=>none
  | .sc _ len _=>if bY .i64 (len:Int)then some (none,.ci .i64 (len:Int))else none
  | .ks x _ _ lo hi=>if IX x&&bY .i64 ((hi-lo:Nat):Int)then some (none,.ci .i64 ((hi-lo:Nat):Int))else none
  | .nl (.slice none 0 0)=>some (none,.ci .i64 0)
  |_=>none
 |some (.array n _)=>if bY .i64 (n:Int)then some (none,.ci .i64 (n:Int))else none
 |_=>none
def Ye (x y:V):Option V:=
 match toInt x,toInt y with
 |some (k,a),some (k',b)=>if k==k' then some (.it k (lP a b))else none
 |_,_=>none
def Wu (x y:V):Option V:=
 match toInt x,toInt y with
 |some (k,a),some (k',b)=>if k==k' then some (.it k (imax a b))else none
 |_,_=>none
def z0 (C:Ctx) (res:List aK) (b:Builtin) (ts:List Nat) (xs:List V):Option (Option Prop×V):=
 match b,ts,xs with
 | .len,t::_,[x]=>Vs C.P res t x
 | .min,_,[x,y]=>(Ye x y).map fun r=>(none,r)
 | .max,_,[x,y]=>(Wu x y).map fun r=>(none,r)
 |_,_,_=>none
def Hc (c a b:V):Option V:=
 match toBool c,toBool a,toBool b with
 |some x,some y,some z=>
  if QM c then some (if x then a else b)
  else match a,b with
   | .cb true,_=>some (.bo (YK x z))
   | .cb false,_=>some (.bo (Vb (QB x) z))
   |_,.cb false=>some (.bo (Vb x y))
   |_,.cb true=>some (.bo (YK (QB x) y))
   |_,_=>some (.bo (Zw x y z))
 |_,_,_=>none
theorem GC {c a b r:V} (h:Hc c a b=some r):∃x y z,toBool c=some x/\toBool a=some y/\toBool b=some z/\toBool r=some (if x then y else z):=by
 unfold Hc at h;split at h
 ·rename_i x y z hc ha hb;refine⟨x,y,z,hc,ha,hb,?_⟩;split at h
  ·grind
  ·grind[toBool,Vb,YK,QB,Zw]
 ·simp at h
def Sb (v:V) (b:Bool):V:=
 match v with
 | .cb true=> .cb false
 | .cb false=> .cb true
 |_=> .bo (QB b)
theorem JU {v:V} {b:Bool} (h:toBool v=some b):toBool (Sb v b)=some (!b):=by
 cases v<;>simp[toBool]at h<;>subst h
 ·rename_i b;cases b<;>rfl
 ·rfl
def isStr (P:Program) (t:Nat) (x i:V):Option (Option Prop×V):=
 match P.underlying t,x,toInt i with
 |some .string,.st s,some (_,j)=>some (some (pSz s j),.bt (sat s (pH j)))
 |_,_,_=>none
theorem Gk {P:Program} {J:Env} {K:Nat->Prop} {w:World} {t:Nat} {x i r:V} {q:Option Prop} (h:isStr P t x i=some (q,r)) (hq:dX q) (hi:ok K i):(Instr.index t (den J x) (den J i)).run P w= .ok (den J r) w/\ok K r:=by
 unfold isStr at h;split at h<;>simp only[aaV,aaW,reduceCtorEq]at h
 rename_i s k j hu hj;obtain⟨rfl,rfl⟩:=h;obtain⟨h0,h1⟩:=(show pSz s j from hq);refine⟨?_,trivial⟩;rw[(eu (J:=J) hj hi).1];have hlt:j.toNat<s.size:=by omega
 have hg:s[j.toNat]? =some (sat s j.toNat):=by
  have hd:j.toNat<s.data.size:=hlt;rw[getElem?_pos s j.toNat hlt];congr 1
  unfold sat;rw[Array.getD_eq_getD_getElem?,Array.getElem?_eq_getElem hd];rfl
 simp only[Instr.index,asIntOf,Sem.run_bind,Sem.run_pure,Result.andThen_ok,bG w hu,den,h0,if_true,hg,pH]
def T5 (op:BinOp) (x y:V):Option (Option Prop×V):=
 match op,x,y with
 | .add,.st a,.st b=>some (some (aaP a b),.st (Z4 a b))
 |_,_,_=>none
theorem Jz {P:Program} {J:Env} {K:Nat->Prop} {op:BinOp} {t:Nat} {x y r:V} {q:Option Prop} (w:World) (o1 o2:Operand) (h:T5 op x y=some (q,r)) (hq:dX q):
  (do eqGuard op t o1 o2 (den J x) (den J y);binOp op t (den J x) (den J y)).run P w= .ok (den J r) w/\ok K r:=by
 unfold T5 at h;split at h<;>simp only[aaV,aaW,reduceCtorEq]at h
 rename_i a b;obtain⟨rfl,rfl⟩:=h;have hq:(a.size:Int)+(b.size:Int)<=9223372036854775807:=hq;have hm:IntKind.i64.max=9223372036854775807:=rfl;refine⟨?_,trivial⟩;simp[eqGuard,binOp,Op.stringOp,den,Z4,hm];omega
def vo (sl:List S) (ch:List (Nat×Bool)) (ps:List (Nat×Operand)):Option (List (Nat×V)):=
 allM (fun p:Nat×Operand=>(fm sl ch p.2).map fun v=>(p.1,v)) ps
def Ck (C:Ctx) (sl:List S) (res:List aK) (nid:Nat) (ch:List (Nat×Bool)):Op->RR
 | .move x=>(fm sl ch x).map fun v=>(none,v,[])
 | .assign x=>(fm sl ch x).map fun v=>(none,v,[])
 | .pick c a b=>match c with
   | .tmp s=>match fm sl ch c with
     |some (.cb x)=>if x then(fm sl ch a).map fun v=>(none,v,[])else(fm sl ch b).map fun v=>(none,v,[])
     |some cv=>match fm sl ((s,true)::ch) a,fm sl ((s,false)::ch) b with
      |some av,some bv=>(Hc cv av bv).map fun v=>(none,v,[])
      |_,_=>none
     |none=>none
   |_=>none
 | .box t x=>match fm sl ch x with
   |some v=>if cV v then none else some (none,.lp nid 0,[.blk t v])
   |none=>none
 | .alloc t=>match C.Z t with
   |some z=>some (none,.lp nid 0,[.blk t z])
   |none=>none
 | .makeSlice t x y=>match fm sl ch x,fm sl ch y with
   |some a,some b=>Fw C nid t a b
   |_,_=>none
 | .makeInterface t x=>match fm sl ch x,C.P.underlying t with
   |some v,some d=>match d with
    | .interface _=>none
    |_=>some (none,.ic t v,[])
   |_,_=>none
 | .makeMap t r=>match r with
   |none=>match C.P.underlying t with
    |some (.map kt _)=>match C.P.underlying kt with
     |some (.int kd)=>some (none,.mp nid,[.mp kd [] []])
     |some (.struct _)=>some (none,.mp nid,[.mq [] []])
     |_=>none
    |_=>none
   |some _=>none
 | .lookup t m x two=>match fm sl ch m,fm sl ch x with
   |some mv,some xv=>match Lc C res t mv xv two with
    |some y=>some (none,y,[])
    |none=>match MW C res t mv xv two with
     |some y=>some (none,y,[])
     |none=>none
   |_,_=>none
 | .load t x=>match fm sl ch x with
   |some p=>(za C res t p).map fun r=>(r.1,r.2,[])
   |none=>none
 | .fieldAddr t x f=>match fm sl ch x with
   |some p=>(faV C.P t p f).map fun r=>(none,r,[])
   |none=>none
 | .field t x f=>match fm sl ch x with
   |some p=>(fdV C.P t p f).map fun r=>(none,r,[])
   |none=>none
 | .indexAddr t x i=>match fm sl ch x,fm sl ch i with
   |some p,some j=>(iaV C.P res t p j).map fun r=>(r.1,r.2,[])
   |_,_=>none
 | .index t x i=>match fm sl ch x,fm sl ch i with
   |some p,some j=>match ixV C.P t p j with
    |some r=>some (r.1,r.2,[])
    |none=>(isStr C.P t p j).map fun r=>(r.1,r.2,[])
   |_,_=>none
 | .slice t x lo hi mx=>match fm sl ch x,lo.map (fm sl ch),hi.map (fm sl ch),mx with
   |some p,none,none,none=>(UQ C.P t p none none).map fun r=>(r.1,r.2,[])
   |some p,some (some a),none,none=>(UQ C.P t p (some a) none).map fun r=>(r.1,r.2,[])
   |some p,none,some (some b),none=>(UQ C.P t p none (some b)).map fun r=>(r.1,r.2,[])
   |some p,some (some a),some (some b),none=>(UQ C.P t p (some a) (some b)).map fun r=>(r.1,r.2,[])
   |_,_,_,_=>none
 | .nilCheck x=>match fm sl ch x with
   |some (.lp i o)=>some (none,.lp i o,[])
   |some (.lx a b c d e f)=>some (none,.lx a b c d e f,[])
   |some (.ap a b c d)=>some (none,.ap a b c d,[])
   |some (.ax a b c d e f g h)=>some (none,.ax a b c d e f g h,[])
   |some (.op a b)=>some (none,.op a b,[])
   |some (.fn f l)=>some (none,.fn f l,[])
   |_=>none
 | .binOp op t x y _=>match fm sl ch x,fm sl ch y with
   |some a,some b=>match SF C.P op t a b with
    |some r=>some (r.1,r.2,[])
    |none=>(T5 op a b).map fun r=>(r.1,r.2,[])
   |_,_=>none
 | .unOp .not _ x=>match fm sl ch x with
   |some v=>match toBool v with
    |some b=>some (none,Sb v b,[])
    |none=>none
   |none=>none
 | .unOp .neg _ x=>match fm sl ch x with
   |some v=>match toInt v with
    |some (k,n)=>if xD v then(if bY k (0-n)then some (none,.ci k (0-n),[])else none)else some (some (aF k (sW 0 n)),.it k (sW 0 n),[])
    |none=>none
   |none=>none
 | .convert s d x=>match fm sl ch x with
   |some v=>match cvV C.P s d v with
    |some r=>some (r.1,r.2,[])
    |none=>(cvS C.P res s d v).map fun r=>(r.1,r.2,[])
   |none=>none
 | .extract x i=>match fm sl ch x with
   |some (.tp l)=>(l[i]?).map fun v=>(none,v,[])
   |_=>none
 | .makeFunc (.func f) first caps=>if first.isEmpty then(if Nat.blt f 2000 then(mT sl ch caps.toList).map fun l=>(none,.fn f l,[])else none)else if caps.isEmpty then(mT sl ch first.toList).map fun l=>(none,.fn (f+2000) l,[])else none
 | .build t ps=>match vo sl ch ps.toList with
   |some l=>(CG C t l).map fun r=>(none,r,[])
   |none=>none
 | .buildSlice t n ps=>match vo sl ch ps.toList with
   |some l=>(ZM C t n l nid).map fun r=>(none,r.1,r.2)
   |none=>none
 | .call c=>match c.callee with
   | .value f=>match fm sl ch f,mT sl ch c.args.toList with
     |some fv,some vs=>UO C res nid fv vs
     |_,_=>none
   | .builtin b=>match mT sl ch c.args.toList with
     |some vs=>match b with
      | .append=>NP C res nid c.argTypes.toList vs
      |b=>(z0 C res b c.argTypes.toList vs).map fun r=>(r.1,r.2,[])
     |none=>none
   | .invoke _ _=>none
 |_=>none
def FF (P:Program) (ro:Option Nat):Fence:= {fn:=fun f=>(P.funcs[f]?).isSome=true,depth:=none,alive:=false,round:=ro}
theorem oF (P:Program) (ro:Option Nat) (n:Nat):(FF P ro).room n:=fun _ h=>by simp[FF]at h
theorem Ag {P:Program} {ro ro':Option Nat} {n n' f:Nat} {args:Array Value} {w:World} {R:Ending->World->Prop} (h:CallsIn (FF P ro) n P f args w R):CallsIn (FF P ro') n' P f args w R:=
 ⟨h.1,fun cs _=>h.2 cs (oF P ro _)⟩
theorem Yc {P:Program} {ro:Option Nat} {n f:Nat} {args:Array Value} {w:World} {R:Ending->World->Prop} (h:CallsIn (FF P ro) n P f args w R):Calls P f args w R:=h.calls (fun k=>oF P ro k)
def eI (o:Oper):Prop:=∀c,o.op≠ .defer c
def exB (P:Program) (f:Nat):Bool:=(P.funcs[f]?).isSome
def Xl (P:Program):V->Bool
 | .fn g _=>exB P (FA g)
 | .ch _ g _ y=>exB P (FA g)&&Xl P y
 | .yl _=>true
 | .nl v=>match v with
   | .nilFunc=>true
   |_=>false
 |_=>false
def abB (P:Program) (sl:List S) (o:Oper):Bool:=
 match o.op with
 | .call c=>match c.callee with
   | .builtin _=>true
   | .invoke _ _=>false
   | .value f=>match f with
     | .func g=>exB P g
     | .tmp t=>match b9 sl t with
       | .v x=>Xl P x
       | .gv _ x=>Xl P x
       | .ud=>true
       |_=>false
     |_=>false
 |_=>true
theorem AM {P:Program} {g:Nat} {l:List Value} (h:exB P (FA g)=true) {args:Array Value} {w w':World} {d:Deferred} (hd:(Deferred.ofValue (FC g l) args).run P w= .ok d w') {f:Nat} (hf:d.target.leads P w' d.args=some f):(P.funcs[f]?).isSome=true:=by
 unfold FC at hd;unfold FA at h;split at hd<;>rename_i hc<;>simp only[hc,if_true,Bool.false_eq_true,if_false]at h<;>simp only[Deferred.ofValue,Sem.run_pure,Result.ok.injEq]at hd<;>obtain⟨rfl,rfl⟩:=hd<;>simp only[Target.leads,aaV]at hf<;>subst hf<;>exact h
theorem Ae {P:Program} {J:Env}:∀(x:V),Xl P x=true->∀args w d w',(Deferred.ofValue (den J x) args).run P w= .ok d w'->∀f,d.target.leads P w' d.args=some f->(P.funcs[f]?).isSome=true
 | .fn g l,h,args,w,d,w',hd,f,hf=>AM h hd hf
 | .ch b g l y,h,args,w,d,w',hd,f,hf=>by
   simp only[Xl,aaX]at h;cases b
   ·simp only[den]at hd;exact Ae y h.2 args w d w' hd f hf
   ·exact AM h.1 hd hf
 | .yl id,h,args,w,d,w',hd,f,hf=>by
   simp only[den,Deferred.ofValue,Sem.run_pure,Result.ok.injEq]at hd;obtain⟨rfl,rfl⟩:=hd;simp[Target.leads]at hf
 | .nl v,h,args,w,d,w',hd,f,hf=>by
   cases v<;>simp only[Xl,Bool.false_eq_true]at h
   simp only[den,Deferred.ofValue,Sem.run_pure,Result.ok.injEq]at hd;obtain⟨rfl,rfl⟩:=hd;simp[Target.leads]at hf
 | .cb _,h,_,_,_,_,_,_,_| .bo _,h,_,_,_,_,_,_,_| .ci _ _,h,_,_,_,_,_,_,_| .it _ _,h,_,_,_,_,_,_,_| .bt _,h,_,_,_,_,_,_,_| .st _,h,_,_,_,_,_,_,_
 | .lp _ _,h,_,_,_,_,_,_,_| .lx _ _ _ _ _ _,h,_,_,_,_,_,_,_| .sc _ _ _,h,_,_,_,_,_,_,_| .so _ _,h,_,_,_,_,_,_,_| .ap _ _ _ _,h,_,_,_,_,_,_,_| .sa _,h,_,_,_,_,_,_,_
 | .op _ _,h,_,_,_,_,_,_,_| .ic _ _,h,_,_,_,_,_,_,_| .ag _,h,_,_,_,_,_,_,_| .tp _,h,_,_,_,_,_,_,_| .key _,h,_,_,_,_,_,_,_| .sl _,h,_,_,_,_,_,_,_| .by _,h,_,_,_,_,_,_,_
 | .ob _,h,_,_,_,_,_,_,_| .mp _,h,_,_,_,_,_,_,_| .ax _ _ _ _ _ _ _ _,h,_,_,_,_,_,_,_| .bs _ _ _,h,_,_,_,_,_,_,_| .ks _ _ _ _ _,h,_,_,_,_,_,_,_=>by simp[Xl]at h
theorem Fx {P:Program} {J:Env} {K:Nat->Prop} {sl:List S} {a:Act} {o:Oper} (hF:jo J K sl a) (h:abB P sl o=true) (w:World):∀f,o.about P w a.eval=some f->(P.funcs[f]?).isSome=true:=by
 intro f hf;have hund:∀args w1 d w',(Deferred.ofValue undef args).run P w1= .ok d w'->False:=fun args w1 d w' hd=>by simp[Deferred.ofValue,undef]at hd
 unfold Oper.about at hf;unfold abB at h;split at hf
 ·rename_i c hc;rw[hc]at h;simp only at h;split at hf
  ·rename_i d w' hd;unfold resolve at hd;split at h
   ·rename_i b hb;rw[hb]at hd;simp only[Sem.run_pure,Result.ok.injEq]at hd;obtain⟨rfl,rfl⟩:=hd;simp[Target.leads]at hf
   ·simp at h
   ·rename_i g hg;rw[hg]at hd;simp only at hd;split at h
    ·rename_i k;simp only[Act.eval,Deferred.ofValue,Sem.run_pure,Result.ok.injEq]at hd;obtain⟨rfl,rfl⟩:=hd;simp only[Target.leads,aaV]at hf;subst hf;exact h
    ·rename_i t;have hs:=hF.2 t;have he:a.eval (.tmp t)=a.tmps.getD t undef:=rfl;rw[he]at hd;split at h
     ·rename_i x hx;rw[hx]at hs;rw[hs.1]at hd;exact Ae x h _ _ _ _ hd f hf
     ·rename_i ch x hx;rw[hx]at hs;cases hgo:mQ sl ch with
      |true=>rw[(hs.1 hgo).1]at hd;exact Ae x h _ _ _ _ hd f hf
      |false=>rw[hs.2 hgo]at hd;exact(hund _ _ _ _ hd).elim
     ·rename_i hx;rw[hx]at hs;rw[show a.tmps.getD t undef=undef from hs]at hd;exact(hund _ _ _ _ hd).elim
     ·simp at h
    ·simp at h
  ·simp at hf
 ·simp at hf
theorem eT {P:Program} {ro:Option Nat} {o:Oper} {a:Act} {w:World} {next:Act->World->Prop} {Q:Exit->Act->World->Prop} (hd:ro≠none->eI o) (hab:∀f,o.about P w a.eval=some f->(P.funcs[f]?).isSome=true)
  (h:o.uponIn (FF P ro) 0 P a next Q ((execOp a.eval o).run P w)):o.wpIn (FF P ro) 0 P a w next Q:=by
 refine⟨hab,?_⟩
 have hs:o.semAt (FF P ro).round a.eval=execOp a.eval o:=by
  show o.semAt ro a.eval=_
  cases ro with
  |none=>exact Oper.semAt_none _ _
  |some l=>exact Oper.semAt_some l _ o (hd (by simp))
 rw[hs];exact h
def Yields (P:Program) (o:Oper) (a:Act) (w:World) (R:Value->World->Prop):Prop:=
 (∃v w',(execOp a.eval o).run P w= .ok (.value v) w'/\R v w')\/
 ∃f args,(execOp a.eval o).run P w= .ok (.enter f args) w/\CallsIn (FF P none) 0 P f args w fun e w'=>∃v,e= .returned v/\R v w'
theorem Yields.wp {P:Program} {o:Oper} {a:Act} {w:World} {R:Value->World->Prop} {next:Act->World->Prop} {Q:Exit->Act->World->Prop} (h:Yields P o a w R)
  {ro:Option Nat} (hn:∀v w',R v w'->next (a.put o.dst v) w'):o.uponIn (FF P ro) 0 P a next Q ((execOp a.eval o).run P w):=by
 rcases h with⟨v,w',h1,h2⟩|⟨f,args,h1,h2⟩
 ·rw[h1];exact hn v w' h2
 ·rw[h1];refine⟨fun h=>by simp[FF]at h,CallsIn.mono (Ag h2) fun e w' ⟨v,he,hr⟩=>?_⟩
  subst he;exact hn v w' hr
def qY (K:Nat->Prop) (J:Env) (nid:Nat) (x:V) (new:List aK) (w0:World) (F0:Nat->Prop) (w:World) (v:Value) (w':World):Prop:=
 ∃ρ',n9 K J ρ' nid new w0 F0 w w'/\v=den ρ' x/\ok (fun i=>K i\/fresh nid new.length i) x
def uz (P:Program) (f ts te:Nat):Prop:=
 (∀p w,CallsDIn (FF P none) 0 P f #[p] .returning w fun e u' w'=>(∃v,e= .returned v)/\u'= .returning/\w'=w)/\
 ∀b off ty cs cs' k n w,w.heap[b]? =some (.cells cs ty (0,0))->(∀w1:World,w1.heap[b]? =some (.cells cs ty (0,0))->(Instr.storeAt te (.pointer (some ⟨b,off,none⟩)) (.int k n)).run P w1= .ok () (w1.setRow b cs'))->
  CallsDIn (FF P none) 0 P f #[.pointer (some ⟨b,off,none⟩)] (.panicking [{v:= .iface ts (.agg #[.int k n]),recovered:=false}]) w fun e u' w''=>
   (∃v,e= .returned v)/\u'= .panicking [{v:= .iface ts (.agg #[.int k n]),recovered:=true}]/\Below w.heap.size (w.setRow b cs') w''
def US (n:Int):V:= .ag [.it .i64 n,.st ⟨#[]⟩,.ag [.key void,.key void,.key void]]
def MU (P:Program) (f ts te:Nat):Prop:=
 (∀p w,CallsDIn (FF P none) 0 P f #[p] .returning w fun e u' w'=>(∃v,e= .returned v)/\u'= .returning/\w'=w)/\
 ∀b off ty cs cs' n w,bY .i64 n->w.heap[b]? =some (.cells cs ty (0,0))->(∀w1:World,w1.heap[b]? =some (.cells cs ty (0,0))->(Instr.storeAt te (.pointer (some ⟨b,off,none⟩)) (den Env.zero (US n))).run P w1= .ok () (w1.setRow b cs'))->
  CallsDIn (FF P none) 0 P f #[.pointer (some ⟨b,off,none⟩)] (.panicking [{v:= .iface ts (.agg #[.int .i64 n]),recovered:=false}]) w fun e u' w''=>
   (∃v,e= .returned v)/\u'= .panicking [{v:= .iface ts (.agg #[.int .i64 n]),recovered:=true}]/\Below w.heap.size (w.setRow b cs') w''
def Dh (te:Nat) (k:IntKind) (n:Int):V:=if te<1000000 then .it k n else US n
def R3 (te:Nat):Nat:=if te<1000000 then te else te-1000000
def wG (P:Program) (f ts te:Nat):Prop:=
 (∀p w,CallsDIn (FF P none) 0 P f #[p] .returning w fun e u' w'=>(∃v,e= .returned v)/\u'= .returning/\w'=w)/\
 ∀b off ty cs cs' k n w,(te<1000000\/k= .i64)->bY k n->w.heap[b]? =some (.cells cs ty (0,0))->(∀w1:World,w1.heap[b]? =some (.cells cs ty (0,0))->(Instr.storeAt (R3 te) (.pointer (some ⟨b,off,none⟩)) (den Env.zero (Dh te k n))).run P w1= .ok () (w1.setRow b cs'))->
  CallsDIn (FF P none) 0 P f #[.pointer (some ⟨b,off,none⟩)] (.panicking [{v:= .iface ts (.agg #[.int k n]),recovered:=false}]) w fun e u' w''=>
   (∃v,e= .returned v)/\u'= .panicking [{v:= .iface ts (.agg #[.int k n]),recovered:=true}]/\Below w.heap.size (w.setRow b cs') w''
structure Ctx.Sound (C:Ctx):Prop where
 z:C.Kr
 mixed:C.P.follows .mixedOrders=true
 ct:∀f g,C.Γ f=some g->∀J fps res K w0 F0 w nid args q x new,bq J fps res K w0 F0 w->fM K args->g res nid args=some (q,x,new)->dX q->
  (∀k,k<new.length->¬K (nid+k))->
  (CallsIn (FF C.P none) 0 C.P f (bB J args).toArray w fun e w'=>∃v,e= .returned v/\qY K J nid x new w0 F0 w v w')/\∀k,k<new.length->ay new k≠ .yet
 dk:∀f ts te,C.D f=some (ts,te)->wG C.P f ts te
section
variable {C:Ctx} {J:Env} {fps:Nat->Nat->Prop} {sl:List S} {res:List aK} {K:Nat->Prop} {w0 w:World} {F0:Nat->Prop} {a:Act} {nid:Nat} {ch:List (Nat×Bool)}
theorem GZ {x:V} (hx:ok K x):qY K J nid x [] w0 F0 w (den J x) w:=
 ⟨J,n9.refl _ _ _ _ _ _,rfl,ec (fun _ h=> .inl h) x hx⟩
theorem vI {ps:List (Nat×Operand)} {l:List (Nat×V)} (hF:jo J K sl a) (hg:mQ sl ch=true) (h:vo sl ch ps=some l):
  (ps.map fun p=>(p.1,a.eval p.2))=l.map (fun p=>(p.1,den J p.2))/\∀p∈l,ok K p.2:=by
 induction ps generalizing l with
 |nil=>simp only[vo,allM,aaV]at h;subst h;exact⟨rfl,by simp⟩
 |cons p ps ih=>
  simp only[vo,allM]at h;split at h
  ·rename_i y ys hy hys;simp only[aaV]at h;subst h;cases hv:fm sl ch p.2 with
   |none=>simp[hv]at hy
   |some v=>
    simp only[hv,Option.map_some,aaV]at hy;subst hy;obtain⟨e1,e2⟩:=h9 hF hg hv;obtain⟨i1,i2⟩:=ih hys
    exact⟨by simp[e1,i1],fun q hq=>by
     rcases List.mem_cons.1 hq with rfl|hq
     ·exact e2
     ·exact i2 q hq⟩
  ·simp at h
theorem J5 {t:Nat} {x r:V} {q:Option Prop} (h:bq J fps res K w0 F0 w) (hl:Vs C.P res t x=some (q,r)) (hq:dX q) (ts:List Nat) (ty:Nat):
  (Builtin.len_ (t::ts).toArray ty #[den J x]).run C.P w= .ok (den J r) w/\ok K r:=by
 unfold Vs at hl;have hge:∀(l:List Nat),(t::l).toArray[0]? =some t:=fun l=>by simp
 split at hl
 ·rename_i hu;split at hl<;>simp only[aaV,aaW,reduceCtorEq]at hl
  obtain⟨rfl,rfl⟩:=hl;exact⟨by simp[Builtin.len_,den,bG w hu,goInt,bN],hq⟩
 ·rename_i e hu;split at hl
  ·rename_i id;split at hl<;>simp only[aaV,aaW,reduceCtorEq]at hl
   ·rename_i own esz l hc;obtain⟨_,rfl⟩:=hl;obtain⟨fp,hh,_⟩:=h.look hc (by simp)
    obtain⟨_,h2,h3,_⟩:=hh;exact⟨by simp[Builtin.len_,den,bG w hu,goInt,h2,bD],by simp only[ok,bY,bD];omega⟩
   ·rename_i ty q' L hc;obtain⟨_,rfl⟩:=hl;obtain⟨fp,hh,_⟩:=h.look hc (by simp)
    obtain⟨_,_,h2,h3,_⟩:=hh;exact⟨by simp[Builtin.len_,den,bG w hu,goInt,h2,bD,ai],by simp only[ok,bY,bD,ai];omega⟩
  ·split at hl<;>simp only[aaV,aaW,reduceCtorEq]at hl
   rename_i hin;obtain⟨_,rfl⟩:=hl;exact⟨by simp[Builtin.len_,den,bG w hu,goInt],hin⟩
  ·rename_i p z n lo hi;split at hl<;>simp only[aaV,aaW,reduceCtorEq]at hl
   rename_i hc;simp only[aaX,aaY]at hc;obtain⟨_,rfl⟩:=hl;obtain⟨b,o,hd⟩:=uZ (J:=J) hc.1;exact⟨by simp[Builtin.len_,den,wS,hd,bG w hu,goInt],hc.2⟩
  ·simp only[aaV,aaW]at hl;obtain⟨_,rfl⟩:=hl;exact⟨by simp[Builtin.len_,den,bG w hu,goInt],by simp[ok,bY]⟩
  ·simp at hl
 ·rename_i n e hu;split at hl<;>simp only[aaV,aaW,reduceCtorEq]at hl
  rename_i hin;obtain⟨_,rfl⟩:=hl;exact⟨by simp[Builtin.len_,bG w hu,goInt,den],hin⟩
 ·simp at hl
theorem nk {o:Oper} {q:Option Prop} {x:V} {new:List aK} (hC:C.Sound) (h:Ck C sl res nid ch o.op=some (q,x,new)) (hF:jo J K sl a) (hH:bq J fps res K w0 F0 w)
  (hg:mQ sl ch=true) (hq:dX q) (hfr:∀k,k<new.length->¬K (nid+k)):
  Yields C.P o a w (qY K J nid x new w0 F0 w)/\∀k,k<new.length->ay new k≠ .yet:=by
 have pureY:∀{y:V},(execOp a.eval o).run C.P w= .ok (.value (den J y)) w->ok K y->x=y->new= []->
   Yields C.P o a w (qY K J nid x new w0 F0 w)/\∀k,k<new.length->ay new k≠ .yet:=by
  intro y h1 h2 h3 h4;subst h3;subst h4;exact⟨.inl ⟨_,_,h1,GZ h2⟩,fun k hk=>by simp at hk⟩
 have ov:∀{o:Operand} {y:V},fm sl ch o=some y->a.eval o=den J y/\ok K y:=fun ho=>h9 hF hg ho
 obtain⟨dst,op,type,pos,after,guard⟩:=o;simp only at h;cases op<;>simp only[Ck,reduceCtorEq]at h
 case move y=>
  cases hy:fm sl ch y with
  |none=>simp[hy]at h
  |some v=>
   simp only[hy,Option.map_some,aaV,aaW]at h;obtain⟨_,rfl,rfl⟩:=h;exact pureY (by simp[execOp,(ov hy).1]) (ov hy).2 rfl rfl
 case assign y=>
  cases hy:fm sl ch y with
  |none=>simp[hy]at h
  |some v=>
   simp only[hy,Option.map_some,aaV,aaW]at h;obtain⟨_,rfl,rfl⟩:=h;exact pureY (by simp[execOp,(ov hy).1]) (ov hy).2 rfl rfl
 case pick c y z=>
  split at h
  ·rename_i s;split at h
   ·rename_i x hc;obtain⟨c1,c2⟩:=ov hc;cases x with
    |true=>
     simp only[if_true]at h;cases ha:fm sl ch y with
     |none=>simp[ha]at h
     |some v=>
      simp only[ha,Option.map_some,aaV,aaW]at h;obtain⟨_,rfl,rfl⟩:=h;exact pureY (by simp[execOp,c1,den,asBool,(ov ha).1]) (ov ha).2 rfl rfl
    |false=>
     simp only[Bool.false_eq_true,if_false]at h;cases ha:fm sl ch z with
     |none=>simp[ha]at h
     |some v=>
      simp only[ha,Option.map_some,aaV,aaW]at h;obtain⟨_,rfl,rfl⟩:=h;exact pureY (by simp[execOp,c1,den,asBool,(ov ha).1]) (ov ha).2 rfl rfl
   rename_i cv _ hc;split at h
   ·rename_i av bv ha hb;cases hp:Hc cv av bv with
    |none=>simp[hp]at h
    |some r=>
     simp only[hp,Option.map_some,aaV,aaW]at h;obtain⟨_,rfl,rfl⟩:=h;obtain⟨X,Y,Z,e1,e2,e3,e4⟩:=GC hp;obtain⟨c1,c2⟩:=ov hc
     have hraw:raw (b9 sl s)=some X:=by
      simp only[fm]at hc;cases hs:b9 sl s with
      |und=>simp[hs]at hc
      |ud=>simp[hs]at hc
      |v y=>
       simp only[hs,aaV]at hc;subst hc;cases y<;>simp[toBool]at e1<;>subst e1<;>rfl
      |gv k y=>
       simp only[hs]at hc;split at hc<;>simp only[aaV,reduceCtorEq]at hc
       subst hc;cases y<;>simp[toBool]at e1<;>subst e1<;>rfl
     have hr:den J r= .bool (if X then Y else Z):=ej e4
     refine pureY (y:=r) ?_ (by cases r<;>simp[toBool]at e4<;>trivial) rfl rfl
     rw[hr];simp only[execOp,c1,ej e1,asBool,Sem.run_bind,Sem.run_pure,Result.andThen_ok];cases X with
     |true=>
      have:=(h9 (ch:=(s,true)::ch) hF (by rw[ji];simp[hraw,hg]) ha).1
      simp[this,ej e2]
     |false=>
      have:=(h9 (ch:=(s,false)::ch) hF (by rw[ji];simp[hraw,hg]) hb).1
      simp[this,ej e3]
   ·simp at h
   ·simp at h
  ·simp at h
 case box t y=>
  split at h
  ·rename_i v hy;split at h
   ·simp at h
   ·rename_i ht;simp only[aaV,aaW]at h;obtain⟨_,rfl,rfl⟩:=h;have hn:¬K nid:=by simpa using hfr 0 (by simp)
    refine⟨.inl ⟨_,_,?_,J.bT nid w.heap.size,n9.alloc (ty:=t) (ov hy).2 (by simpa using ht) hn,rfl,.inr ⟨Nat.le_refl _,by simp⟩⟩,fun k hk=>by simp at hk;subst hk;simp[ay]⟩
    simp[execOp,Instr.box,(ov hy).1,newVar,newRow,den,Env.bT,cells]
  ·simp at h
 case alloc t=>
  split at h
  ·rename_i z hz;simp only[aaV,aaW]at h;obtain⟨_,rfl,rfl⟩:=h;have hn:¬K nid:=by simpa using hfr 0 (by simp)
   obtain⟨i,h1,h2,h3,h4,h5⟩:=hC.z t z hz;refine⟨.inl ⟨_,_,?_,J.bT nid w.heap.size,n9.alloc (ty:=t) (fQ h3) h4 hn,rfl,.inr ⟨Nat.le_refl _,by simp⟩⟩,fun k hk=>by simp at hk;subst hk;simp[ay]⟩
   simp[execOp,Instr.alloc,rT (J:=J) hC.z hz,newVar,newRow,den,Env.bT,cells]
  ·simp at h
 case makeSlice t y z=>
  split at h
  ·rename_i u v hu hv;obtain⟨rfl,o',e',l',rfl⟩:=JD h;have hn:¬K nid:=by simpa using hfr 0 (by simp)
   obtain⟨w',ρ',e1,e2⟩:=F9 (J:=J) (w:=w) (w0:=w0) (F0:=F0) hC.z h hq hn;refine⟨.inl ⟨_,w',?_,ρ',e2,rfl,.inr ⟨Nat.le_refl _,by simp⟩⟩,fun k hk=>by simp at hk;subst hk;simp[ay]⟩
   simp[execOp,(ov hu).1,(ov hv).1,e1]
  ·simp at h
 case makeInterface t y=>
  split at h
  ·rename_i v d hv hd
   have:∀{x':V} {n':List aK},(∀n,d≠ .interface n)->some (none,V.ic t v,([]:List aK))=some (q,x',n')->x'=x->n'=new->Yields C.P ⟨dst,.makeInterface t y,type,pos,after,guard⟩ a w (qY K J nid x new w0 F0 w)/\∀k,k<new.length->ay new k≠ .yet:=by
    intro x' n' hni hh h1 h2;simp only[aaV,aaW]at hh;obtain⟨_,rfl,rfl⟩:=hh;refine pureY (y:= .ic t v) ?_ (ov hv).2 h1.symm h2.symm
    cases d<;>first
     |exact absurd rfl (hni _)
     |simp[execOp,(ov hv).1,Instr.makeInterface,bG w hd,den]
   split at h
   ·simp at h
   ·rename_i hni;exact this (fun n e=>hni n e) h rfl rfl
  ·simp at h
 case makeMap t r=>
  split at h
  case h_2=>simp at h
  split at h
  case h_2=>simp at h
  split at h
  case h_3=>simp at h
  all_goals(
   simp only[aaV,aaW]at h;obtain⟨_,rfl,rfl⟩:=h;have hn:¬K nid:=by simpa using hfr 0 (by simp)
   first
   |refine⟨.inl ⟨_,_,?_,J.bT nid w.heap.size,n9.W7 hn,rfl,.inr ⟨Nat.le_refl _,by simp⟩⟩,fun k hk=>by simp at hk;subst hk;simp[ay]⟩
   |refine⟨.inl ⟨_,_,?_,J.bT nid w.heap.size,n9.QZ hn,rfl,.inr ⟨Nat.le_refl _,by simp⟩⟩,fun k hk=>by simp at hk;subst hk;simp[ay]⟩)
  all_goals simp[execOp,show(Instr.makeMap t none).run C.P w= .ok (.map (some w.heap.size)) (w.alloc (.map #[] 0))from rfl,den,Env.bT]
 case lookup t m y two=>
  split at h
  case h_2=>simp at h
  rename_i mv xv hm hy;split at h
  ·rename_i r hl;simp only[aaV,aaW]at h;obtain⟨_,rfl,rfl⟩:=h;obtain⟨e1,e2⟩:=F2 hC.z hH hl (ov hy).2;exact pureY (by simp[execOp,(ov hm).1,(ov hy).1,e1]) e2 rfl rfl
  ·split at h
   case h_2=>simp at h
   rename_i r hl;simp only[aaV,aaW]at h;obtain⟨_,rfl,rfl⟩:=h;obtain⟨e1,e2⟩:=Gl hC.z hH hl (ov hy).2;exact pureY (by simp[execOp,(ov hm).1,(ov hy).1,e1]) e2 rfl rfl
 case load t y=>
  split at h
  ·rename_i p hp;cases hl:za C res t p with
   |none=>simp[hl]at h
   |some r=>
    simp only[hl,Option.map_some,aaV,aaW]at h;obtain⟨rfl,rfl,rfl⟩:=h;obtain⟨e1,e2,_⟩:=tU hH hl hq (ov hp).2;exact pureY (by simp[execOp,(ov hp).1,e1]) e2 rfl rfl
  ·simp at h
 case fieldAddr t y f=>
  split at h
  ·rename_i p hp;cases hl:faV C.P t p f with
   |none=>simp[hl]at h
   |some r=>
    simp only[hl,Option.map_some,aaV,aaW]at h;obtain⟨_,rfl,rfl⟩:=h;obtain⟨e1,e2,_⟩:=LZ (J:=J) (w:=w) hl (ov hp).2;exact pureY (by simp[execOp,(ov hp).1,e1]) e2 rfl rfl
  ·simp at h
 case field t y f=>
  split at h
  ·rename_i p hp;cases hl:fdV C.P t p f with
   |none=>simp[hl]at h
   |some r=>
    simp only[hl,Option.map_some,aaV,aaW]at h;obtain⟨_,rfl,rfl⟩:=h;obtain⟨e1,e2,_⟩:=Np (J:=J) (w:=w) hl (ov hp).2;exact pureY (by simp[execOp,(ov hp).1,e1]) e2 rfl rfl
  ·simp at h
 case indexAddr t y i=>
  split at h
  ·rename_i p j hp hj;cases hl:iaV C.P res t p j with
   |none=>simp[hl]at h
   |some r=>
    simp only[hl,Option.map_some,aaV,aaW]at h;obtain⟨rfl,rfl,rfl⟩:=h;obtain⟨e1,e2,_⟩:=Lr hH hl hq (ov hp).2 (ov hj).2;exact pureY (by simp[execOp,(ov hp).1,(ov hj).1,e1]) e2 rfl rfl
  ·simp at h
 case index t y i=>
  split at h
  ·rename_i p j hp hj;cases hl:ixV C.P t p j with
   |none=>
    simp only[hl]at h;cases hl2:isStr C.P t p j with
    |none=>simp[hl2]at h
    |some r=>
     simp only[hl2,Option.map_some,aaV,aaW]at h;obtain⟨rfl,rfl,rfl⟩:=h;obtain⟨e1,e2⟩:=Gk (J:=J) (w:=w) hl2 hq (ov hj).2;exact pureY (by simp[execOp,(ov hp).1,(ov hj).1,e1]) e2 rfl rfl
   |some r=>
    simp only[hl,aaV,aaW]at h;obtain⟨rfl,rfl,rfl⟩:=h;obtain⟨e1,e2,_⟩:=O8 (J:=J) (w:=w) hl hq (ov hp).2 (ov hj).2;exact pureY (by simp[execOp,(ov hp).1,(ov hj).1,e1]) e2 rfl rfl
  ·simp at h
 case slice t y lo hi mx=>
  have fin:∀(p:V) (l' h':Option V),fm sl ch y=some p->lo.map a.eval=l'.map (den J)->hi.map a.eval=h'.map (den J)->mx=none->(∀v,l'=some v->ok K v)->(∀v,h'=some v->ok K v)->
    ((UQ C.P t p l' h').map fun r=>(r.1,r.2,([]:List aK)))=some (q,x,new)->Yields C.P ⟨dst,.slice t y lo hi mx,type,pos,after,guard⟩ a w (qY K J nid x new w0 F0 w)/\∀k,k<new.length->ay new k≠ .yet:=by
   intro p l' h' hp hl1 hh1 hmx hl2 hh2 hs;cases hl:UQ C.P t p l' h' with
   |none=>simp[hl]at hs
   |some r=>
    simp only[hl,Option.map_some,aaV,aaW]at hs;obtain⟨rfl,rfl,rfl⟩:=hs;obtain⟨e1,e2⟩:=PJ (J:=J) (w:=w) hl hq (ov hp).2 hl2 hh2;subst hmx;refine pureY ?_ e2 rfl rfl;simp only[execOp,(ov hp).1,hl1,hh1,Option.map_none];rw[Sem.run_bind,e1];rfl
  split at h
  ·rename_i p hp h1 h2;have e1:lo=none:=by cases lo<;>simp_all
   have e2:hi=none:=by cases hi<;>simp_all
   subst e1;subst e2;exact fin p none none hp rfl rfl rfl (by simp) (by simp) h
  ·rename_i p u hp h1 h2;obtain⟨lo',rfl,hu⟩:=Option.map_eq_some_iff.1 h1;have e2:hi=none:=by cases hi<;>simp_all
   subst e2;exact fin p (some u) none hp (by simp[(ov hu).1]) rfl rfl (fun v hv=>by simp only[aaV]at hv;subst hv;exact(ov hu).2) (by simp) h
  ·rename_i p u hp h1 h2;obtain⟨hi',rfl,hu⟩:=Option.map_eq_some_iff.1 h2;have e2:lo=none:=by cases lo<;>simp_all
   subst e2;exact fin p none (some u) hp rfl (by simp[(ov hu).1]) rfl (by simp) (fun v hv=>by simp only[aaV]at hv;subst hv;exact(ov hu).2) h
  ·rename_i p u v hp h1 h2;obtain⟨lo',rfl,hu⟩:=Option.map_eq_some_iff.1 h1;obtain⟨hi',rfl,hv⟩:=Option.map_eq_some_iff.1 h2;exact fin p (some u) (some v) hp (by simp[(ov hu).1]) (by simp[(ov hv).1]) rfl (fun z hz=>by simp only[aaV]at hz;subst hz;exact(ov hu).2) (fun z hz=>by simp only[aaV]at hz;subst hz;exact(ov hv).2) h
  ·simp at h
 case nilCheck y=>
  split at h<;>simp only[aaV,aaW,reduceCtorEq]at h<;>rename_i hy<;>obtain⟨_,rfl,rfl⟩:=h<;>obtain⟨e1,e2⟩:=ov hy<;>
   exact pureY (by first| (simp[execOp,e1,den];done)| (simp only[den]at e1⊢;generalize hv:FC _ _=v at e1⊢;obtain⟨_,_,_,rfl⟩:∃g b c,v= .func (.func g) b c:=hv▸Qo _ _;simp[execOp,e1])) e2 rfl rfl
 case binOp op t y z t'=>
  split at h
  ·rename_i p j hp hj;cases hl:SF C.P op t p j with
   |none=>
    simp only[hl]at h;cases hl2:T5 op p j with
    |none=>simp[hl2]at h
    |some r=>
     simp only[hl2,Option.map_some,aaV,aaW]at h;obtain⟨rfl,rfl,rfl⟩:=h;obtain⟨e1,e2⟩:=Jz (P:=C.P) (J:=J) (K:=K) (t:=t) w y z hl2 hq;exact pureY (by simp only[execOp,(ov hp).1,(ov hj).1];rw[Sem.run_bind,e1];rfl) e2 rfl rfl
   |some r=>
    simp only[hl,aaV,aaW]at h;obtain⟨rfl,rfl,rfl⟩:=h;obtain⟨e1,e2⟩:=JO (J:=J) (K:=K) w y z hl hq (ov hp).2 (ov hj).2;exact pureY (by simp only[execOp,(ov hp).1,(ov hj).1];rw[Sem.run_bind,e1];rfl) e2 rfl rfl
  ·simp at h
 case unOp op t y=>
  cases op<;>simp only[reduceCtorEq]at h
  ·split at h
   ·rename_i v hy;split at h
    ·rename_i k n hn;obtain⟨e1,e2⟩:=eu (J:=J) hn (ov hy).2;split at h
     ·split at h<;>simp only[aaV,aaW,reduceCtorEq]at h
      rename_i hin;obtain⟨_,rfl,rfl⟩:=h;refine pureY (y:= .ci k (0-n)) ?_ hin rfl rfl;simp only[execOp,(ov hy).1,e1,Op.unary,Op.intArith,Sem.run_bind,Sem.run_pure,Result.andThen_ok,lC hin,den]
     ·simp only[aaV,aaW]at h;obtain⟨rfl,rfl,rfl⟩:=h;refine pureY (y:= .it k (sW 0 n)) ?_ hq rfl rfl;simp only[execOp,(ov hy).1,e1,Op.unary,Op.intArith,Sem.run_bind,Sem.run_pure,Result.andThen_ok,lC (show bY k (0-n)from hq),den,sW]
    ·simp at h
   ·simp at h
  ·split at h
   ·rename_i v hy;split at h<;>simp only[aaV,aaW,reduceCtorEq]at h
    rename_i b hb;obtain⟨_,rfl,rfl⟩:=h;have hnb:=JU hb;refine pureY (y:=Sb v b) ?_ (by generalize Sb v b=z at hnb;cases z<;>simp[toBool]at hnb<;>trivial) rfl rfl
    rw[ej hnb];simp only[execOp,(ov hy).1,ej hb,Op.unary,Sem.run_bind,Sem.run_pure,Result.andThen_ok]
   ·simp at h
 case convert s d y=>
  split at h
  ·rename_i p hp;cases hl:cvV C.P s d p with
   |none=>
    simp only[hl]at h;cases hl2:cvS C.P res s d p with
    |none=>simp[hl2]at h
    |some r=>
     simp only[hl2,Option.map_some,aaV,aaW]at h;obtain⟨rfl,rfl,rfl⟩:=h;obtain⟨e1,e2⟩:=On (J:=J) (w:=w) hH hl2 hq (ov hp).2;exact pureY (by simp[execOp,(ov hp).1,e1]) e2 rfl rfl
   |some r=>
    simp only[hl,aaV,aaW]at h;obtain⟨rfl,rfl,rfl⟩:=h;obtain⟨e1,e2,_⟩:=Mi (J:=J) (w:=w) hl hq (ov hp).2;exact pureY (by simp[execOp,(ov hp).1,e1]) e2 rfl rfl
  ·simp at h
 case extract y i=>
  split at h
  ·rename_i l hy;cases hl:l[i]? with
   |none=>simp[hl]at h
   |some v=>
    simp only[hl,Option.map_some,aaV,aaW]at h;obtain⟨_,rfl,rfl⟩:=h;obtain⟨e1,e2⟩:=ov hy;have:(bB J l)[i]? =some (den J v):=by rw[jD];simp[hl]
    refine pureY (y:=v) ?_ ((ja _).1 e2 v (List.mem_of_getElem? hl)) rfl rfl;simp[execOp,e1,den,Instr.extract,this]
  ·simp at h
 case makeFunc fn first caps=>
  cases fn<;>simp only[reduceCtorEq]at h
  rename_i f;split at h
  ·rename_i he;split at h
   case isFalse=>simp at h
   rename_i hlo;cases hl:mT sl ch caps.toList with
   |none=>simp[hl]at h
   |some l=>
    simp only[hl,Option.map_some,aaV,aaW]at h;obtain⟨_,rfl,rfl⟩:=h;obtain⟨e1,e2⟩:=gO hF hg hl;have hf:first= #[]:=by simpa using he
    subst hf;refine pureY (y:= .fn f l) ?_ e2 rfl rfl;have:caps.map a.eval=(bB J l).toArray:=by apply Array.ext';simp[e1]
    simp[execOp,Instr.makeFunc,den,zU hlo,this]
  ·split at h
   case isFalse=>simp at h
   rename_i he;cases hl:mT sl ch first.toList with
   |none=>simp[hl]at h
   |some l=>
    simp only[hl,Option.map_some,aaV,aaW]at h;obtain⟨_,rfl,rfl⟩:=h;obtain⟨e1,e2⟩:=gO hF hg hl;have hf:caps= #[]:=by simpa using he
    subst hf;refine pureY (y:= .fn (f+2000) l) ?_ e2 rfl rfl;have:first.map a.eval=(bB J l).toArray:=by apply Array.ext';simp[e1]
    have hb:Nat.blt (f+2000) 2000=false:=by rw[Bool.eq_false_iff];intro h;have:=Nat.le_of_ble_eq_true h;omega
    simp[execOp,Instr.makeFunc,den,FC,hb,this]
 case build t ps=>
  split at h
  ·rename_i l hl;obtain⟨e1,e2⟩:=vI hF hg hl;cases hb:CG C t l with
   |none=>simp[hb]at h
   |some r=>
    simp only[hb,Option.map_some,aaV,aaW]at h;obtain⟨_,rfl,rfl⟩:=h;obtain⟨f1,f2,_⟩:=qF (J:=J) (w:=w) hC.z hb e2;refine pureY (y:=r) ?_ f2 rfl rfl;have:(ps.map fun p=>(p.1,a.eval p.2))=(l.map fun p=>(p.1,den J p.2)).toArray:=by apply Array.ext';simp[e1]
    simp only[execOp];rw[show(ps.map fun(i,x)=>(i,a.eval x))=(l.map fun p=>(p.1,den J p.2)).toArray from this,Sem.run_bind,f1]
    rfl
  ·simp at h
 case buildSlice t n ps=>
  split at h
  ·rename_i l hl;obtain⟨e1,e2⟩:=vI hF hg hl;cases hb:ZM C t n l nid with
   |none=>simp[hb]at h
   |some r=>
    obtain⟨r,new'⟩:=r;simp only[hb,Option.map_some,aaV,aaW]at h;obtain⟨_,rfl,rfl⟩:=h
    have hn:¬K nid:=by
     unfold ZM at hb;split at hb
     ·split at hb
      ·simp at hb
      ·split at hb
       ·split at hb<;>simp only[aaV,aaW,reduceCtorEq]at hb
        obtain⟨rfl,rfl⟩:=hb;simpa using hfr 0 (by simp)
       ·simp at hb
     ·simp at hb
    obtain⟨w',ρ',f1,f2,f3,f4⟩:=La (J:=J) (w:=w) (w0:=w0) (F0:=F0) hC.z hb e2 hn;refine⟨.inl ⟨_,w',?_,ρ',f2,rfl,f3⟩,f4⟩;have:(ps.map fun p=>(p.1,a.eval p.2))=(l.map fun p=>(p.1,den J p.2)).toArray:=by apply Array.ext';simp[e1]
    simp only[execOp];rw[show(ps.map fun(i,x)=>(i,a.eval x))=(l.map fun p=>(p.1,den J p.2)).toArray from this,Sem.run_bind,f1]
    rfl
  ·simp at h
 case call c=>
  obtain⟨callee,args,argTypes⟩:=c;cases callee with
  |invoke r m=>simp at h
  |value f=>
   simp only at h;split at h
   ·rename_i fv vs hf has;obtain⟨e1,e2⟩:=ov hf;obtain⟨e3,e4⟩:=gO hF hg has;unfold UO at h;split at h
    ·rename_i g caps;split at h
     ·rename_i ct hct;split at h
      case isFalse=>simp at h
      rename_i hlo;split at h
      ·rename_i hcall;have e2':fM K caps:=e2;obtain⟨h1,h2⟩:=hC.ct g ct hct J fps res K w0 F0 w nid (vs++caps) q x new hH (by rw[ja]at e4 e2'⊢;intro z hz;rcases List.mem_append.1 hz with hz|hz;exact e4 z hz;exact e2' z hz) h hq hfr
       refine⟨.inr ⟨g,(bB J (vs++caps)).toArray,?_,h1⟩,h2⟩;unfold iP at hcall;split at hcall
       ·rename_i fn hfn;simp only[aaX,bne_iff_ne,ne_eq]at hcall;have hnm:(fn.name== "runtime.NumGoroutine")=false:=by simpa using hcall.1
        have hbd:fn.body.isNone=false:=by
         simp_all
        have ha:args.map a.eval=(bB J vs).toArray:=by apply Array.ext';simp[e3]
        have hcat:(bB J vs).toArray++(bB J caps).toArray=(bB J (vs++caps)).toArray:=by simp[jD]
        simp only[execOp,resolve,e1,den,zU hlo,Deferred.ofValue,ha,Sem.run_bind,Sem.run_pure,Result.andThen_ok,invoke,callFunc,run_program,hfn,hnm,Bool.false_eq_true,if_false,hbd,
         Array.empty_append,hcat]
       ·simp at hcall
      ·simp at h
     ·simp at h
    ·simp at h
   ·simp at h
  |builtin b=>
   simp only at h;split at h
   ·rename_i vs has;obtain⟨e3,e4⟩:=gO hF hg has;have ha:args.map a.eval=(bB J vs).toArray:=by apply Array.ext';simp[e3]
    split at h
    ·obtain⟨rfl,o',e',l',rfl⟩:=LC h;have hn:¬K nid:=by simpa using hfr 0 (by simp)
     obtain⟨w',ρ',d1,d2⟩:=I8 (ty:=type) hC.z hH h hq hn;refine⟨.inl ⟨_,w',?_,ρ',d2,rfl,.inr ⟨Nat.le_refl _,by simp⟩⟩,fun k hk=>by simp at hk;subst hk;simp[ay]⟩
     have d1':(Builtin.append_ argTypes type (bB J vs).toArray).run C.P w= .ok (den ρ' (.sa nid)) w':=by simpa using d1
     simp only[execOp,resolve,Sem.run_bind,Sem.run_pure,Result.andThen_ok,invoke,builtin,ha];rw[d1'];rfl
    rename_i hnb;clear hnb;cases hb:z0 C res b argTypes.toList vs with
    |none=>simp[hb]at h
    |some r=>
     simp only[hb,Option.map_some,aaV,aaW]at h;obtain⟨rfl,rfl,rfl⟩:=h;unfold z0 at hb;split at hb
     ·rename_i t ts y hts;have hty:argTypes=(t::ts).toArray:=by rw[<-hts]
      obtain⟨f1,f2⟩:=J5 hH hb hq ts type;refine pureY (y:=r.2) ?_ f2 rfl rfl;simp only[execOp,resolve,Sem.run_bind,Sem.run_pure,Result.andThen_ok,invoke,builtin,ha,bB,hty];rw[f1];rfl
     ·rename_i y z;cases hm:Ye y z with
      |none=>simp[hm]at hb
      |some m=>
       simp only[hm,Option.map_some,aaV]at hb;subst hb;unfold Ye at hm;split at hm
       ·rename_i k a1 k' b1 h1 h2;split at hm<;>simp only[aaV,reduceCtorEq]at hm
        rename_i hk;have hk:=aaZ.1 hk;subst hk;subst hm;obtain⟨g1,g2⟩:=eu (J:=J) h1 e4.1;obtain⟨g3,g4⟩:=eu (J:=J) h2 e4.2.1;refine pureY (y:= .it k (lP a1 b1)) ?_ (show bY k (lP a1 b1) by unfold lP;split<;>assumption) rfl rfl
        simp[den,execOp,resolve,invoke,builtin,ha,bB,g1,g3,Builtin.min_,Builtin.min2,lP]
       ·simp at hm
     ·rename_i y z;cases hm:Wu y z with
      |none=>simp[hm]at hb
      |some m=>
       simp only[hm,Option.map_some,aaV]at hb;subst hb;unfold Wu at hm;split at hm
       ·rename_i k a1 k' b1 h1 h2;split at hm<;>simp only[aaV,reduceCtorEq]at hm
        rename_i hk;have hk:=aaZ.1 hk;subst hk;subst hm;obtain⟨g1,g2⟩:=eu (J:=J) h1 e4.1;obtain⟨g3,g4⟩:=eu (J:=J) h2 e4.2.1;refine pureY (y:= .it k (imax a1 b1)) ?_ (show bY k (imax a1 b1) by unfold imax;split<;>assumption) rfl rfl
        simp[den,execOp,resolve,invoke,builtin,ha,bB,g1,g3,Builtin.max_,Builtin.max2,imax]
       ·simp at hm
     ·simp at hb
   ·simp at h
end
def dC:List Nat->List aK->List aK
 | [],l=>l
 |t::ts,l=>dC ts (bO l t .gone)
theorem cE (l:List aK) (i:Nat) (r:aK):(bO l i r).length=l.length:=by rw[kH];simp
theorem lA:∀(ts:List Nat) (l:List aK),(dC ts l).length=l.length
 | [],_=>rfl
 |t::ts,l=>by simp only[dC];rw[lA ts,cE]
theorem tQ:∀(ts:List Nat) (l:List aK) (i:Nat),(∀t∈ts,t<l.length)->ay (dC ts l) i=if i∈ts then .gone else ay l i
 | [],l,i,_=>by simp[dC]
 |t::ts,l,i,h=>by
  simp only[dC];rw[tQ ts _ i fun u hu=>by rw[cE];exact h u (by simp[hu]),bJ _ _ _ _ (h t (by simp))]
  by_cases e:i∈ts
  ·simp[e]
  ·by_cases e':i=t
   ·simp[e']
   ·simp[e,e']
theorem bq.y9 {J ρ':Env} {fps:Nat->Nat->Prop} {res:List aK} {w0:World} {F0:Nat->Prop} {w w':World} (h:bq J fps res (known res) w0 F0 w) (ts:List Nat) (r:aK) (ms:List aK) (fp:Nat->Prop)
  (hms:∀m∈ms,∃j,m= .gen j) (hts:∀t∈ts,known res t) (hr:r≠ .yet) (hag:Env.bE (known res) J ρ')
  (hh:r.holds (known (dC ts res++r::ms)) ρ' res.length fp w0 F0 w') (hfp:∀b,fp b->(∃t∈ts,fps t b)\/(w.heap.size<=b/\b<w'.heap.size))
  (hos:w'.os=w.os) (htape:w'.tape=w.tape) (hout:w'.output=w.output) (hsize:w.heap.size<=w'.heap.size)
  (hsame:∀b,b<w.heap.size->(∀t∈ts,¬fps t b)->w'.heap[b]? =w.heap[b]?):
  ∃fps',bq ρ' fps' (dC ts res++r::ms) (known (dC ts res++r::ms)) w0 F0 w'/\Env.bE (known res) J ρ'/\(∀i,known res i->known (dC ts res++r::ms) i)/\known (dC ts res++r::ms) res.length:=by
 have hlt:∀t∈ts,t<res.length:=fun t ht=>aO (hts t ht)
 have hget:∀i,ay (dC ts res++r::ms) i=if i<res.length then(if i∈ts then .gone else ay res i)else if i=res.length then r else ay ms (i-res.length-1):=by
  intro i;rw[cF,lA];by_cases hi:i<res.length
  ·rw[aa4 hi,aa4 hi,tQ ts res i hlt]
  ·rw[aa3 hi,aa3 hi];by_cases e:i=res.length
   ·subst e;simp[ay]
   ·rw[aa3 e];have:∃k,i-res.length=k+1:=⟨i-res.length-1,by omega⟩
    obtain⟨k,hk⟩:=this;rw[hk];simp[ay]
 have hmget:∀k,ay ms k= .yet\/∃j,ay ms k= .gen j:=fun k=>by
  rw[m9,aa2];cases hm:ms[k]? with
  |none=>exact .inl rfl
  |some m=>
   obtain⟨j,rfl⟩:=hms m (List.mem_of_getElem? hm);exact .inr ⟨j,rfl⟩
 have hmono:∀i,known res i->known (dC ts res++r::ms) i:=fun i hi=>by
  grind[known,aO]
 have hnew:known (dC ts res++r::ms) res.length:=by
  simp_all[known]
 obtain⟨fps',g⟩:=h.turn (res':=dC ts res++r::ms) (K':=known (dC ts res++r::ms)) (fun i=>i∈ts) (fun i=>i∈ts\/res.length<=i) (fun i b=>i=res.length/\fp b)
  (fun i hi=>hi) hmono hag (fun i hi hb=>by
   have hi':=hi;unfold known at hi';rw[hget]at hi';have h1:i∉ts:=fun e=>hb (.inl e)
   have hl:i<res.length:=by
    rcases Nat.lt_or_ge i res.length with h|h
    ·exact h
    ·exact absurd (.inr h) hb
   rw[aa4 hl,aa3 h1]at hi';exact⟨hi',h1,by rw[hget,aa4 hl,aa3 h1]⟩)
  (fun i hi hb=>by
   by_cases e:i=res.length
   ·subst e;refine⟨?_,fun b hf=>?_⟩
    ·rw[hget,aa3 (by omega),aa4 rfl]
     have:(fun b=>res.length=res.length/\fp b)=fp:=by funext b;simp
     rw[this];exact hh
    ·rcases hfp b hf.2 with⟨t,ht,hft⟩|hn
     ·exact .inl ⟨t,ht,hts t ht,hft⟩
     ·exact .inr hn
   ·refine⟨?_,fun b hf=>absurd hf.1 e⟩
    rw[hget];by_cases hl:i<res.length
    ·rw[aa4 hl,aa4 (hb.resolve_right (by omega))]
     trivial
    ·rw[aa3 hl,aa3 e];rcases hmget (i-res.length-1)with h|⟨j,h⟩<;>rw[h]<;>trivial)
  (fun i j b _ _ hne hf hf'=>hne (hf.1.trans hf'.1.symm))
  hos htape hout hsize (fun b hb hno=>hsame b hb fun t ht=>hno t ht (hts t ht))
 exact⟨fps',g,hag,hmono,hnew⟩
def jl {α:Type} (l:List α) (x:α):List α:=l++ [x]
def sU (n b:Nat):Prop:=n+1<=maxLen/\(n+1)*b<=140737488355328
mutual
def clV:V->Bool
 | .cb _| .bo _| .ci _ _| .it _ _| .bt _| .st _| .key _| .sl _| .by _| .ob _=>true
 | .ag l=>YN l
 |_=>false
def YN:List V->Bool
 | []=>true
 |x::l=>clV x&&YN l
end
mutual
theorem GH {K K':Nat->Prop}:∀v,clV v=true->ok K v->ok K' v
 | .ag l,h,hk=>⟨OP l (by simpa only[clV]using h) hk.1,hk.2⟩
 | .cb _,_,h| .bo _,_,h| .ci _ _,_,h| .it _ _,_,h| .bt _,_,h| .st _,_,h| .key _,_,h| .sl _,_,h| .by _,_,h| .ob _,_,h=>h
 | .nl _,h,_| .lp _ _,h,_| .lx _ _ _ _ _ _,h,_| .sc _ _ _,h,_| .so _ _,h,_| .ap _ _ _ _,h,_| .sa _,h,_| .op _ _,h,_| .yl _,h,_| .fn _ _,h,_| .ic _ _,h,_| .tp _,h,_| .mp _,h,_
 | .ch _ _ _ _,h,_| .ax _ _ _ _ _ _ _ _,h,_| .bs _ _ _,h,_| .ks _ _ _ _ _,h,_=>by simp[clV]at h
theorem OP {K K':Nat->Prop}:∀l,YN l=true->fM K l->fM K' l
 | [],_,_=>trivial
 |x::l,h,hk=>by
  simp only[YN,aaX]at h;exact⟨GH x h.1 hk.1,OP l h.2 hk.2⟩
end
def BD (n:Nat) (g:Nat->V) (v:V) (i:Nat):V:=match Nat.beq i n with
 |true=>v
 |false=>g i
def G5 (l:TL) (v:V):Option TL:=
 match l with
 | .ob l=>match v with
   | .ob o=>some (.ob (jl l o))
   |_=>none
 | .key l=>match v with
   | .key k=>some (.key (jl l k))
   |_=>none
 | .it k l=>match toInt v with
   |some (k',n)=>if k==k' then some (.it k (jl l n))else none
   |none=>none
 | .bo l=>match toBool v with
   |some b=>some (.bo (jl l b))
   |none=>none
 | .st l=>match v with
   | .st s=>some (.st (jl l s))
   |_=>none
 | .fn n g=>match v with
   | .ag a=>if YN a then some (.fn (n+1) (BD n g (.ag a)))else none
   |_=>none
def Ig (v:V):Option TL:=
 match v with
 | .ag a=>if YN a then some (.fn 1 fun _=> .ag a)else none
 | .ob o=>some (.ob [o])
 | .key k=>some (.key [k])
 | .st s=>some (.st [s])
 |_=>match toInt v with
  |some (k,n)=>some (.it k [n])
  |none=>match toBool v with
   |some b=>some (.bo [b])
   |none=>none
def AW (K:Nat->Prop) (n:Nat) (g:Nat->V) (v:V) (l':TL):Prop:=
 l'.len=n+1/\(∀i,i<n->l'.get i=g i)/\(∀J,cells J (l'.get n)=cells J v)/\(ok K v->ok (fun _=>False) (l'.get n))/\cV (l'.get n)=false/\fg (l'.get n)=fg v
theorem rm {α:Type} (l:List α) (x d:α):(∀i,i<l.length->aj (jl l x) i d=aj l i d)/\aj (jl l x) l.length d=x:=by
 grind[aj,jl]
theorem Ge {K:Nat->Prop} {l l':TL} {v:V} (h:G5 l v=some l'):AW K l.len l.get v l':=by
 unfold G5 at h;cases l with
 |fn n g=>
  cases v<;>simp only[reduceCtorEq]at h
  rename_i a;split at h<;>simp only[aaV,reduceCtorEq]at h
  rename_i hc;subst h;have e:(TL.fn (n+1) (BD n g (.ag a))).get n= .ag a:=by show BD n g (.ag a) n=_;have hb:Nat.beq n n=true:=(by simp);unfold BD;rw[hb]
  refine⟨rfl,fun i hi=>?_,fun J=>?_,fun hk=>?_,?_,?_⟩
  ·show BD n g (.ag a) i=g i
   have hi:i<n:=hi
   have:Nat.beq i n=false:=by cases hb:Nat.beq i n with
    |false=>rfl
    |true=>have:=Nat.eq_of_beq_eq_true hb;omega
   unfold BD;rw[this]
  all_goals simp only[TL.len,e]
  ·exact GH (.ag a) hc hk
  ·rfl
 |ob l=>
  cases v<;>simp only[aaV,reduceCtorEq]at h
  subst h;rename_i o;obtain⟨a,b⟩:=rm l o free;exact⟨by simp[TL.len,ai,jl],fun i hi=>congrArg V.ob (a i hi),fun J=>by simp only[TL.get,TL.len,ai,b],fun hk=>by simp only[TL.get,TL.len,ai,b];exact hk,rfl,rfl⟩
 |key l=>
  cases v<;>simp only[aaV,reduceCtorEq]at h
  subst h;rename_i o;obtain⟨a,b⟩:=rm l o void;exact⟨by simp[TL.len,ai,jl],fun i hi=>congrArg V.key (a i hi),fun J=>by simp only[TL.get,TL.len,ai,b],fun hk=>by simp only[TL.get,TL.len,ai,b];exact hk,rfl,rfl⟩
 |it k l=>
  simp only at h;split at h
  ·rename_i k' n hn;split at h<;>simp only[aaV,reduceCtorEq]at h
   rename_i hk;have hk:=aaZ.1 hk;subst hk;subst h;obtain⟨a,b⟩:=rm l n 0;obtain⟨c1,c2,c3⟩:=ot (K:=K) hn;exact⟨by simp[TL.len,ai,jl],fun i hi=>congrArg (V.it k) (a i hi),fun J=>by simp only[TL.get,TL.len,ai,b];exact c1 J,fun hk=>by simp only[TL.get,TL.len,ai,b];exact c2 hk,rfl,c3⟩
  ·simp at h
 |bo l=>
  simp only at h;split at h<;>simp only[aaV,reduceCtorEq]at h
  rename_i b hb;subst h;obtain⟨a,b'⟩:=rm l b false;obtain⟨c1,c3⟩:=mZ hb;exact⟨by simp[TL.len,ai,jl],fun i hi=>congrArg V.bo (a i hi),fun J=>by simp only[TL.get,TL.len,ai,b'];exact c1 J,fun _=>trivial,rfl,c3⟩
 |st l=>
  cases v<;>simp only[aaV,reduceCtorEq]at h
  subst h;rename_i o;obtain⟨a,b⟩:=rm l o ByteArray.empty;exact⟨by simp[TL.len,ai,jl],fun i hi=>congrArg V.st (a i hi),fun J=>by simp only[TL.get,TL.len,ai,b],fun hk=>by simp only[TL.get,TL.len,ai,b];exact hk,rfl,rfl⟩
theorem F6 {K:Nat->Prop} {l':TL} {v:V} (h:Ig v=some l') (g:Nat->V):AW K 0 g v l':=by
 unfold Ig at h;split at h
 ·split at h<;>simp only[aaV,reduceCtorEq]at h
  rename_i a hc;subst h;exact⟨rfl,fun i hi=>by omega,fun J=>rfl,fun h=>GH (.ag a) hc h,rfl,rfl⟩
 ·simp only[aaV]at h;subst h;exact⟨rfl,fun i hi=>by omega,fun J=>rfl,fun h=>h,rfl,rfl⟩
 ·simp only[aaV]at h;subst h;exact⟨rfl,fun i hi=>by omega,fun J=>rfl,fun h=>h,rfl,rfl⟩
 ·simp only[aaV]at h;subst h;exact⟨rfl,fun i hi=>by omega,fun J=>rfl,fun h=>h,rfl,rfl⟩
 ·split at h
  ·rename_i k n hn;simp only[aaV]at h;subst h;obtain⟨c1,c2,c3⟩:=ot (K:=K) hn;exact⟨rfl,fun i hi=>by omega,fun J=>c1 J,fun h=>c2 h,rfl,c3⟩
  ·split at h<;>simp only[aaV,reduceCtorEq]at h
   rename_i b hb;subst h;obtain⟨c1,c3⟩:=mZ hb;exact⟨rfl,fun i hi=>by omega,fun J=>c1 J,fun _=>trivial,rfl,c3⟩
theorem AW.cells {K:Nat->Prop} {n:Nat} {g:Nat->V} {v:V} {l':TL} (h:AW K n g v l'):l'.cells=((List.range n).flatMap fun j=>Sx.cells Env.zero (g j))++Sx.cells Env.zero v:=by
 obtain⟨h1,h2,h3,_⟩:=h;unfold TL.cells;rw[h1,List.range_succ,List.flatMap_append];congr 1
 ·rw[List.flatMap_def,List.flatMap_def];congr 1
  exact List.map_congr_left fun i hi=>by rw[h2 i (List.mem_range.1 hi)]
 ·simp[h3]
section
variable {C:Ctx} {J:Env} {fps:Nat->Nat->Prop} {res:List aK} {w0 w:World} {F0:Nat->Prop}
theorem LN {K:Nat->Prop} {t ty e b n bty cap:Nat} {inf:TypeInfo} {z c v:V} {xv:Value} {xs:List Value} (ht:C.P.underlying t=some (.slice e)) (hZ:C.Z e=some z) (hC:C.Kr) (hi:C.P.info? e=some inf) (hsz:0<fg z)
  (hown:w.ownsRow 0 e (fg z) xv n xs) (hb:w.heap[b]? =some (.cells (cells J c).toArray bty (0,0))) (hok:ok K c) (hct:cV c=false) (hg:iN 8 c 0 (fg z) (jK z)=some v) (hq:sU n inf.bytes):
  ∃v' w',(Builtin.append_ #[t,t] ty #[xv,.slice (some ⟨b,0,none⟩) 1 cap]).run C.P w= .ok v' w'/\w'.ownsRow 0 e (fg z) v' (n+1) (xs++cells J v)/\w.grownBy w' xv.ownBlock/\∀b',v'.ownBlock=some b'->xv.ownBlock=some b'\/w.heap.size<=b':=by
 obtain⟨inf',i1,i2,i3,i4,i5⟩:=hC e z hZ;rw[hi]at i1;simp only[aaV]at i1;subst i1;obtain⟨⟨p,q,e1,e2⟩,e3,e4,e5,e6⟩:=ff J 8 c 0 _ _ v hok hct hg;have hp:p= []:=List.length_eq_zero_iff.1 e2.symm;subst hp;simp only[List.nil_append]at e1;have hlv:=bg J v e5;have hzs:(den Env.zero z).cells.size=fg z:=by rw[<-bg Env.zero z i3];simp[cells]
 have hnl:(cells J v).length=1*fg z:=by rw[hlv,e3];simp
 have hnc:∀j u,(cells J v)[j]? =some u->w.cell? ((⟨b,0,none⟩:Addr).add j)=some u:=fun j u hu=>by
  rw[add_lit,Nat.zero_add,cell_of_row w b j _ _ _ hb];have hj:=(List.getElem?_eq_some_iff.1 hu).1;simp only[List.getElem?_toArray,e1];rw[List.getElem?_append_left hj];exact hu
 have hone:=jq J v e5 e6;have hown0:=hown;rcases hown.2 with⟨rfl,rfl⟩|⟨g,cap',cur,rfl,h2,h3,h4,h5,h6,h7⟩
 ·have hx:xs= []:=List.length_eq_zero_iff.1 (by have:=hown.1;simpa using this)
  subst hx
  obtain⟨v',w',g1,g2,g3,_⟩:=run_append_own (P:=C.P) w w.heap.size t ty e inf (den Env.zero z) (fg z) inf.bytes ht hi (i2 Env.zero) i5 rfl hzs hsz (.slice none 0 0) 0 [] (World.ownsRow_nil w _ e _)
   ⟨b,0,none⟩ 1 cap (cells J v) hnl hnc hone hq.1 hq.2 (Nat.le_refl _)
  exact⟨v',w',g1,⟨g2.1,g2.2.imp id fun⟨g,cp,cu,a1,a2,a3⟩=>⟨g,cp,cu,a1,Nat.zero_le _,a3⟩⟩,g3,fun b' hb'=> .inr (g2.lt b' hb').1⟩
 ·by_cases hroom:n+1<=cap'
  ·obtain⟨w',g1,g2,g3⟩:=run_append_fits (P:=C.P) w 0 t ty e inf (fg z) ht hi i5 g n cap' xs hown0 ⟨b,0,none⟩ 1 cap (cells J v) hnl hnc hone hroom;exact⟨_,w',g1,g2,g3,fun b' hb'=> .inl hb'⟩
  ·have holds:∀j u,xs[j]? =some u->w.cell? ((⟨g,0,none⟩:Addr).add j)=some u:=fun j u hu=>by
    rw[add_lit,Nat.zero_add,hown0.cellAt j (by rw[<-hown0.1];exact(List.getElem?_eq_some_iff.1 hu).1)];exact hu
   obtain⟨v',w',g1,g2,g3⟩:=run_append_arg_grows (P:=C.P) w t ty e inf (den Env.zero z) (fg z) inf.bytes ht hi (i2 Env.zero) i5 rfl hzs hsz ⟨g,0,none⟩ n cap' xs hown0.1 holds ⟨b,0,none⟩ 1 cap (cells J v) hnl hnc (by omega) hq.1 hq.2
   exact⟨v',w',g1,⟨g2.1,g2.2.imp id fun⟨g,cp,cu,a1,a2,a3⟩=>⟨g,cp,cu,a1,Nat.zero_le _,a3⟩⟩,⟨g3.os,g3.tape,g3.output,g3.size,fun k hk _=>g3.block k hk (by simp)⟩,fun b' hb'=> .inr (g2.lt b' hb').1⟩
def DM (res:List aK) (v:V):Option (Nat×Obj):=
 match v with
 | .lp p 0=>match ay res p with
   | .blk _ (.ob o)=>some (p,o)
   |_=>none
 |_=>none
def Xf (C:Ctx) (res:List aK) (t:Nat) (x y:V):Option (Option Prop×V×List aK):=
 match C.P.underlying t with
 |some (.slice e)=>match C.Z e,C.P.info? e with
  |some z,some inf=>match y with
   | .sc k 1 _=>match ay res k with
     | .blk _ c=>match iN 8 c 0 (fg z) (jK z)with
       |some v=>if Nat.blt 0 (fg z)then
        match x with
        | .nl (.slice none 0 0)=>match DM res v with
          |some (p,o)=>if fg z==1 then some (some (sU 0 inf.bytes),.sa res.length,dC [p] res++ [.obs e (res.length+1) [o],.gen res.length])else none
          |none=>(Ig v).map fun l=>(some (sU 0 inf.bytes),.sa res.length,dC [] res++ [.arr (some e) (fg z) l])
        | .sa j=>match ay res j with
          | .arr (some e') esz l=>if e'==e&&esz==fg z then(G5 l v).map fun l'=>(some (sU l.len inf.bytes),.sa res.length,dC [j] res++ [.arr (some e) (fg z) l'])else none
          | .obs e' _ L=>match DM res v with
            |some (p,o)=>if e'==e&&fg z==1 then some (some (sU (ai L) inf.bytes),.sa res.length,dC [j,p] res++ [.obs e (res.length+1) (jl L o),.gen res.length])else none
            |none=>none
          |_=>none
        |_=>none
        else none
       |none=>none
     |_=>none
   |_=>none
  |_,_=>none
 |_=>none
def Env.ku (J:Env) (i:Nat) (a:Addr) (n cap:Nat) (ob:Nat->Nat):Env:=
 {num:=J.num,cap:=fun j=>if j=i then cap else J.cap j,adr:=fun j=>if j=i then a else J.adr j,sa:=fun j=>if j=i then some a else J.sa j,sn:=fun j=>if j=i then n else J.sn j,
  ob:=fun j=>if j=i+1 then ob else J.ob j}
theorem xq {N:Nat->Prop} {i:Nat} {a:Addr} {n cap:Nat} {ob:Nat->Nat} (h:¬N i) (h':¬N (i+1)):Env.bE N J (J.ku i a n cap ob):=fun j hj=>by
 grind[Env.ku]
theorem Ei (i:Nat) (a:Addr) (n cap:Nat) (ob:Nat->Nat):(J.ku i a n cap ob).sl i= .slice (some a) n cap:=by simp[Env.sl,Env.ku]
theorem IE {K:Nat->Prop} {w':World} {e esz n:Nat} {g:Nat->V} {v:V} {v':Value} {l':TL} {ts:List Nat} (h:bq J fps res (known res) w0 F0 w) (hts:∀t∈ts,known res t)
  (hadd:AW K n g v l') (hokv:ok K v) (hvs:fg v=esz) (hold:∀j,j<n->ok (fun _=>False) (g j)/\cV (g j)=false/\fg (g j)=esz)
  (hown:w'.ownsRow 0 e esz v' (n+1) (((List.range n).flatMap fun j=>cells Env.zero (g j))++cells J v)) {xv:Value} (hgr:w.grownBy w' xv.ownBlock)
  (hx:∀b,xv.ownBlock=some b->∃t∈ts,fps t b) (hnew:∀b,v'.ownBlock=some b->xv.ownBlock=some b\/w.heap.size<=b) (hm:n+1<=9223372036854775807):
  ∃ρ' fps',v'=den ρ' (.sa res.length)/\bq ρ' fps' (dC ts res++ [.arr (some e) esz l']) (known (dC ts res++ [.arr (some e) esz l'])) w0 F0 w'/\Env.bE (known res) J ρ'/\
   (∀i,known res i->known (dC ts res++ [.arr (some e) esz l']) i)/\known (dC ts res++ [.arr (some e) esz l']) res.length:=by
 obtain⟨a1,a2,a3,a4,a5,a6⟩:=hadd;have hown':=hown;rcases hown.2 with⟨_,h0⟩|⟨b,cap,cur,rfl,_,hb,_⟩
 ·omega
 have hnk:¬known res res.length:=fun hk=>by have:=aO hk;omega
 have hnk':¬known res (res.length+1):=fun hk=>by have:=aO hk;omega
 have hcz:cells J v=cells Env.zero v:=by
  rw[<-a3 J,<-a3 Env.zero];exact dV (N:=fun _=>False) (fun _ h=>h.elim) _ (a4 hokv)
 have hblt:b<w'.heap.size:=(Array.getElem?_eq_some_iff.1 hb).1
 obtain⟨fps',g1,g2,g3,g4⟩:=h.y9 (ρ':=J.ku res.length ⟨b,0,none⟩ (n+1) cap (fun _=>0)) (w':=w') ts (.arr (some e) esz l') [] (fun x=>x=b) (by simp) hts (by simp) (xq hnk hnk')
  (by
   refine⟨fun j hj=>?_,by simp[Env.ku,a1],by rw[a1];exact hm,fun a ha=>by simp[Env.ku]at ha⊢;exact ha.symm,fun _=>by simp[Env.ku],fun _=>by simp[Env.ku],.inr ⟨e,fun e' he=>by simpa using he.symm,?_,fun a ha=>by simp[Env.ku]at ha;rw[<-ha]⟩⟩
   ·grind
   ·rw[Ei,a1,AW.cells (K:=K) ⟨a1,a2,a3,a4,a5,a6⟩,<-hcz];exact hown')
  (fun x hx'=>by
   subst hx';rcases hnew _ rfl with h1|h1
   ·exact .inl (hx _ h1)
   ·exact .inr ⟨h1,hblt⟩)
  hgr.os hgr.tape hgr.output hgr.size (fun x hxl hno=>hgr.block x hxl fun hh=>by
   obtain⟨t,ht,hft⟩:=hx x hh.symm;exact hno t ht hft)
 exact⟨_,fps',by simp[den,Env.ku],g1,g2,g3,g4⟩
theorem Ix {w':World} {e p bty:Nat} {L:List Obj} {o:Obj} {v':Value} {ts:List Nat} {ob:Nat->Nat} (h:bq J fps res (known res) w0 F0 w) (hts:∀t∈ts,known res t)
  (hp:p∈ts) (hrp:ay res p= .blk bty (.ob o)) (hL:∀x∈L,x.wf)
  (hobs:∀j,j<L.length->(∃t∈ts,fps t (ob j))/\∃t,w.heap[ob j]? =some (.cells (eF (L.getD j free)).toArray t (0,0)))
  (hown:w'.ownsRow 0 e 1 v' (L.length+1) (((List.range L.length).map fun j=>Value.pointer (some ⟨ob j,0,none⟩))++cells J (.lp p 0))) {xv:Value} (hgr:w.grownBy w' xv.ownBlock)
  (hx:∀b,xv.ownBlock=some b->(∃t∈ts,fps t b)/\(∀j,j<L.length->ob j≠b)/\J.num p≠b) (hnew:∀b,v'.ownBlock=some b->xv.ownBlock=some b\/w.heap.size<=b) (hm:L.length+1<=9223372036854775807):
  ∃ρ' fps',v'=den ρ' (.sa res.length)/\bq ρ' fps' (dC ts res++ [.obs e (res.length+1) (jl L o),.gen res.length]) (known (dC ts res++ [.obs e (res.length+1) (jl L o),.gen res.length])) w0 F0 w'/\Env.bE (known res) J ρ'/\
   (∀i,known res i->known (dC ts res++ [.obs e (res.length+1) (jl L o),.gen res.length]) i)/\known (dC ts res++ [.obs e (res.length+1) (jl L o),.gen res.length]) res.length:=by
 have hown':=hown;rcases hown.2 with⟨_,h0⟩|⟨b,cap,cur,rfl,_,hb,_⟩
 ·omega
 have hnk:¬known res res.length:=fun hk=>by have:=aO hk;omega
 have hnk':¬known res (res.length+1):=fun hk=>by have:=aO hk;omega
 have hblt:b<w'.heap.size:=(Array.getElem?_eq_some_iff.1 hb).1;have hkp:=hts p hp;have hhp:=h.holds p hkp;rw[hrp]at hhp;obtain⟨p1,_,p3,p4⟩:=hhp;have p1:o.wf:=p1;rw[jT]at p4
 have jH:∀x y,w.heap[x]? =some y->(∀b,xv.ownBlock=some b->x≠b)->w'.heap[x]? =some y:=fun x y hy hne=>by
  rw[hgr.block x (Array.getElem?_eq_some_iff.1 hy).1 fun hh=>hne x hh.symm rfl];exact hy
 have hob:∀j,j<L.length+1->∃y,(if j<L.length then ob j else J.num p)=y/\(∃t∈ts,fps t y)/\∃t,w'.heap[y]? =some (.cells (eF ((jl L o).getD j free)).toArray t (0,0)):=by
  grind[jl,free]
 have hlen:(jl L o).length=L.length+1:=by simp[jl]
 have hgk:known (dC ts res++ [.obs e (res.length+1) (jl L o),.gen res.length]) (res.length+1):=by
  unfold known;rw[cF,lA,aa3 (by omega),show res.length+1-res.length=1 by omega];simp[ay]
 obtain⟨fps',g1,g2,g3,g4⟩:=h.y9 (ρ':=J.ku res.length ⟨b,0,none⟩ (L.length+1) cap (fun j=>if j<L.length then ob j else J.num p)) (w':=w') ts (.obs e (res.length+1) (jl L o)) [.gen res.length]
  (fun x=>x=b\/∃j,j<L.length+1/\x=if j<L.length then ob j else J.num p) (by simp) hts (by simp) (xq hnk hnk')
  (by
   refine⟨hgk,fun x hx=>?_,by simp[Env.ku,hlen],by rw[hlen];exact hm,fun a ha=>by simp[Env.ku]at ha⊢;exact⟨ha.symm,.inl (by rw[<-ha])⟩,fun _=>by simp[Env.ku],?_,fun j hj=>?_⟩
   ·rcases List.mem_append.1 hx with hx|hx
    ·exact hL x hx
    ·simp only[List.mem_singleton]at hx;subst hx;exact p1
   ·rw[Ei,hlen]
    have:((List.range (L.length+1)).map fun j=>Value.pointer (some ⟨(J.ku res.length ⟨b,0,none⟩ (L.length+1) cap (fun j=>if j<L.length then ob j else J.num p)).ob (res.length+1) j,0,none⟩))=
      ((List.range L.length).map fun j=>Value.pointer (some ⟨ob j,0,none⟩))++cells J (.lp p 0):=by
     rw[List.range_succ,List.map_append];congr 1
     ·simp_all[Env.ku]
     ·simp[Env.ku,cells,den,Value.cells]
    rw[this];exact hown'
   ·rw[hlen]at hj;obtain⟨y,y1,_,t,y3⟩:=hob j hj;have hoby:(J.ku res.length ⟨b,0,none⟩ (L.length+1) cap (fun j=>if j<L.length then ob j else J.num p)).ob (res.length+1) j=y:=by simp[Env.ku,y1]
    rw[hoby];exact⟨.inr ⟨j,hj,y1.symm⟩,t,y3⟩)
  (fun x hx'=>by
   rcases hx' with rfl|⟨j,hj,rfl⟩
   ·rcases hnew _ rfl with h1|h1
    ·exact .inl (hx _ h1).1
    ·exact .inr ⟨h1,hblt⟩
   ·obtain⟨y,y1,y2,_⟩:=hob j hj;rw[y1];exact .inl y2)
  hgr.os hgr.tape hgr.output hgr.size (fun x hxl hno=>hgr.block x hxl fun hh=>by
   obtain⟨t,ht,hft⟩:=(hx x hh.symm).1;exact hno t ht hft)
 exact⟨_,fps',by simp[den,Env.ku],g1,g2,g3,g4⟩
theorem tD {v:V} {p:Nat} {o:Obj} (h:DM res v=some (p,o)):v= .lp p 0/\∃bty,ay res p= .blk bty (.ob o):=by
 unfold DM at h;split at h
 ·grind
 ·simp at h
theorem Bt {n:Nat} (h:n<=maxLen):n<=9223372036854775807:=by
 simp only[maxLen]at h;omega
theorem vL {w:World} {e:Nat} {xv:Value} {n:Nat} {f:Nat->Value} (h:w.ownsRow 0 e 1 xv n ((List.range n).map f)) (hf:∀j,∃a,f j= .pointer a) {b x t:Nat} {o:Obj} (hb:xv.ownBlock=some b)
  (hx:w.heap[x]? =some (.cells (eF o).toArray t (0,0))) (hn:0<n):x≠b:=by
 rintro rfl
 rcases h.2 with⟨_,h0⟩|⟨g,cap,cur,rfl,_,h3,_,_,_,h7⟩
 ·omega
 ·simp only[Value.ownBlock,aaV]at hb;subst hb;rw[h3]at hx;simp only[aaV,Go.Obj.cells.injEq]at hx;rw[hx.1]at h7;have h0:=congrArg (·[0]?) h7;obtain⟨a,ha⟩:=hf 0;simp[eF,i64,hn,ha]at h0
theorem J9 {t ty:Nat} {x y r:V} {q:Option Prop} {res':List aK} (hC:C.Kr) (h:bq J fps res (known res) w0 F0 w) (ha:Xf C res t x y=some (q,r,res')) (hq:dX q) (hx:ok (known res) x):
  ∃w' ρ' fps',(Builtin.append_ #[t,t] ty #[den J x,den J y]).run C.P w= .ok (den ρ' r) w'/\bq ρ' fps' res' (known res') w0 F0 w'/\Env.bE (known res) J ρ'/\(∀i,known res i->known res' i)/\ok (known res') r:=by
 unfold Xf at ha;split at ha
 ·rename_i e ht;split at ha
  ·rename_i z inf hZ hi;split at ha
   ·rename_i k cap;split at ha
    ·rename_i bty c hk;split at ha
     ·rename_i v hg;split at ha
      ·rename_i hsz;have hsz:0<fg z:=by simpa using hsz
       have hkk:=h.holds k (by unfold known;rw[hk];simp)
       rw[hk]at hkk;obtain⟨c1,c2,c3,c4⟩:=hkk;obtain⟨_,v2,v3,v4,v5⟩:=ff J 8 c 0 _ _ v c1 c2 hg;have run:∀{n:Nat} {xv:Value} {xs:List Value},w.ownsRow 0 e (fg z) xv n xs->sU n inf.bytes->_:=fun{n xv xs} ho hf=>LN (C:=C) (ty:=ty) (cap:=cap) ht hZ hC hi hsz ho c4 c1 c2 hg hf
       split at ha
       ·
        split at ha
        ·rename_i p o hob;obtain⟨rfl,bt,hrp⟩:=tD hob;split at ha<;>simp only[aaV,aaW,reduceCtorEq]at ha
         rename_i hz1;have hz1:=aaZ.1 hz1;obtain⟨rfl,rfl,rfl⟩:=ha;obtain⟨v',w',g1,g2,g3,g4⟩:=run (World.ownsRow_nil w 0 e (fg z)) hq;rw[hz1]at g2;have hkp:known res p:=by unfold known;rw[hrp];simp
         obtain⟨ρ',fps',f1,f2,f3,f4,f5⟩:=Ix (L:= []) (ob:=fun _=>0) (ts:= [p]) h (by simpa using hkp) (by simp) hrp (by simp) (fun j hj=>by simp at hj) g2 g3 (fun b hb=>by simp[Value.ownBlock]at hb) g4 (by simp)
         exact⟨w',ρ',fps',by rw[<-f1];exact g1,f2,f3,f4,f5⟩
        ·cases hl:Ig v with
         |none=>simp[hl]at ha
         |some l=>
          simp only[hl,Option.map_some,aaV,aaW]at ha;obtain⟨rfl,rfl,rfl⟩:=ha;obtain⟨v',w',g1,g2,g3,g4⟩:=run (World.ownsRow_nil w 0 e (fg z)) hq;obtain⟨ρ',fps',f1,f2,f3,f4,f5⟩:=IE (n:=0) (g:=fun _=>v) (ts:= []) h (by simp) (F6 (K:=known res) hl _) v4 v2 (fun j hj=>by omega) (by simpa using g2) g3 (fun b hb=>by simp[Value.ownBlock]at hb) g4 (by simp)
          exact⟨w',ρ',fps',by rw[<-f1];exact g1,f2,f3,f4,f5⟩
       ·rename_i j;split at ha
        ·rename_i e' esz l hj;split at ha
         ·rename_i hc;simp only[aaX,aaZ]at hc;obtain⟨rfl,rfl⟩:=hc;cases hl:G5 l v with
          |none=>simp[hl]at ha
          |some l'=>
           simp only[hl,Option.map_some,aaV,aaW]at ha;obtain⟨rfl,rfl,rfl⟩:=ha;have hjj:=h.holds j (by unfold known;rw[hj];simp)
           rw[hj]at hjj;obtain⟨a1,a2,a3,a4,a5,a6,a7⟩:=hjj;rcases a7 with⟨b1,_⟩|⟨e2,b1,b2,b3⟩
           ·simp at b1
           ·have:=b1 e' rfl;subst this;obtain⟨v',w',g1,g2,g3,g4⟩:=run b2 hq
            obtain⟨ρ',fps',f1,f2,f3,f4,f5⟩:=IE (n:=l.len) (g:=l.get) (ts:= [j]) h (by have hx:known res j:=hx;simpa using hx) (Ge (K:=known res) hl) v4 v2 a1 g2 g3 (fun b hb=>by
             refine⟨j,by simp,?_⟩
             cases hs:J.sa j with
             |none=>simp[Env.sl,hs,Value.ownBlock]at hb
             |some a=>
              simp only[Env.sl,hs,Value.ownBlock,aaV]at hb;rw[<-hb];exact b3 a hs) g4 (Bt hq.1)
            exact⟨w',ρ',fps',by rw[<-f1];exact g1,f2,f3,f4,f5⟩
         ·simp at ha
        ·rename_i e' q0 L hj;split at ha
         ·rename_i p o hob;obtain⟨rfl,bt,hrp⟩:=tD hob;split at ha<;>simp only[aaV,aaW,reduceCtorEq]at ha
          rename_i hc;simp only[aaX,aaZ]at hc;obtain⟨rfl,hz1⟩:=hc;obtain⟨rfl,rfl,rfl⟩:=ha;have hkj:known res j:=by unfold known;rw[hj];simp
          have hkp:known res p:=by unfold known;rw[hrp];simp
          have hjj:=h.holds j hkj;rw[hj]at hjj;obtain⟨_,a1,a2,a3,a4,a5,a6,a7⟩:=hjj;have hne:j≠p:=fun e=>by rw[e,hrp]at hj;simp at hj
          have hpp:=h.holds p hkp;rw[hrp]at hpp;obtain⟨_,_,p3,_⟩:=hpp;obtain⟨v',w',g1,g2,g3,g4⟩:=run (by rw[hz1];exact a6) hq
          rw[hz1]at g2
          obtain⟨ρ',fps',f1,f2,f3,f4,f5⟩:=Ix (L:=L) (ob:=J.ob q0) (ts:= [j,p]) h (by simp[hkj,hkp]) (by simp) hrp a1 (fun i hi=>⟨⟨j,by simp,(a7 i hi).1⟩,(a7 i hi).2⟩) g2 g3 (fun b hb=>by
           have hb':=hb;cases hs:J.sa j with
           |none=>simp[Env.sl,hs,Value.ownBlock]at hb
           |some a=>
            simp only[den,hs,Value.ownBlock,aaV,Env.sl]at hb;have hfb:fps j b:=by rw[<-hb];exact(a4 a hs).2
            refine⟨⟨j,by simp,hfb⟩,fun i hi=>?_,fun e=>h.disj j p b hkj hkp hne hfb (e▸p3)⟩
            obtain⟨_,t,hti⟩:=a7 i hi;exact vL a6 (fun i=>⟨_,rfl⟩) hb' hti (by omega)) g4 (Bt hq.1)
          exact⟨w',ρ',fps',by rw[<-f1];exact g1,f2,f3,f4,f5⟩
         ·simp at ha
        ·simp at ha
       ·simp at ha
      ·simp at ha
     ·simp at ha
    ·simp at ha
   ·simp at ha
  ·simp at ha
 ·simp at ha
end
theorem O3 {α:Type} (l vs:List α) (off m:Nat) (hm:off+vs.length<=m) (hl:m<=l.length):
  (l.take off++vs++l.drop (off+vs.length)).take m=(l.take m).take off++vs++(l.take m).drop (off+vs.length):=by
 have h1:(l.take off++vs).length=off+vs.length:=by simp;omega
 rw[List.take_append,List.take_of_length_le (by rw[h1];exact hm),h1,List.take_take,Nat.min_eq_left (by omega),List.drop_take]
theorem oX {P:Program} {w:World} {e size n cap g:Nat} {xs:List Value} (hown:w.ownsRow 0 e size (.slice (some ⟨g,0,none⟩) n cap) n xs) (vs:List Value) (off:Nat)
  (h1:∀v∈vs,v.oneCell'=true) (hoff:off+vs.length<=n*size):
  ∃w',(storeCells ⟨g,off,none⟩ vs 0).run P w= .ok () w'/\w'.ownsRow 0 e size (.slice (some ⟨g,0,none⟩) n cap) n (xs.take off++vs++xs.drop (off+vs.length))/\w.grownBy w' (some g):=by
 rcases hown.2 with⟨h,_⟩|⟨g',cap',cur,h,hb,hg,hnc,hcm,hcs,htake⟩
 ·simp at h
 ·simp only[Value.slice.injEq,aaV,Addr.mk.injEq,and_true,true_and]at h;obtain⟨rfl,rfl⟩:=h;have hle:n*size<=cur.size:=by rw[hcs];exact Nat.mul_le_mul_right _ hnc
  have hst:=run_storeCells_at (P:=P) g off e vs 0 cur w hg (by omega) h1
  simp only[Nat.add_zero]at hst;refine⟨_,hst,⟨?_,.inr ⟨g,cap,_,rfl,hb,setRow_heap w g cur _ e _ hg,hnc,hcm,?_,?_⟩⟩,⟨rfl,rfl,rfl,by simp[World.setRow],fun k _ hk=>setRow_other w g _ k (fun e=>hk (by simp[e]))⟩⟩
  ·grind
  ·grind
  ·grind[O3]
theorem bq.Df {J ρ':Env} {fps:Nat->Nat->Prop} {res:List aK} {w0:World} {F0:Nat->Prop} {w w':World} (h:bq J fps res (known res) w0 F0 w) (ts:List Nat) (j:Nat) (r:aK) (ms:List aK) (fp:Nat->Prop)
  (hms:∀m∈ms,∃j,m= .gen j) (hts:∀t∈ts,known res t) (hj:known res j) (hjt:j∉ts) (hr:r≠ .yet) (hag:Env.bE (known res) J ρ')
  (hh:r.holds (known (dC ts (bO res j r)++ms)) ρ' j fp w0 F0 w') (hfp:∀b,fp b->fps j b\/(∃t∈ts,fps t b)\/(w.heap.size<=b/\b<w'.heap.size))
  (hos:w'.os=w.os) (htape:w'.tape=w.tape) (hout:w'.output=w.output) (hsize:w.heap.size<=w'.heap.size)
  (hsame:∀b,b<w.heap.size->¬fps j b->(∀t∈ts,¬fps t b)->w'.heap[b]? =w.heap[b]?):
  ∃fps',bq ρ' fps' (dC ts (bO res j r)++ms) (known (dC ts (bO res j r)++ms)) w0 F0 w'/\Env.bE (known res) J ρ'/\(∀i,known res i->known (dC ts (bO res j r)++ms) i):=by
 have hlj:=aO hj;have hlt:∀t∈ts,t<(bO res j r).length:=fun t ht=>by rw[cE];exact aO (hts t ht)
 have hget:∀i,ay (dC ts (bO res j r)++ms) i=if i<res.length then(if i∈ts then .gone else if i=j then r else ay res i)else ay ms (i-res.length):=by
  simp_all[cF,lA,cE,tQ,bJ]
 have hmget:∀k,ay ms k= .yet\/∃j,ay ms k= .gen j:=fun k=>by
  rw[m9,aa2];cases hm:ms[k]? with
  |none=>exact .inl rfl
  |some m=>
   obtain⟨j,rfl⟩:=hms m (List.mem_of_getElem? hm);exact .inr ⟨j,rfl⟩
 have hmono:∀i,known res i->known (dC ts (bO res j r)++ms) i:=fun i hi=>by
  grind[known,aO]
 obtain⟨fps',g⟩:=h.turn (res':=dC ts (bO res j r)++ms) (K':=known (dC ts (bO res j r)++ms)) (fun i=>i∈ts\/i=j) (fun i=>i∈ts\/i=j\/res.length<=i) (fun i b=>i=j/\fp b)
  (fun i hi=>hi) hmono hag (fun i hi hb=>by
   have hi':=hi;unfold known at hi';rw[hget]at hi';have h1:i∉ts:=fun e=>hb (.inl e)
   have h2:i≠j:=fun e=>hb (.inr (.inl e))
   have hl:i<res.length:=by
    rcases Nat.lt_or_ge i res.length with h|h
    ·exact h
    ·exact absurd (.inr (.inr h)) hb
   rw[aa4 hl,aa3 h1,aa3 h2]at hi';exact⟨hi',fun e=>e.elim h1 h2,by rw[hget,aa4 hl,aa3 h1,aa3 h2]⟩)
  (fun i hi hb=>by
   by_cases e:i=j
   ·subst e;refine⟨?_,fun b hf=>?_⟩
    ·rw[hget,aa4 hlj,aa3 hjt,aa4 rfl];have:(fun b=>i=i/\fp b)=fp:=by funext b;simp
     rw[this];exact hh
    ·rcases hfp b hf.2 with hf|⟨t,ht,hft⟩|hn
     ·exact .inl ⟨i,.inr rfl,hj,hf⟩
     ·exact .inl ⟨t,.inl ht,hts t ht,hft⟩
     ·exact .inr hn
   ·refine⟨?_,fun b hf=>absurd hf.1 e⟩
    rw[hget];by_cases hl:i<res.length
    ·rw[aa4 hl,aa4 (hb.resolve_right fun hh=>hh.elim e (by omega))]
     trivial
    ·rw[aa3 hl];rcases hmget (i-res.length)with h|⟨j,h⟩<;>rw[h]<;>trivial)
  (fun i j b _ _ hne hf hf'=>hne (hf.1.trans hf'.1.symm))
  hos htape hout hsize (fun b hb hno=>hsame b hb (hno j (.inr rfl) hj) fun t ht=>hno t (.inl ht) (hts t ht))
 exact⟨fps',g,hag,hmono⟩
def cz {α:Type} (l:List α) (i:Nat) (x:α):List α:=l.set i x
def B3 (l:TL) (i:Nat) (v:V):Option TL:=
 match l with
 | .ob l=>match v with
   | .ob o=>some (.ob (cz l i o))
   |_=>none
 | .key l=>match v with
   | .key k=>some (.key (cz l i k))
   |_=>none
 | .it k l=>match toInt v with
   |some (k',n)=>if k==k' then some (.it k (cz l i n))else none
   |none=>none
 | .bo l=>match toBool v with
   |some b=>some (.bo (cz l i b))
   |none=>none
 | .st l=>match v with
   | .st s=>some (.st (cz l i s))
   |_=>none
 | .fn _ _=>none
def XU (K:Nat->Prop) (l:TL) (i:Nat) (v:V) (l':TL):Prop:=
 l'.len=l.len/\(∀j,j≠i->l'.get j=l.get j)/\(i<l.len->(∀J,cells J (l'.get i)=cells J v)/\(ok K v->ok (fun _=>False) (l'.get i))/\cV (l'.get i)=false/\fg (l'.get i)=fg v)
theorem ri {α:Type} (l:List α) (i:Nat) (x d:α):(∀j,j≠i->aj (cz l i x) j d=aj l j d)/\(i<l.length->aj (cz l i x) i d=x):=by
 grind[aj,cz]
theorem zX {K:Nat->Prop} {l l':TL} {i:Nat} {v:V} (h:B3 l i v=some l'):XU K l i v l':=by
 unfold B3 at h;cases l with
 |fn n g=>simp at h
 |ob l=>
  cases v<;>simp only[aaV,reduceCtorEq]at h
  subst h;rename_i o;obtain⟨a,b⟩:=ri l i o free;exact⟨by simp[TL.len,ai,cz],fun j hj=>congrArg V.ob (a j hj),fun hi=>⟨fun J=>by simp only[TL.get,b hi],fun hk=>by simp only[TL.get,b hi];exact hk,rfl,rfl⟩⟩
 |key l=>
  cases v<;>simp only[aaV,reduceCtorEq]at h
  subst h;rename_i o;obtain⟨a,b⟩:=ri l i o void;exact⟨by simp[TL.len,ai,cz],fun j hj=>congrArg V.key (a j hj),fun hi=>⟨fun J=>by simp only[TL.get,b hi],fun hk=>by simp only[TL.get,b hi];exact hk,rfl,rfl⟩⟩
 |it k l=>
  simp only at h;split at h
  ·rename_i k' n hn;split at h<;>simp only[aaV,reduceCtorEq]at h
   rename_i hk;have hk:=aaZ.1 hk;subst hk;subst h;obtain⟨a,b⟩:=ri l i n 0;obtain⟨c1,c2,c3⟩:=ot (K:=K) hn;exact⟨by simp[TL.len,ai,cz],fun j hj=>congrArg (V.it k) (a j hj),fun hi=>⟨fun J=>by simp only[TL.get,b hi];exact c1 J,fun hk=>by simp only[TL.get,b hi];exact c2 hk,rfl,c3⟩⟩
  ·simp at h
 |bo l=>
  simp only at h;split at h<;>simp only[aaV,reduceCtorEq]at h
  rename_i b hb;subst h;obtain⟨a,b'⟩:=ri l i b false;obtain⟨c1,c3⟩:=mZ hb;exact⟨by simp[TL.len,ai,cz],fun j hj=>congrArg V.bo (a j hj),fun hi=>⟨fun J=>by simp only[TL.get,b' hi];exact c1 J,fun _=>trivial,rfl,c3⟩⟩
 |st l=>
  cases v<;>simp only[aaV,reduceCtorEq]at h
  subst h;rename_i o;obtain⟨a,b⟩:=ri l i o ByteArray.empty;exact⟨by simp[TL.len,ai,cz],fun j hj=>congrArg V.st (a j hj),fun hi=>⟨fun J=>by simp only[TL.get,b hi],fun hk=>by simp only[TL.get,b hi];exact hk,rfl,rfl⟩⟩
theorem u9 {α:Type} {f:Nat->List α} {esz:Nat}:∀{n:Nat},(∀j,j<n->(f j).length=esz)->((List.range n).flatMap f).length=n*esz
 |0,_=>by simp
 |n+1,h=>by
  rw[List.range_succ,List.flatMap_append,List.length_append,u9 fun j hj=>h j (by omega)]
  simp[h n (by omega),Nat.succ_mul]
theorem vq {α:Type} {f f':Nat->List α} {esz:Nat}:∀{n i:Nat},(∀j,j<n->(f j).length=esz)->(∀j,j<n->j≠i->f' j=f j)->(f' i).length=esz->i<n->
  (List.range n).flatMap f'=((List.range n).flatMap f).take (i*esz)++f' i++((List.range n).flatMap f).drop (i*esz+esz)
 |0,i,_,_,_,hi=>by omega
 |n+1,i,h,hf,hl,hi=>by
  have hlen:((List.range n).flatMap f).length=n*esz:=u9 fun j hj=>h j (by omega)
  rw[List.range_succ,List.flatMap_append,List.flatMap_append];simp only[List.flatMap_cons,List.flatMap_nil,List.append_nil];by_cases e:i=n
  ·subst e
   have e1:(List.range i).flatMap f'=(List.range i).flatMap f:=by
    rw[List.flatMap_def,List.flatMap_def];congr 1
    exact List.map_congr_left fun j hj=>hf j (by have:=List.mem_range.1 hj;omega) (by have:=List.mem_range.1 hj;omega)
   rw[e1,List.take_append,List.take_of_length_le (by omega),hlen,Nat.sub_self,List.take_zero,List.append_nil,List.drop_of_length_le (by simp[hlen,h i (by omega)]),List.append_nil]
  ·have hin:i<n:=by omega
   have hm:i*esz+esz<=n*esz:=by rw[<-Nat.succ_mul];exact Nat.mul_le_mul_right _ hin
   rw[vq (fun j hj=>h j (by omega)) (fun j hj hne=>hf j (by omega) hne) hl hin,hf n (by omega) (fun e'=>e e'.symm)]
   rw[List.take_append_of_le_length (by omega),List.drop_append_of_le_length (by omega)]
   simp only[List.append_assoc]
def GM (P:Program) (res:List aK) (t j esz i off:Nat) (y:V):Option (Option Prop×List aK):=
 if oZ P t==some (fg y)&& !cV y then
  match ay res j with
  | .arr (some e) esz' l=>if esz==esz' then
    match setAt 8 (l.get i) off y with
    |some v'=>if fg v'==esz then(B3 l i v').map fun l'=>(some (Kq i l.len),bO res j (.arr (some e) esz l'))else none
    |none=>none
    else none
  |_=>none
 else none
def GO (P:Program) (res:List aK) (t:Nat) (p y:V):Option (Option Prop×List aK):=
 match p with
 | .ap j esz i off=>if oZ P t==some (fg y)&& !cV y&&fg y==esz&&off==0 then
   match ay res j with
   | .arr (some e) esz' l=>if esz==esz' then(B3 l i y).map fun l'=>(some (Kq i l.len),bO res j (.arr (some e) esz l'))else none
   | .obs ty _ L=>match DM res y with
     |some (k,o)=>if esz==1 then some (some (Kq i (ai L)),dC [k] (bO res j (.obs ty res.length (cz L i o)))++ [.gen j])else none
     |none=>none
   |_=>none
   else GM P res t j esz i off y
 |_=>none
def Env.oE (J:Env) (q:Nat) (f:Nat->Nat):Env:= {J with ob:=fun j=>if j=q then f else J.ob j}
theorem Fq {N:Nat->Prop} {J:Env} {q:Nat} {f:Nat->Nat} (h:¬N q):Env.bE N J (J.oE q f):=fun j hj=>by
 have:j≠q:=fun e=>h (e▸hj)
 simp[Env.oE,this]
section
variable {P:Program} {J:Env} {fps:Nat->Nat->Prop} {res:List aK} {w0 w:World} {F0:Nat->Prop}
theorem pL {t:Nat} {y:V} {K:Nat->Prop} {b off:Nat} {w':World} (hs:oZ P t=some (fg y)) (hy:ok K y) (h:(storeCells ⟨b,off,none⟩ (cells J y) 0).run P w= .ok () w'):
  (Instr.storeAt t (.pointer (some ⟨b,off,none⟩)) (den J y)).run P w= .ok () w':=by
 have hz:(den J y).cells.size=fg y:=by rw[<-bg J y hy];simp[cells]
 simp only[Instr.storeAt,Instr.sureAddr,storeVar,Sem.run_bind,Sem.run_pure,gz w hs,Result.andThen_ok,hz,ne_eq,not_true_eq_false,if_false];rw[show(den J y).cells.toList=cells J y from rfl,h]
theorem So {α:Type} {c A p m q B ys:List α} {n off:Nat} (hc:c=A++(p++m++q)++B) (hA:A.length=n) (hp:p.length=off) (hm:m.length=ys.length):c.take (n+off)++ys++c.drop (n+off+ys.length)=A++(p++ys++q)++B:=by
 have e:c=(A++p)++(m++(q++B)):=by rw[hc];simp
 have e2:c=(A++p++m)++(q++B):=by rw[hc];simp
 have l1:(A++p).length=n+off:=by simp[hA,hp]
 have l2:(A++p++m).length=n+off+ys.length:=by simp[hA,hp,hm];omega
 have h1:c.take (n+off)=A++p:=by rw[e,<-l1];exact List.take_left
 have h2:c.drop (n+off+ys.length)=q++B:=by rw[e2,<-l2];exact List.drop_left
 rw[h1,h2];simp
theorem DS {t j esz i off:Nat} {y:V} {q:Option Prop} {res':List aK} (h:bq J fps res (known res) w0 F0 w) (hs:GM P res t j esz i off y=some (q,res')) (hq:dX q) (hkj:known res j) (hy:ok (known res) y):
  ∃w' ρ' fps',(Instr.storeAt t (den J (.ap j esz i off)) (den J y)).run P w= .ok () w'/\bq ρ' fps' res' (known res') w0 F0 w'/\Env.bE (known res) J ρ'/\∀i,known res i->known res' i:=by
 unfold GM at hs;split at hs
 case isFalse=>simp at hs
 rename_i hc;simp only[aaX,aaZ,Bool.not_eq_true']at hc;obtain⟨hts,hty⟩:=hc;have hj:=h.holds j hkj;split at hs
 case h_2=>simp at hs
 rename_i e esz' l hr;rw[hr]at hj;split at hs
 case isFalse=>simp at hs
 rename_i he;have he:=aaZ.1 he;subst he;split at hs
 case h_2=>simp at hs
 rename_i v' hv';split at hs
 case isFalse=>simp at hs
 rename_i hvs;have hvs:=aaZ.1 hvs;cases hl:B3 l i v' with
 |none=>simp[hl]at hs
 |some l'=>
  simp only[hl,Option.map_some,aaV,aaW]at hs;obtain⟨rfl,rfl⟩:=hs;have hi:i<l.len:=hq;obtain⟨s1,s2,s3⟩:=zX (K:=known res) hl;obtain⟨t1,t2,t3,t4⟩:=s3 hi;obtain⟨a1,a2,a3,a4,a5,a6,a7⟩:=hj;obtain⟨x1,x2,x3⟩:=a1 i hi;obtain⟨⟨p0,m0,q0,y1,y2,y3,y4⟩,y5,y6,y7⟩:=iz (N:=known res) J y hy hty 8 (l.get i) off v' (ec (fun _ h=>h.elim) _ x1) x2 hv'
  rcases a7 with⟨b1,_⟩|⟨e2,b1,b2,b3⟩
  ·simp at b1
  ·have:=b1 e rfl;subst this;obtain⟨g,f1,f2,f3,f4⟩:=kY b2 (by omega)
   have hadr:=a4 _ f1;have hm:i*esz+esz<=l.len*esz:=by rw[<-Nat.succ_mul];exact Nat.mul_le_mul_right _ hi
   have hlen:∀j,j<l.len->(cells Env.zero (l.get j)).length=esz:=fun j hj=>by rw[bg Env.zero _ (a1 j hj).1];exact(a1 j hj).2.2
   have hsl:J.sl j= .slice (some ⟨g,0,none⟩) l.len (J.cap j):=by simp[Env.sl,f1,f2]
   rw[hsl]at b2;have hcy:=bg J y hy
   have hcz:cells J v'=cells Env.zero (l'.get i):=by
    rw[<-t1 J];exact dV (N:=fun _=>False) (fun _ h=>h.elim) _ (t2 y6)
   have hc0:cells Env.zero (l.get i)=p0++m0++q0:=by
    rw[<-y1];exact(dV (N:=fun _=>False) (fun _ h=>h.elim) _ x1).symm
   have hl0':=hlen i hi;have hl0:=hl0';rw[hc0]at hl0;simp only[List.length_append]at hl0;obtain⟨w',r1,r2,r3⟩:=oX (P:=P) b2 (cells J y) (i*esz+off) (jq J y hy hty) (by omega)
   have hfj:fps j g:=b3 _ f1
   obtain⟨fps',g1,g2,g3⟩:=h.Df (ρ':=J) (w':=w') [] j (.arr (some e) esz l') [] (fps j) (by simp) (by simp) hkj (by simp) (by simp) (Env.bE.refl _ _)
    (by
     refine⟨fun k hk=>?_,by rw[s1];exact a2,by rw[s1];exact a3,a4,by rw[s1];exact a5,by rw[s1];exact a6,.inr ⟨e,fun e' he=>by simpa using he.symm,?_,b3⟩⟩
     ·by_cases ek:k=i
      ·subst ek;exact⟨t2 y6,t3,t4.trans hvs⟩
      ·rw[s2 k ek];exact a1 k (by omega)
     ·rw[hsl,s1];have hv:=bg J v' y6
      have hf:l'.cells=l.cells.take (i*esz)++cells J v'++l.cells.drop (i*esz+esz):=by
       unfold TL.cells;rw[s1,hcz,vq (f:=fun j=>cells Env.zero (l.get j)) (f':=fun j=>cells Env.zero (l'.get j)) (i:=i) hlen (fun j _ hne=>by simp only[s2 j hne]) (by rw[<-hcz,hv];exact hvs) hi]
      have hs0:l.cells=l.cells.take (i*esz)++(p0++m0++q0)++l.cells.drop (i*esz+esz):=by
       have:=vq (f:=fun j=>cells Env.zero (l.get j)) (f':=fun j=>cells Env.zero (l.get j)) (i:=i) hlen (fun j _ hne=>rfl) hl0' hi
       rw[hc0]at this;exact this
      have hlc:l.cells.length=l.len*esz:=u9 hlen
      have:l'.cells=l.cells.take (i*esz+off)++cells J y++l.cells.drop (i*esz+off+(cells J y).length):=by
       rw[So hs0 (by rw[List.length_take];omega) y3 (by rw[hcy];exact y4),hf,y2]
      rw[this];exact r2)
    (fun b hb=> .inl hb) r3.os r3.tape r3.output r3.size (fun b hb hno _=>r3.block b hb fun e=>hno (by simp only[aaV]at e;rw[e];exact hfj))
   refine⟨w',J,fps',?_,by simpa[dC]using g1,g2,by simpa[dC]using g3⟩
   simp only[den];rw[<-hadr];simp only[Nat.zero_add];exact pL hts hy r1
theorem DO {t:Nat} {p y:V} {q:Option Prop} {res':List aK} (h:bq J fps res (known res) w0 F0 w) (hs:GO P res t p y=some (q,res')) (hq:dX q) (hp:ok (known res) p) (hy:ok (known res) y):
  ∃w' ρ' fps',(Instr.storeAt t (den J p) (den J y)).run P w= .ok () w'/\bq ρ' fps' res' (known res') w0 F0 w'/\Env.bE (known res) J ρ'/\∀i,known res i->known res' i:=by
 unfold GO at hs;split at hs
 ·rename_i j esz i off;split at hs
  ·rename_i hc;simp only[aaX,aaZ,Bool.not_eq_true']at hc;obtain⟨⟨⟨hts,hty⟩,hvs⟩,rfl⟩:=hc;have hkj:known res j:=hp;have hj:=h.holds j hkj;split at hs
   ·rename_i e esz' l hr;rw[hr]at hj;split at hs
    ·rename_i he;have he:=aaZ.1 he;subst he;cases hl:B3 l i y with
     |none=>simp[hl]at hs
     |some l'=>
      simp only[hl,Option.map_some,aaV,aaW]at hs;obtain⟨rfl,rfl⟩:=hs;have hi:i<l.len:=hq;obtain⟨s1,s2,s3⟩:=zX (K:=known res) hl;obtain⟨t1,t2,t3,t4⟩:=s3 hi;obtain⟨a1,a2,a3,a4,a5,a6,a7⟩:=hj;rcases a7 with⟨b1,_⟩|⟨e2,b1,b2,b3⟩
      ·simp at b1
      ·have:=b1 e rfl;subst this;obtain⟨g,f1,f2,f3,f4⟩:=kY b2 (by omega)
       have hadr:=a4 _ f1;have hm:i*esz+esz<=l.len*esz:=by rw[<-Nat.succ_mul];exact Nat.mul_le_mul_right _ hi
       have hlen:∀j,j<l.len->(cells Env.zero (l.get j)).length=esz:=fun j hj=>by rw[bg Env.zero _ (a1 j hj).1];exact(a1 j hj).2.2
       have hsl:J.sl j= .slice (some ⟨g,0,none⟩) l.len (J.cap j):=by simp[Env.sl,f1,f2]
       rw[hsl]at b2;have hcy:=bg J y hy
       have hcz:cells J y=cells Env.zero (l'.get i):=by
        rw[<-t1 J];exact dV (N:=fun _=>False) (fun _ h=>h.elim) _ (t2 hy)
       obtain⟨w',r1,r2,r3⟩:=oX (P:=P) b2 (cells J y) (i*esz) (jq J y hy hty) (by omega)
       have hfj:fps j g:=b3 _ f1
       obtain⟨fps',g1,g2,g3⟩:=h.Df (ρ':=J) (w':=w') [] j (.arr (some e) esz l') [] (fps j) (by simp) (by simp) hkj (by simp) (by simp) (Env.bE.refl _ _)
        (by
         refine⟨fun k hk=>?_,by rw[s1];exact a2,by rw[s1];exact a3,a4,by rw[s1];exact a5,by rw[s1];exact a6,.inr ⟨e,fun e' he=>by simpa using he.symm,?_,b3⟩⟩
         ·grind
         ·rw[hsl,s1]
          have:l'.cells=l.cells.take (i*esz)++cells J y++l.cells.drop (i*esz+(cells J y).length):=by
           unfold TL.cells;rw[s1,hcz,vq (f:=fun j=>cells Env.zero (l.get j)) (f':=fun j=>cells Env.zero (l'.get j)) (i:=i) hlen (fun j _ hne=>by simp only[s2 j hne]) (by rw[<-hcz,hcy];exact hvs) hi,<-hcz,hcy,hvs]
          rw[this];exact r2)
        (fun b hb=> .inl hb) r3.os r3.tape r3.output r3.size (fun b hb hno _=>r3.block b hb fun e=>hno (by simp only[aaV]at e;rw[e];exact hfj))
       refine⟨w',J,fps',?_,by simpa[dC]using g1,g2,by simpa[dC]using g3⟩
       simp only[den];rw[<-hadr];simp only[Nat.zero_add,Nat.add_zero];exact pL hts hy r1
    ·simp at hs
   ·rename_i ty q0 L hr;rw[hr]at hj;split at hs
    ·rename_i k o hob;obtain⟨rfl,bt,hrk⟩:=tD hob;split at hs<;>simp only[aaV,aaW,reduceCtorEq]at hs
     rename_i he;have he:=aaZ.1 he;subst he;obtain⟨rfl,rfl⟩:=hs;have hi:i<L.length:=hq;obtain⟨a0,a1,a2,a3,a4,a5,a6,a7⟩:=hj;have hkk:known res k:=by unfold known;rw[hrk];simp
     have hne:j≠k:=fun e=>by rw[e,hrk]at hr;simp at hr
     have hk:=h.holds k hkk;rw[hrk]at hk;obtain⟨k1,_,k3,k4⟩:=hk;have k1:o.wf:=k1;rw[jT]at k4;obtain⟨g,f1,f2,f3,f4⟩:=kY a6 (by omega)
     obtain⟨hadr,hfj⟩:=a4 _ f1;have hfj:fps j g:=hfj;have hsl:J.sl j= .slice (some ⟨g,0,none⟩) L.length (J.cap j):=by simp[Env.sl,f1,f2]
     have a6':=a6;rw[hsl]at a6;obtain⟨w',r1,r2,r3⟩:=oX (P:=P) a6 (cells J (.lp k 0)) i (by simp[cells,den,Value.cells,Value.oneCell']) (by simp[cells,den,Value.cells];omega)
     have hnk:¬known res res.length:=fun hk=>by have:=aO hk;omega
     have hgb:∀x y,w.heap[x]? =some y->x≠g->w'.heap[x]? =some y:=fun x y hy hne=>by
      rw[r3.block x (Array.getElem?_eq_some_iff.1 hy).1 fun hh=>hne (by simpa using hh)];exact hy
     have hkg:J.num k≠g:=fun e=>h.disj j k g hkj hkk hne hfj (e▸k3)
     have hog:∀x,x<L.length->J.ob q0 x≠g:=fun x hx=>by
      obtain⟨_,t,hti⟩:=a7 x hx;exact vL a6 (fun i=>⟨_,rfl⟩) (by rfl) hti (by omega)
     have hnr:known (dC [k] (bO res j (.obs ty res.length (cz L i o)))++ [.gen j]) res.length:=by
      unfold known;rw[cF,lA,cE,aa3 (by omega)];simp[ay]
     have hll:(cz L i o).length=L.length:=by simp[cz]
     obtain⟨fps',g1,g2,g3⟩:=h.Df (ρ':=J.oE res.length (fun x=>if x=i then J.num k else J.ob q0 x)) (w':=w') [k] j (.obs ty res.length (cz L i o)) [.gen j] (fun b=>fps j b\/fps k b) (by simp) (by simpa using hkk) hkj (by simpa using hne) (by simp)
      (Fq hnk)
      (by
       refine⟨hnr,fun x hx=>?_,by rw[hll];exact a2,by rw[hll];exact a3,fun a ha=>⟨(a4 a ha).1,.inl (a4 a ha).2⟩,by rw[hll];exact a5,?_,fun x hx=>?_⟩
       ·rcases List.mem_or_eq_of_mem_set hx with hx|rfl
        ·exact a1 x hx
        ·exact k1
       ·rw[hll,show(J.oE res.length (fun x=>if x=i then J.num k else J.ob q0 x)).sl j=J.sl j from rfl,hsl]
        have:((List.range L.length).map fun x=>Value.pointer (some ⟨(J.oE res.length (fun x=>if x=i then J.num k else J.ob q0 x)).ob res.length x,0,none⟩))=
          ((List.range L.length).map fun x=>Value.pointer (some ⟨J.ob q0 x,0,none⟩)).take i++cells J (.lp k 0)++((List.range L.length).map fun x=>Value.pointer (some ⟨J.ob q0 x,0,none⟩)).drop (i+(cells J (.lp k 0)).length):=by
         have hl1:(cells J (.lp k 0)).length=1:=rfl;rw[hl1];apply List.ext_getElem?
         intro x;rw[List.append_assoc];by_cases hx:x<i
         ·grind[Env.oE]
         ·rw[List.getElem?_append_right (by simp;omega)]
          have hti:(List.take i (List.map (fun x=>Value.pointer (some ⟨J.ob q0 x,0,none⟩)) (List.range L.length))).length=i:=by simp;omega
          rw[hti];by_cases hxi:x=i
          ·subst hxi;simp[Env.oE,hi,cells,den,Value.cells]
          ·rw[List.getElem?_append_right (by omega),List.getElem?_drop,hl1,show i+1+(x-i-1)=x by omega]
           by_cases hxl:x<L.length
           ·simp[Env.oE,hxi,hxl]
           ·simp[hxl]
        rw[this];exact r2
       ·rw[hll]at hx;have hob:(J.oE res.length (fun x=>if x=i then J.num k else J.ob q0 x)).ob res.length x=if x=i then J.num k else J.ob q0 x:=by simp[Env.oE]
        rw[hob];by_cases hxi:x=i
        ·rw[aa4 hxi];refine⟨.inr k3,bt,?_⟩;rw[show(cz L i o).getD x free=o by subst hxi;simp[cz,aa2,hi]]
         exact hgb _ _ k4 hkg
        ·rw[aa3 hxi];obtain⟨c1,t,c2⟩:=a7 x hx;refine⟨.inl c1,t,?_⟩;rw[show(cz L i o).getD x free=L.getD x free by simp[cz,aa2,List.getElem?_set,Ne.symm hxi]]
         exact hgb _ _ c2 (hog x hx))
      (fun b hb=>hb.elim .inl fun hb=> .inr (.inl ⟨k,by simp,hb⟩)) r3.os r3.tape r3.output r3.size (fun b hb hno _=>r3.block b hb fun e=>hno (by simp only[aaV]at e;rw[e];exact hfj))
     refine⟨w',_,fps',?_,g1,g2,g3⟩
     have hd:den J (.ap j 1 i 0)= .pointer (some ⟨g,i,none⟩):=by
      simp only[den];rw[<-hadr];simp
     rw[hd];exact pL hts hy r1
    ·simp at hs
   ·simp at hs
  ·exact DS h hs hq hp hy
 ·simp at hs
end
end Go.Sx
