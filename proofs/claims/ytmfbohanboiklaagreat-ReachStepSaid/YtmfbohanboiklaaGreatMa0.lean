import Derived.WalkKit
import Derived.Laws.OwnMore
set_option linter.unusedSimpArgs false
set_option linter.unusedVariables false
namespace Go.Sx
abbrev au(c:Bool)(A B:Prop):Prop:=(c=true->A)/\(c=false->B)
abbrev aC:ByteArray:=ByteArray.mk (Array.mk [])
abbrev aw(A:Prop):Prop:=true=true/\A
def aeq(l:List Nat)(f:Nat):Bool:=l.any fun a=>f==a
def aer:List Nat:=[111,131,141,135,193,174,219,166,137,163,162,112,133,173,176]
theorem aa {α : Type _} (a b : α) : (some a = some b) = (a = b):=Option.some.injEq a b
theorem ae {α β : Type _} (a : α) (b : β) (c : α) (d : β) : ((a, b) = (c, d)) = (a = c ∧ b = d):=Prod.mk.injEq a b c d
theorem af (a b : Bool) : ((a && b) = true) = (a = true ∧ b = true):=Bool.and_eq_true a b
theorem ah {p : Prop} [Decidable p] : (decide p = true) = p:=decide_eq_true_eq
theorem ai {α : Type _} [BEq α] [LawfulBEq α] {a b : α} : (a == b) = true ↔ a = b:=beq_iff_eq
theorem aj {p : Prop} [Decidable p] : decide p = false → ¬p:=of_decide_eq_false
theorem ak {p : Prop} [Decidable p] : decide p = true → p:=of_decide_eq_true
theorem an {α : Type _} {l : List α} {i : Nat} {a : α} : l.getD i a = l[i]?.getD a:=List.getD_eq_getElem?_getD
theorem aq {c : Prop} {h : Decidable c} (hc : ¬c) {α : Sort _} {t e : α} : ite c t e = e:=if_neg hc
theorem ar {c : Prop} {h : Decidable c} (hc : c) {α : Sort _} {t e : α} : ite c t e = t:=if_pos hc
structure Key where
 kind:Int
 oid:Int
 count:Int
 call:Int
 rights:Int
 value:Int
 deriving DecidableEq,Inhabited
abbrev ck:=Vector Key 16
abbrev Bytes:=Vector UInt8 64
def void:Key:=⟨0,0,0,0,0,0⟩
abbrev aB(n:Int)(k:Key)(x:Int):Key:=Key.mk n k.oid k.count void.call void.rights x
abbrev aA(x:Int):Key:=Key.mk 1 void.oid void.count void.call void.rights x
def ck.at(s:ck)(i:Nat):Key:=s.toArray.getD i void
def ck.put(s:ck)(i:Nat)(k:Key):ck:=s.setIfInBounds i k
def Bytes.at(s:Bytes)(i:Nat):UInt8:=s.toArray.getD i 0
def Bytes.put(s:Bytes)(i:Nat)(k:UInt8):Bytes:=s.setIfInBounds i k
structure Obj where
 kind:Int
 count:Int
 calls:Int
 slots:ck
 bytes:Bytes
 deriving DecidableEq
def ib:ck:=Vector.replicate 16 void
def fK:Bytes:=Vector.replicate 64 0
def free:Obj:=⟨0,0,0,ib,fK⟩
instance:Inhabited Obj:=⟨free⟩
def i64(n:Int):Value:= .int .i64 n
def dv(k:Key):List Value:= [i64 k.kind,i64 k.oid,i64 k.count,i64 k.call,i64 k.rights,i64 k.value]
def gn(s:ck):List Value:=(List.range 16).flatMap fun i=>dv (s.at i)
def cY(s:Bytes):List Value:=(List.range 64).map fun i=> .int .u8 ((s.at i).toNat:Int)
def ez(o:Obj):List Value:=i64 o.kind::i64 o.count::i64 o.calls::(gn o.slots++cY o.bytes)
inductive V where
 |cb (b:Bool)|bo (b:Bool)
 |ci (k:IntKind) (n:Int)|it (k:IntKind) (n:Int)|bt (b:UInt8)
 |st (s:ByteArray)
 |nl (v:Value)
 |lp (id off:Nat)
 |lx (id off esz n i inner:Nat)
 |sc (id len cap:Nat)
 |so (id len:Nat)
 |ap (id esz i off:Nat)
 |sa (id:Nat)
 |op (id i:Nat)
 |yl (id:Nat)
 |fn (f:Nat) (l:List V)
 |ic (t:Nat) (x:V)
 |ag (l:List V)|tp (l:List V)
 |key (k:Key)|sl (s:ck)|by(b:Bytes)|ob (o:Obj)
 |mp (id:Nat)
 |ch (b:Bool) (f:Nat) (l:List V) (y:V)
 |ax (id esz k off sz n i inner:Nat)
 |bs (x:V) (lo hi:Nat)
 |ks (x:V) (e n lo hi:Nat)
 |vw (id esz lo hi:Nat)
structure Env where
 num:Nat->Nat
 cap:Nat->Nat
 adr:Nat->Addr
 sa:Nat->Option Addr
 sn:Nat->Nat
 ob:Nat->Nat->Nat
def cB:IntKind->Int->Prop
 | .i8,n=> -128<=n/\n<=127
 | .i16,n=> -32768<=n/\n<=32767
 | .i32,n=> -2147483648<=n/\n<=2147483647
 | .i64,n=> -9223372036854775808<=n/\n<=9223372036854775807
 | .u8,n=>0<=n/\n<=255
 | .u16,n=>0<=n/\n<=65535
 | .u32,n=>0<=n/\n<=4294967295
 | .u64,n=>0<=n/\n<=18446744073709551615
instance(k:IntKind)(n:Int):Decidable (cB k n):=by cases k<;>unfold cB<;>infer_instance
def Key.wf(k:Key):Prop:=cB .i64 k.kind/\cB .i64 k.oid/\cB .i64 k.count/\cB .i64 k.call/\cB .i64 k.rights/\cB .i64 k.value
def ck.wf(s:ck):Prop:=∀i,i<16->(s.at i).wf
def Obj.wf(o:Obj):Prop:=cB .i64 o.kind/\cB .i64 o.count/\cB .i64 o.calls/\o.slots.wf
def xM(v:Value)(lo hi:Nat):Value:=
 match v with
 | .pointer (some a)=> .slice (some (if lo=64 then a else a.add lo)) (hi-lo) (64-lo)
 |_=> .slice none 0 0
def xn(v:Value)(e n lo hi:Nat):Value:=
 match v with
 | .pointer (some a)=> .slice (some (if lo=n then a else a.add (lo*e))) (hi-lo) (n-lo)
 |_=> .slice none 0 0
def Gu(a:Option Addr)(cap esz lo hi:Nat):Value:= .slice (if cap=lo then a else a.map (·.add (lo*esz))) (hi-lo) (cap-lo)
theorem w8(v:Value)(e n lo hi:Nat):(xn v e n lo hi).oneCell'=true:=by
 unfold xn;split<;>rfl
theorem xd(v:Value)(lo hi:Nat):(xM v lo hi).oneCell'=true:=by
 unfold xM;split<;>rfl
def GK(f:Nat)(l:List Value):Value:=if Nat.blt f 2000 then .func (.func f) #[] l.toArray else .func (.func (f-2000)) l.toArray #[]
theorem oN(f:Nat)(l:List Value):(GK f l).oneCell'=true:=by unfold GK;split<;>rfl
theorem Qv(f:Nat)(l:List Value):∃g b c,GK f l= .func (.func g) b c:=by unfold GK;split<;>exact⟨_,_,_,rfl⟩
def GO(f:Nat):Nat:=if Nat.blt f 2000 then f else f-2000
def Te{α:Type}(f:Nat)(vs caps:List α):List α:=if Nat.blt f 2000 then vs++caps else caps++vs
theorem zm{f:Nat}{l:List Value}(h:Nat.blt f 2000=true):GK f l= .func (.func f) #[] l.toArray:=by unfold GK;rw[ar h]
mutual
def den(J:Env):V->Value
 | .cb b=> .bool b
 | .bo b=> .bool b
 | .ci k n=> .int k n
 | .it k n=> .int k n
 | .bt b=> .int .u8 (b.toNat:Int)
 | .st s=> .string s
 | .nl v=>v
 | .lp id off=> .pointer (some ⟨J.num id,off,none⟩)
 | .lx id off esz _ i inner=> .pointer (some ⟨J.num id,off+i*esz+inner,none⟩)
 | .sc id len cap=> .slice (some ⟨J.num id,0,none⟩) len cap
 | .so id len=> .slice (some ⟨J.num id,0,none⟩) len (J.cap id)
 | .ap id esz i off=> .pointer (some ⟨(J.adr id).block,(J.adr id).off+(i*esz+off),none⟩)
 | .ax id esz k off sz _ i inner=> .pointer (some ⟨(J.adr id).block,(J.adr id).off+(k*esz+(off+i*sz+inner)),none⟩)
 | .sa id=> .slice (J.sa id) (J.sn id) (J.cap id)
 | .op id i=> .pointer (some ⟨J.ob id i,0,none⟩)
 | .yl id=> .func (.yield (J.num id)) #[] #[]
 | .fn f l=>GK f (bG J l)
 | .ic t x=> .iface t (den J x)
 | .ag l=> .agg (br J l).toArray
 | .tp l=> .tuple (bG J l).toArray
 | .key k=> .agg (dv k).toArray
 | .sl s=> .agg (gn s).toArray
 | .by b=> .agg (cY b).toArray
 | .ob o=> .agg (ez o).toArray
 | .mp id=> .map (some (J.num id))
 | .bs x lo hi=>xM (den J x) lo hi
 | .ks x e n lo hi=>xn (den J x) e n lo hi
 | .vw id esz lo hi=>Gu (J.sa id) (J.cap id) esz lo hi
 | .ch b f l y=>match b with
   |true=>GK f (bG J l)
   |false=>den J y
def bG(J:Env):List V->List Value
 | []=> []
 |x::l=>den J x::bG J l
def br(J:Env):List V->List Value
 | []=> []
 |x::l=>(den J x).cells.toList++br J l
end
def cells(J:Env)(v:V):List Value:=(den J v).cells.toList
def jQ:V->Bool
 | .ag _| .key _| .sl _| .by _| .ob _=>true
 |_=>false
mutual
def fe:V->Nat
 | .ag l=>qQ l
 | .key _=>6
 | .sl _=>96
 | .by _=>64
 | .ob _=>163
 |_=>1
def qQ:List V->Nat
 | []=>0
 |x::l=>fe x+qQ l
end
mutual
def ok(N:Nat->Prop):V->Prop
 | .nl v=>v.oneCell'=true
 | .ci k n=>cB k n
 | .it k n=>cB k n
 | .key k=>k.wf
 | .sl s=>s.wf
 | .ob o=>o.wf
 | .lp id _=>N id
 | .lx id _ _ n i _=>N id/\i<n
 | .sc id _ _=>N id
 | .so id _=>N id
 | .ap id _ _ _=>N id
 | .ax id _ _ _ _ n i _=>N id/\i<n
 | .sa id=>N id
 | .op id _=>N id
 | .yl id=>N id
 | .fn _ l=>fq N l
 | .ic _ x=>ok N x
 | .ag l=>fq N l/\qS l
 | .tp l=>fq N l
 | .mp id=>N id
 | .bs x lo hi=>ok N x/\lo<=hi/\hi<=64
 | .ks x _ n lo hi=>ok N x/\lo<=hi/\hi<=n
 | .vw id _ _ _=>N id
 | .ch _ _ l y=>fq N l/\ok N y/\∀J:Env,(den J y).oneCell'=true
 |_=>True
def fq(N:Nat->Prop):List V->Prop
 | []=>True
 |x::l=>ok N x/\fq N l
def qS:List V->Prop
 | []=>True
 |x::l=>(match x with| .tp _=>False|_=>True)/\qS l
end
variable {N:Nat->Prop}
section lists
variable (J:Env)
theorem jm(l:List V):bG J l=l.map (den J):=by
 induction l with
 |nil=>simp[bG]
 |cons x l ih=>simp[bG,ih]
theorem Bt(l:List V):br J l=l.flatMap (cells J):=by
 induction l with
 |nil=>simp[br]
 |cons x l ih=>simp[br,ih,cells]
theorem jn(l:List V):fq N l↔ ∀x∈l,ok N x:=by
 induction l with
 |nil=>simp[fq]
 |cons x l ih=>simp[fq,ih]
end lists
def cE:V->Bool
 | .tp _=>true
 |_=>false
theorem eE(l:List V):qS l↔ ∀x∈l,cE x=false:=by
 induction l with
 |nil=>simp[qS]
 |cons x l ih=>
  simp only[qS,ih,List.mem_cons,forall_eq_or_imp];refine and_congr_left fun _=>?_
  cases x<;>simp[cE]
theorem mO(k:Key):(dv k).length=6:=rfl
theorem iI(s:ck):(gn s).length=96:=by
 simp[gn,mO,List.range,List.range.loop]
theorem fA(s:Bytes):(cY s).length=64:=by simp[cY]
theorem nU(s:Obj):(ez s).length=163:=by simp[ez,iI,fA]
theorem dT{v:Value}(h:v.oneCell'=true):v.cells= #[v]:=by
 cases v<;>simp_all[Value.oneCell',Value.cells]
theorem oR(J:Env):∀v,ok N v->jQ v=false->cE v=false->(den J v).oneCell'=true:=by
 intro v h h1 h2;cases v<;>try(simp_all[jQ,cE,den,Value.oneCell',ok];done)
 ·exact oN _ _
 ·rename_i b f l y;cases b
  ·exact h.2.2 J
  ·exact oN _ _
 ·exact xd _ _ _
 ·exact w8 _ _ _ _ _
 ·rfl
mutual
theorem bw(J:Env):∀v,ok N v->(cells J v).length=fe v
 | .ag l,h=>by
   simp only[ok]at h;simpa[cells,den,Value.cells,fe]using tr J l h.1
 | .tp l,_=>by simp[cells,den,Value.cells,fe]
 | .key k,_=>by simp[cells,den,Value.cells,fe,mO]
 | .sl k,_=>by simp[cells,den,Value.cells,fe,iI]
 | .by k,_=>by simp[cells,den,Value.cells,fe,fA]
 | .ob k,_=>by simp[cells,den,Value.cells,fe,nU]
 | .nl v,h=>by simp only[ok]at h;simp[cells,den,dT h,fe]
 | .cb _,_| .bo _,_| .ci _ _,_| .it _ _,_| .bt _,_| .st _,_| .lp _ _,_| .lx _ _ _ _ _ _,_| .sc _ _ _,_| .so _ _,_
 | .ap _ _ _ _,_| .sa _,_| .op _ _,_| .yl _,_| .ic _ _,_| .mp _,_| .ax _ _ _ _ _ _ _ _,_=>by simp[cells,den,Value.cells,fe]
 | .fn _ _,_=>by simp[cells,den,dT (oN _ _),fe]
 | .bs x lo hi,h=>by simp[cells,den,dT (xd _ _ _),fe]
 | .ks x e n lo hi,h=>by simp[cells,den,dT (w8 _ _ _ _ _),fe]
 | .vw _ _ _ _,h=>by simp[cells,den,Gu,Value.cells,fe]
 | .ch b f l y,h=>by
   have:(den J (.ch b f l y)).oneCell'=true:=by
    cases b
    ·exact h.2.2 J
    ·exact oN _ _
   simp[cells,dT this,fe]
theorem tr(J:Env):∀l,fq N l->(br J l).length=qQ l
 | [],_=>by simp[br,qQ]
 |x::l,h=>by
  simp only[fq]at h;have h1:=bw J x h.1;have h2:=tr J l h.2;simp only[cells]at h1;simp only[br,List.length_append,qQ];omega
end
def parts:V->Option (List V)
 | .ag l=>some l
 | .key k=>some [.it .i64 k.kind,.it .i64 k.oid,.it .i64 k.count,.it .i64 k.call,.it .i64 k.rights,.it .i64 k.value]
 | .sl s=>some ((List.range 16).map fun i=> .key (s.at i))
 | .by b=>some ((List.range 64).map fun i=> .bt (b.at i))
 | .ob o=>some [.it .i64 o.kind,.it .i64 o.count,.it .i64 o.calls,.sl o.slots,.by o.bytes]
 |_=>none
theorem KH(J:Env){v:V}{l:List V}(h:parts v=some l):den J v= .agg (br J l).toArray:=by
 cases v<;>simp[parts]at h<;>subst h
 ·simp[den]
 ·simp[den,br,Value.cells,dv,i64]
 ·rfl
 ·simp only[den,Bt,cells,List.flatMap_map,Value.cells,cY,<-List.map_eq_flatMap]
 ·simp[den,br,Value.cells,ez,i64]
theorem Pb{v:V}{l:List V}(h:parts v=some l)(hv:ok N v):fq N l/\qS l:=by
 cases v<;>simp[parts]at h<;>subst h
 ·exact hv
 ·obtain⟨h1,h2,h3,h4,h5,h6⟩:=hv;simp[fq,qS,ok,h1,h2,h3,h4,h5,h6]
 ·simp only[jn,eE,List.mem_map,List.mem_range];exact⟨by rintro x ⟨i,hi,rfl⟩;exact hv i hi,by rintro x ⟨i,hi,rfl⟩;rfl⟩
 ·simp[jn,eE,ok,cE]
 ·obtain⟨h1,h2,h3,h4⟩:=hv;simp[fq,qS,ok,h1,h2,h3,h4]
def find:List V->Nat->Option (V×Nat)
 | [],_=>none
 |x::l,off=>if off<fe x then some (x,off)else find l (off-fe x)
def gA:Nat->V->Nat->Nat->Bool->Option V
 |0,_,_,_,_=>none
 |f+1,v,off,n,a=>
  if off==0&&n==fe v&&a==jQ v then some v
  else match parts v with
   |none=>none
   |some l=>match find l off with
    |none=>none
    |some (x,o)=>gA f x o n a
def jU(a:Bool)(cs:List Value):Value:=if a then .agg cs.toArray else cs.getD 0 undef
theorem find_spec(J:Env):∀(l:List V) (off:Nat) (x:V) (o:Nat),fq N l->qS l->find l off=some (x,o)->
  ∃p q,br J l=p++cells J x++q/\off=p.length+o/\o<fe x/\ok N x/\cE x=false
 | [],_,_,_,_,_,h=>by simp[find]at h
 |y::l,off,x,o,hk,hc,h=>by
  simp only[fq]at hk;rw[eE]at hc;simp only[find]at h;split at h
  ·simp_all[br,cells]
  ·rename_i hlt;obtain⟨p,q,h1,h2,h3⟩:=find_spec J l _ x o hk.2 ((eE l).2 fun z hz=>hc z (by simp[hz])) h
   have hl:=bw J y hk.1;exact⟨cells J y++p,q,by simp[br,h1,cells],by simp;omega,h3⟩
theorem qf(J:Env){v:V}(hv:ok N v)(ht:cE v=false):den J v=jU (jQ v) (cells J v):=by
 cases h:jQ v with
 |true=>cases v<;>simp_all[jQ,jU,cells,den,Value.cells]
 |false=>
  have:=oR J v hv h ht;simp[jU,cells,dT this]
theorem dY(J:Env):∀(f:Nat) (v:V) (off n:Nat) (a:Bool) (r:V),ok N v->cE v=false->gA f v off n a=some r->
  (∃p q,cells J v=p++cells J r++q/\off=p.length)/\fe r=n/\jQ r=a/\ok N r/\cE r=false
 |0,_,_,_,_,_,_,_,h=>by simp[gA]at h
 |f+1,v,off,n,a,r,hv,ht,h=>by
  simp only[gA]at h;split at h
  ·rename_i hc;simp only[af,ai]at hc;obtain⟨⟨h1,h2⟩,h3⟩:=hc;simp only[aa]at h;subst h;exact⟨⟨[],[],by simp,by simpa using h1⟩,h2.symm,h3.symm,hv,ht⟩
  ·cases hp:parts v with
   |none=>simp[hp]at h
   |some l=>
    simp only[hp]at h;cases hf:find l off with
    |none=>simp[hf]at h
    |some xo=>
     obtain⟨x,o⟩:=xo;simp only[hf]at h;obtain⟨hl,hlc⟩:=Pb hp hv;obtain⟨p,q,h1,h2,h3,h4,h4'⟩:=find_spec J l off x o hl hlc hf;obtain⟨⟨p',q',h5,h6⟩,h7⟩:=dY J f x o n a r h4 h4' h;refine⟨⟨p++p',q'++q,?_,by simp;omega⟩,h7⟩
     rw[cells,KH J hp];simp[Value.cells,h1,h5]
mutual
theorem dt{M:Nat->Prop}(hM:∀i,N i->M i):∀v,ok N v->ok M v
 | .lp _ _,h| .sc _ _ _,h| .so _ _,h| .ap _ _ _ _,h| .sa _,h| .op _ _,h| .yl _,h| .mp _,h| .vw _ _ _ _,h=>hM _ h
 | .ch _ _ l y,h=>⟨cK hM l h.1,dt hM y h.2.1,h.2.2⟩
 | .lx _ _ _ _ _ _,h=>⟨hM _ h.1,h.2⟩
 | .ax _ _ _ _ _ _ _ _,h=>⟨hM _ h.1,h.2⟩
 | .bs x _ _,h=>⟨dt hM x h.1,h.2⟩
 | .ks x _ _ _ _,h=>⟨dt hM x h.1,h.2⟩
 | .fn _ l,h| .tp l,h=>cK hM l h
 | .ic _ x,h=>dt hM x h
 | .ag l,h=>⟨cK hM l h.1,h.2⟩
 | .cb _,h| .bo _,h| .ci _ _,h| .it _ _,h| .bt _,h| .st _,h| .nl _,h| .key _,h| .sl _,h| .by _,h| .ob _,h=>h
theorem cK{M:Nat->Prop}(hM:∀i,N i->M i):∀l,fq N l->fq M l
 | [],_=>trivial
 |x::l,h=>⟨dt hM x h.1,cK hM l h.2⟩
end
def Env.agree(N:Nat->Prop)(J ρ':Env):Prop:=∀i,N i->ρ'.num i=J.num i/\ρ'.cap i=J.cap i/\ρ'.adr i=J.adr i/\ρ'.sa i=J.sa i/\ρ'.sn i=J.sn i/\ρ'.ob i=J.ob i
theorem Env.agree.refl(N:Nat->Prop)(J:Env):Env.agree N J J:=fun _ _=>⟨rfl,rfl,rfl,rfl,rfl,rfl⟩
theorem Env.agree.trans{J ρ' ρ'':Env}{M:Nat->Prop}(h:Env.agree N J ρ')(h':Env.agree M ρ' ρ'')(hM:∀i,N i->M i):Env.agree N J ρ'':=fun i hi=>by
 obtain⟨a,b,c,d,e,f⟩:=h i hi;obtain⟨a',b',c',d',e',f'⟩:=h' i (hM i hi);exact⟨a'.trans a,b'.trans b,c'.trans c,d'.trans d,e'.trans e,f'.trans f⟩
theorem Env.agree.mono{J ρ':Env}{M:Nat->Prop}(h:Env.agree N J ρ')(hM:∀i,M i->N i):Env.agree M J ρ':=fun i hi=>h i (hM i hi)
mutual
theorem gr{J ρ':Env}(h:Env.agree N J ρ'):∀v,ok N v->den ρ' v=den J v
 | .lp id _,hv=>by simp only[den,(h id hv).1]
 | .yl id,hv=>by simp only[den,(h id hv).1]
 | .mp id,hv=>by simp only[den,(h id hv).1]
 | .ch b f l y,hv=>by
   cases b
   ·simp only[den];exact gr h y hv.2.1
   ·simp only[den,fS h l hv.1]
 | .lx id _ _ _ _ _,hv=>by simp only[den,(h id hv.1).1]
 | .sc id _ _,hv=>by simp only[den,(h id hv).1]
 | .so id _,hv=>by simp only[den,(h id hv).1,(h id hv).2.1]
 | .ap id _ _ _,hv=>by simp only[den,(h id hv).2.2.1]
 | .ax id _ _ _ _ _ _ _,hv=>by simp only[den,(h id hv.1).2.2.1]
 | .bs x _ _,hv=>by simp only[den,gr h x hv.1]
 | .ks x _ _ _ _,hv=>by simp only[den,gr h x hv.1]
 | .vw id _ _ _,hv=>by simp only[den,(h id hv).2.1,(h id hv).2.2.2.1]
 | .sa id,hv=>by simp only[den,(h id hv).2.1,(h id hv).2.2.2.1,(h id hv).2.2.2.2.1]
 | .op id _,hv=>by simp only[den,(h id hv).2.2.2.2.2]
 | .fn _ l,hv=>by simp only[den,fS h l hv]
 | .tp l,hv=>by simp only[den,fS h l hv]
 | .ag l,hv=>by simp only[den,uJ h l hv.1]
 | .ic _ x,hv=>by simp only[den,gr h x hv]
 | .cb _,_| .bo _,_| .ci _ _,_| .it _ _,_| .bt _,_| .st _,_| .nl _,_| .key _,_| .sl _,_| .by _,_| .ob _,_=>by simp only[den]
theorem fS{J ρ':Env}(h:Env.agree N J ρ'):∀l,fq N l->bG ρ' l=bG J l
 | [],_=>rfl
 |x::l,hv=>by simp only[bG,gr h x hv.1,fS h l hv.2]
theorem uJ{J ρ':Env}(h:Env.agree N J ρ'):∀l,fq N l->br ρ' l=br J l
 | [],_=>rfl
 |x::l,hv=>by simp only[br,gr h x hv.1,uJ h l hv.2]
end
theorem dU{J ρ':Env}(h:Env.agree N J ρ')(v:V)(hv:ok N v):cells ρ' v=cells J v:=by simp only[cells,gr h v hv]
end Go.Sx
namespace Go.Sx
variable {N:Nat->Prop}
theorem ck.gg(s:ck)(i:Nat)(k:Key)(j:Nat)(h:i<16):(s.put i k).at j=if j=i then k else s.at j:=by
 unfold ck.at ck.put;simp only[Vector.toArray_setIfInBounds,Array.getD_eq_getD_getElem?];by_cases e:j=i
 ·subst e;simp[h]
 ·rw[aq e,Array.getElem?_setIfInBounds_ne (Ne.symm e)]
theorem Bytes.gg(s:Bytes)(i:Nat)(k:UInt8)(j:Nat)(h:i<64):(s.put i k).at j=if j=i then k else s.at j:=by
 unfold Bytes.at Bytes.put;simp only[Vector.toArray_setIfInBounds,Array.getD_eq_getD_getElem?];by_cases e:j=i
 ·subst e;simp[h]
 ·rw[aq e,Array.getElem?_setIfInBounds_ne (Ne.symm e)]
theorem p5{α:Type}(f:Nat->List α)(n i:Nat)(h:i<n):
  (List.range n).flatMap f=(List.range i).flatMap f++f i++(List.range' (i+1) (n-i-1)).flatMap f:=by
 have e:List.range n=List.range i++(i::List.range' (i+1) (n-i-1)):=by
  have h1:=List.range'_append (s:=0) (m:=i) (n:=n-i-1+1) (step:=1);rw[List.range_eq_range',List.range_eq_range',<-List.range'_succ];simp only[Nat.zero_add,Nat.one_mul]at h1;rw[h1];congr 1;omega
 rw[e];simp
theorem p9{α:Type}(f g:Nat->List α)(l:List Nat)(h:∀j∈l,f j=g j):l.flatMap f=l.flatMap g:=by
 induction l with
 |nil=>rfl
 |cons x l ih=>simp[h x (by simp),ih fun j hj=>h j (by simp[hj])]
theorem xH{α:Type}(f:Nat->List α)(m:Nat)(l:List Nat)(h:∀j,(f j).length=m):(l.flatMap f).length=l.length*m:=by
 induction l with
 |nil=>simp
 |cons x l ih=>simp[h x,ih,Nat.succ_mul];omega
theorem nS(s:ck)(i:Nat)(h:i<16):
  ∃p q,gn s=p++dv (s.at i)++q/\p.length=i*6/\∀k,gn (s.put i k)=p++dv k++q:=by
 refine⟨_,_,p5 _ 16 i h,by rw[xH _ 6 _ (fun j=>mO _)];simp,fun k=>?_⟩
 unfold gn;rw[p5 _ 16 i h,ck.gg _ _ _ _ h,ar rfl];congr 1
 ·grind[p9,ck.gg]
 ·grind[p9,ck.gg]
theorem ck.SJ{s:ck}{i:Nat}{k:Key}(h:s.wf)(hk:k.wf)(hi:i<16):(s.put i k).wf:=by
 intro j hj;rw[ck.gg _ _ _ _ hi];split
 ·exact hk
 ·exact h j hj
theorem nI(s:Bytes)(i:Nat)(h:i<64):
  ∃p q,cY s=p++ [.int .u8 ((s.at i).toNat:Int)]++q/\p.length=i/\∀k,cY (s.put i k)=p++ [.int .u8 (k.toNat:Int)]++q:=by
 have e:∀t:Bytes,cY t=(List.range 64).flatMap fun j=> [.int .u8 ((t.at j).toNat:Int)]:=fun t=>by
  simp[cY,<-List.map_eq_flatMap]
 refine⟨_,_,(e s).trans (p5 _ 64 i h),by rw[xH _ 1 _ (fun j=>rfl)];simp,fun k=>?_⟩
 rw[e,p5 _ 64 i h,Bytes.gg _ _ _ _ h,ar rfl];congr 1
 ·grind[p9,Bytes.gg]
 ·grind[p9,Bytes.gg]
def BB:V->Option Int
 | .ci .i64 n=>some n
 | .it .i64 n=>some n
 |_=>none
theorem zu(J:Env){v:V}{n:Int}(h:BB v=some n):cells J v= [i64 n]/\fe v=1/\(ok N v->cB .i64 n):=by
 cases v<;>simp[BB]at h
 ·rename_i k m;cases k<;>simp at h;subst h;exact⟨rfl,rfl,id⟩
 ·rename_i k m;cases k<;>simp at h;subst h;exact⟨rfl,rfl,id⟩
def toByte:V->Option UInt8
 | .bt b=>some b
 | .ci .u8 n=>if decide (0<=n)&&decide (n<256)then some (UInt8.ofNat n.toNat)else none
 |_=>none
theorem rm(J:Env){v:V}{n:UInt8}(h:toByte v=some n):cells J v= [.int .u8 (n.toNat:Int)]/\fe v=1:=by
 cases v<;>simp[toByte]at h
 ·rename_i k m;cases k<;>simp at h
  obtain⟨⟨h1,h2⟩,rfl⟩:=h;refine⟨?_,rfl⟩;simp only[cells,den,Value.cells];simp;omega
 ·subst h;exact⟨rfl,rfl⟩
def As(g:V->Nat->V->Option V):List V->Nat->V->Option (List V)
 | [],_,_=>none
 |x::l,off,y=>if off<fe x then(g x off y).map (· ::l)else(As g l (off-fe x) y).map (x:: ·)
def Hf(k:Key)(off:Nat)(y:V):Option V:=
 match BB y with
 |none=>none
 |some n=>match off with
  |0=>some (.key {k with kind:=n})
  |1=>some (.key {k with oid:=n})
  |2=>some (.key {k with count:=n})
  |3=>some (.key {k with call:=n})
  |4=>some (.key {k with rights:=n})
  |5=>some (.key {k with value:=n})
  |_=>none
def oQ(o:Obj)(off:Nat)(y:V):Option V:=
 match BB y with
 |none=>none
 |some n=>match off with
  |0=>some (.ob {o with kind:=n})
  |1=>some (.ob {o with count:=n})
  |2=>some (.ob {o with calls:=n})
  |_=>none
def setAt:Nat->V->Nat->V->Option V
 |0,_,_,_=>none
 |f+1,v,off,y=>
  if off==0&&fe y==fe v&&jQ y==jQ v then some y
  else match v with
   | .ag l=>(As (setAt f) l off y).map .ag
   | .key k=>Hf k off y
   | .sl s=>if off<96 then match setAt f (.key (s.at (off / 6))) (off%6) y with
     |some (.key k)=>some (.sl (s.put (off / 6) k))
     |_=>none
     else none
   | .by b=>if off<64 then(toByte y).map fun x=> .by (b.put off x)else none
   | .ob o=>if off<3 then oQ o off y
     else if off<99 then match setAt f (.sl o.slots) (off-3) y with
      |some (.sl s)=>some (.ob {o with slots:=s})
      |_=>none
     else match setAt f (.by o.bytes) (off-99) y with
      |some (.by s)=>some (.ob {o with bytes:=s})
      |_=>none
   |_=>none
def JB(N:Nat->Prop)(J:Env)(v v':V)(off:Nat)(y:V):Prop:=
 (∃p m q,cells J v=p++m++q/\cells J v'=p++cells J y++q/\p.length=off/\m.length=fe y)/\jQ v'=jQ v/\ok N v'/\cE v'=false
theorem GI(J:Env){k:Key}{off:Nat}{y v':V}(hk0:k.wf)(hy0:ok N y)(h:Hf k off y=some v'):JB N J (.key k) v' off y:=by
 obtain⟨w1,w2,w3,w4,w5,w6⟩:=hk0;unfold Hf at h;cases hy:BB y with
 |none=>simp[hy]at h
 |some n=>
  simp only[hy]at h;obtain⟨h1,h2,hn⟩:=zu (N:=N) J hy;have hn:=hn hy0;have hk:cells J (.key k)=dv k:=by simp[cells,den,Value.cells]
  split at h<;>simp only[aa,reduceCtorEq]at h<;>subst h<;>
   refine⟨?_,rfl,⟨by assumption,by assumption,by assumption,by assumption,by assumption,by assumption⟩,rfl⟩<;>rw[h1,h2,hk]<;>simp only[cells,den,Value.cells,dv]
  ·exact⟨[],[i64 k.kind],_,rfl,rfl,rfl,rfl⟩
  ·exact⟨[i64 k.kind],[i64 k.oid],_,rfl,rfl,rfl,rfl⟩
  ·exact⟨[i64 k.kind,i64 k.oid],[i64 k.count],_,rfl,rfl,rfl,rfl⟩
  ·exact⟨[i64 k.kind,i64 k.oid,i64 k.count],[i64 k.call],_,rfl,rfl,rfl,rfl⟩
  ·exact⟨[i64 k.kind,i64 k.oid,i64 k.count,i64 k.call],[i64 k.rights],_,rfl,rfl,rfl,rfl⟩
  ·exact⟨[i64 k.kind,i64 k.oid,i64 k.count,i64 k.call,i64 k.rights],[i64 k.value],[],rfl,rfl,rfl,rfl⟩
theorem j6(J:Env)(o:Obj):cells J (.ob o)=ez o:=by simp[cells,den,Value.cells]
theorem nP(J:Env)(o:ck):cells J (.sl o)=gn o:=by simp[cells,den,Value.cells]
theorem kE(J:Env)(o:Bytes):cells J (.by o)=cY o:=by simp[cells,den,Value.cells]
theorem sI(J:Env)(o:Key):cells J (.key o)=dv o:=by simp[cells,den,Value.cells]
theorem dF(J:Env)(l:List V):cells J (.ag l)=br J l:=by simp[cells,den,Value.cells]
theorem HV(J:Env){o:Obj}{off:Nat}{y v':V}(hk0:o.wf)(hy0:ok N y)(h:oQ o off y=some v'):JB N J (.ob o) v' off y:=by
 obtain⟨w1,w2,w3,w4⟩:=hk0;unfold oQ at h;cases hy:BB y with
 |none=>simp[hy]at h
 |some n=>
  simp only[hy]at h;obtain⟨h1,h2,hn⟩:=zu (N:=N) J hy;have hn:=hn hy0
  split at h<;>simp only[aa,reduceCtorEq]at h<;>subst h<;>
   refine⟨?_,rfl,⟨by assumption,by assumption,by assumption,by assumption⟩,rfl⟩<;>rw[h1,h2,j6,j6]<;>simp only[ez]
  ·exact⟨[],[i64 o.kind],_,rfl,rfl,rfl,rfl⟩
  ·exact⟨[i64 o.kind],[i64 o.count],_,rfl,rfl,rfl,rfl⟩
  ·exact⟨[i64 o.kind,i64 o.count],[i64 o.calls],_,rfl,rfl,rfl,rfl⟩
theorem JB.whole(J:Env){v y:V}(hv:ok N v)(hy:ok N y)(hs:fe y=fe v)(ha:jQ y=jQ v)(ht:cE y=false):JB N J v y 0 y:=
 ⟨⟨[],cells J v,[],by simp,by simp,rfl,by rw[bw J v hv,hs]⟩,ha,hy,ht⟩
theorem Ay(J:Env)(g:V->Nat->V->Option V)(y:V)
  (hg:∀x off x',ok N x->cE x=false->g x off y=some x'->JB N J x x' off y):
  ∀(l:List V) (off:Nat) (l':List V),fq N l->qS l->As g l off y=some l'->JB N J (.ag l) (.ag l') off y
 | [],_,_,_,_,h=>by simp[As]at h
 |x::l,off,l',hk,hc,h=>by
  have hc':=(eE _).1 hc;simp only[fq]at hk;simp only[As]at h;split at h
  ·cases hx:g x off y with
   |none=>simp[hx]at h
   |some x'=>
    simp only[hx,Option.map_some,aa]at h;subst h;obtain⟨⟨p,m,q,h1,h2,h3,h4⟩,_,h6,h7⟩:=hg x off x' hk.1 (hc' x (by simp)) hx
    refine⟨⟨p,m,q++br J l,?_,?_,h3,h4⟩,rfl,⟨⟨h6,hk.2⟩,(eE _).2 ?_⟩,rfl⟩
    ·grind[dF,br,den,cells]
    ·grind[dF,br,den,cells]
    ·simp_all
  ·cases hx:As g l (off-fe x) y with
   |none=>simp[hx]at h
   |some l2=>
    simp only[hx,Option.map_some,aa]at h;subst h;obtain⟨⟨p,m,q,h1,h2,h3,h4⟩,_,h6,_⟩:=Ay J g y hg l _ l2 hk.2 ((eE _).2 fun z hz=>hc' z (by simp[hz])) hx
    have hl:=bw J x hk.1;rw[dF]at h1 h2;refine⟨⟨cells J x++p,m,q,?_,?_,by simp;omega,h4⟩,rfl,⟨⟨hk.1,h6.1⟩,(eE _).2 ?_⟩,rfl⟩
    ·rw[dF];simp only[br,h1];simp[cells]
    ·rw[dF];simp only[br,h2];simp[cells]
    ·intro z hz;rcases List.mem_cons.1 hz with rfl|hz
     ·exact hc' _ (by simp)
     ·exact(eE _).1 h6.2 z hz
theorem jk(J:Env)(y:V)(hy:ok N y)(hty:cE y=false):∀(f:Nat) (v:V) (off:Nat) (v':V),ok N v->cE v=false->setAt f v off y=some v'->JB N J v v' off y
 |0,_,_,_,_,_,h=>by simp[setAt]at h
 |f+1,v,off,v',hv,ht,h=>by
  simp only[setAt]at h;split at h
  ·simp_all[JB.whole]
  ·split at h
   ·rename_i l _;cases hs:As (setAt f) l off y with
    |none=>simp[hs]at h
    |some l'=>
     simp only[hs,Option.map_some,aa]at h;subst h;exact Ay J _ y (fun x o x' hx hxt hg=>jk J y hy hty f x o x' hx hxt hg) l off l' hv.1 hv.2 hs
   ·exact GI J hv hy h
   ·rename_i s _;split at h
    ·rename_i hlt;split at h<;>simp only[aa,reduceCtorEq]at h
     rename_i k hk;subst h;obtain⟨⟨p,m,q,h1,h2,h3,h4⟩,_,hkw,_⟩:=jk J y hy hty f (.key _) _ _ (hv (off / 6) (by omega)) rfl hk
     obtain⟨P,Q,e1,e2,e3⟩:=nS s (off / 6) (by omega)
     rw[sI]at h1 h2;refine⟨⟨P++p,m,q++Q,?_,?_,by simp;omega,h4⟩,rfl,ck.SJ hv hkw (by omega),rfl⟩
     ·rw[nP,e1,h1];simp
     ·rw[nP,e3,h2];simp
    ·simp at h
   ·rename_i b _;split at h
    ·rename_i hlt;cases hb:toByte y with
     |none=>simp[hb]at h
     |some x=>
      simp only[hb,Option.map_some,aa]at h;subst h;obtain⟨h1,h2⟩:=rm J hb;obtain⟨P,Q,e1,e2,e3⟩:=nI b off hlt;refine⟨⟨P,[.int .u8 ((b.at off).toNat:Int)],Q,?_,?_,e2,?_⟩,rfl,trivial,rfl⟩
      ·rw[kE,e1]
      ·rw[kE,e3,h1]
      ·rw[h2];rfl
    ·simp at h
   ·rename_i o _;split at h
    ·exact HV J hv hy h
    ·split at h
     ·split at h<;>simp only[aa,reduceCtorEq]at h
      rename_i s hs;subst h;obtain⟨w1,w2,w3,w4⟩:=hv;obtain⟨⟨p,m,q,h1,h2,h3,h4⟩,_,hsw,_⟩:=jk J y hy hty f (.sl _) _ _ w4 rfl hs;rw[nP]at h1 h2;refine⟨⟨i64 o.kind::i64 o.count::i64 o.calls::p,m,q++cY o.bytes,?_,?_,by simp;omega,h4⟩,rfl,⟨w1,w2,w3,hsw⟩,rfl⟩
      ·rw[j6,ez,h1];simp
      ·rw[j6,ez];simp only[h2];simp
     ·split at h<;>simp only[aa,reduceCtorEq]at h
      rename_i s hs;subst h;obtain⟨⟨p,m,q,h1,h2,h3,h4⟩,_⟩:=jk J y hy hty f (.by _) _ _ trivial rfl hs
      rw[kE]at h1 h2;have hl:=iI o.slots;refine⟨⟨i64 o.kind::i64 o.count::i64 o.calls::(gn o.slots++p),m,q,?_,?_,by simp;omega,h4⟩,rfl,hv,rfl⟩
      ·rw[j6,ez,h1];simp
      ·rw[j6,ez];simp only[h2];simp
   ·simp at h
theorem JB.size{J:Env}{v v' y:V}{off:Nat}(h:JB N J v v' off y)(hy:ok N y):(cells J v').length=(cells J v).length:=by
 obtain⟨⟨p,m,q,h1,h2,h3,h4⟩,_⟩:=h;rw[h1,h2];simp[bw J y hy,h4]
def Yb(v:V)(esz n i inner sz:Nat)(a:Bool):Option V:=
 match v with
 | .sl s=>if esz==6&&n==16 then gA 3 (.key (s.at i)) inner sz a else none
 | .by b=>if esz==1&&n==64&&inner==0&&sz==1&& !a then some (.bt (b.at i))else none
 |_=>none
theorem KK(J:Env){v:V}{esz n i inner sz:Nat}{a:Bool}{r:V}(hv:ok N v)(hi:i<n)(h:Yb v esz n i inner sz a=some r):
  (∃p q,cells J v=p++cells J r++q/\i*esz+inner=p.length)/\fe r=sz/\jQ r=a/\ok N r/\cE r=false:=by
 cases v<;>simp only[Yb,reduceCtorEq]at h
 ·rename_i s;split at h
  ·rename_i hc;simp only[af,ai]at hc;obtain⟨rfl,rfl⟩:=hc;obtain⟨⟨p,q,h1,h2⟩,h3⟩:=dY J 3 (.key _) _ _ _ _ (hv i hi) rfl h;obtain⟨P,Q,e1,e2,e3⟩:=nS s i hi;rw[sI]at h1;exact⟨⟨P++p,q++Q,by rw[nP,e1,h1];simp,by simp;omega⟩,h3⟩
  ·simp at h
 ·rename_i b;split at h
  ·rename_i hc;simp only[af,ai,Bool.not_eq_true']at hc;obtain⟨⟨⟨⟨rfl,rfl⟩,rfl⟩,rfl⟩,rfl⟩:=hc;simp only[aa]at h;subst h;obtain⟨P,Q,e1,e2,e3⟩:=nI b i hi;exact⟨⟨P,Q,by rw[kE,e1];rfl,by omega⟩,rfl,rfl,trivial,rfl⟩
  ·simp at h
def VP(v:V)(esz n i inner:Nat)(y:V):Option V:=
 match v with
 | .sl s=>if esz==6&&n==16 then match setAt 3 (.key (s.at i)) inner y with
   |some (.key k)=>some (.sl (s.put i k))
   |_=>none
   else none
 | .by b=>if esz==1&&n==64&&inner==0 then(toByte y).map fun x=> .by (b.put i x)else none
 |_=>none
theorem KN(J:Env){v:V}{esz n i inner:Nat}{y v':V}(hv:ok N v)(hi:i<n)(hy:ok N y)(hty:cE y=false)(h:VP v esz n i inner y=some v'):
  JB N J v v' (i*esz+inner) y/\fe v'=fe v:=by
 cases v<;>simp only[VP,reduceCtorEq]at h
 ·rename_i s;split at h
  ·rename_i hc;simp only[af,ai]at hc;obtain⟨rfl,rfl⟩:=hc;split at h<;>simp only[aa,reduceCtorEq]at h
   rename_i k hk;subst h;obtain⟨⟨p,m,q,h1,h2,h3,h4⟩,_,hkw,_⟩:=jk J y hy hty _ (.key _) _ _ (hv i hi) rfl hk;obtain⟨P,Q,e1,e2,e3⟩:=nS s i hi;rw[sI]at h1 h2;refine⟨⟨⟨P++p,m,q++Q,?_,?_,by simp;omega,h4⟩,rfl,ck.SJ hv hkw hi,rfl⟩,rfl⟩
   ·rw[nP,e1,h1];simp
   ·rw[nP,e3,h2];simp
  ·simp at h
 ·rename_i b;split at h
  ·rename_i hc;simp only[af,ai]at hc;obtain⟨⟨rfl,rfl⟩,rfl⟩:=hc;cases hb:toByte y with
   |none=>simp[hb]at h
   |some x=>
    simp only[hb,Option.map_some,aa]at h;subst h;obtain⟨h1,h2⟩:=rm J hb;obtain⟨P,Q,e1,e2,e3⟩:=nI b i hi;refine⟨⟨⟨P,[.int .u8 ((b.at i).toNat:Int)],Q,?_,?_,by omega,?_⟩,rfl,trivial,rfl⟩,rfl⟩
    ·rw[kE,e1]
    ·rw[kE,e3,h1]
    ·rw[h2];rfl
  ·simp at h
def JF(c:V)(off esz n i inner:Nat)(y:V):Option V:=
 match gA 8 c off (n*esz) true with
 |none=>none
 |some x=>match VP x esz n i inner y with
  |none=>none
  |some x'=>setAt 8 c off x'
theorem lF{α:Type}{p p' m m' q q':List α}(h:p++m++q=p'++m'++q')(h1:p.length=p'.length)(h2:m.length=m'.length):p=p'/\m=m'/\q=q':=by
 rw[List.append_assoc,List.append_assoc]at h;obtain⟨e1,e2⟩:=List.append_inj h h1;obtain⟨e3,e4⟩:=List.append_inj e2 h2;exact⟨e1,e3,e4⟩
theorem Hx(J:Env){c:V}{off esz n i inner:Nat}{y c':V}(hc:ok N c)(ht:cE c=false)(hi:i<n)(hy:ok N y)(hty:cE y=false)(h:JF c off esz n i inner y=some c'):
  JB N J c c' (off+i*esz+inner) y:=by
 unfold JF at h;cases hx:gA 8 c off (n*esz) true with
 |none=>simp[hx]at h
 |some x=>
  simp only[hx]at h;cases hx':VP x esz n i inner y with
  |none=>simp[hx']at h
  |some x'=>
   simp only[hx']at h;obtain⟨⟨p,q,h1,h2⟩,hsz,_,h5,h6⟩:=dY J _ _ _ _ _ _ hc ht hx;obtain⟨⟨⟨P,M,Q,e1,e2,e3,e4⟩,e5,e6,e7⟩,e8⟩:=KN J h5 hi hy hty hx';obtain⟨⟨p2,m2,q2,f1,f2,f3,f4⟩,f5,f6,f7⟩:=jk J x' e6 e7 8 c off c' hc ht h;obtain⟨rfl,rfl,rfl⟩:=lF (f1.symm.trans h1) (by omega) (by rw[f4,bw J x h5,e8])
   refine⟨⟨p2++P,M,Q++q2,?_,?_,by simp;omega,e4⟩,f5,f6,f7⟩
   ·rw[h1,e1];simp
   ·rw[f2,e2];simp
end Go.Sx
namespace Go.Sx
open Go.RowKit (Below)
def aL{α:Type}(l:List α)(i:Nat)(d:α):α:=l.getD i d
def aK{α:Type}(l:List α):Nat:=l.length
def dn{α:Type}(l:List α)(x:α):List α:=l++ [x]
inductive TL where
 |fn (n:Nat) (get:Nat->V)
 |ob (l:List Obj)
 |key (l:List Key)
 |it (k:IntKind) (l:List Int)
 |bo (l:List Bool)
 |st (l:List ByteArray)
 |qs (n:Nat) (l:List (List Int))
def TL.len:TL->Nat
 | .fn n _=>n
 | .ob l=>aK l
 | .key l=>aK l
 | .it _ l=>aK l
 | .bo l=>aK l
 | .st l=>aK l
 | .qs _ l=>aK l
def gy(Q:List (List Int))(j c:Nat):Int:=(Q.getD j []).getD c 0
def qL(Q:List (List Int))(j:Nat):Nat->Nat->List V
 |_,0=> []
 |c,m+1=> .it .i64 (gy Q j c)::qL Q j (c+1) m
def TL.get:TL->Nat->V
 | .fn _ g,i=>g i
 | .ob l,i=> .ob (aL l i free)
 | .key l,i=> .key (aL l i void)
 | .it k l,i=> .it k (aL l i 0)
 | .bo l,i=> .bo (aL l i false)
 | .st l,i=> .st (aL l i ByteArray.empty)
 | .qs n l,i=> .ag (qL l i 0 n)
inductive aS where
 |yet
 |gone
 |blk (ty:Nat) (c:V)
 |arr (own:Option Nat) (esz:Nat) (l:TL)
 |obs (ty q:Nat) (L:List Obj)
 |gen (j:Nat)
 |store (ty e:Nat) (L:List Obj)
 |lop (r:Loop) (s:LoopState) (j:Option Code)
 |dfr
 |mp (k:IntKind) (ks:List Int) (vs:List V)
 |mq (ks:List (List Int)) (vs:List V)
 |ms (n:Nat) (D:List (List Int×Int))
 |mi (m n:Nat) (S:List Nat)
 |que (ty n:Nat) (Q:List (List Int))
 |cset (ty et n:Nat) (sv:V) (D:List (List Int×Int)) (Q:List (List Int))
 |ro (r:aS)
def aN:List aS->Nat->aS
 | [],_=> .yet
 |r::_,0=>r
 |_::l,i+1=>aN l i
def bR:List aS->Nat->aS->List aS
 | [],_,_=> []
 |_::l,0,r=>r::l
 |x::l,i+1,r=>x::bR l i r
theorem nu:∀(l:List aS) (i:Nat),aN l i=l.getD i .yet
 | [],i=>by simp[aN]
 |r::l,0=>by simp[aN]
 |r::l,i+1=>by simp[aN,nu l i]
theorem nj:∀(l:List aS) (i:Nat) (r:aS),bR l i r=l.set i r
 | [],i,r=>by simp[bR]
 |x::l,0,r=>by simp[bR]
 |x::l,i+1,r=>by simp[bR,nj l i]
theorem bI(l:List aS)(i j:Nat)(r:aS)(h:i<l.length):aN (bR l i r) j=if j=i then r else aN l j:=by
 grind[nj,nu]
theorem aY{l:List aS}{i:Nat}(h:aN l i≠ .yet):i<l.length:=by
 grind[nu]
def known(res:List aS)(i:Nat):Prop:=aN res i≠ .yet
def Env.zero:Env:=⟨fun _=>0,fun _=>0,fun _=>⟨0,0,none⟩,fun _=>none,fun _=>0,fun _ _=>0⟩
def TL.cells(l:TL):List Value:=(List.range l.len).flatMap fun j=>Sx.cells Env.zero (l.get j)
def Env.sl(J:Env)(i:Nat):Value:= .slice (J.sa i) (J.sn i) (J.cap i)
def fQ(l:List Int):Value:= .agg (l.map i64).toArray
def jA(D:List (List Int×Int)):Array MapEntry:=(D.mapIdx fun j p=>({key:=fQ p.1,val:=i64 p.2,born:=j}:MapEntry)).toArray
def xR(w:World)(e size:Nat)(v:Value)(n:Nat)(xs:List Value):Prop:=
 xs.length=n*size/\((v= .slice none 0 0/\n=0)\/∃g off cap cur,v= .slice (some ⟨g,off,none⟩) n cap/\w.heap[g]? =some (.cells cur e (0,0))/\n<=cap/\cap<=maxLen/\off+cap*size<=cur.size/\(cur.toList.drop off).take (n*size)=xs)
def jh(Q:List (List Int)):List Value:=Q.flatMap fun x=>x.map i64
def Mx(n:Nat)(Q:List (List Int)):Prop:=∀x∈Q,x.length=n/\∀y∈x,cB .i64 y
def dOK(n:Nat)(D:List (List Int×Int)):Prop:=(∀p∈D,p.1.length=n/\cB .i64 p.2/\∀x∈p.1,cB .i64 x)/\(D.map (·.1)).Nodup
theorem Y2{n:Nat}{Q:List (List Int)}(h:Mx n Q)(j c:Nat):cB .i64 (gy Q j c):=by
 unfold gy;rw[an];cases hc:(Q.getD j [])[c]? with
 |none=>simp[cB]
 |some x=>
  simp only[Option.getD_some];have hx:=List.mem_of_getElem? hc;rw[an]at hx;cases hq:Q[j]? with
  |none=>rw[hq]at hx;simp at hx
  |some l=>rw[hq]at hx;exact(h l (List.mem_of_getElem? hq)).2 x hx
theorem Hg{K:Nat->Prop}{n:Nat}{Q:List (List Int)}(h:Mx n Q)(j:Nat):∀(m c:Nat),fq K (qL Q j c m)/\qS (qL Q j c m)/\qQ (qL Q j c m)=m/\∀J,br J (qL Q j c m)=(List.range m).map fun y=>i64 (gy Q j (c+y))
 |0,c=>⟨trivial,trivial,rfl,fun J=>rfl⟩
 |m+1,c=>by
  obtain⟨a,b,b',d⟩:=Hg h j m (c+1);refine⟨⟨Y2 h j c,a⟩,⟨trivial,b⟩,by simp only[qL,qQ,b',fe];omega,fun J=>?_⟩
  have e:br J (qL Q j c (m+1))=i64 (gy Q j c)::br J (qL Q j (c+1) m):=rfl;rw[e,d,List.range_succ_eq_map,List.map_cons,List.map_map];show i64 (gy Q j c)::_=i64 (gy Q j c)::_
  congr 1
  refine List.map_congr_left fun y _=>?_
  simp only[Function.comp,Nat.add_assoc,Nat.succ_eq_add_one,Nat.add_comm 1 y]
theorem Qm{n:Nat}{Q:List (List Int)}(h:Mx n Q){j:Nat}(hj:j<Q.length)(J:Env):br J (qL Q j 0 n)=(Q.getD j []).map i64:=by
 have e:Q.getD j []=Q[j]:=by rw[an,List.getElem?_eq_getElem hj];rfl
 have hl:(Q.getD j []).length=n:=by rw[e];exact(h _ (List.getElem_mem hj)).1
 rw[(Hg (K:=fun _=>False) h j n 0).2.2.2]
 apply List.ext_getElem (by simp only[List.length_map,List.length_range,hl])
 intro y h1 h2;have hy:y<(Q.getD j []).length:=by simpa using h2
 simp only[List.getElem_map,List.getElem_range,Nat.zero_add,gy];rw[an,List.getElem?_eq_getElem hy];rfl
theorem Bo{n:Nat}:∀{Q:List (List Int)},Mx n Q->∀{j k:Nat},j<Q.length->k<n->(jh Q)[j*n+k]? =((Q.getD j []).map i64)[k]?
 | [],_,j,k,hj,_=>by simp at hj
 |x::Q,h,j,k,hj,hk=>by
  have hx:=(h x (by simp)).1
  show((x.map i64)++jh Q)[j*n+k]? =_
  cases j with
  |zero=>rw[Nat.zero_mul,Nat.zero_add,List.getElem?_append_left (by simpa[hx]using hk)];rfl
  |succ j=>
   have e:(j+1)*n+k=n+(j*n+k):=by rw[Nat.succ_mul];omega
   rw[e,List.getElem?_append_right (by simp[hx]),List.length_map,hx,Nat.add_sub_cancel_left,Bo (fun y hy=>h y (by simp[hy])) (by simpa using hj) hk]
   rfl
theorem yQ{n:Nat}:∀{Q:List (List Int)},Mx n Q->(jh Q).length=Q.length*n
 | [],_=>by simp[jh]
 |x::Q,h=>by
  have hx:=(h x (by simp)).1
  show((x.map i64)++jh Q).length=_
  rw[List.length_append,List.length_map,hx,yQ fun y hy=>h y (by simp[hy]),List.length_cons,Nat.succ_mul,Nat.add_comm]
abbrev RR:=Option (Option Prop×V×List aS)
def aS.holds(K:Nat->Prop)(J:Env)(i:Nat)(fp:Nat->Prop)(w0:World)(F0:Nat->Prop)(w:World):aS->Prop
 | .yet=>True
 | .gone=>True
 | .blk ty c=>ok K c/\cE c=false/\fp (J.num i)/\w.heap[J.num i]? =some (.cells (cells J c).toArray ty (0,0))
 | .arr own esz l=>(∀j,j<l.len->ok (fun _=>False) (l.get j)/\cE (l.get j)=false/\fe (l.get j)=esz)/\
   J.sn i=l.len/\l.len<=9223372036854775807/\(∀a,J.sa i=some a->a=J.adr i)/\(0<l.len->(J.sa i).isSome=true)/\(0<l.len->(J.adr i).spot=none)/\
   ((own=none/\(0<l.len->¬F0 (J.adr i).block/\(J.adr i).block<w0.heap.size)/\
     ∀j,j<l.len->∀k,k<esz->w0.cell? ⟨(J.adr i).block,(J.adr i).off+(j*esz+k),none⟩=(cells J (l.get j))[k]?)\/
    ∃e,(∀e',own=some e'->e'=e)/\w.ownsRow 0 e esz (J.sl i) l.len l.cells/\∀a,J.sa i=some a->fp a.block)
 | .gen _=>True
 | .obs ty q L=>K q/\(∀o∈L,o.wf)/\J.sn i=L.length/\L.length<=9223372036854775807/\(∀a,J.sa i=some a->a=J.adr i/\fp a.block)/\(0<L.length->(J.sa i).isSome=true)/\
   w.ownsRow 0 ty 1 (J.sl i) L.length ((List.range L.length).map fun j=>Value.pointer (some ⟨J.ob q j,0,none⟩))/\
   ∀j,j<L.length->fp (J.ob q j)/\∃t,w.heap[J.ob q j]? =some (.cells (ez (L.getD j free)).toArray t (0,0))
 | .store ty e L=>fp (J.num i)/\(∀o∈L,o.wf)/\L.length<=9223372036854775807/\∃(sl:Value) (ob:Nat->Nat),w.heap[J.num i]? =some (.cells #[sl] ty (0,0))/\
   w.ownsRow 0 e 1 sl L.length ((List.range L.length).map fun j=>Value.pointer (some ⟨ob j,0,none⟩))/\(∀b,sl.ownBlock=some b->fp b/\b≠J.num i)/\
   ∀j,j<L.length->fp (ob j)/\ob j≠J.num i/\∃t,w.heap[ob j]? =some (.cells (ez (L.getD j free)).toArray t (0,0))
 | .lop r s j=>fp (J.num i)/\w.heap[J.num i]? =some (.loop {r with state:=s,pending:=j})
 | .dfr=>(∀j,j<J.sn i->fp (J.ob i j)/\w.heap[J.ob i j]? =some (.deferred (some [])))/\∀j k,j<J.sn i->k<J.sn i->J.ob i j=J.ob i k->j=k
 | .mp k ks vs=>fp (J.num i)/\fq K vs/\qS vs/\(∀c∈ks,cB k c)/\ks.length=vs.length/\∃es clock,w.heap[J.num i]? =some (.map es clock)/\es.toList.map (·.key)=ks.map (Value.int k)/\es.toList.map (·.val)=bG J vs
 | .mq ks vs=>fp (J.num i)/\fq K vs/\qS vs/\(ks.length=vs.length/\ks.Nodup)/\∃es clock,w.heap[J.num i]? =some (.map es clock)/\(es.toList.map fun e=>(e.key,e.val)).Perm ((ks.map fQ).zip (bG J vs))
 | .ms n D=>fp (J.num i)/\((∀p∈D,p.1.length=n/\cB .i64 p.2/\∀x∈p.1,cB .i64 x)/\(D.map (·.1)).Nodup)/\w.heap[J.num i]? =some (.map (jA D) D.length)
 | .mi m n S=>K m/\fp (J.num i)/\w.heap[J.num i]? =some (.mapIter (some (J.num m)) n S.toArray n)
 | .que ty n Q=>Mx n Q/\J.sn i=Q.length/\Q.length<=9223372036854775807/\(∀a,J.sa i=some a->a=J.adr i/\a.spot=none/\fp a.block)/\(0<Q.length->(J.sa i).isSome=true)/\xR w ty n (J.sl i) Q.length (jh Q)
 | .cset ty et n sv D Q=>ok K sv/\cE sv=false/\fp (J.num i)/\dOK n D/\Mx n Q/\Q.length<=9223372036854775807/\∃(m:Nat) (sl:Value),w.heap[J.num i]? =some (.cells (cells J sv++ [.map (some m),sl]).toArray ty (0,0))/\
   (fp m/\m≠J.num i)/\w.heap[m]? =some (.map (jA D) D.length)/\xR w et n sl Q.length (jh Q)/\∀b,sl.ownBlock=some b->fp b/\b≠J.num i/\b≠m
 | .ro r=>∃fp':Nat->Prop,aS.holds K J i fp' w0 F0 w0 r/\∀b,fp' b->b<w0.heap.size/\¬F0 b
theorem A0{w w':World}{e size:Nat}{v:Value}{n:Nat}{xs:List Value}(h:w.ownsRow 0 e size v n xs)(hw:∀b,v.ownBlock=some b->w'.heap[b]? =w.heap[b]?):w'.ownsRow 0 e size v n xs:=by
 refine⟨h.1,?_⟩;rcases h.2 with h0|⟨g,cap,cur,h1,h2,h3,h4⟩
 ·exact .inl h0
 ·refine .inr ⟨g,cap,cur,h1,h2,?_,h4⟩;rw[hw g (by rw[h1];rfl)]
  exact h3
theorem CL{w w':World}{e size:Nat}{v:Value}{n:Nat}{xs:List Value}(h:xR w e size v n xs)(hw:∀b,v.ownBlock=some b->w'.heap[b]? =w.heap[b]?):xR w' e size v n xs:=by
 refine⟨h.1,?_⟩;rcases h.2 with h0|⟨g,off,cap,cur,h1,h2,h3⟩
 ·exact .inl h0
 ·exact .inr ⟨g,off,cap,cur,h1,by rw[hw g (by rw[h1];rfl)];exact h2,h3⟩
theorem vy{w w':World}{e size:Nat}{J:Env}{i n:Nat}{xs:List Value}(h:w.ownsRow 0 e size (J.sl i) n xs)(hw:∀a,J.sa i=some a->w'.heap[a.block]? =w.heap[a.block]?):w'.ownsRow 0 e size (J.sl i) n xs:=by
 refine⟨h.1,?_⟩;rcases h.2 with h0|⟨g,cap,cur,h1,h2,h3,h4⟩
 ·exact .inl h0
 ·grind[Env.sl]
theorem aS.fU{K:Nat->Prop}{J:Env}{i:Nat}{fp:Nat->Prop}{w0:World}{F0:Nat->Prop}{w w':World}(r:aS)
  (h:r.holds K J i fp w0 F0 w) (hw:∀b,fp b->w'.heap[b]? =w.heap[b]?):r.holds K J i fp w0 F0 w':=by
 cases r with
 |yet=>trivial
 |gone=>trivial
 |blk ty c=>exact⟨h.1,h.2.1,h.2.2.1,by rw[hw _ h.2.2.1];exact h.2.2.2⟩
 |arr own esz l=>
  obtain⟨h1,h2,h3,h4,h5,h6,h7⟩:=h;refine⟨h1,h2,h3,h4,h5,h6,?_⟩;rcases h7 with h7|⟨e,e1,e2,e3⟩
  ·exact .inl h7
  ·exact .inr ⟨e,e1,vy e2 fun a ha=>hw _ (e3 a ha),e3⟩
 |gen j=>trivial
 |obs ty q L=>
  obtain⟨h0,h1,h2,h3,h4,h5,h6,h7⟩:=h;refine⟨h0,h1,h2,h3,h4,h5,vy h6 fun a ha=>hw _ (h4 a ha).2,fun j hj=>?_⟩
  obtain⟨g1,t,g2⟩:=h7 j hj;exact⟨g1,t,by rw[hw _ g1];exact g2⟩
 |store ty e L=>
  obtain⟨h0,h1,h2,sl,ob,h3,h5,h6,h7⟩:=h;refine⟨h0,h1,h2,sl,ob,by rw[hw _ h0];exact h3,A0 h5 fun b hb=>hw _ (h6 b hb).1,h6,fun j hj=>?_⟩
  obtain⟨g1,g0,t,g2⟩:=h7 j hj;exact⟨g1,g0,t,by rw[hw _ g1];exact g2⟩
 |lop r s j=>exact⟨h.1,by rw[hw _ h.1];exact h.2⟩
 |dfr=>exact⟨fun j hj=>⟨(h.1 j hj).1,by rw[hw _ (h.1 j hj).1];exact(h.1 j hj).2⟩,h.2⟩
 |mp k ks vs=>
  obtain⟨h0,h1,h2,h3,h4,es,cl,h5,h6⟩:=h;exact⟨h0,h1,h2,h3,h4,es,cl,by rw[hw _ h0];exact h5,h6⟩
 |mq ks vs=>
  obtain⟨h0,h1,h2,h4,es,cl,h5,h6⟩:=h;exact⟨h0,h1,h2,h4,es,cl,by rw[hw _ h0];exact h5,h6⟩
 |ms n D=>exact⟨h.1,h.2.1,by rw[hw _ h.1];exact h.2.2⟩
 |mi m n S=>exact⟨h.1,h.2.1,by rw[hw _ h.2.1];exact h.2.2⟩
 |cset ty et n sv D Q=>
  obtain⟨h1,h2,h3,h4,h5,h6,m,sl,g1,g2,g3,g4,g5⟩:=h;exact⟨h1,h2,h3,h4,h5,h6,m,sl,by rw[hw _ h3];exact g1,g2,by rw[hw _ g2.1];exact g3,CL g4 fun b hb=>hw _ (g5 b hb).1,g5⟩
 |que ty n Q=>
  obtain⟨h1,h2,h3,h4,h5,h6⟩:=h
  exact⟨h1,h2,h3,h4,h5,CL h6 fun b hb=>by
   simp only[Env.sl]at hb;cases ha:J.sa i with
   |none=>rw[ha]at hb;simp[Value.ownBlock]at hb
   |some a=>rw[ha]at hb;simp only[Value.ownBlock,aa]at hb;subst hb;exact hw _ (h4 a ha).2.2⟩
 |ro r=>exact h
theorem aS.s4{K K':Nat->Prop}{J ρ':Env}{i:Nat}{fp:Nat->Prop}{w0:World}{F0:Nat->Prop}{w:World}(r:aS)
  (h:r.holds K J i fp w0 F0 w) (hK:∀j,K j->K' j) (ha:Env.agree K J ρ') (hi:K i):r.holds K' ρ' i fp w0 F0 w:=by
 obtain⟨a1,a2,a3,a4,a5,a6⟩:=ha i hi;have hsl:ρ'.sl i=J.sl i:=by simp only[Env.sl,a2,a4,a5]
 induction r generalizing fp w with
 |lop r s j=>exact⟨by rw[a1];exact h.1,by rw[a1];exact h.2⟩
 |dfr=>exact⟨fun j hj=>by rw[a5]at hj;rw[a6];exact h.1 j hj,by rw[a5,a6];exact h.2⟩
 |mp k ks vs=>
  obtain⟨h0,h1,h2,h3,h4,es,cl,h5,h6,h7⟩:=h;exact⟨by rw[a1];exact h0,cK hK _ h1,h2,h3,h4,es,cl,by rw[a1];exact h5,h6,by rw[fS ha vs h1];exact h7⟩
 |mq ks vs=>
  obtain⟨h0,h1,h2,h4,es,cl,h5,h7⟩:=h;exact⟨by rw[a1];exact h0,cK hK _ h1,h2,h4,es,cl,by rw[a1];exact h5,by rw[fS ha vs h1];exact h7⟩
 |ms n D=>exact⟨by rw[a1];exact h.1,h.2.1,by rw[a1];exact h.2.2⟩
 |mi m n S=>exact⟨hK m h.1,by rw[a1];exact h.2.1,by rw[a1,(ha m h.1).1];exact h.2.2⟩
 |cset ty et n sv D Q=>
  obtain⟨h1,h2,h3,h4,h5,h6,m,sl,g1,g2,g3,g4,g5⟩:=h;exact⟨dt hK _ h1,h2,by rw[a1];exact h3,h4,h5,h6,m,sl,by rw[a1,dU ha sv h1];exact g1,by rw[a1];exact g2,g3,g4,by rw[a1];exact g5⟩
 |que ty n Q=>
  obtain⟨h1,h2,h3,h4,h5,h6⟩:=h;exact⟨h1,by rw[a5];exact h2,h3,by rw[a4,a3];exact h4,by rw[a4];exact h5,by rw[hsl];exact h6⟩
 |store ty e L=>
  obtain⟨h0,h1,h2,sl,ob,h3,h5,h6,h7⟩:=h;exact⟨by rw[a1];exact h0,h1,h2,sl,ob,by rw[a1];exact h3,h5,by rw[a1];exact h6,by rw[a1];exact h7⟩
 |ro r ih=>
  obtain⟨fp',h1,h2⟩:=h;exact⟨fp',ih h1,h2⟩
 |yet=>trivial
 |gone=>trivial
 |blk ty c=>exact⟨dt hK _ h.1,h.2.1,by rw[a1];exact h.2.2.1,by rw[a1,dU ha c h.1];exact h.2.2.2⟩
 |arr own esz l=>
  obtain⟨h1,h2,h3,h4,h5,h6,h7⟩:=h;refine⟨h1,by rw[a5];exact h2,h3,by rw[a4,a3];exact h4,by rw[a4];exact h5,by rw[a3];exact h6,?_⟩
  rcases h7 with⟨e1,e2,e3⟩|⟨e,e1,e2,e3⟩
  ·refine .inl ⟨e1,by rw[a3];exact e2,fun j hj k hk=>?_⟩
   rw[a3,e3 j hj k hk,dU (N:=fun _=>False) (J:=J) (ρ':=ρ') (fun _ h=>h.elim) _ (h1 j hj).1]
  ·exact .inr ⟨e,e1,by rw[hsl];exact e2,by rw[a4];exact e3⟩
 |gen j=>trivial
 |obs ty q L=>
  obtain⟨h0,h1,h2,h3,h4,h5,h6,h7⟩:=h;have a6:=(ha q h0).2.2.2.2.2;exact⟨hK q h0,h1,by rw[a5];exact h2,h3,by rw[a4,a3];exact h4,by rw[a4];exact h5,by rw[hsl,a6];exact h6,by rw[a6];exact h7⟩
structure bp(J:Env)(fps:Nat->Nat->Prop)(res:List aS)(K:Nat->Prop)(w0:World)(F0:Nat->Prop)(w:World):Prop where
 sub:∀i,known res i->K i
 old:w0.heap.size<=w.heap.size
 os:w.os=w0.os
 tape:w.tape=w0.tape
 output:w.output=w0.output
 holds:∀i,known res i->(aN res i).holds K J i (fps i) w0 F0 w
 lt:∀i b,known res i->fps i b->b<w.heap.size
 disj:∀i j b,known res i->known res j->i≠j->fps i b->¬fps j b
 inF:∀i b,known res i->fps i b->b<w0.heap.size->F0 b
 same:∀b,b<w0.heap.size->¬F0 b->w.heap[b]? =w0.heap[b]?
def cC(l:List aS)(i:Nat):aS:=
 match aN l i with
 | .ro r=>r
 |r=>r
theorem eZ{l:List aS}{i:Nat}{r:aS}(h:cC l i=r)(hr:r≠ .yet):known l i:=by
 grind[cC,known]
theorem bp.look{J:Env}{fps:Nat->Nat->Prop}{res:List aS}{K:Nat->Prop}{w0:World}{F0:Nat->Prop}{w:World}(h:bp J fps res K w0 F0 w){i:Nat}{r:aS}
  (hr:cC res i=r) (hne:r≠ .yet):∃fp:Nat->Prop,r.holds K J i fp w0 F0 w/\∀b,fp b->b<w.heap.size:=by
 have hk:=eZ hr hne;have hh:=h.holds i hk;unfold cC at hr;split at hr
 ·rename_i r' he;rw[he]at hh;subst hr;obtain⟨fp',h1,h2⟩:=hh;exact⟨fp',aS.fU _ h1 fun b hb=>h.same b (h2 b hb).1 (h2 b hb).2,fun b hb=>Nat.lt_of_lt_of_le (h2 b hb).1 h.old⟩
 ·subst hr;exact⟨fps i,hh,fun b hb=>h.lt i b hk hb⟩
def fresh(nid n:Nat)(i:Nat):Prop:=nid<=i/\i<nid+n
def lQ(K:Nat->Prop)(J ρ':Env)(nid:Nat)(new:List aS)(w0:World)(F0:Nat->Prop)(w w':World):Prop:=
 Below w.heap.size w w'/\Env.agree (fun i=>¬fresh nid new.length i) J ρ'/\
 ∃fp:Nat->Nat->Prop,(∀k,k<new.length->(aN new k).holds (fun i=>K i\/fresh nid new.length i) ρ' (nid+k) (fp k) w0 F0 w'/\∀b,fp k b->w.heap.size<=b/\b<w'.heap.size)/\
  ∀k l b,k<new.length->l<new.length->k≠l->fp k b->¬fp l b
theorem lQ.refl(K:Nat->Prop)(J:Env)(nid:Nat)(w0:World)(F0:Nat->Prop)(w:World):lQ K J J nid [] w0 F0 w w:=
 ⟨Below.refl _ _,Env.agree.refl _ _,fun _ _=>False,fun k hk=>by simp at hk,fun k l b hk=>by simp at hk⟩
def WE(res res':List aS)(nid:Nat)(new:List aS):Prop:=
 (∀i,known res i->aN res' i=aN res i/\¬fresh nid new.length i)/\
 (∀i,known res' i->known res i\/fresh nid new.length i)/\
 ∀k,k<new.length->aN res' (nid+k)=aN new k
theorem aS.oP{K K':Nat->Prop}{J:Env}{i:Nat}{fp:Nat->Prop}{w0:World}{F0:Nat->Prop}{w:World}(r:aS)
  (h:r.holds K J i fp w0 F0 w) (hK:∀j,K j->K' j):r.holds K' J i fp w0 F0 w:=by
 induction r generalizing fp w with
 |blk ty c=>exact⟨dt hK _ h.1,h.2⟩
 |mp k ks vs=>exact⟨h.1,cK hK _ h.2.1,h.2.2⟩
 |mq ks vs=>exact⟨h.1,cK hK _ h.2.1,h.2.2⟩
 |ms n D=>exact h
 |mi m n S=>exact⟨hK m h.1,h.2⟩
 |cset ty et n sv D Q=>exact⟨dt hK _ h.1,h.2⟩
 |que ty n Q=>exact h
 |obs ty q L=>exact⟨hK q h.1,h.2⟩
 |ro r ih=>
  obtain⟨fp',h1,h2⟩:=h;exact⟨fp',ih h1,h2⟩
 |_=>exact h
theorem bp.grow{J ρ':Env}{fps:Nat->Nat->Prop}{res res':List aS}{w0:World}{F0:Nat->Prop}{w w':World}{nid:Nat}{new:List aS}{K K':Nat->Prop}
  (h:bp J fps res K w0 F0 w) (ha:WE res res' nid new) (hKf:∀i,K i->¬fresh nid new.length i) (hK':∀i,K i\/fresh nid new.length i->K' i)
  (hg:lQ K J ρ' nid new w0 F0 w w'):
  ∃fps',bp ρ' fps' res' K' w0 F0 w'/\Env.agree K J ρ':=by
 obtain⟨hb,hag,fp,h1,h2⟩:=hg;obtain⟨a1,a2,a3⟩:=ha;have hag':Env.agree K J ρ':=hag.mono hKf;have hkey:∀i,known res i->¬fresh nid new.length i:=fun i hi=>(a1 i hi).2
 classical
 refine⟨fun i=>if fresh nid new.length i then fp (i-nid)else fps i,⟨?_,Nat.le_trans h.old hb.size,hb.os.trans h.os,hb.tape.trans h.tape,hb.output.trans h.output,?_,?_,?_,?_,?_⟩,hag'⟩
 ·intro i hi;rcases a2 i hi with hk|hf
  ·exact hK' i (.inl (h.sub i hk))
  ·exact hK' i (.inr hf)
 ·intro i hi;rcases a2 i hi with hk|hf
  ·simp only[aq (hkey i hk)];rw[(a1 i hk).1];exact aS.s4 _ (aS.fU _ (h.holds i hk) fun b hbb=>hb.block b (h.lt i b hk hbb)) (fun j hj=>hK' j (.inl hj)) hag' (h.sub i hk)
  ·simp only[ar hf];obtain⟨e1,e2⟩:=hf;have:=(h1 (i-nid) (by omega)).1
   rw[show nid+(i-nid)=i by omega]at this
   have h3:=a3 (i-nid) (by omega)
   rw[show nid+(i-nid)=i by omega]at h3
   rw[h3];exact aS.oP _ this hK'
 ·intro i b hi hbb;rcases a2 i hi with hk|hf
  ·simp only[aq (hkey i hk)]at hbb;exact Nat.lt_of_lt_of_le (h.lt i b hk hbb) hb.size
  ·grind[fresh]
 ·intro i j b hi hj hne hbi hbj;rcases a2 i hi with hk|hf<;>rcases a2 j hj with hk'|hf'
  ·simp only[aq (hkey i hk)]at hbi;simp only[aq (hkey j hk')]at hbj;exact h.disj i j b hk hk' hne hbi hbj
  ·simp only[aq (hkey i hk)]at hbi;simp only[ar hf']at hbj;have:=((h1 (j-nid) (by unfold fresh at hf';omega)).2 b hbj).1
   have:=h.lt i b hk hbi;omega
  ·simp only[ar hf]at hbi;simp only[aq (hkey j hk')]at hbj;have:=((h1 (i-nid) (by unfold fresh at hf;omega)).2 b hbi).1
   have:=h.lt j b hk' hbj;omega
  ·grind[fresh]
 ·intro i b hi hbb hlt;rcases a2 i hi with hk|hf
  ·simp only[aq (hkey i hk)]at hbb;exact h.inF i b hk hbb hlt
  ·simp only[ar hf]at hbb;have:=((h1 (i-nid) (by unfold fresh at hf;omega)).2 b hbb).1
   have:=h.old;omega
 ·intro b hlt hF;rw[hb.block b (Nat.lt_of_lt_of_le hlt h.old)];exact h.same b hlt hF
theorem ca(l m:List aS)(i:Nat):aN (l++m) i=if i<l.length then aN l i else aN m (i-l.length):=by
 grind[nu]
theorem kX(res new:List aS):WE res (res++new) res.length new:=by
 refine⟨fun i hi=>?_,fun i hi=>?_,fun k hk=>?_⟩
 ·have:=aY hi;exact⟨by rw[ca,ar this],by unfold fresh;omega⟩
 ·unfold known at hi⊢;rw[ca]at hi;by_cases h:i<res.length
  ·rw[ar h]at hi;exact .inl hi
  ·rw[aq h]at hi;have:=aY hi;exact .inr ⟨by omega,by omega⟩
 ·rw[ca,aq (by omega)];congr 1;omega
def Env.bB(J:Env)(i b:Nat):Env:= {J with num:=fun j=>if j=i then b else J.num j}
theorem ki(J:Env)(i b:Nat):Env.agree (fun j=>¬fresh i 1 j) J (J.bB i b):=fun j hj=>by
 have:j≠i:=fun e=>hj ⟨by omega,by omega⟩
 simp[Env.bB,this]
theorem lQ.alloc{K:Nat->Prop}{J:Env}{nid ty:Nat}{c:V}{w0:World}{F0:Nat->Prop}{w:World}(hc:ok K c)(ht:cE c=false)(hn:¬K nid):
  lQ K J (J.bB nid w.heap.size) nid [.blk ty c] w0 F0 w (w.alloc (.cells (cells J c).toArray ty)):=by
 refine⟨(Below.refl _ _).alloc (Nat.le_refl _) _,ki J nid _,fun _ b=>b=w.heap.size,fun k hk=>?_,fun k l b hk hl hne=>?_⟩
 ·simp only[List.length_singleton,Nat.lt_one_iff]at hk;subst hk
  have ha:Env.agree K J (J.bB nid w.heap.size):=(ki J nid _).mono fun i hi hf=>by
   grind[fresh]
  refine⟨⟨dt (fun i hi=> .inl hi) c hc,ht,by simp[Env.bB],?_⟩,fun b hb=>by subst hb;simp⟩
  rw[dU ha c hc,show(J.bB nid w.heap.size).num (nid+0)=w.heap.size by simp[Env.bB]]
  exact heap_alloc_new w _
 ·simp only[List.length_singleton,Nat.lt_one_iff]at hk hl;omega
theorem bp.write{J:Env}{fps:Nat->Nat->Prop}{res:List aS}{K:Nat->Prop}{w0:World}{F0:Nat->Prop}{w w':World}{i ty:Nat}{c c':V}
  (h:bp J fps res K w0 F0 w) (hi:aN res i= .blk ty c) (hc:ok K c') (ht:cE c'=false)
  (hos:w'.os=w.os) (htape:w'.tape=w.tape) (hout:w'.output=w.output) (hsize:w'.heap.size=w.heap.size)
  (hnew:w'.heap[J.num i]? =some (.cells (cells J c').toArray ty (0,0))) (hold:∀b,b≠J.num i->w'.heap[b]? =w.heap[b]?):
  bp J fps (bR res i (.blk ty c')) K w0 F0 w':=by
 have hk:known res i:=by unfold known;rw[hi];simp
 have hlt:=aY hk;have hh:=h.holds i hk;rw[hi]at hh;obtain⟨_,_,hfp,_⟩:=hh
 have hkn:∀j,known (bR res i (.blk ty c')) j↔known res j:=fun j=>by
  grind[known,bI]
 refine⟨fun j hj=>h.sub j ((hkn j).1 hj),by rw[hsize];exact h.old,hos.trans h.os,htape.trans h.tape,hout.trans h.output,fun j hj=>?_,fun j b hj hb=>by rw[hsize];exact h.lt j b ((hkn j).1 hj) hb,
  fun j l b hj hl=>h.disj j l b ((hkn j).1 hj) ((hkn l).1 hl),fun j b hj=>h.inF j b ((hkn j).1 hj),fun b hb hF=>?_⟩
 ·rw[bI _ _ _ _ hlt];by_cases e:j=i
  ·subst e;simp only[if_true];exact⟨hc,ht,hfp,hnew⟩
  ·simp only[aq e];have hj':=(hkn j).1 hj;refine aS.fU _ (h.holds j hj') fun b hb=>hold b fun eb=>?_
   subst eb;exact h.disj j i _ hj' hk e hb hfp
 ·rw[hold b fun e=>hF (h.inF i _ hk hfp (e▸hb) |> fun x=>e▸x)]
  exact h.same b hb hF
theorem bp.forget{J:Env}{fps:Nat->Nat->Prop}{res res':List aS}{K:Nat->Prop}{w0:World}{F0:Nat->Prop}{w:World}
  (h:bp J fps res K w0 F0 w) (hf:∀i,known res' i->aN res' i=aN res i):bp J fps res' K w0 F0 w:=by
 have hk:∀i,known res' i->known res i:=fun i hi=>by
  have:=hf i hi;unfold known at hi⊢;rwa [this]at hi
 exact⟨fun i hi=>h.sub i (hk i hi),h.old,h.os,h.tape,h.output,fun i hi=>by rw[hf i hi];exact h.holds i (hk i hi),fun i b hi=>h.lt i b (hk i hi),
  fun i j b hi hj=>h.disj i j b (hk i hi) (hk j hj),fun i b hi=>h.inF i b (hk i hi),h.same⟩
theorem bp.qH{J:Env}{fps:Nat->Nat->Prop}{res:List aS}{K K':Nat->Prop}{w0:World}{F0:Nat->Prop}{w:World}
  (h:bp J fps res K w0 F0 w) (hK:∀i,K i->K' i):bp J fps res K' w0 F0 w:=
 ⟨fun i hi=>hK i (h.sub i hi),h.old,h.os,h.tape,h.output,fun i hi=>aS.oP _ (h.holds i hi) hK,h.lt,h.disj,h.inF,h.same⟩
theorem bp.turn{J ρ':Env}{fps:Nat->Nat->Prop}{res res':List aS}{K K':Nat->Prop}{w0:World}{F0:Nat->Prop}{w w':World}(h:bp J fps res K w0 F0 w)(T B:Nat->Prop)(fp':Nat->Nat->Prop)
  (hK:∀i,known res' i->K' i) (hKK:∀i,K i->K' i) (hag:Env.agree K J ρ')
  (hA:∀i,known res' i->¬B i->known res i/\¬T i/\aN res' i=aN res i)
  (hB:∀i,known res' i->B i->(aN res' i).holds K' ρ' i (fp' i) w0 F0 w'/\∀b,fp' i b->(∃t,T t/\known res t/\fps t b)\/(w.heap.size<=b/\b<w'.heap.size))
  (hBd:∀i j b,B i->B j->i≠j->fp' i b->¬fp' j b)
  (hos:w'.os=w.os) (htape:w'.tape=w.tape) (hout:w'.output=w.output) (hsize:w.heap.size<=w'.heap.size)
  (hsame:∀b,b<w.heap.size->(∀t,T t->known res t->¬fps t b)->w'.heap[b]? =w.heap[b]?):
  ∃fps',bp ρ' fps' res' K' w0 F0 w':=by
 classical
 have hAB:∀i j b,known res' i->known res' j->¬B i->B j->fps i b->¬fp' j b:=by
  intro i j b hi hj hbi hbj hf hf';obtain⟨k1,k2,_⟩:=hA i hi hbi;rcases(hB j hj hbj).2 b hf' with⟨t,ht,hkt,hft⟩|⟨hge,_⟩
  ·exact h.disj i t b k1 hkt (fun e=>k2 (e▸ht)) hf hft
  ·have:=h.lt i b k1 hf;omega
 refine⟨fun i=>if B i then fp' i else fps i,⟨hK,Nat.le_trans h.old hsize,hos.trans h.os,htape.trans h.tape,hout.trans h.output,?_,?_,?_,?_,?_⟩⟩
 ·intro i hi;by_cases hb:B i
  ·simp only[ar hb];exact(hB i hi hb).1
  ·simp only[aq hb];obtain⟨k1,k2,k3⟩:=hA i hi hb;rw[k3];exact aS.s4 _ (aS.fU _ (h.holds i k1) fun b hf=>hsame b (h.lt i b k1 hf) fun t ht hkt hft=>h.disj i t b k1 hkt (fun e=>k2 (e▸ht)) hf hft) hKK hag (h.sub i k1)
 ·intro i b hi hf;by_cases hb:B i
  ·simp only[ar hb]at hf;rcases(hB i hi hb).2 b hf with⟨t,ht,hkt,hft⟩|⟨_,hlt⟩
   ·exact Nat.lt_of_lt_of_le (h.lt t b hkt hft) hsize
   ·exact hlt
  ·simp only[aq hb]at hf;exact Nat.lt_of_lt_of_le (h.lt i b (hA i hi hb).1 hf) hsize
 ·intro i j b hi hj hne hf hf';by_cases hbi:B i<;>by_cases hbj:B j
  ·grind
  ·grind
  ·grind
  ·simp only[aq hbi]at hf;simp only[aq hbj]at hf';exact h.disj i j b (hA i hi hbi).1 (hA j hj hbj).1 hne hf hf'
 ·intro i b hi hf hlt;by_cases hb:B i
  ·simp only[ar hb]at hf;rcases(hB i hi hb).2 b hf with⟨t,ht,hkt,hft⟩|⟨hge,_⟩
   ·exact h.inF t b hkt hft hlt
   ·have:=h.old;omega
  ·simp only[aq hb]at hf;exact h.inF i b (hA i hi hb).1 hf hlt
 ·intro b hlt hF;rw[hsame b (Nat.lt_of_lt_of_le hlt h.old) fun t _ hkt hft=>hF (h.inF t b hkt hft hlt)]
  exact h.same b hlt hF
inductive S where
 |und
 |ud
 |v (x:V)
 |gv (ch:List (Nat×Bool)) (x:V)
def cm:List S->Nat->S
 | [],_=> .und
 |x::_,0=>x
 |_::l,n+1=>cm l n
def sset:List S->Nat->S->List S
 | [],_,_=> []
 |_::l,0,y=>y::l
 |x::l,n+1,y=>x::sset l n y
theorem lK:∀(l:List S) (i:Nat),cm l i=l.getD i .und
 | [],i=>by simp[cm]
 |r::l,0=>by simp[cm]
 |r::l,i+1=>by simp[cm,lK l i]
theorem CU:∀(l:List S) (i:Nat) (r:S),sset l i r=l.set i r
 | [],i,r=>by simp[sset]
 |x::l,0,r=>by simp[sset]
 |x::l,i+1,r=>by simp[sset,CU l i]
theorem iv(l:List S)(i:Nat)(r:S):(sset l i r).length=l.length:=by rw[CU];simp
theorem gR(l:List S)(i j:Nat)(r:S):cm (sset l i r) j=if j=i/\i<l.length then r else cm l j:=by
 grind[CU,lK]
theorem IH{l:List S}{i:Nat}(h:cm l i≠ .und):i<l.length:=by
 grind[lK]
def Xc(a b:Bool):Bool:=a&&b
def bor(a b:Bool):Bool:=a||b
def SR(a:Bool):Bool:= !a
def abf(c a b:Bool):Bool:=if c then a else b
def G7(a b:Bool):Bool:=a==b
def ilt(a b:Int):Bool:=decide (a<b)
def ile(a b:Int):Bool:=decide (a<=b)
def Em(a b:Int):Bool:=decide (a=b)
def tk(a b:Int):Int:=if b<a then b else a
def imax(a b:Int):Int:=if a<b then b else a
def A4(a b:Key):Bool:=decide (a=b)
def E0(a b:ck):Bool:=decide (a=b)
def E1(a b:Bytes):Bool:=decide (a=b)
def GZ(a b:Obj):Bool:=decide (a=b)
def GD(a b:ByteArray):Bool:=decide (a=b)
def DE(a b:Int):Int:=a+b
def u9(a b:Int):Int:=a-b
def aaM(a b:Int):Int:=a*b
def aaF(a b:Int):Int:=a.tdiv b
def Zr(a b:Int):Int:=a.tmod b
def ny(a:Int):Nat:=a.toNat
def bV(a:Nat):Int:=(a:Int)
def WL(a:UInt8):Int:=(a.toNat:Int)
def dJ(a:ByteArray):Int:=(a.size:Int)
def bh(k:IntKind)(n:Int):Prop:=cB k n
abbrev az(x:Int):Prop:=bh IntKind.i64 x
def XI(j:Int)(n:Nat):Prop:=0<=j/\j<(n:Int)
def OJ(i n:Nat):Prop:=i<n
def Jb(b:Int):Prop:=b≠0
def cM:Option Prop->Prop
 |none=>True
 |some p=>p
def z7:Option Prop->Prop->Prop
 |none,k=>k
 |some p,k=>p/\k
def Zh(g:Bool):Option Prop->Prop->Prop
 |none,k=>k
 |some p,k=>(g=true->p)/\k
theorem mK{q:Option Prop}{k:Prop}(h:z7 q k):cM q/\k:=by cases q with
 |none=>exact⟨trivial,h⟩
 |some p=>exact h
theorem F5{g:Bool}{q:Option Prop}{k:Prop}(h:Zh g q k):(g=true->cM q)/\k:=by cases q with
 |none=>exact⟨fun _=>trivial,h⟩
 |some p=>exact h
def raw:S->Option Bool
 | .v (.cb b)=>some b
 | .v (.bo b)=>some b
 | .gv _ (.cb b)=>some b
 | .gv _ (.bo b)=>some b
 |_=>none
def na(sl:List S):List (Nat×Bool)->Bool
 | []=>true
 | (s,w)::c=>match raw (cm sl s)with
   |some b=>match c with
    | []=>if w then b else SR b
    |_=>Xc (if w then b else SR b) (na sl c)
   |none=>false
def Kv(ch:List (Nat×Bool))(s:Nat)(w:Bool):Bool:=ch.any fun p=>p.1==s&&p.2==w
def Kw(a b:List (Nat×Bool)):Bool:=a.all fun p=>Kv b p.1 p.2
theorem jt(sl:List S)(s:Nat)(w:Bool)(c:List (Nat×Bool)):na sl ((s,w)::c)=((match raw (cm sl s)with|some b=>(if w then b else !b)|none=>false)&&na sl c):=by
 grind[na,raw,cm,Xc,SR]
theorem yL(sl:List S)(ch:List (Nat×Bool)):na sl ch=true↔ ∀p∈ch,raw (cm sl p.1)=some p.2:=by
 induction ch with
 |nil=>simp[na]
 |cons p c ih=>
  obtain⟨s,w⟩:=p;rw[jt];simp only[af,ih,List.mem_cons,forall_eq_or_imp];refine and_congr_left fun _=>?_
  cases raw (cm sl s)with
  |none=>simp
  |some b=>cases w<;>cases b<;>simp
theorem Jx{sl:List S}{a b:List (Nat×Bool)}(h:Kw a b=true)(hb:na sl b=true):na sl a=true:=by
 simp_all[yL,Kw,Kv]
def hJ(J:Env)(K:Nat->Prop)(sl:List S)(x:Value):S->Prop
 | .und=>True
 | .ud=>x=undef
 | .v y=>x=den J y/\ok K y
 | .gv ch y=>(na sl ch=true->x=den J y/\ok K y)/\(na sl ch=false->x=undef)
def jx(J:Env)(K:Nat->Prop)(sl:List S)(a:Act):Prop:=
 a.tmps.size=sl.length/\∀t,hJ J K sl (a.tmps.getD t undef) (cm sl t)
theorem hJ.env{J ρ':Env}{K K':Nat->Prop}{sl:List S}{x:Value}{s:S}(h:hJ J K sl x s)(hK:∀i,K i->K' i)(ha:Env.agree K J ρ'):hJ ρ' K' sl x s:=by
 cases s with
 |und=>trivial
 |ud=>exact h
 |v y=>exact⟨by rw[gr ha y h.2];exact h.1,dt hK y h.2⟩
 |gv ch y=>exact⟨fun hg=>⟨by rw[gr ha y (h.1 hg).2];exact(h.1 hg).1,dt hK y (h.1 hg).2⟩,h.2⟩
theorem jx.env{J ρ':Env}{K K':Nat->Prop}{sl:List S}{a:Act}(h:jx J K sl a)(hK:∀i,K i->K' i)(ha:Env.agree K J ρ'):jx ρ' K' sl a:=
 ⟨h.1,fun t=>(h.2 t).env hK ha⟩
def named(d:Nat)(ch:List (Nat×Bool)):Bool:=ch.any fun p=>p.1==d
def zS(d:Nat)(sl:List S):Bool:=sl.all fun s=>match s with| .gv ch _=> !named d ch|_=>true
theorem vv{sl:List S}{d:Nat}{s:S}{ch:List (Nat×Bool)}(h:named d ch=false):na (sset sl d s) ch=na sl ch:=by
 induction ch with
 |nil=>rfl
 |cons p c ih=>
  obtain⟨t,w⟩:=p;simp only[named,List.any_cons,Bool.or_eq_false_iff,beq_eq_false_iff_ne,ne_eq]at h;have h2:named d c=false:=h.2;rw[jt,jt,ih h2,gR,aq (fun hh=>h.1 hh.1)]
theorem GY{sl:List S}{d t:Nat}{ch:List (Nat×Bool)}{y:V}(h:zS d sl=true)(ht:cm sl t= .gv ch y):named d ch=false:=by
 have hlt:t<sl.length:=IH (by rw[ht];simp)
 rw[lK,an,List.getElem?_eq_getElem hlt]at ht;simp only[Option.getD_some]at ht;have:=(List.all_eq_true.1 h) _ (List.getElem_mem hlt);rw[ht]at this;simpa using this
theorem jx.put{J:Env}{K:Nat->Prop}{sl:List S}{a:Act}{d:Nat}{s:S}{x:Value}(h:jx J K sl a)(hf:zS d sl=true)
  (hs:hJ J K (sset sl d s) x s):jx J K (sset sl d s) (a.put (some d) x):=by
 refine⟨by simp[Act.put,iv,h.1],fun t=>?_⟩
 rw[gR];by_cases e:t=d/\d<sl.length
 ·rw[ar e];obtain⟨rfl,hd⟩:=e
  have:(a.put (some t) x).tmps.getD t undef=x:=by
   simp[Act.put,h.1,hd]
  rw[this];exact hs
 ·rw[aq e]
  have hx:(a.put (some d) x).tmps.getD t undef=a.tmps.getD t undef:=by
   simp only[Act.put,Array.getD_eq_getD_getElem?,Array.getElem?_setIfInBounds];by_cases ed:d=t
   ·subst ed;have:¬d<sl.length:=fun hl=>e ⟨rfl,hl⟩
    simp[h.1,this]
   ·simp[ed]
  rw[hx];have:=h.2 t;cases hst:cm sl t with
  |und=>trivial
  |ud=>rw[hst]at this;exact this
  |v y=>rw[hst]at this;exact this
  |gv ch y=>
   rw[hst]at this;have hn:=GY hf hst;exact⟨fun hg=>this.1 (by rwa [vv hn]at hg),fun hg=>this.2 (by rwa [vv hn]at hg)⟩
def GV:Value->Option V
 | .bool b=>some (.cb b)
 | .int k n=>if cB k n then some (.ci k n)else none
 | .string s=>some (.st s)
 | .pointer none=>some (.nl (.pointer none))
 | .slice none 0 0=>some (.nl (.slice none 0 0))
 | .map none=>some (.nl (.map none))
 | .nilFunc=>some (.nl .nilFunc)
 | .nilIface=>some (.nl .nilIface)
 |_=>none
theorem FZ{c:Value}{x:V}(J:Env)(K:Nat->Prop)(h:GV c=some x):c=den J x/\ok K x:=by
 unfold GV at h;split at h
 ·simp only[aa]at h;subst h;exact⟨rfl,trivial⟩
 ·split at h
  ·simp only[aa]at h;subst h;exact⟨rfl,by assumption⟩
  ·simp at h
 ·simp only[aa]at h;subst h;exact⟨rfl,trivial⟩
 ·simp only[aa]at h;subst h;exact⟨rfl,rfl⟩
 ·simp only[aa]at h;subst h;exact⟨rfl,rfl⟩
 ·simp only[aa]at h;subst h;exact⟨rfl,rfl⟩
 ·simp only[aa]at h;subst h;exact⟨rfl,rfl⟩
 ·simp only[aa]at h;subst h;exact⟨rfl,rfl⟩
 ·simp at h
def er(sl:List S)(ch:List (Nat×Bool)):Operand->Option V
 | .tmp t=>match cm sl t with
   | .v x=>some x
   | .gv c x=>if Kw c ch then some x else none
   |_=>none
 | .const v=>GV v
 | .func f=>if Nat.blt f 2000 then some (.fn f [])else none
 | .global _=>none
theorem hU{J:Env}{K:Nat->Prop}{sl:List S}{a:Act}{ch:List (Nat×Bool)}{o:Operand}{x:V}(h:jx J K sl a)(hg:na sl ch=true)
  (ho:er sl ch o=some x):a.eval o=den J x/\ok K x:=by
 cases o with
 |tmp t=>
  simp only[er]at ho;have ht:=h.2 t;cases hs:cm sl t with
  |und=>simp[hs]at ho
  |ud=>simp[hs]at ho
  |v y=>
   simp only[hs,aa]at ho;subst ho;rw[hs]at ht;exact ht
  |gv c y=>
   simp only[hs]at ho;split at ho
   ·rename_i hc;simp only[aa]at ho;subst ho;rw[hs]at ht;exact ht.1 (Jx hc hg)
   ·simp at ho
 |const v=>exact FZ J K ho
 |func f=>
  simp only[er]at ho;split at ho
  ·rename_i hlo;simp only[aa]at ho;subst ho;exact⟨by simp[Act.eval,den,bG,zm hlo],trivial⟩
  ·simp at ho
 |global g=>simp[er]at ho
def mZ(sl:List S)(ch:List (Nat×Bool)):List Operand->Option (List V)
 | []=>some []
 |o::l=>match er sl ch o,mZ sl ch l with
  |some x,some xs=>some (x::xs)
  |_,_=>none
theorem gW{J:Env}{K:Nat->Prop}{sl:List S}{a:Act}{ch:List (Nat×Bool)}(h:jx J K sl a)(hg:na sl ch=true):
  ∀{l:List Operand} {xs:List V},mZ sl ch l=some xs->l.map a.eval=bG J xs/\fq K xs
 | [],xs,ho=>by simp only[mZ,aa]at ho;subst ho;exact⟨rfl,trivial⟩
 |o::l,xs,ho=>by
  simp only[mZ]at ho;split at ho
  ·rename_i x ys hx hl;simp only[aa]at ho;subst ho;obtain⟨h1,h2⟩:=hU h hg hx;obtain⟨h3,h4⟩:=gW h hg hl;exact⟨by simp[h1,h3,bG],h2,h4⟩
  ·simp at ho
def s6(sl:List S)(ops:List Oper):Option (Nat×Bool)->Option (Option (List (Nat×Bool)))
 |none=>some (some [])
 |some (j,w)=>match (ops[j]?).bind (·.dst)with
  |none=>none
  |some s=>match cm sl s with
   | .ud=>some none
   | .v (.cb b)=>if b==w then some (some [])else some none
   | .v (.bo _)=>some (some [(s,w)])
   | .gv c (.bo _)=>some (some ((s,w)::c))
   | .gv c (.cb b)=>if b==w then some (some c)else some none
   |_=>none
def xW(sl:List S):Option (List (Nat×Bool))->Bool
 |none=>false
 |some ch=>na sl ch
theorem ng{J:Env}{K:Nat->Prop}{sl:List S}{a:Act}{ops:Array Oper}{o:Oper}{r:Option (List (Nat×Bool))}(h:jx J K sl a)
  (hc:s6 sl ops.toList o.guard=some r):Region.wanted o (yielded ops a.tmps)=xW sl r:=by
 unfold Region.wanted;cases hg:o.guard with
 |none=>rw[hg]at hc;simp only[s6,aa]at hc;subst hc;rfl
 |some jw=>
  obtain⟨j,w⟩:=jw;rw[hg]at hc;simp only[s6,Array.getElem?_toList]at hc;simp only[yielded];cases hs:(ops[j]?).bind (·.dst)with
  |none=>simp[hs]at hc
  |some s=>
   simp only[hs,Option.bind_some]at hc⊢;have hsl:=h.2 s
   have hval:∀x,cm sl s≠ .und->a.tmps.getD s undef=x->a.tmps[s]? =some x:=fun x hne hx=>by
    have:=IH hne;rw[<-h.1]at this;rw[Array.getD_eq_getD_getElem?,Array.getElem?_eq_getElem this]at hx;rw[Array.getElem?_eq_getElem this];simpa using hx
   cases hss:cm sl s with
   |und=>simp[hss]at hc
   |ud=>
    rw[hss]at hsl hc;simp only[aa]at hc;subst hc;rw[hval _ (by rw[hss];simp) hsl]
    simp[undef,xW]
   |v y=>
    rw[hss]at hsl hc;rw[hval _ (by rw[hss];simp) hsl.1]
    cases y<;>simp only[reduceCtorEq]at hc
    ·grind[den,xW,na]
    ·grind[den,xW,jt,raw,na]
   |gv c y=>
    rw[hss]at hsl hc;obtain⟨h1,h3⟩:=hsl;cases y<;>simp only[reduceCtorEq]at hc
    ·rename_i b;cases hgc:na sl c with
     |true=>
      rw[hval _ (by rw[hss];simp) (h1 hgc).1]
      simp only[den];clear hval;split at hc<;>simp only[aa]at hc<;>subst hc<;>rename_i hb
      ·simpa[xW,hgc]using hb
      ·simpa[xW]using hb
     |false=>
      rw[hval _ (by rw[hss];simp) (h3 hgc)]
      split at hc<;>simp only[aa]at hc<;>subst hc<;>simp[undef,hgc,xW]
    ·rename_i b;simp only[aa]at hc;subst hc;simp only[xW];rw[jt];simp only[hss,raw];cases hgc:na sl c with
     |true=>
      rw[hval _ (by rw[hss];simp) (h1 hgc).1]
      simp only[den];cases w<;>cases b<;>rfl
     |false=>
      rw[hval _ (by rw[hss];simp) (h3 hgc)]
      simp[undef]
def clean:List S->List S
 | []=> []
 | .v x::l=> .v x::clean l
 |_::l=> .und::clean l
theorem kV:∀(l:List S) (t:Nat),cm (clean l) t=match cm l t with| .v x=> .v x|_=> .und
 | [],t=>by simp[clean,cm]
 |s::l,0=>by cases s<;>simp[clean,cm]
 |s::l,t+1=>by cases s<;>simp[clean,cm,kV l t]
theorem ke:∀(l:List S),(clean l).length=l.length
 | []=>rfl
 |s::l=>by cases s<;>simp[clean,ke l]
theorem jx.clean{J:Env}{K:Nat->Prop}{sl:List S}{a:Act}(h:jx J K sl a):jx J K (clean sl) a:=by
 refine⟨by rw[ke];exact h.1,fun t=>?_⟩
 rw[kV];have:=h.2 t;split
 ·rename_i x hx;rw[hx]at this;exact this
 ·trivial
section runs
variable {P:Program}
def mf(P:Program)(t:Nat):Option Bool:=
 match P.underlying t with
 |some (.struct _)=>some true
 |some (.array _ _)=>some true
 |some _=>some false
 |none=>none
def oG(P:Program)(t:Nat):Option Nat:=(P.info? t).map (·.size)
theorem bC{t:Nat}{d:TypeDesc}(w:World)(h:P.underlying t=some d):(underlying t).run P w= .ok d w:=by
 simp[underlying,h]
theorem sF{t:Nat}{b:Bool}(w:World)(h:mf P t=some b):(Go.isAgg t).run P w= .ok b w:=by
 unfold mf at h;unfold Go.isAgg;split at h<;>simp only[aa,reduceCtorEq]at h<;>subst h
 ·rename_i hu;simp[bC w hu]
 ·rename_i hu;simp[bC w hu]
 ·simp_all[bC]
theorem fY{t n:Nat}(w:World)(h:oG P t=some n):(sizeOf t).run P w= .ok n w:=by
 unfold oG at h;cases hi:P.info? t with
 |none=>simp[hi]at h
 |some i=>
  simp only[hi,Option.map_some,aa]at h;simp[sizeOf,typeInfo,hi,h]
theorem add_lit(b o n:Nat):Addr.add ⟨b,o,none⟩ n=⟨b,o+n,none⟩:=by unfold Addr.add;split<;>simp_all
theorem iJ{J:Env}{K:Nat->Prop}{t b off:Nat}{r:V}(w:World)(hr:ok K r)(ht:cE r=false)(ha:mf P t=some (jQ r))(hs:oG P t=some (fe r))
  (hc:∀k,k<fe r->w.cell? ⟨b,off+k,none⟩=(cells J r)[k]?):(loadVar t ⟨b,off,none⟩).run P w= .ok (den J r) w:=by
 have hl:=bw J r hr;unfold loadVar;rw[Sem.run_bind,sF w ha,qf J hr ht];cases hag:Sx.jQ r with
 |true=>
  have:=run_loadCells_list (P:=P) w ⟨b,off,none⟩ (cells J r) (fun j v hv=>by
   have hj:j<fe r:=by
    rw[<-hl];exact(List.getElem?_eq_some_iff.1 hv).1
   rw[add_lit,hc j hj,hv])
  rw[hl]at this;simp[fY w hs,this,jU]
 |false=>
  have h1:fe r=1:=by
   grind[oR,cells,dT]
  have h0:=hc 0 (by omega)
  simp only[Nat.add_zero]at h0
  have:(cells J r)[0]? =some ((cells J r).getD 0 undef):=by
   simp_all
  simp only[Result.andThen_ok,Bool.false_eq_true,if_false,run_load];rw[h0,this];rfl
theorem js{α:Type}(p m q:List α)(k:Nat)(hk:k<m.length):(p++m++q)[p.length+k]? =m[k]? :=by
 grind
theorem pf{J:Env}{K:Nat->Prop}{t b off ty:Nat}{c r:V}(w:World)(hr:ok K r)(ht:cE r=false)(ha:mf P t=some (jQ r))(hs:oG P t=some (fe r))
  (hb:w.heap[b]? =some (.cells (cells J c).toArray ty (0,0))) (hp:∃p q,cells J c=p++cells J r++q/\off=p.length):(loadVar t ⟨b,off,none⟩).run P w= .ok (den J r) w:=by
 obtain⟨p,q,e1,rfl⟩:=hp;refine iJ w hr ht ha hs fun k hk=>?_
 have hl:=bw J r hr;rw[cell_of_row w b _ _ _ _ hb];simp only[List.getElem?_toArray,e1];exact js p _ q k (by omega)
end runs
mutual
theorem kL(J:Env){K:Nat->Prop}:∀v,ok K v->cE v=false->∀x∈cells J v,x.oneCell'=true
 | .ag l,hv,_,x,hx=>rU J l hv.1 hv.2 x (by rwa [dF]at hx)
 | .key k,_,_,x,hx=>by
   rw[sI]at hx;simp only[dv,List.mem_cons,List.not_mem_nil,or_false,i64]at hx;rcases hx with rfl|rfl|rfl|rfl|rfl|rfl<;>rfl
 | .sl s,_,_,x,hx=>by
   rw[nP]at hx;simp only[gn,List.mem_flatMap,dv,List.mem_cons,List.not_mem_nil,or_false,i64]at hx;obtain⟨i,_,hx⟩:=hx;rcases hx with rfl|rfl|rfl|rfl|rfl|rfl<;>rfl
 | .by b,_,_,x,hx=>by
   rw[kE]at hx;simp only[cY,List.mem_map]at hx;obtain⟨i,_,rfl⟩:=hx;rfl
 | .ob o,_,_,x,hx=>by
   rw[j6]at hx;simp only[ez,List.mem_cons,List.mem_append,gn,List.mem_flatMap,cY,List.mem_map,dv,i64,List.not_mem_nil,or_false]at hx;rcases hx with rfl|rfl|rfl|⟨i,_,hx⟩|⟨i,_,rfl⟩
   ·rfl
   ·rfl
   ·rfl
   ·rcases hx with rfl|rfl|rfl|rfl|rfl|rfl<;>rfl
   ·rfl
 | .tp l,_,h,_,_=>by simp[cE]at h
 | .mp id,_,_,x,hx=>by
   simp only[cells,den,Value.cells,List.mem_singleton]at hx;subst hx;rfl
 | .fn f l,hv,_,x,hx=>by
   simp_all[cells,den,dT,oN]
 | .ch b f l y,hv,_,x,hx=>by
   have h1:(den J (.ch b f l y)).oneCell'=true:=oR J (.ch b f l y) hv rfl rfl;simp only[cells,dT h1,List.mem_singleton]at hx;subst hx;exact h1
 | .bs y lo hi,hv,_,x,hx=>by
   simp_all[cells,den,dT,xd]
 | .ks y e n lo hi,hv,_,x,hx=>by
   simp_all[cells,den,dT,w8]
 | .vw _ _ _ _,hv,_,x,hx=>by
   simp only[cells,den,Gu,Value.cells,List.mem_singleton]at hx;subst hx;rfl
 | .nl v,hv,_,x,hx=>by
   simp only[cells,den,dT hv,List.mem_singleton]at hx;subst hx;exact hv
 | .cb _,_,_,x,hx| .bo _,_,_,x,hx| .ci _ _,_,_,x,hx| .it _ _,_,_,x,hx| .bt _,_,_,x,hx| .st _,_,_,x,hx| .lp _ _,_,_,x,hx| .lx _ _ _ _ _ _,_,_,x,hx
 | .sc _ _ _,_,_,x,hx| .so _ _,_,_,x,hx| .ap _ _ _ _,_,_,x,hx| .sa _,_,_,x,hx| .op _ _,_,_,x,hx| .yl _,_,_,x,hx| .ic _ _,_,_,x,hx| .ax _ _ _ _ _ _ _ _,_,_,x,hx=>by
   simp only[cells,den,Value.cells,List.mem_singleton]at hx;subst hx;rfl
theorem rU(J:Env){K:Nat->Prop}:∀l,fq K l->qS l->∀x∈br J l,x.oneCell'=true
 | [],_,_,x,hx=>by simp[br]at hx
 |y::l,hv,hc,x,hx=>by
  simp only[br,List.mem_append]at hx;rcases hx with hx|hx
  ·exact kL J y hv.1 ((eE _).1 hc y (by simp)) x hx
  ·exact rU J l hv.2 ((eE _).2 fun z hz=>(eE _).1 hc z (by simp[hz])) x hx
end
section stores
variable {P:Program}
theorem setRow_other(w:World)(g:Nat)(cs:Array Value)(b:Nat)(h:b≠g):(w.setRow g cs).heap[b]? =w.heap[b]? :=by
 simp only[World.setRow,Array.getElem?_modify];rw[aq (Ne.symm h)]
theorem Ae{J:Env}{K:Nat->Prop}{t b off ty:Nat}{c c' y:V}(w:World)(hy:ok K y)(ht:cE y=false)(hs:oG P t=some (fe y))
  (hb:w.heap[b]? =some (.cells (cells J c).toArray ty (0,0))) (hp:JB K J c c' off y):
  (storeVar t ⟨b,off,none⟩ (den J y)).run P w= .ok () (w.setRow b (cells J c').toArray):=by
 obtain⟨⟨p,m,q,e1,e2,rfl,e4⟩,_⟩:=hp;have hl:=bw J y hy;have hz:(den J y).cells.size=fe y:=by rw[<-hl];simp[cells]
 have hst:=run_storeCells_at (P:=P) b p.length ty (cells J y) 0 (cells J c).toArray w hb (by simp[e1];omega) (kL J y hy ht)
 simp only[Nat.add_zero]at hst;simp only[storeVar,Sem.run_bind,fY w hs,Result.andThen_ok,hz,ne_eq,not_true_eq_false,if_false];rw[show(den J y).cells.toList=cells J y from rfl,hst];congr 3
 rw[e2];simp only[e1]
 rw[show List.take p.length (p++m++q)=p by simp,show List.drop (p.length+(cells J y).length) (p++m++q)=q by
  rw[hl,<-e4,<-List.length_append,List.drop_left]]
end stores
end Go.Sx
