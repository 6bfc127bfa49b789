import Derived.WalkKit
import Derived.Laws.OwnMore
set_option linter.unusedSimpArgs false
set_option linter.unusedVariables false
namespace Go.Sx
abbrev aba(c:Bool)(A B:Prop):Prop:=(c=true->A)/\(c=false->B)
abbrev abG:ByteArray:=ByteArray.mk (Array.mk [])
abbrev abb(A:Prop):Prop:=true=true/\A
theorem aaT {α : Type _} (a b : α) : (some a = some b) = (a = b):=Option.some.injEq a b
theorem aaU {α β : Type _} (a : α) (b : β) (c : α) (d : β) : ((a, b) = (c, d)) = (a = c ∧ b = d):=Prod.mk.injEq a b c d
theorem aaV (a b : Bool) : ((a && b) = true) = (a = true ∧ b = true):=Bool.and_eq_true a b
theorem aaW {p : Prop} [Decidable p] : (decide p = true) = p:=decide_eq_true_eq
theorem aaX {α : Type _} [BEq α] [LawfulBEq α] {a b : α} : (a == b) = true ↔ a = b:=beq_iff_eq
theorem aaY {p : Prop} [Decidable p] : decide p = false → ¬p:=of_decide_eq_false
theorem aaZ {p : Prop} [Decidable p] : decide p = true → p:=of_decide_eq_true
theorem aa0 {α : Type _} {l : List α} {i : Nat} {a : α} : l.getD i a = l[i]?.getD a:=List.getD_eq_getElem?_getD
theorem aa1 {c : Prop} {h : Decidable c} (hc : ¬c) {α : Sort _} {t e : α} : ite c t e = e:=if_neg hc
theorem aa2 {c : Prop} {h : Decidable c} (hc : c) {α : Sort _} {t e : α} : ite c t e = t:=if_pos hc
structure Key where
 kind:Int
 oid:Int
 count:Int
 call:Int
 rights:Int
 value:Int
 deriving DecidableEq,Inhabited
abbrev cZ:=Vector Key 16
abbrev Bytes:=Vector UInt8 64
def void:Key:=⟨0,0,0,0,0,0⟩
abbrev abA(n:Int)(k:Key)(x:Int):Key:=Key.mk n k.oid k.count void.call void.rights x
abbrev abg(x:Int):Key:=Key.mk 1 void.oid void.count void.call void.rights x
def cZ.at (s:cZ) (i:Nat):Key:=s.toArray.getD i void
def cZ.put (s:cZ) (i:Nat) (k:Key):cZ:=s.setIfInBounds i k
def Bytes.at (s:Bytes) (i:Nat):UInt8:=s.toArray.getD i 0
def Bytes.put (s:Bytes) (i:Nat) (k:UInt8):Bytes:=s.setIfInBounds i k
structure Obj where
 kind:Int
 count:Int
 calls:Int
 slots:cZ
 bytes:Bytes
 deriving DecidableEq
def g9:cZ:=Vector.replicate 16 void
def e9:Bytes:=Vector.replicate 64 0
def free:Obj:=⟨0,0,0,g9,e9⟩
instance:Inhabited Obj:=⟨free⟩
def i64 (n:Int):Value:= .int .i64 n
def eO (k:Key):List Value:= [i64 k.kind,i64 k.oid,i64 k.count,i64 k.call,i64 k.rights,i64 k.value]
def g8 (s:cZ):List Value:=(List.range 16).flatMap fun i=>eO (s.at i)
def du (s:Bytes):List Value:=(List.range 64).map fun i=> .int .u8 ((s.at i).toNat:Int)
def fc (o:Obj):List Value:=i64 o.kind::i64 o.count::i64 o.calls::(g8 o.slots++du o.bytes)
inductive V where
 |cb (b:Bool)|bo (b:Bool)
 |ci (k:IntKind) (n:Int)|it (k:IntKind) (n:Int)|bt (b:UInt8)
 |st (s:ByteArray)
 |nl (v:Value)
 |lp (id off:Nat)
 |lx (id off esz n i inner:Nat)
 |sc (id len cap:Nat)
 |so (id len:Nat)
 |ap (id esz i off:Nat)
 |sa (id:Nat)
 |op (id i:Nat)
 |yl (id:Nat)
 |fn (f:Nat) (l:List V)
 |ic (t:Nat) (x:V)
 |ag (l:List V)|tp (l:List V)
 |key (k:Key)|sl (s:cZ)|by(b:Bytes)|ob (o:Obj)
 |mp (id:Nat)
 |ch (b:Bool) (f:Nat) (l:List V) (y:V)
 |ax (id esz k off sz n i inner:Nat)
 |bs (x:V) (lo hi:Nat)
 |ks (x:V) (e n lo hi:Nat)
structure Env where
 num:Nat->Nat
 cap:Nat->Nat
 adr:Nat->Addr
 sa:Nat->Option Addr
 sn:Nat->Nat
 ob:Nat->Nat->Nat
def cc:IntKind->Int->Prop
 | .i8,n=> -128<=n/\n<=127
 | .i16,n=> -32768<=n/\n<=32767
 | .i32,n=> -2147483648<=n/\n<=2147483647
 | .i64,n=> -9223372036854775808<=n/\n<=9223372036854775807
 | .u8,n=>0<=n/\n<=255
 | .u16,n=>0<=n/\n<=65535
 | .u32,n=>0<=n/\n<=4294967295
 | .u64,n=>0<=n/\n<=18446744073709551615
instance (k:IntKind) (n:Int):Decidable (cc k n):=by cases k<;>unfold cc<;>infer_instance
def Key.wf (k:Key):Prop:=cc .i64 k.kind/\cc .i64 k.oid/\cc .i64 k.count/\cc .i64 k.call/\cc .i64 k.rights/\cc .i64 k.value
def cZ.wf (s:cZ):Prop:=∀i,i<16->(s.at i).wf
def Obj.wf (o:Obj):Prop:=cc .i64 o.kind/\cc .i64 o.count/\cc .i64 o.calls/\o.slots.wf
def xA (v:Value) (lo hi:Nat):Value:=
 match v with
 | .pointer (some a)=> .slice (some (if lo=64 then a else a.add lo)) (hi-lo) (64-lo)
 |_=> .slice none 0 0
def xg (v:Value) (e n lo hi:Nat):Value:=
 match v with
 | .pointer (some a)=> .slice (some (if lo=n then a else a.add (lo*e))) (hi-lo) (n-lo)
 |_=> .slice none 0 0
theorem wA (v:Value) (e n lo hi:Nat):(xg v e n lo hi).oneCell'=true:=by
 unfold xg;split<;>rfl
theorem wY (v:Value) (lo hi:Nat):(xA v lo hi).oneCell'=true:=by
 unfold xA;split<;>rfl
def FL (f:Nat) (l:List Value):Value:=if Nat.blt f 2000 then .func (.func f) #[] l.toArray else .func (.func (f-2000)) l.toArray #[]
theorem oI (f:Nat) (l:List Value):(FL f l).oneCell'=true:=by unfold FL;split<;>rfl
theorem MR (f:Nat) (l:List Value):∃g b c,FL f l= .func (.func g) b c:=by unfold FL;split<;>exact⟨_,_,_,rfl⟩
def FM (f:Nat):Nat:=if Nat.blt f 2000 then f else f-2000
def TS {α:Type} (f:Nat) (vs caps:List α):List α:=if Nat.blt f 2000 then vs++caps else caps++vs
theorem yN {f:Nat} {l:List Value} (h:Nat.blt f 2000=true):FL f l= .func (.func f) #[] l.toArray:=by unfold FL;rw[aa2 h]
mutual
def den (J:Env):V->Value
 | .cb b=> .bool b
 | .bo b=> .bool b
 | .ci k n=> .int k n
 | .it k n=> .int k n
 | .bt b=> .int .u8 (b.toNat:Int)
 | .st s=> .string s
 | .nl v=>v
 | .lp id off=> .pointer (some ⟨J.num id,off,none⟩)
 | .lx id off esz _ i inner=> .pointer (some ⟨J.num id,off+i*esz+inner,none⟩)
 | .sc id len cap=> .slice (some ⟨J.num id,0,none⟩) len cap
 | .so id len=> .slice (some ⟨J.num id,0,none⟩) len (J.cap id)
 | .ap id esz i off=> .pointer (some ⟨(J.adr id).block,(J.adr id).off+(i*esz+off),none⟩)
 | .ax id esz k off sz _ i inner=> .pointer (some ⟨(J.adr id).block,(J.adr id).off+(k*esz+(off+i*sz+inner)),none⟩)
 | .sa id=> .slice (J.sa id) (J.sn id) (J.cap id)
 | .op id i=> .pointer (some ⟨J.ob id i,0,none⟩)
 | .yl id=> .func (.yield (J.num id)) #[] #[]
 | .fn f l=>FL f (bz J l)
 | .ic t x=> .iface t (den J x)
 | .ag l=> .agg (bn J l).toArray
 | .tp l=> .tuple (bz J l).toArray
 | .key k=> .agg (eO k).toArray
 | .sl s=> .agg (g8 s).toArray
 | .by b=> .agg (du b).toArray
 | .ob o=> .agg (fc o).toArray
 | .mp id=> .map (some (J.num id))
 | .bs x lo hi=>xA (den J x) lo hi
 | .ks x e n lo hi=>xg (den J x) e n lo hi
 | .ch b f l y=>match b with
   |true=>FL f (bz J l)
   |false=>den J y
def bz (J:Env):List V->List Value
 | []=> []
 |x::l=>den J x::bz J l
def bn (J:Env):List V->List Value
 | []=> []
 |x::l=>(den J x).cells.toList++bn J l
end
def cells (J:Env) (v:V):List Value:=(den J v).cells.toList
def jO:V->Bool
 | .ag _| .key _| .sl _| .by _| .ob _=>true
 |_=>false
mutual
def fi:V->Nat
 | .ag l=>Hb l
 | .key _=>6
 | .sl _=>96
 | .by _=>64
 | .ob _=>163
 |_=>1
def Hb:List V->Nat
 | []=>0
 |x::l=>fi x+Hb l
end
mutual
def ok (N:Nat->Prop):V->Prop
 | .nl v=>v.oneCell'=true
 | .ci k n=>cc k n
 | .it k n=>cc k n
 | .key k=>k.wf
 | .sl s=>s.wf
 | .ob o=>o.wf
 | .lp id _=>N id
 | .lx id _ _ n i _=>N id/\i<n
 | .sc id _ _=>N id
 | .so id _=>N id
 | .ap id _ _ _=>N id
 | .ax id _ _ _ _ n i _=>N id/\i<n
 | .sa id=>N id
 | .op id _=>N id
 | .yl id=>N id
 | .fn _ l=>fQ N l
 | .ic _ x=>ok N x
 | .ag l=>fQ N l/\tv l
 | .tp l=>fQ N l
 | .mp id=>N id
 | .bs x lo hi=>ok N x/\lo<=hi/\hi<=64
 | .ks x _ n lo hi=>ok N x/\lo<=hi/\hi<=n
 | .ch _ _ l y=>fQ N l/\ok N y/\∀J:Env,(den J y).oneCell'=true
 |_=>True
def fQ (N:Nat->Prop):List V->Prop
 | []=>True
 |x::l=>ok N x/\fQ N l
def tv:List V->Prop
 | []=>True
 |x::l=>(match x with| .tp _=>False|_=>True)/\tv l
end
variable {N:Nat->Prop}
section lists
variable (J:Env)
theorem jI (l:List V):bz J l=l.map (den J):=by
 induction l with
 |nil=>simp[bz]
 |cons x l ih=>simp[bz,ih]
theorem AW (l:List V):bn J l=l.flatMap (cells J):=by
 induction l with
 |nil=>simp[bn]
 |cons x l ih=>simp[bn,ih,cells]
theorem jh (l:List V):fQ N l↔ ∀x∈l,ok N x:=by
 induction l with
 |nil=>simp[fQ]
 |cons x l ih=>simp[fQ,ih]
end lists
def cS:V->Bool
 | .tp _=>true
 |_=>false
theorem eH (l:List V):tv l↔ ∀x∈l,cS x=false:=by
 induction l with
 |nil=>simp[tv]
 |cons x l ih=>
  simp only[tv,ih,List.mem_cons,forall_eq_or_imp];refine and_congr_left fun _=>?_
  cases x<;>simp[cS]
theorem mX (k:Key):(eO k).length=6:=rfl
theorem ja (s:cZ):(g8 s).length=96:=by
 simp[g8,mX,List.range,List.range.loop]
theorem fB (s:Bytes):(du s).length=64:=by simp[du]
theorem n8 (s:Obj):(fc s).length=163:=by simp[fc,ja,fB]
theorem dU {v:Value} (h:v.oneCell'=true):v.cells= #[v]:=by
 cases v<;>simp_all[Value.oneCell',Value.cells]
theorem ou (J:Env):∀v,ok N v->jO v=false->cS v=false->(den J v).oneCell'=true:=by
 intro v h h1 h2;cases v<;>try(simp_all[jO,cS,den,Value.oneCell',ok];done)
 ·exact oI _ _
 ·rename_i b f l y;cases b
  ·exact h.2.2 J
  ·exact oI _ _
 ·exact wY _ _ _
 ·exact wA _ _ _ _ _
mutual
theorem bg (J:Env):∀v,ok N v->(cells J v).length=fi v
 | .ag l,h=>by
   simp only[ok]at h;simpa[cells,den,Value.cells,fi]using th J l h.1
 | .tp l,_=>by simp[cells,den,Value.cells,fi]
 | .key k,_=>by simp[cells,den,Value.cells,fi,mX]
 | .sl k,_=>by simp[cells,den,Value.cells,fi,ja]
 | .by k,_=>by simp[cells,den,Value.cells,fi,fB]
 | .ob k,_=>by simp[cells,den,Value.cells,fi,n8]
 | .nl v,h=>by simp only[ok]at h;simp[cells,den,dU h,fi]
 | .cb _,_| .bo _,_| .ci _ _,_| .it _ _,_| .bt _,_| .st _,_| .lp _ _,_| .lx _ _ _ _ _ _,_| .sc _ _ _,_| .so _ _,_
 | .ap _ _ _ _,_| .sa _,_| .op _ _,_| .yl _,_| .ic _ _,_| .mp _,_| .ax _ _ _ _ _ _ _ _,_=>by simp[cells,den,Value.cells,fi]
 | .fn _ _,_=>by simp[cells,den,dU (oI _ _),fi]
 | .bs x lo hi,h=>by simp[cells,den,dU (wY _ _ _),fi]
 | .ks x e n lo hi,h=>by simp[cells,den,dU (wA _ _ _ _ _),fi]
 | .ch b f l y,h=>by
   have:(den J (.ch b f l y)).oneCell'=true:=by
    cases b
    ·exact h.2.2 J
    ·exact oI _ _
   simp[cells,dU this,fi]
theorem th (J:Env):∀l,fQ N l->(bn J l).length=Hb l
 | [],_=>by simp[bn,Hb]
 |x::l,h=>by
  simp only[fQ]at h;have h1:=bg J x h.1;have h2:=th J l h.2;simp only[cells]at h1;simp only[bn,List.length_append,Hb];omega
end
def parts:V->Option (List V)
 | .ag l=>some l
 | .key k=>some [.it .i64 k.kind,.it .i64 k.oid,.it .i64 k.count,.it .i64 k.call,.it .i64 k.rights,.it .i64 k.value]
 | .sl s=>some ((List.range 16).map fun i=> .key (s.at i))
 | .by b=>some ((List.range 64).map fun i=> .bt (b.at i))
 | .ob o=>some [.it .i64 o.kind,.it .i64 o.count,.it .i64 o.calls,.sl o.slots,.by o.bytes]
 |_=>none
theorem JW (J:Env) {v:V} {l:List V} (h:parts v=some l):den J v= .agg (bn J l).toArray:=by
 cases v<;>simp[parts]at h<;>subst h
 ·simp[den]
 ·simp[den,bn,Value.cells,eO,i64]
 ·rfl
 ·simp only[den,AW,cells,List.flatMap_map,Value.cells,du,<-List.map_eq_flatMap]
 ·simp[den,bn,Value.cells,fc,i64]
theorem P0 {v:V} {l:List V} (h:parts v=some l) (hv:ok N v):fQ N l/\tv l:=by
 cases v<;>simp[parts]at h<;>subst h
 ·exact hv
 ·obtain⟨h1,h2,h3,h4,h5,h6⟩:=hv;simp[fQ,tv,ok,h1,h2,h3,h4,h5,h6]
 ·simp only[jh,eH,List.mem_map,List.mem_range];exact⟨by rintro x ⟨i,hi,rfl⟩;exact hv i hi,by rintro x ⟨i,hi,rfl⟩;rfl⟩
 ·simp[jh,eH,ok,cS]
 ·obtain⟨h1,h2,h3,h4⟩:=hv;simp[fQ,tv,ok,h1,h2,h3,h4]
def find:List V->Nat->Option (V×Nat)
 | [],_=>none
 |x::l,off=>if off<fi x then some (x,off)else find l (off-fi x)
def iR:Nat->V->Nat->Nat->Bool->Option V
 |0,_,_,_,_=>none
 |f+1,v,off,n,a=>
  if off==0&&n==fi v&&a==jO v then some v
  else match parts v with
   |none=>none
   |some l=>match find l off with
    |none=>none
    |some (x,o)=>iR f x o n a
def jN (a:Bool) (cs:List Value):Value:=if a then .agg cs.toArray else cs.getD 0 undef
theorem find_spec (J:Env):∀(l:List V) (off:Nat) (x:V) (o:Nat),fQ N l->tv l->find l off=some (x,o)->
  ∃p q,bn J l=p++cells J x++q/\off=p.length+o/\o<fi x/\ok N x/\cS x=false
 | [],_,_,_,_,_,h=>by simp[find]at h
 |y::l,off,x,o,hk,hc,h=>by
  simp only[fQ]at hk;rw[eH]at hc;simp only[find]at h;split at h
  ·simp_all[bn,cells]
  ·rename_i hlt;obtain⟨p,q,h1,h2,h3⟩:=find_spec J l _ x o hk.2 ((eH l).2 fun z hz=>hc z (by simp[hz])) h
   have hl:=bg J y hk.1;exact⟨cells J y++p,q,by simp[bn,h1,cells],by simp;omega,h3⟩
theorem qg (J:Env) {v:V} (hv:ok N v) (ht:cS v=false):den J v=jN (jO v) (cells J v):=by
 cases h:jO v with
 |true=>cases v<;>simp_all[jO,jN,cells,den,Value.cells]
 |false=>
  have:=ou J v hv h ht;simp[jN,cells,dU this]
theorem fj (J:Env):∀(f:Nat) (v:V) (off n:Nat) (a:Bool) (r:V),ok N v->cS v=false->iR f v off n a=some r->
  (∃p q,cells J v=p++cells J r++q/\off=p.length)/\fi r=n/\jO r=a/\ok N r/\cS r=false
 |0,_,_,_,_,_,_,_,h=>by simp[iR]at h
 |f+1,v,off,n,a,r,hv,ht,h=>by
  simp only[iR]at h;split at h
  ·rename_i hc;simp only[aaV,aaX]at hc;obtain⟨⟨h1,h2⟩,h3⟩:=hc;simp only[aaT]at h;subst h;exact⟨⟨[],[],by simp,by simpa using h1⟩,h2.symm,h3.symm,hv,ht⟩
  ·cases hp:parts v with
   |none=>simp[hp]at h
   |some l=>
    simp only[hp]at h;cases hf:find l off with
    |none=>simp[hf]at h
    |some xo=>
     obtain⟨x,o⟩:=xo;simp only[hf]at h;obtain⟨hl,hlc⟩:=P0 hp hv;obtain⟨p,q,h1,h2,h3,h4,h4'⟩:=find_spec J l off x o hl hlc hf;obtain⟨⟨p',q',h5,h6⟩,h7⟩:=fj J f x o n a r h4 h4' h;refine⟨⟨p++p',q'++q,?_,by simp;omega⟩,h7⟩
     rw[cells,JW J hp];simp[Value.cells,h1,h5]
mutual
theorem ef {M:Nat->Prop} (hM:∀i,N i->M i):∀v,ok N v->ok M v
 | .lp _ _,h| .sc _ _ _,h| .so _ _,h| .ap _ _ _ _,h| .sa _,h| .op _ _,h| .yl _,h| .mp _,h=>hM _ h
 | .ch _ _ l y,h=>⟨dw hM l h.1,ef hM y h.2.1,h.2.2⟩
 | .lx _ _ _ _ _ _,h=>⟨hM _ h.1,h.2⟩
 | .ax _ _ _ _ _ _ _ _,h=>⟨hM _ h.1,h.2⟩
 | .bs x _ _,h=>⟨ef hM x h.1,h.2⟩
 | .ks x _ _ _ _,h=>⟨ef hM x h.1,h.2⟩
 | .fn _ l,h| .tp l,h=>dw hM l h
 | .ic _ x,h=>ef hM x h
 | .ag l,h=>⟨dw hM l h.1,h.2⟩
 | .cb _,h| .bo _,h| .ci _ _,h| .it _ _,h| .bt _,h| .st _,h| .nl _,h| .key _,h| .sl _,h| .by _,h| .ob _,h=>h
theorem dw {M:Nat->Prop} (hM:∀i,N i->M i):∀l,fQ N l->fQ M l
 | [],_=>trivial
 |x::l,h=>⟨ef hM x h.1,dw hM l h.2⟩
end
def Env.bD (N:Nat->Prop) (J ρ':Env):Prop:=∀i,N i->ρ'.num i=J.num i/\ρ'.cap i=J.cap i/\ρ'.adr i=J.adr i/\ρ'.sa i=J.sa i/\ρ'.sn i=J.sn i/\ρ'.ob i=J.ob i
theorem Env.bD.refl (N:Nat->Prop) (J:Env):Env.bD N J J:=fun _ _=>⟨rfl,rfl,rfl,rfl,rfl,rfl⟩
theorem Env.bD.trans {J ρ' ρ'':Env} {M:Nat->Prop} (h:Env.bD N J ρ') (h':Env.bD M ρ' ρ'') (hM:∀i,N i->M i):Env.bD N J ρ'':=fun i hi=>by
 obtain⟨a,b,c,d,e,f⟩:=h i hi;obtain⟨a',b',c',d',e',f'⟩:=h' i (hM i hi);exact⟨a'.trans a,b'.trans b,c'.trans c,d'.trans d,e'.trans e,f'.trans f⟩
theorem Env.bD.mono {J ρ':Env} {M:Nat->Prop} (h:Env.bD N J ρ') (hM:∀i,M i->N i):Env.bD M J ρ':=fun i hi=>h i (hM i hi)
mutual
theorem gj {J ρ':Env} (h:Env.bD N J ρ'):∀v,ok N v->den ρ' v=den J v
 | .lp id _,hv=>by simp only[den,(h id hv).1]
 | .yl id,hv=>by simp only[den,(h id hv).1]
 | .mp id,hv=>by simp only[den,(h id hv).1]
 | .ch b f l y,hv=>by
   cases b
   ·simp only[den];exact gj h y hv.2.1
   ·simp only[den,fW h l hv.1]
 | .lx id _ _ _ _ _,hv=>by simp only[den,(h id hv.1).1]
 | .sc id _ _,hv=>by simp only[den,(h id hv).1]
 | .so id _,hv=>by simp only[den,(h id hv).1,(h id hv).2.1]
 | .ap id _ _ _,hv=>by simp only[den,(h id hv).2.2.1]
 | .ax id _ _ _ _ _ _ _,hv=>by simp only[den,(h id hv.1).2.2.1]
 | .bs x _ _,hv=>by simp only[den,gj h x hv.1]
 | .ks x _ _ _ _,hv=>by simp only[den,gj h x hv.1]
 | .sa id,hv=>by simp only[den,(h id hv).2.1,(h id hv).2.2.2.1,(h id hv).2.2.2.2.1]
 | .op id _,hv=>by simp only[den,(h id hv).2.2.2.2.2]
 | .fn _ l,hv=>by simp only[den,fW h l hv]
 | .tp l,hv=>by simp only[den,fW h l hv]
 | .ag l,hv=>by simp only[den,vE h l hv.1]
 | .ic _ x,hv=>by simp only[den,gj h x hv]
 | .cb _,_| .bo _,_| .ci _ _,_| .it _ _,_| .bt _,_| .st _,_| .nl _,_| .key _,_| .sl _,_| .by _,_| .ob _,_=>by simp only[den]
theorem fW {J ρ':Env} (h:Env.bD N J ρ'):∀l,fQ N l->bz ρ' l=bz J l
 | [],_=>rfl
 |x::l,hv=>by simp only[bz,gj h x hv.1,fW h l hv.2]
theorem vE {J ρ':Env} (h:Env.bD N J ρ'):∀l,fQ N l->bn ρ' l=bn J l
 | [],_=>rfl
 |x::l,hv=>by simp only[bn,gj h x hv.1,vE h l hv.2]
end
theorem dX {J ρ':Env} (h:Env.bD N J ρ') (v:V) (hv:ok N v):cells ρ' v=cells J v:=by simp only[cells,gj h v hv]
end Go.Sx
namespace Go.Sx
variable {N:Nat->Prop}
theorem cZ.gd (s:cZ) (i:Nat) (k:Key) (j:Nat) (h:i<16):(s.put i k).at j=if j=i then k else s.at j:=by
 unfold cZ.at cZ.put;simp only[Vector.toArray_setIfInBounds,Array.getD_eq_getD_getElem?];by_cases e:j=i
 ·subst e;simp[h]
 ·rw[aa1 e,Array.getElem?_setIfInBounds_ne (Ne.symm e)]
theorem Bytes.gd (s:Bytes) (i:Nat) (k:UInt8) (j:Nat) (h:i<64):(s.put i k).at j=if j=i then k else s.at j:=by
 unfold Bytes.at Bytes.put;simp only[Vector.toArray_setIfInBounds,Array.getD_eq_getD_getElem?];by_cases e:j=i
 ·subst e;simp[h]
 ·rw[aa1 e,Array.getElem?_setIfInBounds_ne (Ne.symm e)]
theorem pY {α:Type} (f:Nat->List α) (n i:Nat) (h:i<n):
  (List.range n).flatMap f=(List.range i).flatMap f++f i++(List.range' (i+1) (n-i-1)).flatMap f:=by
 have e:List.range n=List.range i++(i::List.range' (i+1) (n-i-1)):=by
  have h1:=List.range'_append (s:=0) (m:=i) (n:=n-i-1+1) (step:=1);rw[List.range_eq_range',List.range_eq_range',<-List.range'_succ];simp only[Nat.zero_add,Nat.one_mul]at h1;rw[h1];congr 1;omega
 rw[e];simp
theorem oa {α:Type} (f g:Nat->List α) (l:List Nat) (h:∀j∈l,f j=g j):l.flatMap f=l.flatMap g:=by
 induction l with
 |nil=>rfl
 |cons x l ih=>simp[h x (by simp),ih fun j hj=>h j (by simp[hj])]
theorem xd {α:Type} (f:Nat->List α) (m:Nat) (l:List Nat) (h:∀j,(f j).length=m):(l.flatMap f).length=l.length*m:=by
 induction l with
 |nil=>simp
 |cons x l ih=>simp[h x,ih,Nat.succ_mul];omega
theorem nW (s:cZ) (i:Nat) (h:i<16):
  ∃p q,g8 s=p++eO (s.at i)++q/\p.length=i*6/\∀k,g8 (s.put i k)=p++eO k++q:=by
 refine⟨_,_,pY _ 16 i h,by rw[xd _ 6 _ (fun j=>mX _)];simp,fun k=>?_⟩
 unfold g8;rw[pY _ 16 i h,cZ.gd _ _ _ _ h,aa2 rfl];congr 1
 ·grind[oa,cZ.gd]
 ·grind[oa,cZ.gd]
theorem cZ.Nb {s:cZ} {i:Nat} {k:Key} (h:s.wf) (hk:k.wf) (hi:i<16):(s.put i k).wf:=by
 intro j hj;rw[cZ.gd _ _ _ _ hi];split
 ·exact hk
 ·exact h j hj
theorem nH (s:Bytes) (i:Nat) (h:i<64):
  ∃p q,du s=p++ [.int .u8 ((s.at i).toNat:Int)]++q/\p.length=i/\∀k,du (s.put i k)=p++ [.int .u8 (k.toNat:Int)]++q:=by
 have e:∀t:Bytes,du t=(List.range 64).flatMap fun j=> [.int .u8 ((t.at j).toNat:Int)]:=fun t=>by
  simp[du,<-List.map_eq_flatMap]
 refine⟨_,_,(e s).trans (pY _ 64 i h),by rw[xd _ 1 _ (fun j=>rfl)];simp,fun k=>?_⟩
 rw[e,pY _ 64 i h,Bytes.gd _ _ _ _ h,aa2 rfl];congr 1
 ·grind[oa,Bytes.gd]
 ·grind[oa,Bytes.gd]
def BF:V->Option Int
 | .ci .i64 n=>some n
 | .it .i64 n=>some n
 |_=>none
theorem Ar (J:Env) {v:V} {n:Int} (h:BF v=some n):cells J v= [i64 n]/\fi v=1/\(ok N v->cc .i64 n):=by
 cases v<;>simp[BF]at h
 ·rename_i k m;cases k<;>simp at h;subst h;exact⟨rfl,rfl,id⟩
 ·rename_i k m;cases k<;>simp at h;subst h;exact⟨rfl,rfl,id⟩
def toByte:V->Option UInt8
 | .bt b=>some b
 | .ci .u8 n=>if decide (0<=n)&&decide (n<256)then some (UInt8.ofNat n.toNat)else none
 |_=>none
theorem rY (J:Env) {v:V} {n:UInt8} (h:toByte v=some n):cells J v= [.int .u8 (n.toNat:Int)]/\fi v=1:=by
 cases v<;>simp[toByte]at h
 ·rename_i k m;cases k<;>simp at h
  obtain⟨⟨h1,h2⟩,rfl⟩:=h;refine⟨?_,rfl⟩;simp only[cells,den,Value.cells];simp;omega
 ·subst h;exact⟨rfl,rfl⟩
def Av (g:V->Nat->V->Option V):List V->Nat->V->Option (List V)
 | [],_,_=>none
 |x::l,off,y=>if off<fi x then(g x off y).map (· ::l)else(Av g l (off-fi x) y).map (x:: ·)
def Gj (k:Key) (off:Nat) (y:V):Option V:=
 match BF y with
 |none=>none
 |some n=>match off with
  |0=>some (.key {k with kind:=n})
  |1=>some (.key {k with oid:=n})
  |2=>some (.key {k with count:=n})
  |3=>some (.key {k with call:=n})
  |4=>some (.key {k with rights:=n})
  |5=>some (.key {k with value:=n})
  |_=>none
def ow (o:Obj) (off:Nat) (y:V):Option V:=
 match BF y with
 |none=>none
 |some n=>match off with
  |0=>some (.ob {o with kind:=n})
  |1=>some (.ob {o with count:=n})
  |2=>some (.ob {o with calls:=n})
  |_=>none
def setAt:Nat->V->Nat->V->Option V
 |0,_,_,_=>none
 |f+1,v,off,y=>
  if off==0&&fi y==fi v&&jO y==jO v then some y
  else match v with
   | .ag l=>(Av (setAt f) l off y).map .ag
   | .key k=>Gj k off y
   | .sl s=>if off<96 then match setAt f (.key (s.at (off / 6))) (off%6) y with
     |some (.key k)=>some (.sl (s.put (off / 6) k))
     |_=>none
     else none
   | .by b=>if off<64 then(toByte y).map fun x=> .by (b.put off x)else none
   | .ob o=>if off<3 then ow o off y
     else if off<99 then match setAt f (.sl o.slots) (off-3) y with
      |some (.sl s)=>some (.ob {o with slots:=s})
      |_=>none
     else match setAt f (.by o.bytes) (off-99) y with
      |some (.by s)=>some (.ob {o with bytes:=s})
      |_=>none
   |_=>none
def H3 (N:Nat->Prop) (J:Env) (v v':V) (off:Nat) (y:V):Prop:=
 (∃p m q,cells J v=p++m++q/\cells J v'=p++cells J y++q/\p.length=off/\m.length=fi y)/\jO v'=jO v/\ok N v'/\cS v'=false
theorem Ev (J:Env) {k:Key} {off:Nat} {y v':V} (hk0:k.wf) (hy0:ok N y) (h:Gj k off y=some v'):H3 N J (.key k) v' off y:=by
 obtain⟨w1,w2,w3,w4,w5,w6⟩:=hk0;unfold Gj at h;cases hy:BF y with
 |none=>simp[hy]at h
 |some n=>
  simp only[hy]at h;obtain⟨h1,h2,hn⟩:=Ar (N:=N) J hy;have hn:=hn hy0;have hk:cells J (.key k)=eO k:=by simp[cells,den,Value.cells]
  split at h<;>simp only[aaT,reduceCtorEq]at h<;>subst h<;>
   refine⟨?_,rfl,⟨by assumption,by assumption,by assumption,by assumption,by assumption,by assumption⟩,rfl⟩<;>rw[h1,h2,hk]<;>simp only[cells,den,Value.cells,eO]
  ·exact⟨[],[i64 k.kind],_,rfl,rfl,rfl,rfl⟩
  ·exact⟨[i64 k.kind],[i64 k.oid],_,rfl,rfl,rfl,rfl⟩
  ·exact⟨[i64 k.kind,i64 k.oid],[i64 k.count],_,rfl,rfl,rfl,rfl⟩
  ·exact⟨[i64 k.kind,i64 k.oid,i64 k.count],[i64 k.call],_,rfl,rfl,rfl,rfl⟩
  ·exact⟨[i64 k.kind,i64 k.oid,i64 k.count,i64 k.call],[i64 k.rights],_,rfl,rfl,rfl,rfl⟩
  ·exact⟨[i64 k.kind,i64 k.oid,i64 k.count,i64 k.call,i64 k.rights],[i64 k.value],[],rfl,rfl,rfl,rfl⟩
theorem jR (J:Env) (o:Obj):cells J (.ob o)=fc o:=by simp[cells,den,Value.cells]
theorem nD (J:Env) (o:cZ):cells J (.sl o)=g8 o:=by simp[cells,den,Value.cells]
theorem kr (J:Env) (o:Bytes):cells J (.by o)=du o:=by simp[cells,den,Value.cells]
theorem su (J:Env) (o:Key):cells J (.key o)=eO o:=by simp[cells,den,Value.cells]
theorem fL (J:Env) (l:List V):cells J (.ag l)=bn J l:=by simp[cells,den,Value.cells]
theorem GR (J:Env) {o:Obj} {off:Nat} {y v':V} (hk0:o.wf) (hy0:ok N y) (h:ow o off y=some v'):H3 N J (.ob o) v' off y:=by
 obtain⟨w1,w2,w3,w4⟩:=hk0;unfold ow at h;cases hy:BF y with
 |none=>simp[hy]at h
 |some n=>
  simp only[hy]at h;obtain⟨h1,h2,hn⟩:=Ar (N:=N) J hy;have hn:=hn hy0
  split at h<;>simp only[aaT,reduceCtorEq]at h<;>subst h<;>
   refine⟨?_,rfl,⟨by assumption,by assumption,by assumption,by assumption⟩,rfl⟩<;>rw[h1,h2,jR,jR]<;>simp only[fc]
  ·exact⟨[],[i64 o.kind],_,rfl,rfl,rfl,rfl⟩
  ·exact⟨[i64 o.kind],[i64 o.count],_,rfl,rfl,rfl,rfl⟩
  ·exact⟨[i64 o.kind,i64 o.count],[i64 o.calls],_,rfl,rfl,rfl,rfl⟩
theorem H3.whole (J:Env) {v y:V} (hv:ok N v) (hy:ok N y) (hs:fi y=fi v) (ha:jO y=jO v) (ht:cS y=false):H3 N J v y 0 y:=
 ⟨⟨[],cells J v,[],by simp,by simp,rfl,by rw[bg J v hv,hs]⟩,ha,hy,ht⟩
theorem zi (J:Env) (g:V->Nat->V->Option V) (y:V)
  (hg:∀x off x',ok N x->cS x=false->g x off y=some x'->H3 N J x x' off y):
  ∀(l:List V) (off:Nat) (l':List V),fQ N l->tv l->Av g l off y=some l'->H3 N J (.ag l) (.ag l') off y
 | [],_,_,_,_,h=>by simp[Av]at h
 |x::l,off,l',hk,hc,h=>by
  have hc':=(eH _).1 hc;simp only[fQ]at hk;simp only[Av]at h;split at h
  ·cases hx:g x off y with
   |none=>simp[hx]at h
   |some x'=>
    simp only[hx,Option.map_some,aaT]at h;subst h;obtain⟨⟨p,m,q,h1,h2,h3,h4⟩,_,h6,h7⟩:=hg x off x' hk.1 (hc' x (by simp)) hx
    refine⟨⟨p,m,q++bn J l,?_,?_,h3,h4⟩,rfl,⟨⟨h6,hk.2⟩,(eH _).2 ?_⟩,rfl⟩
    ·grind[fL,bn,den,cells]
    ·grind[fL,bn,den,cells]
    ·simp_all
  ·cases hx:Av g l (off-fi x) y with
   |none=>simp[hx]at h
   |some l2=>
    simp only[hx,Option.map_some,aaT]at h;subst h;obtain⟨⟨p,m,q,h1,h2,h3,h4⟩,_,h6,_⟩:=zi J g y hg l _ l2 hk.2 ((eH _).2 fun z hz=>hc' z (by simp[hz])) hx
    have hl:=bg J x hk.1;rw[fL]at h1 h2;refine⟨⟨cells J x++p,m,q,?_,?_,by simp;omega,h4⟩,rfl,⟨⟨hk.1,h6.1⟩,(eH _).2 ?_⟩,rfl⟩
    ·rw[fL];simp only[bn,h1];simp[cells]
    ·rw[fL];simp only[bn,h2];simp[cells]
    ·intro z hz;rcases List.mem_cons.1 hz with rfl|hz
     ·exact hc' _ (by simp)
     ·exact(eH _).1 h6.2 z hz
theorem iE (J:Env) (y:V) (hy:ok N y) (hty:cS y=false):∀(f:Nat) (v:V) (off:Nat) (v':V),ok N v->cS v=false->setAt f v off y=some v'->H3 N J v v' off y
 |0,_,_,_,_,_,h=>by simp[setAt]at h
 |f+1,v,off,v',hv,ht,h=>by
  simp only[setAt]at h;split at h
  ·simp_all[H3.whole]
  ·split at h
   ·rename_i l _;cases hs:Av (setAt f) l off y with
    |none=>simp[hs]at h
    |some l'=>
     simp only[hs,Option.map_some,aaT]at h;subst h;exact zi J _ y (fun x o x' hx hxt hg=>iE J y hy hty f x o x' hx hxt hg) l off l' hv.1 hv.2 hs
   ·exact Ev J hv hy h
   ·rename_i s _;split at h
    ·rename_i hlt;split at h<;>simp only[aaT,reduceCtorEq]at h
     rename_i k hk;subst h;obtain⟨⟨p,m,q,h1,h2,h3,h4⟩,_,hkw,_⟩:=iE J y hy hty f (.key _) _ _ (hv (off / 6) (by omega)) rfl hk
     obtain⟨P,Q,e1,e2,e3⟩:=nW s (off / 6) (by omega)
     rw[su]at h1 h2;refine⟨⟨P++p,m,q++Q,?_,?_,by simp;omega,h4⟩,rfl,cZ.Nb hv hkw (by omega),rfl⟩
     ·rw[nD,e1,h1];simp
     ·rw[nD,e3,h2];simp
    ·simp at h
   ·rename_i b _;split at h
    ·rename_i hlt;cases hb:toByte y with
     |none=>simp[hb]at h
     |some x=>
      simp only[hb,Option.map_some,aaT]at h;subst h;obtain⟨h1,h2⟩:=rY J hb;obtain⟨P,Q,e1,e2,e3⟩:=nH b off hlt;refine⟨⟨P,[.int .u8 ((b.at off).toNat:Int)],Q,?_,?_,e2,?_⟩,rfl,trivial,rfl⟩
      ·rw[kr,e1]
      ·rw[kr,e3,h1]
      ·rw[h2];rfl
    ·simp at h
   ·rename_i o _;split at h
    ·exact GR J hv hy h
    ·split at h
     ·split at h<;>simp only[aaT,reduceCtorEq]at h
      rename_i s hs;subst h;obtain⟨w1,w2,w3,w4⟩:=hv;obtain⟨⟨p,m,q,h1,h2,h3,h4⟩,_,hsw,_⟩:=iE J y hy hty f (.sl _) _ _ w4 rfl hs;rw[nD]at h1 h2;refine⟨⟨i64 o.kind::i64 o.count::i64 o.calls::p,m,q++du o.bytes,?_,?_,by simp;omega,h4⟩,rfl,⟨w1,w2,w3,hsw⟩,rfl⟩
      ·rw[jR,fc,h1];simp
      ·rw[jR,fc];simp only[h2];simp
     ·split at h<;>simp only[aaT,reduceCtorEq]at h
      rename_i s hs;subst h;obtain⟨⟨p,m,q,h1,h2,h3,h4⟩,_⟩:=iE J y hy hty f (.by _) _ _ trivial rfl hs
      rw[kr]at h1 h2;have hl:=ja o.slots;refine⟨⟨i64 o.kind::i64 o.count::i64 o.calls::(g8 o.slots++p),m,q,?_,?_,by simp;omega,h4⟩,rfl,hv,rfl⟩
      ·rw[jR,fc,h1];simp
      ·rw[jR,fc];simp only[h2];simp
   ·simp at h
theorem H3.size {J:Env} {v v' y:V} {off:Nat} (h:H3 N J v v' off y) (hy:ok N y):(cells J v').length=(cells J v).length:=by
 obtain⟨⟨p,m,q,h1,h2,h3,h4⟩,_⟩:=h;rw[h1,h2];simp[bg J y hy,h4]
def Wi (v:V) (esz n i inner sz:Nat) (a:Bool):Option V:=
 match v with
 | .sl s=>if esz==6&&n==16 then iR 3 (.key (s.at i)) inner sz a else none
 | .by b=>if esz==1&&n==64&&inner==0&&sz==1&& !a then some (.bt (b.at i))else none
 |_=>none
theorem IW (J:Env) {v:V} {esz n i inner sz:Nat} {a:Bool} {r:V} (hv:ok N v) (hi:i<n) (h:Wi v esz n i inner sz a=some r):
  (∃p q,cells J v=p++cells J r++q/\i*esz+inner=p.length)/\fi r=sz/\jO r=a/\ok N r/\cS r=false:=by
 cases v<;>simp only[Wi,reduceCtorEq]at h
 ·rename_i s;split at h
  ·rename_i hc;simp only[aaV,aaX]at hc;obtain⟨rfl,rfl⟩:=hc;obtain⟨⟨p,q,h1,h2⟩,h3⟩:=fj J 3 (.key _) _ _ _ _ (hv i hi) rfl h;obtain⟨P,Q,e1,e2,e3⟩:=nW s i hi;rw[su]at h1;exact⟨⟨P++p,q++Q,by rw[nD,e1,h1];simp,by simp;omega⟩,h3⟩
  ·simp at h
 ·rename_i b;split at h
  ·rename_i hc;simp only[aaV,aaX,Bool.not_eq_true']at hc;obtain⟨⟨⟨⟨rfl,rfl⟩,rfl⟩,rfl⟩,rfl⟩:=hc;simp only[aaT]at h;subst h;obtain⟨P,Q,e1,e2,e3⟩:=nH b i hi;exact⟨⟨P,Q,by rw[kr,e1];rfl,by omega⟩,rfl,rfl,trivial,rfl⟩
  ·simp at h
def Q8 (v:V) (esz n i inner:Nat) (y:V):Option V:=
 match v with
 | .sl s=>if esz==6&&n==16 then match setAt 3 (.key (s.at i)) inner y with
   |some (.key k)=>some (.sl (s.put i k))
   |_=>none
   else none
 | .by b=>if esz==1&&n==64&&inner==0 then(toByte y).map fun x=> .by (b.put i x)else none
 |_=>none
theorem J2 (J:Env) {v:V} {esz n i inner:Nat} {y v':V} (hv:ok N v) (hi:i<n) (hy:ok N y) (hty:cS y=false) (h:Q8 v esz n i inner y=some v'):
  H3 N J v v' (i*esz+inner) y/\fi v'=fi v:=by
 cases v<;>simp only[Q8,reduceCtorEq]at h
 ·rename_i s;split at h
  ·rename_i hc;simp only[aaV,aaX]at hc;obtain⟨rfl,rfl⟩:=hc;split at h<;>simp only[aaT,reduceCtorEq]at h
   rename_i k hk;subst h;obtain⟨⟨p,m,q,h1,h2,h3,h4⟩,_,hkw,_⟩:=iE J y hy hty _ (.key _) _ _ (hv i hi) rfl hk;obtain⟨P,Q,e1,e2,e3⟩:=nW s i hi;rw[su]at h1 h2;refine⟨⟨⟨P++p,m,q++Q,?_,?_,by simp;omega,h4⟩,rfl,cZ.Nb hv hkw hi,rfl⟩,rfl⟩
   ·rw[nD,e1,h1];simp
   ·rw[nD,e3,h2];simp
  ·simp at h
 ·rename_i b;split at h
  ·rename_i hc;simp only[aaV,aaX]at hc;obtain⟨⟨rfl,rfl⟩,rfl⟩:=hc;cases hb:toByte y with
   |none=>simp[hb]at h
   |some x=>
    simp only[hb,Option.map_some,aaT]at h;subst h;obtain⟨h1,h2⟩:=rY J hb;obtain⟨P,Q,e1,e2,e3⟩:=nH b i hi;refine⟨⟨⟨P,[.int .u8 ((b.at i).toNat:Int)],Q,?_,?_,by omega,?_⟩,rfl,trivial,rfl⟩,rfl⟩
    ·rw[kr,e1]
    ·rw[kr,e3,h1]
    ·rw[h2];rfl
  ·simp at h
def HA (c:V) (off esz n i inner:Nat) (y:V):Option V:=
 match iR 8 c off (n*esz) true with
 |none=>none
 |some x=>match Q8 x esz n i inner y with
  |none=>none
  |some x'=>setAt 8 c off x'
theorem lM {α:Type} {p p' m m' q q':List α} (h:p++m++q=p'++m'++q') (h1:p.length=p'.length) (h2:m.length=m'.length):p=p'/\m=m'/\q=q':=by
 rw[List.append_assoc,List.append_assoc]at h;obtain⟨e1,e2⟩:=List.append_inj h h1;obtain⟨e3,e4⟩:=List.append_inj e2 h2;exact⟨e1,e3,e4⟩
theorem FO (J:Env) {c:V} {off esz n i inner:Nat} {y c':V} (hc:ok N c) (ht:cS c=false) (hi:i<n) (hy:ok N y) (hty:cS y=false) (h:HA c off esz n i inner y=some c'):
  H3 N J c c' (off+i*esz+inner) y:=by
 unfold HA at h;cases hx:iR 8 c off (n*esz) true with
 |none=>simp[hx]at h
 |some x=>
  simp only[hx]at h;cases hx':Q8 x esz n i inner y with
  |none=>simp[hx']at h
  |some x'=>
   simp only[hx']at h;obtain⟨⟨p,q,h1,h2⟩,hsz,_,h5,h6⟩:=fj J _ _ _ _ _ _ hc ht hx;obtain⟨⟨⟨P,M,Q,e1,e2,e3,e4⟩,e5,e6,e7⟩,e8⟩:=J2 J h5 hi hy hty hx';obtain⟨⟨p2,m2,q2,f1,f2,f3,f4⟩,f5,f6,f7⟩:=iE J x' e6 e7 8 c off c' hc ht h;obtain⟨rfl,rfl,rfl⟩:=lM (f1.symm.trans h1) (by omega) (by rw[f4,bg J x h5,e8])
   refine⟨⟨p2++P,M,Q++q2,?_,?_,by simp;omega,e4⟩,f5,f6,f7⟩
   ·rw[h1,e1];simp
   ·rw[f2,e2];simp
end Go.Sx
namespace Go.Sx
open Go.RowKit (Below)
def aj {α:Type} (l:List α) (i:Nat) (d:α):α:=l.getD i d
def ai {α:Type} (l:List α):Nat:=l.length
inductive TL where
 |fn (n:Nat) (get:Nat->V)
 |ob (l:List Obj)
 |key (l:List Key)
 |it (k:IntKind) (l:List Int)
 |bo (l:List Bool)
 |st (l:List ByteArray)
def TL.len:TL->Nat
 | .fn n _=>n
 | .ob l=>ai l
 | .key l=>ai l
 | .it _ l=>ai l
 | .bo l=>ai l
 | .st l=>ai l
def TL.get:TL->Nat->V
 | .fn _ g,i=>g i
 | .ob l,i=> .ob (aj l i free)
 | .key l,i=> .key (aj l i void)
 | .it k l,i=> .it k (aj l i 0)
 | .bo l,i=> .bo (aj l i false)
 | .st l,i=> .st (aj l i ByteArray.empty)
inductive aK where
 |yet
 |gone
 |blk (ty:Nat) (c:V)
 |arr (own:Option Nat) (esz:Nat) (l:TL)
 |obs (ty q:Nat) (L:List Obj)
 |gen (j:Nat)
 |store (ty e:Nat) (L:List Obj)
 |lop (r:Loop) (s:LoopState) (j:Option Code)
 |dfr
 |mp (k:IntKind) (ks:List Int) (vs:List V)
 |mq (ks:List (List Int)) (vs:List V)
 |ro (r:aK)
def az:List aK->Nat->aK
 | [],_=> .yet
 |r::_,0=>r
 |_::l,i+1=>az l i
def bP:List aK->Nat->aK->List aK
 | [],_,_=> []
 |_::l,0,r=>r::l
 |x::l,i+1,r=>x::bP l i r
theorem nk:∀(l:List aK) (i:Nat),az l i=l.getD i .yet
 | [],i=>by simp[az]
 |r::l,0=>by simp[az]
 |r::l,i+1=>by simp[az,nk l i]
theorem kP:∀(l:List aK) (i:Nat) (r:aK),bP l i r=l.set i r
 | [],i,r=>by simp[bP]
 |x::l,0,r=>by simp[bP]
 |x::l,i+1,r=>by simp[bP,kP l i]
theorem bI (l:List aK) (i j:Nat) (r:aK) (h:i<l.length):az (bP l i r) j=if j=i then r else az l j:=by
 grind[kP,nk]
theorem aO {l:List aK} {i:Nat} (h:az l i≠ .yet):i<l.length:=by
 grind[nk]
def known (res:List aK) (i:Nat):Prop:=az res i≠ .yet
def Env.zero:Env:=⟨fun _=>0,fun _=>0,fun _=>⟨0,0,none⟩,fun _=>none,fun _=>0,fun _ _=>0⟩
def TL.cells (l:TL):List Value:=(List.range l.len).flatMap fun j=>Sx.cells Env.zero (l.get j)
def Env.sl (J:Env) (i:Nat):Value:= .slice (J.sa i) (J.sn i) (J.cap i)
def j3 (l:List Int):Value:= .agg (l.map i64).toArray
def aK.holds (K:Nat->Prop) (J:Env) (i:Nat) (fp:Nat->Prop) (w0:World) (F0:Nat->Prop) (w:World):aK->Prop
 | .yet=>True
 | .gone=>True
 | .blk ty c=>ok K c/\cS c=false/\fp (J.num i)/\w.heap[J.num i]? =some (.cells (cells J c).toArray ty (0,0))
 | .arr own esz l=>(∀j,j<l.len->ok (fun _=>False) (l.get j)/\cS (l.get j)=false/\fi (l.get j)=esz)/\
   J.sn i=l.len/\l.len<=9223372036854775807/\(∀a,J.sa i=some a->a=J.adr i)/\(0<l.len->(J.sa i).isSome=true)/\(0<l.len->(J.adr i).spot=none)/\
   ((own=none/\(0<l.len->¬F0 (J.adr i).block/\(J.adr i).block<w0.heap.size)/\
     ∀j,j<l.len->∀k,k<esz->w0.cell? ⟨(J.adr i).block,(J.adr i).off+(j*esz+k),none⟩=(cells J (l.get j))[k]?)\/
    ∃e,(∀e',own=some e'->e'=e)/\w.ownsRow 0 e esz (J.sl i) l.len l.cells/\∀a,J.sa i=some a->fp a.block)
 | .gen _=>True
 | .obs ty q L=>K q/\(∀o∈L,o.wf)/\J.sn i=L.length/\L.length<=9223372036854775807/\(∀a,J.sa i=some a->a=J.adr i/\fp a.block)/\(0<L.length->(J.sa i).isSome=true)/\
   w.ownsRow 0 ty 1 (J.sl i) L.length ((List.range L.length).map fun j=>Value.pointer (some ⟨J.ob q j,0,none⟩))/\
   ∀j,j<L.length->fp (J.ob q j)/\∃t,w.heap[J.ob q j]? =some (.cells (fc (L.getD j free)).toArray t (0,0))
 | .store ty e L=>fp (J.num i)/\(∀o∈L,o.wf)/\L.length<=9223372036854775807/\∃(sl:Value) (ob:Nat->Nat),w.heap[J.num i]? =some (.cells #[sl] ty (0,0))/\
   w.ownsRow 0 e 1 sl L.length ((List.range L.length).map fun j=>Value.pointer (some ⟨ob j,0,none⟩))/\(∀b,sl.ownBlock=some b->fp b/\b≠J.num i)/\
   ∀j,j<L.length->fp (ob j)/\ob j≠J.num i/\∃t,w.heap[ob j]? =some (.cells (fc (L.getD j free)).toArray t (0,0))
 | .lop r s j=>fp (J.num i)/\w.heap[J.num i]? =some (.loop {r with state:=s,pending:=j})
 | .dfr=>(∀j,j<J.sn i->fp (J.ob i j)/\w.heap[J.ob i j]? =some (.deferred (some [])))/\∀j k,j<J.sn i->k<J.sn i->J.ob i j=J.ob i k->j=k
 | .mp k ks vs=>fp (J.num i)/\fQ K vs/\tv vs/\(∀c∈ks,cc k c)/\ks.length=vs.length/\∃es clock,w.heap[J.num i]? =some (.map es clock)/\es.toList.map (·.key)=ks.map (Value.int k)/\es.toList.map (·.val)=bz J vs
 | .mq ks vs=>fp (J.num i)/\fQ K vs/\tv vs/\(ks.length=vs.length/\ks.Nodup)/\∃es clock,w.heap[J.num i]? =some (.map es clock)/\(es.toList.map fun e=>(e.key,e.val)).Perm ((ks.map j3).zip (bz J vs))
 | .ro r=>∃fp':Nat->Prop,aK.holds K J i fp' w0 F0 w0 r/\∀b,fp' b->b<w0.heap.size/\¬F0 b
theorem AJ {w w':World} {e size:Nat} {v:Value} {n:Nat} {xs:List Value} (h:w.ownsRow 0 e size v n xs) (hw:∀b,v.ownBlock=some b->w'.heap[b]? =w.heap[b]?):w'.ownsRow 0 e size v n xs:=by
 refine⟨h.1,?_⟩;rcases h.2 with h0|⟨g,cap,cur,h1,h2,h3,h4⟩
 ·exact .inl h0
 ·refine .inr ⟨g,cap,cur,h1,h2,?_,h4⟩;rw[hw g (by rw[h1];rfl)]
  exact h3
theorem vB {w w':World} {e size:Nat} {J:Env} {i n:Nat} {xs:List Value} (h:w.ownsRow 0 e size (J.sl i) n xs) (hw:∀a,J.sa i=some a->w'.heap[a.block]? =w.heap[a.block]?):w'.ownsRow 0 e size (J.sl i) n xs:=by
 refine⟨h.1,?_⟩;rcases h.2 with h0|⟨g,cap,cur,h1,h2,h3,h4⟩
 ·exact .inl h0
 ·grind[Env.sl]
theorem aK.gk {K:Nat->Prop} {J:Env} {i:Nat} {fp:Nat->Prop} {w0:World} {F0:Nat->Prop} {w w':World} (r:aK)
  (h:r.holds K J i fp w0 F0 w) (hw:∀b,fp b->w'.heap[b]? =w.heap[b]?):r.holds K J i fp w0 F0 w':=by
 cases r with
 |yet=>trivial
 |gone=>trivial
 |blk ty c=>exact⟨h.1,h.2.1,h.2.2.1,by rw[hw _ h.2.2.1];exact h.2.2.2⟩
 |arr own esz l=>
  obtain⟨h1,h2,h3,h4,h5,h6,h7⟩:=h;refine⟨h1,h2,h3,h4,h5,h6,?_⟩;rcases h7 with h7|⟨e,e1,e2,e3⟩
  ·exact .inl h7
  ·exact .inr ⟨e,e1,vB e2 fun a ha=>hw _ (e3 a ha),e3⟩
 |gen j=>trivial
 |obs ty q L=>
  obtain⟨h0,h1,h2,h3,h4,h5,h6,h7⟩:=h;refine⟨h0,h1,h2,h3,h4,h5,vB h6 fun a ha=>hw _ (h4 a ha).2,fun j hj=>?_⟩
  obtain⟨g1,t,g2⟩:=h7 j hj;exact⟨g1,t,by rw[hw _ g1];exact g2⟩
 |store ty e L=>
  obtain⟨h0,h1,h2,sl,ob,h3,h5,h6,h7⟩:=h;refine⟨h0,h1,h2,sl,ob,by rw[hw _ h0];exact h3,AJ h5 fun b hb=>hw _ (h6 b hb).1,h6,fun j hj=>?_⟩
  obtain⟨g1,g0,t,g2⟩:=h7 j hj;exact⟨g1,g0,t,by rw[hw _ g1];exact g2⟩
 |lop r s j=>exact⟨h.1,by rw[hw _ h.1];exact h.2⟩
 |dfr=>exact⟨fun j hj=>⟨(h.1 j hj).1,by rw[hw _ (h.1 j hj).1];exact(h.1 j hj).2⟩,h.2⟩
 |mp k ks vs=>
  obtain⟨h0,h1,h2,h3,h4,es,cl,h5,h6⟩:=h;exact⟨h0,h1,h2,h3,h4,es,cl,by rw[hw _ h0];exact h5,h6⟩
 |mq ks vs=>
  obtain⟨h0,h1,h2,h4,es,cl,h5,h6⟩:=h;exact⟨h0,h1,h2,h4,es,cl,by rw[hw _ h0];exact h5,h6⟩
 |ro r=>exact h
theorem aK.sM {K K':Nat->Prop} {J ρ':Env} {i:Nat} {fp:Nat->Prop} {w0:World} {F0:Nat->Prop} {w:World} (r:aK)
  (h:r.holds K J i fp w0 F0 w) (hK:∀j,K j->K' j) (ha:Env.bD K J ρ') (hi:K i):r.holds K' ρ' i fp w0 F0 w:=by
 obtain⟨a1,a2,a3,a4,a5,a6⟩:=ha i hi;have hsl:ρ'.sl i=J.sl i:=by simp only[Env.sl,a2,a4,a5]
 induction r generalizing fp w with
 |lop r s j=>exact⟨by rw[a1];exact h.1,by rw[a1];exact h.2⟩
 |dfr=>exact⟨fun j hj=>by rw[a5]at hj;rw[a6];exact h.1 j hj,by rw[a5,a6];exact h.2⟩
 |mp k ks vs=>
  obtain⟨h0,h1,h2,h3,h4,es,cl,h5,h6,h7⟩:=h;exact⟨by rw[a1];exact h0,dw hK _ h1,h2,h3,h4,es,cl,by rw[a1];exact h5,h6,by rw[fW ha vs h1];exact h7⟩
 |mq ks vs=>
  obtain⟨h0,h1,h2,h4,es,cl,h5,h7⟩:=h;exact⟨by rw[a1];exact h0,dw hK _ h1,h2,h4,es,cl,by rw[a1];exact h5,by rw[fW ha vs h1];exact h7⟩
 |store ty e L=>
  obtain⟨h0,h1,h2,sl,ob,h3,h5,h6,h7⟩:=h;exact⟨by rw[a1];exact h0,h1,h2,sl,ob,by rw[a1];exact h3,h5,by rw[a1];exact h6,by rw[a1];exact h7⟩
 |ro r ih=>
  obtain⟨fp',h1,h2⟩:=h;exact⟨fp',ih h1,h2⟩
 |yet=>trivial
 |gone=>trivial
 |blk ty c=>exact⟨ef hK _ h.1,h.2.1,by rw[a1];exact h.2.2.1,by rw[a1,dX ha c h.1];exact h.2.2.2⟩
 |arr own esz l=>
  obtain⟨h1,h2,h3,h4,h5,h6,h7⟩:=h;refine⟨h1,by rw[a5];exact h2,h3,by rw[a4,a3];exact h4,by rw[a4];exact h5,by rw[a3];exact h6,?_⟩
  rcases h7 with⟨e1,e2,e3⟩|⟨e,e1,e2,e3⟩
  ·refine .inl ⟨e1,by rw[a3];exact e2,fun j hj k hk=>?_⟩
   rw[a3,e3 j hj k hk,dX (N:=fun _=>False) (J:=J) (ρ':=ρ') (fun _ h=>h.elim) _ (h1 j hj).1]
  ·exact .inr ⟨e,e1,by rw[hsl];exact e2,by rw[a4];exact e3⟩
 |gen j=>trivial
 |obs ty q L=>
  obtain⟨h0,h1,h2,h3,h4,h5,h6,h7⟩:=h;have a6:=(ha q h0).2.2.2.2.2;exact⟨hK q h0,h1,by rw[a5];exact h2,h3,by rw[a4,a3];exact h4,by rw[a4];exact h5,by rw[hsl,a6];exact h6,by rw[a6];exact h7⟩
structure bq (J:Env) (fps:Nat->Nat->Prop) (res:List aK) (K:Nat->Prop) (w0:World) (F0:Nat->Prop) (w:World):Prop where
 sub:∀i,known res i->K i
 old:w0.heap.size<=w.heap.size
 os:w.os=w0.os
 tape:w.tape=w0.tape
 output:w.output=w0.output
 holds:∀i,known res i->(az res i).holds K J i (fps i) w0 F0 w
 lt:∀i b,known res i->fps i b->b<w.heap.size
 disj:∀i j b,known res i->known res j->i≠j->fps i b->¬fps j b
 inF:∀i b,known res i->fps i b->b<w0.heap.size->F0 b
 same:∀b,b<w0.heap.size->¬F0 b->w.heap[b]? =w0.heap[b]?
def cP (l:List aK) (i:Nat):aK:=
 match az l i with
 | .ro r=>r
 |r=>r
theorem eU {l:List aK} {i:Nat} {r:aK} (h:cP l i=r) (hr:r≠ .yet):known l i:=by
 grind[cP,known]
theorem bq.look {J:Env} {fps:Nat->Nat->Prop} {res:List aK} {K:Nat->Prop} {w0:World} {F0:Nat->Prop} {w:World} (h:bq J fps res K w0 F0 w) {i:Nat} {r:aK}
  (hr:cP res i=r) (hne:r≠ .yet):∃fp:Nat->Prop,r.holds K J i fp w0 F0 w/\∀b,fp b->b<w.heap.size:=by
 have hk:=eU hr hne;have hh:=h.holds i hk;unfold cP at hr;split at hr
 ·rename_i r' he;rw[he]at hh;subst hr;obtain⟨fp',h1,h2⟩:=hh;exact⟨fp',aK.gk _ h1 fun b hb=>h.same b (h2 b hb).1 (h2 b hb).2,fun b hb=>Nat.lt_of_lt_of_le (h2 b hb).1 h.old⟩
 ·subst hr;exact⟨fps i,hh,fun b hb=>h.lt i b hk hb⟩
def fresh (nid n:Nat) (i:Nat):Prop:=nid<=i/\i<nid+n
def og (K:Nat->Prop) (J ρ':Env) (nid:Nat) (new:List aK) (w0:World) (F0:Nat->Prop) (w w':World):Prop:=
 Below w.heap.size w w'/\Env.bD (fun i=>¬fresh nid new.length i) J ρ'/\
 ∃fp:Nat->Nat->Prop,(∀k,k<new.length->(az new k).holds (fun i=>K i\/fresh nid new.length i) ρ' (nid+k) (fp k) w0 F0 w'/\∀b,fp k b->w.heap.size<=b/\b<w'.heap.size)/\
  ∀k l b,k<new.length->l<new.length->k≠l->fp k b->¬fp l b
theorem og.refl (K:Nat->Prop) (J:Env) (nid:Nat) (w0:World) (F0:Nat->Prop) (w:World):og K J J nid [] w0 F0 w w:=
 ⟨Below.refl _ _,Env.bD.refl _ _,fun _ _=>False,fun k hk=>by simp at hk,fun k l b hk=>by simp at hk⟩
def RW (res res':List aK) (nid:Nat) (new:List aK):Prop:=
 (∀i,known res i->az res' i=az res i/\¬fresh nid new.length i)/\
 (∀i,known res' i->known res i\/fresh nid new.length i)/\
 ∀k,k<new.length->az res' (nid+k)=az new k
theorem aK.oG {K K':Nat->Prop} {J:Env} {i:Nat} {fp:Nat->Prop} {w0:World} {F0:Nat->Prop} {w:World} (r:aK)
  (h:r.holds K J i fp w0 F0 w) (hK:∀j,K j->K' j):r.holds K' J i fp w0 F0 w:=by
 induction r generalizing fp w with
 |blk ty c=>exact⟨ef hK _ h.1,h.2⟩
 |mp k ks vs=>exact⟨h.1,dw hK _ h.2.1,h.2.2⟩
 |mq ks vs=>exact⟨h.1,dw hK _ h.2.1,h.2.2⟩
 |obs ty q L=>exact⟨hK q h.1,h.2⟩
 |ro r ih=>
  obtain⟨fp',h1,h2⟩:=h;exact⟨fp',ih h1,h2⟩
 |_=>exact h
theorem bq.grow {J ρ':Env} {fps:Nat->Nat->Prop} {res res':List aK} {w0:World} {F0:Nat->Prop} {w w':World} {nid:Nat} {new:List aK} {K K':Nat->Prop}
  (h:bq J fps res K w0 F0 w) (ha:RW res res' nid new) (hKf:∀i,K i->¬fresh nid new.length i) (hK':∀i,K i\/fresh nid new.length i->K' i)
  (hg:og K J ρ' nid new w0 F0 w w'):
  ∃fps',bq ρ' fps' res' K' w0 F0 w'/\Env.bD K J ρ':=by
 obtain⟨hb,hag,fp,h1,h2⟩:=hg;obtain⟨a1,a2,a3⟩:=ha;have hag':Env.bD K J ρ':=hag.mono hKf;have hkey:∀i,known res i->¬fresh nid new.length i:=fun i hi=>(a1 i hi).2
 classical
 refine⟨fun i=>if fresh nid new.length i then fp (i-nid)else fps i,⟨?_,Nat.le_trans h.old hb.size,hb.os.trans h.os,hb.tape.trans h.tape,hb.output.trans h.output,?_,?_,?_,?_,?_⟩,hag'⟩
 ·intro i hi;rcases a2 i hi with hk|hf
  ·exact hK' i (.inl (h.sub i hk))
  ·exact hK' i (.inr hf)
 ·intro i hi;rcases a2 i hi with hk|hf
  ·simp only[aa1 (hkey i hk)];rw[(a1 i hk).1];exact aK.sM _ (aK.gk _ (h.holds i hk) fun b hbb=>hb.block b (h.lt i b hk hbb)) (fun j hj=>hK' j (.inl hj)) hag' (h.sub i hk)
  ·simp only[aa2 hf];obtain⟨e1,e2⟩:=hf;have:=(h1 (i-nid) (by omega)).1
   rw[show nid+(i-nid)=i by omega]at this
   have h3:=a3 (i-nid) (by omega)
   rw[show nid+(i-nid)=i by omega]at h3
   rw[h3];exact aK.oG _ this hK'
 ·intro i b hi hbb;rcases a2 i hi with hk|hf
  ·simp only[aa1 (hkey i hk)]at hbb;exact Nat.lt_of_lt_of_le (h.lt i b hk hbb) hb.size
  ·grind[fresh]
 ·intro i j b hi hj hne hbi hbj;rcases a2 i hi with hk|hf<;>rcases a2 j hj with hk'|hf'
  ·simp only[aa1 (hkey i hk)]at hbi;simp only[aa1 (hkey j hk')]at hbj;exact h.disj i j b hk hk' hne hbi hbj
  ·simp only[aa1 (hkey i hk)]at hbi;simp only[aa2 hf']at hbj;have:=((h1 (j-nid) (by unfold fresh at hf';omega)).2 b hbj).1
   have:=h.lt i b hk hbi;omega
  ·simp only[aa2 hf]at hbi;simp only[aa1 (hkey j hk')]at hbj;have:=((h1 (i-nid) (by unfold fresh at hf;omega)).2 b hbi).1
   have:=h.lt j b hk' hbj;omega
  ·grind[fresh]
 ·intro i b hi hbb hlt;rcases a2 i hi with hk|hf
  ·simp only[aa1 (hkey i hk)]at hbb;exact h.inF i b hk hbb hlt
  ·simp only[aa2 hf]at hbb;have:=((h1 (i-nid) (by unfold fresh at hf;omega)).2 b hbb).1
   have:=h.old;omega
 ·intro b hlt hF;rw[hb.block b (Nat.lt_of_lt_of_le hlt h.old)];exact h.same b hlt hF
theorem cF (l m:List aK) (i:Nat):az (l++m) i=if i<l.length then az l i else az m (i-l.length):=by
 grind[nk]
theorem ll (res new:List aK):RW res (res++new) res.length new:=by
 refine⟨fun i hi=>?_,fun i hi=>?_,fun k hk=>?_⟩
 ·have:=aO hi;exact⟨by rw[cF,aa2 this],by unfold fresh;omega⟩
 ·unfold known at hi⊢;rw[cF]at hi;by_cases h:i<res.length
  ·rw[aa2 h]at hi;exact .inl hi
  ·rw[aa1 h]at hi;have:=aO hi;exact .inr ⟨by omega,by omega⟩
 ·rw[cF,aa1 (by omega)];congr 1;omega
def Env.bU (J:Env) (i b:Nat):Env:= {J with num:=fun j=>if j=i then b else J.num j}
theorem nf (J:Env) (i b:Nat):Env.bD (fun j=>¬fresh i 1 j) J (J.bU i b):=fun j hj=>by
 have:j≠i:=fun e=>hj ⟨by omega,by omega⟩
 simp[Env.bU,this]
theorem og.alloc {K:Nat->Prop} {J:Env} {nid ty:Nat} {c:V} {w0:World} {F0:Nat->Prop} {w:World} (hc:ok K c) (ht:cS c=false) (hn:¬K nid):
  og K J (J.bU nid w.heap.size) nid [.blk ty c] w0 F0 w (w.alloc (.cells (cells J c).toArray ty)):=by
 refine⟨(Below.refl _ _).alloc (Nat.le_refl _) _,nf J nid _,fun _ b=>b=w.heap.size,fun k hk=>?_,fun k l b hk hl hne=>?_⟩
 ·simp only[List.length_singleton,Nat.lt_one_iff]at hk;subst hk
  have ha:Env.bD K J (J.bU nid w.heap.size):=(nf J nid _).mono fun i hi hf=>by
   grind[fresh]
  refine⟨⟨ef (fun i hi=> .inl hi) c hc,ht,by simp[Env.bU],?_⟩,fun b hb=>by subst hb;simp⟩
  rw[dX ha c hc,show(J.bU nid w.heap.size).num (nid+0)=w.heap.size by simp[Env.bU]]
  exact heap_alloc_new w _
 ·simp only[List.length_singleton,Nat.lt_one_iff]at hk hl;omega
theorem bq.write {J:Env} {fps:Nat->Nat->Prop} {res:List aK} {K:Nat->Prop} {w0:World} {F0:Nat->Prop} {w w':World} {i ty:Nat} {c c':V}
  (h:bq J fps res K w0 F0 w) (hi:az res i= .blk ty c) (hc:ok K c') (ht:cS c'=false)
  (hos:w'.os=w.os) (htape:w'.tape=w.tape) (hout:w'.output=w.output) (hsize:w'.heap.size=w.heap.size)
  (hnew:w'.heap[J.num i]? =some (.cells (cells J c').toArray ty (0,0))) (hold:∀b,b≠J.num i->w'.heap[b]? =w.heap[b]?):
  bq J fps (bP res i (.blk ty c')) K w0 F0 w':=by
 have hk:known res i:=by unfold known;rw[hi];simp
 have hlt:=aO hk;have hh:=h.holds i hk;rw[hi]at hh;obtain⟨_,_,hfp,_⟩:=hh
 have hkn:∀j,known (bP res i (.blk ty c')) j↔known res j:=fun j=>by
  grind[known,bI]
 refine⟨fun j hj=>h.sub j ((hkn j).1 hj),by rw[hsize];exact h.old,hos.trans h.os,htape.trans h.tape,hout.trans h.output,fun j hj=>?_,fun j b hj hb=>by rw[hsize];exact h.lt j b ((hkn j).1 hj) hb,
  fun j l b hj hl=>h.disj j l b ((hkn j).1 hj) ((hkn l).1 hl),fun j b hj=>h.inF j b ((hkn j).1 hj),fun b hb hF=>?_⟩
 ·rw[bI _ _ _ _ hlt];by_cases e:j=i
  ·subst e;simp only[if_true];exact⟨hc,ht,hfp,hnew⟩
  ·simp only[aa1 e];have hj':=(hkn j).1 hj;refine aK.gk _ (h.holds j hj') fun b hb=>hold b fun eb=>?_
   subst eb;exact h.disj j i _ hj' hk e hb hfp
 ·rw[hold b fun e=>hF (h.inF i _ hk hfp (e▸hb) |> fun x=>e▸x)]
  exact h.same b hb hF
theorem bq.forget {J:Env} {fps:Nat->Nat->Prop} {res res':List aK} {K:Nat->Prop} {w0:World} {F0:Nat->Prop} {w:World}
  (h:bq J fps res K w0 F0 w) (hf:∀i,known res' i->az res' i=az res i):bq J fps res' K w0 F0 w:=by
 have hk:∀i,known res' i->known res i:=fun i hi=>by
  have:=hf i hi;unfold known at hi⊢;rwa [this]at hi
 exact⟨fun i hi=>h.sub i (hk i hi),h.old,h.os,h.tape,h.output,fun i hi=>by rw[hf i hi];exact h.holds i (hk i hi),fun i b hi=>h.lt i b (hk i hi),
  fun i j b hi hj=>h.disj i j b (hk i hi) (hk j hj),fun i b hi=>h.inF i b (hk i hi),h.same⟩
theorem bq.vh {J:Env} {fps:Nat->Nat->Prop} {res:List aK} {K K':Nat->Prop} {w0:World} {F0:Nat->Prop} {w:World}
  (h:bq J fps res K w0 F0 w) (hK:∀i,K i->K' i):bq J fps res K' w0 F0 w:=
 ⟨fun i hi=>hK i (h.sub i hi),h.old,h.os,h.tape,h.output,fun i hi=>aK.oG _ (h.holds i hi) hK,h.lt,h.disj,h.inF,h.same⟩
theorem bq.turn {J ρ':Env} {fps:Nat->Nat->Prop} {res res':List aK} {K K':Nat->Prop} {w0:World} {F0:Nat->Prop} {w w':World} (h:bq J fps res K w0 F0 w) (T B:Nat->Prop) (fp':Nat->Nat->Prop)
  (hK:∀i,known res' i->K' i) (hKK:∀i,K i->K' i) (hag:Env.bD K J ρ')
  (hA:∀i,known res' i->¬B i->known res i/\¬T i/\az res' i=az res i)
  (hB:∀i,known res' i->B i->(az res' i).holds K' ρ' i (fp' i) w0 F0 w'/\∀b,fp' i b->(∃t,T t/\known res t/\fps t b)\/(w.heap.size<=b/\b<w'.heap.size))
  (hBd:∀i j b,B i->B j->i≠j->fp' i b->¬fp' j b)
  (hos:w'.os=w.os) (htape:w'.tape=w.tape) (hout:w'.output=w.output) (hsize:w.heap.size<=w'.heap.size)
  (hsame:∀b,b<w.heap.size->(∀t,T t->known res t->¬fps t b)->w'.heap[b]? =w.heap[b]?):
  ∃fps',bq ρ' fps' res' K' w0 F0 w':=by
 classical
 have hAB:∀i j b,known res' i->known res' j->¬B i->B j->fps i b->¬fp' j b:=by
  intro i j b hi hj hbi hbj hf hf';obtain⟨k1,k2,_⟩:=hA i hi hbi;rcases(hB j hj hbj).2 b hf' with⟨t,ht,hkt,hft⟩|⟨hge,_⟩
  ·exact h.disj i t b k1 hkt (fun e=>k2 (e▸ht)) hf hft
  ·have:=h.lt i b k1 hf;omega
 refine⟨fun i=>if B i then fp' i else fps i,⟨hK,Nat.le_trans h.old hsize,hos.trans h.os,htape.trans h.tape,hout.trans h.output,?_,?_,?_,?_,?_⟩⟩
 ·intro i hi;by_cases hb:B i
  ·simp only[aa2 hb];exact(hB i hi hb).1
  ·simp only[aa1 hb];obtain⟨k1,k2,k3⟩:=hA i hi hb;rw[k3];exact aK.sM _ (aK.gk _ (h.holds i k1) fun b hf=>hsame b (h.lt i b k1 hf) fun t ht hkt hft=>h.disj i t b k1 hkt (fun e=>k2 (e▸ht)) hf hft) hKK hag (h.sub i k1)
 ·intro i b hi hf;by_cases hb:B i
  ·simp only[aa2 hb]at hf;rcases(hB i hi hb).2 b hf with⟨t,ht,hkt,hft⟩|⟨_,hlt⟩
   ·exact Nat.lt_of_lt_of_le (h.lt t b hkt hft) hsize
   ·exact hlt
  ·simp only[aa1 hb]at hf;exact Nat.lt_of_lt_of_le (h.lt i b (hA i hi hb).1 hf) hsize
 ·intro i j b hi hj hne hf hf';by_cases hbi:B i<;>by_cases hbj:B j
  ·grind
  ·grind
  ·grind
  ·simp only[aa1 hbi]at hf;simp only[aa1 hbj]at hf';exact h.disj i j b (hA i hi hbi).1 (hA j hj hbj).1 hne hf hf'
 ·intro i b hi hf hlt;by_cases hb:B i
  ·simp only[aa2 hb]at hf;rcases(hB i hi hb).2 b hf with⟨t,ht,hkt,hft⟩|⟨hge,_⟩
   ·exact h.inF t b hkt hft hlt
   ·have:=h.old;omega
  ·simp only[aa1 hb]at hf;exact h.inF i b (hA i hi hb).1 hf hlt
 ·intro b hlt hF;rw[hsame b (Nat.lt_of_lt_of_le hlt h.old) fun t _ hkt hft=>hF (h.inF t b hkt hft hlt)]
  exact h.same b hlt hF
inductive S where
 |und
 |ud
 |v (x:V)
 |gv (ch:List (Nat×Bool)) (x:V)
def cg:List S->Nat->S
 | [],_=> .und
 |x::_,0=>x
 |_::l,n+1=>cg l n
def sset:List S->Nat->S->List S
 | [],_,_=> []
 |_::l,0,y=>y::l
 |x::l,n+1,y=>x::sset l n y
theorem lz:∀(l:List S) (i:Nat),cg l i=l.getD i .und
 | [],i=>by simp[cg]
 |r::l,0=>by simp[cg]
 |r::l,i+1=>by simp[cg,lz l i]
theorem Cn:∀(l:List S) (i:Nat) (r:S),sset l i r=l.set i r
 | [],i,r=>by simp[sset]
 |x::l,0,r=>by simp[sset]
 |x::l,i+1,r=>by simp[sset,Cn l i]
theorem iz (l:List S) (i:Nat) (r:S):(sset l i r).length=l.length:=by rw[Cn];simp
theorem gK (l:List S) (i j:Nat) (r:S):cg (sset l i r) j=if j=i/\i<l.length then r else cg l j:=by
 grind[Cn,lz]
theorem Hn {l:List S} {i:Nat} (h:cg l i≠ .und):i<l.length:=by
 grind[lz]
def Vv (a b:Bool):Bool:=a&&b
def YD (a b:Bool):Bool:=a||b
def QT (a:Bool):Bool:= !a
def Za (c a b:Bool):Bool:=if c then a else b
def F7 (a b:Bool):Bool:=a==b
def ilt (a b:Int):Bool:=decide (a<b)
def ile (a b:Int):Bool:=decide (a<=b)
def DI (a b:Int):Bool:=decide (a=b)
def lT (a b:Int):Int:=if b<a then b else a
def imax (a b:Int):Int:=if a<b then b else a
def Bw (a b:Key):Bool:=decide (a=b)
def FD (a b:cZ):Bool:=decide (a=b)
def E7 (a b:Bytes):Bool:=decide (a=b)
def CW (a b:Obj):Bool:=decide (a=b)
def AD (a b:ByteArray):Bool:=decide (a=b)
def yG (a b:Int):Int:=a+b
def tA (a b:Int):Int:=a-b
def WQ (a b:Int):Int:=a*b
def Ye (a b:Int):Int:=a.tdiv b
def Xb (a b:Int):Int:=a.tmod b
def qf (a:Int):Nat:=a.toNat
def bQ (a:Nat):Int:=(a:Int)
def b2i (a:UInt8):Int:=(a.toNat:Int)
def bO (a:ByteArray):Int:=(a.size:Int)
def aF (k:IntKind) (n:Int):Prop:=cc k n
abbrev abd(x:Int):Prop:=aF IntKind.i64 x
def YP (j:Int) (n:Nat):Prop:=0<=j/\j<(n:Int)
def KA (i n:Nat):Prop:=i<n
def nX (b:Int):Prop:=b≠0
def dY:Option Prop->Prop
 |none=>True
 |some p=>p
def EH:Option Prop->Prop->Prop
 |none,k=>k
 |some p,k=>p/\k
def W5 (g:Bool):Option Prop->Prop->Prop
 |none,k=>k
 |some p,k=>(g=true->p)/\k
theorem rV {q:Option Prop} {k:Prop} (h:EH q k):dY q/\k:=by cases q with
 |none=>exact⟨trivial,h⟩
 |some p=>exact h
theorem Fq {g:Bool} {q:Option Prop} {k:Prop} (h:W5 g q k):(g=true->dY q)/\k:=by cases q with
 |none=>exact⟨fun _=>trivial,h⟩
 |some p=>exact h
def raw:S->Option Bool
 | .v (.cb b)=>some b
 | .v (.bo b)=>some b
 | .gv _ (.cb b)=>some b
 | .gv _ (.bo b)=>some b
 |_=>none
def m7 (sl:List S):List (Nat×Bool)->Bool
 | []=>true
 | (s,w)::c=>match raw (cg sl s)with
   |some b=>match c with
    | []=>if w then b else QT b
    |_=>Vv (if w then b else QT b) (m7 sl c)
   |none=>false
def H7 (ch:List (Nat×Bool)) (s:Nat) (w:Bool):Bool:=ch.any fun p=>p.1==s&&p.2==w
def HM (a b:List (Nat×Bool)):Bool:=a.all fun p=>H7 b p.1 p.2
theorem jt (sl:List S) (s:Nat) (w:Bool) (c:List (Nat×Bool)):m7 sl ((s,w)::c)=((match raw (cg sl s)with|some b=>(if w then b else !b)|none=>false)&&m7 sl c):=by
 grind[m7,raw,cg,Vv,QT]
theorem xU (sl:List S) (ch:List (Nat×Bool)):m7 sl ch=true↔ ∀p∈ch,raw (cg sl p.1)=some p.2:=by
 induction ch with
 |nil=>simp[m7]
 |cons p c ih=>
  obtain⟨s,w⟩:=p;rw[jt];simp only[aaV,ih,List.mem_cons,forall_eq_or_imp];refine and_congr_left fun _=>?_
  cases raw (cg sl s)with
  |none=>simp
  |some b=>cases w<;>cases b<;>simp
theorem HQ {sl:List S} {a b:List (Nat×Bool)} (h:HM a b=true) (hb:m7 sl b=true):m7 sl a=true:=by
 simp_all[xU,HM,H7]
def ie (J:Env) (K:Nat->Prop) (sl:List S) (x:Value):S->Prop
 | .und=>True
 | .ud=>x=undef
 | .v y=>x=den J y/\ok K y
 | .gv ch y=>(m7 sl ch=true->x=den J y/\ok K y)/\(m7 sl ch=false->x=undef)
def jq (J:Env) (K:Nat->Prop) (sl:List S) (a:Act):Prop:=
 a.tmps.size=sl.length/\∀t,ie J K sl (a.tmps.getD t undef) (cg sl t)
theorem ie.env {J ρ':Env} {K K':Nat->Prop} {sl:List S} {x:Value} {s:S} (h:ie J K sl x s) (hK:∀i,K i->K' i) (ha:Env.bD K J ρ'):ie ρ' K' sl x s:=by
 cases s with
 |und=>trivial
 |ud=>exact h
 |v y=>exact⟨by rw[gj ha y h.2];exact h.1,ef hK y h.2⟩
 |gv ch y=>exact⟨fun hg=>⟨by rw[gj ha y (h.1 hg).2];exact(h.1 hg).1,ef hK y (h.1 hg).2⟩,h.2⟩
theorem jq.env {J ρ':Env} {K K':Nat->Prop} {sl:List S} {a:Act} (h:jq J K sl a) (hK:∀i,K i->K' i) (ha:Env.bD K J ρ'):jq ρ' K' sl a:=
 ⟨h.1,fun t=>(h.2 t).env hK ha⟩
def named (d:Nat) (ch:List (Nat×Bool)):Bool:=ch.any fun p=>p.1==d
def z0 (d:Nat) (sl:List S):Bool:=sl.all fun s=>match s with| .gv ch _=> !named d ch|_=>true
theorem vt {sl:List S} {d:Nat} {s:S} {ch:List (Nat×Bool)} (h:named d ch=false):m7 (sset sl d s) ch=m7 sl ch:=by
 induction ch with
 |nil=>rfl
 |cons p c ih=>
  obtain⟨t,w⟩:=p;simp only[named,List.any_cons,Bool.or_eq_false_iff,beq_eq_false_iff_ne,ne_eq]at h;have h2:named d c=false:=h.2;rw[jt,jt,ih h2,gK,aa1 (fun hh=>h.1 hh.1)]
theorem FN {sl:List S} {d t:Nat} {ch:List (Nat×Bool)} {y:V} (h:z0 d sl=true) (ht:cg sl t= .gv ch y):named d ch=false:=by
 have hlt:t<sl.length:=Hn (by rw[ht];simp)
 rw[lz,aa0,List.getElem?_eq_getElem hlt]at ht;simp only[Option.getD_some]at ht;have:=(List.all_eq_true.1 h) _ (List.getElem_mem hlt);rw[ht]at this;simpa using this
theorem jq.put {J:Env} {K:Nat->Prop} {sl:List S} {a:Act} {d:Nat} {s:S} {x:Value} (h:jq J K sl a) (hf:z0 d sl=true)
  (hs:ie J K (sset sl d s) x s):jq J K (sset sl d s) (a.put (some d) x):=by
 refine⟨by simp[Act.put,iz,h.1],fun t=>?_⟩
 rw[gK];by_cases e:t=d/\d<sl.length
 ·rw[aa2 e];obtain⟨rfl,hd⟩:=e
  have:(a.put (some t) x).tmps.getD t undef=x:=by
   simp[Act.put,h.1,hd]
  rw[this];exact hs
 ·rw[aa1 e]
  have hx:(a.put (some d) x).tmps.getD t undef=a.tmps.getD t undef:=by
   simp only[Act.put,Array.getD_eq_getD_getElem?,Array.getElem?_setIfInBounds];by_cases ed:d=t
   ·subst ed;have:¬d<sl.length:=fun hl=>e ⟨rfl,hl⟩
    simp[h.1,this]
   ·simp[ed]
  rw[hx];have:=h.2 t;cases hst:cg sl t with
  |und=>trivial
  |ud=>rw[hst]at this;exact this
  |v y=>rw[hst]at this;exact this
  |gv ch y=>
   rw[hst]at this;have hn:=FN hf hst;exact⟨fun hg=>this.1 (by rwa [vt hn]at hg),fun hg=>this.2 (by rwa [vt hn]at hg)⟩
def GM:Value->Option V
 | .bool b=>some (.cb b)
 | .int k n=>if cc k n then some (.ci k n)else none
 | .string s=>some (.st s)
 | .pointer none=>some (.nl (.pointer none))
 | .slice none 0 0=>some (.nl (.slice none 0 0))
 | .map none=>some (.nl (.map none))
 | .nilFunc=>some (.nl .nilFunc)
 | .nilIface=>some (.nl .nilIface)
 |_=>none
theorem D5 {c:Value} {x:V} (J:Env) (K:Nat->Prop) (h:GM c=some x):c=den J x/\ok K x:=by
 unfold GM at h;split at h
 ·simp only[aaT]at h;subst h;exact⟨rfl,trivial⟩
 ·split at h
  ·simp only[aaT]at h;subst h;exact⟨rfl,by assumption⟩
  ·simp at h
 ·simp only[aaT]at h;subst h;exact⟨rfl,trivial⟩
 ·simp only[aaT]at h;subst h;exact⟨rfl,rfl⟩
 ·simp only[aaT]at h;subst h;exact⟨rfl,rfl⟩
 ·simp only[aaT]at h;subst h;exact⟨rfl,rfl⟩
 ·simp only[aaT]at h;subst h;exact⟨rfl,rfl⟩
 ·simp only[aaT]at h;subst h;exact⟨rfl,rfl⟩
 ·simp at h
def ft (sl:List S) (ch:List (Nat×Bool)):Operand->Option V
 | .tmp t=>match cg sl t with
   | .v x=>some x
   | .gv c x=>if HM c ch then some x else none
   |_=>none
 | .const v=>GM v
 | .func f=>if Nat.blt f 2000 then some (.fn f [])else none
 | .global _=>none
theorem ir {J:Env} {K:Nat->Prop} {sl:List S} {a:Act} {ch:List (Nat×Bool)} {o:Operand} {x:V} (h:jq J K sl a) (hg:m7 sl ch=true)
  (ho:ft sl ch o=some x):a.eval o=den J x/\ok K x:=by
 cases o with
 |tmp t=>
  simp only[ft]at ho;have ht:=h.2 t;cases hs:cg sl t with
  |und=>simp[hs]at ho
  |ud=>simp[hs]at ho
  |v y=>
   simp only[hs,aaT]at ho;subst ho;rw[hs]at ht;exact ht
  |gv c y=>
   simp only[hs]at ho;split at ho
   ·rename_i hc;simp only[aaT]at ho;subst ho;rw[hs]at ht;exact ht.1 (HQ hc hg)
   ·simp at ho
 |const v=>exact D5 J K ho
 |func f=>
  simp only[ft]at ho;split at ho
  ·rename_i hlo;simp only[aaT]at ho;subst ho;exact⟨by simp[Act.eval,den,bz,yN hlo],trivial⟩
  ·simp at ho
 |global g=>simp[ft]at ho
def mZ (sl:List S) (ch:List (Nat×Bool)):List Operand->Option (List V)
 | []=>some []
 |o::l=>match ft sl ch o,mZ sl ch l with
  |some x,some xs=>some (x::xs)
  |_,_=>none
theorem gP {J:Env} {K:Nat->Prop} {sl:List S} {a:Act} {ch:List (Nat×Bool)} (h:jq J K sl a) (hg:m7 sl ch=true):
  ∀{l:List Operand} {xs:List V},mZ sl ch l=some xs->l.map a.eval=bz J xs/\fQ K xs
 | [],xs,ho=>by simp only[mZ,aaT]at ho;subst ho;exact⟨rfl,trivial⟩
 |o::l,xs,ho=>by
  simp only[mZ]at ho;split at ho
  ·rename_i x ys hx hl;simp only[aaT]at ho;subst ho;obtain⟨h1,h2⟩:=ir h hg hx;obtain⟨h3,h4⟩:=gP h hg hl;exact⟨by simp[h1,h3,bz],h2,h4⟩
  ·simp at ho
def sL (sl:List S) (ops:List Oper):Option (Nat×Bool)->Option (Option (List (Nat×Bool)))
 |none=>some (some [])
 |some (j,w)=>match (ops[j]?).bind (·.dst)with
  |none=>none
  |some s=>match cg sl s with
   | .ud=>some none
   | .v (.cb b)=>if b==w then some (some [])else some none
   | .v (.bo _)=>some (some [(s,w)])
   | .gv c (.bo _)=>some (some ((s,w)::c))
   | .gv c (.cb b)=>if b==w then some (some c)else some none
   |_=>none
def xH (sl:List S):Option (List (Nat×Bool))->Bool
 |none=>false
 |some ch=>m7 sl ch
theorem nc {J:Env} {K:Nat->Prop} {sl:List S} {a:Act} {ops:Array Oper} {o:Oper} {r:Option (List (Nat×Bool))} (h:jq J K sl a)
  (hc:sL sl ops.toList o.guard=some r):Region.wanted o (yielded ops a.tmps)=xH sl r:=by
 unfold Region.wanted;cases hg:o.guard with
 |none=>rw[hg]at hc;simp only[sL,aaT]at hc;subst hc;rfl
 |some jw=>
  obtain⟨j,w⟩:=jw;rw[hg]at hc;simp only[sL,Array.getElem?_toList]at hc;simp only[yielded];cases hs:(ops[j]?).bind (·.dst)with
  |none=>simp[hs]at hc
  |some s=>
   simp only[hs,Option.bind_some]at hc⊢;have hsl:=h.2 s
   have hval:∀x,cg sl s≠ .und->a.tmps.getD s undef=x->a.tmps[s]? =some x:=fun x hne hx=>by
    have:=Hn hne;rw[<-h.1]at this;rw[Array.getD_eq_getD_getElem?,Array.getElem?_eq_getElem this]at hx;rw[Array.getElem?_eq_getElem this];simpa using hx
   cases hss:cg sl s with
   |und=>simp[hss]at hc
   |ud=>
    rw[hss]at hsl hc;simp only[aaT]at hc;subst hc;rw[hval _ (by rw[hss];simp) hsl]
    simp[undef,xH]
   |v y=>
    rw[hss]at hsl hc;rw[hval _ (by rw[hss];simp) hsl.1]
    cases y<;>simp only[reduceCtorEq]at hc
    ·grind[den,xH,m7]
    ·grind[den,xH,jt,raw,m7]
   |gv c y=>
    rw[hss]at hsl hc;obtain⟨h1,h3⟩:=hsl;cases y<;>simp only[reduceCtorEq]at hc
    ·rename_i b;cases hgc:m7 sl c with
     |true=>
      rw[hval _ (by rw[hss];simp) (h1 hgc).1]
      simp only[den];clear hval;split at hc<;>simp only[aaT]at hc<;>subst hc<;>rename_i hb
      ·simpa[xH,hgc]using hb
      ·simpa[xH]using hb
     |false=>
      rw[hval _ (by rw[hss];simp) (h3 hgc)]
      split at hc<;>simp only[aaT]at hc<;>subst hc<;>simp[undef,hgc,xH]
    ·rename_i b;simp only[aaT]at hc;subst hc;simp only[xH];rw[jt];simp only[hss,raw];cases hgc:m7 sl c with
     |true=>
      rw[hval _ (by rw[hss];simp) (h1 hgc).1]
      simp only[den];cases w<;>cases b<;>rfl
     |false=>
      rw[hval _ (by rw[hss];simp) (h3 hgc)]
      simp[undef]
def clean:List S->List S
 | []=> []
 | .v x::l=> .v x::clean l
 |_::l=> .und::clean l
theorem kW:∀(l:List S) (t:Nat),cg (clean l) t=match cg l t with| .v x=> .v x|_=> .und
 | [],t=>by simp[clean,cg]
 |s::l,0=>by cases s<;>simp[clean,cg]
 |s::l,t+1=>by cases s<;>simp[clean,cg,kW l t]
theorem kc:∀(l:List S),(clean l).length=l.length
 | []=>rfl
 |s::l=>by cases s<;>simp[clean,kc l]
theorem jq.clean {J:Env} {K:Nat->Prop} {sl:List S} {a:Act} (h:jq J K sl a):jq J K (clean sl) a:=by
 refine⟨by rw[kc];exact h.1,fun t=>?_⟩
 rw[kW];have:=h.2 t;split
 ·rename_i x hx;rw[hx]at this;exact this
 ·trivial
section runs
variable {P:Program}
def mr (P:Program) (t:Nat):Option Bool:=
 match P.underlying t with
 |some (.struct _)=>some true
 |some (.array _ _)=>some true
 |some _=>some false
 |none=>none
def pg (P:Program) (t:Nat):Option Nat:=(P.info? t).map (·.size)
theorem bF {t:Nat} {d:TypeDesc} (w:World) (h:P.underlying t=some d):(underlying t).run P w= .ok d w:=by
 simp[underlying,h]
theorem sJ {t:Nat} {b:Bool} (w:World) (h:mr P t=some b):(Go.isAgg t).run P w= .ok b w:=by
 unfold mr at h;unfold Go.isAgg;split at h<;>simp only[aaT,reduceCtorEq]at h<;>subst h
 ·rename_i hu;simp[bF w hu]
 ·rename_i hu;simp[bF w hu]
 ·simp_all[bF]
theorem gC {t n:Nat} (w:World) (h:pg P t=some n):(sizeOf t).run P w= .ok n w:=by
 unfold pg at h;cases hi:P.info? t with
 |none=>simp[hi]at h
 |some i=>
  simp only[hi,Option.map_some,aaT]at h;simp[sizeOf,typeInfo,hi,h]
theorem add_lit (b o n:Nat):Addr.add ⟨b,o,none⟩ n=⟨b,o+n,none⟩:=by unfold Addr.add;split<;>simp_all
theorem lN {J:Env} {K:Nat->Prop} {t b off:Nat} {r:V} (w:World) (hr:ok K r) (ht:cS r=false) (ha:mr P t=some (jO r)) (hs:pg P t=some (fi r))
  (hc:∀k,k<fi r->w.cell? ⟨b,off+k,none⟩=(cells J r)[k]?):(loadVar t ⟨b,off,none⟩).run P w= .ok (den J r) w:=by
 have hl:=bg J r hr;unfold loadVar;rw[Sem.run_bind,sJ w ha,qg J hr ht];cases hag:Sx.jO r with
 |true=>
  have:=run_loadCells_list (P:=P) w ⟨b,off,none⟩ (cells J r) (fun j v hv=>by
   have hj:j<fi r:=by
    rw[<-hl];exact(List.getElem?_eq_some_iff.1 hv).1
   rw[add_lit,hc j hj,hv])
  rw[hl]at this;simp[gC w hs,this,jN]
 |false=>
  have h1:fi r=1:=by
   grind[ou,cells,dU]
  have h0:=hc 0 (by omega)
  simp only[Nat.add_zero]at h0
  have:(cells J r)[0]? =some ((cells J r).getD 0 undef):=by
   simp_all
  simp only[Result.andThen_ok,Bool.false_eq_true,if_false,run_load];rw[h0,this];rfl
theorem ka {α:Type} (p m q:List α) (k:Nat) (hk:k<m.length):(p++m++q)[p.length+k]? =m[k]? :=by
 grind
theorem oQ {J:Env} {K:Nat->Prop} {t b off ty:Nat} {c r:V} (w:World) (hr:ok K r) (ht:cS r=false) (ha:mr P t=some (jO r)) (hs:pg P t=some (fi r))
  (hb:w.heap[b]? =some (.cells (cells J c).toArray ty (0,0))) (hp:∃p q,cells J c=p++cells J r++q/\off=p.length):(loadVar t ⟨b,off,none⟩).run P w= .ok (den J r) w:=by
 obtain⟨p,q,e1,rfl⟩:=hp;refine lN w hr ht ha hs fun k hk=>?_
 have hl:=bg J r hr;rw[cell_of_row w b _ _ _ _ hb];simp only[List.getElem?_toArray,e1];exact ka p _ q k (by omega)
end runs
mutual
theorem jv (J:Env) {K:Nat->Prop}:∀v,ok K v->cS v=false->∀x∈cells J v,x.oneCell'=true
 | .ag l,hv,_,x,hx=>rl J l hv.1 hv.2 x (by rwa [fL]at hx)
 | .key k,_,_,x,hx=>by
   rw[su]at hx;simp only[eO,List.mem_cons,List.not_mem_nil,or_false,i64]at hx;rcases hx with rfl|rfl|rfl|rfl|rfl|rfl<;>rfl
 | .sl s,_,_,x,hx=>by
   rw[nD]at hx;simp only[g8,List.mem_flatMap,eO,List.mem_cons,List.not_mem_nil,or_false,i64]at hx;obtain⟨i,_,hx⟩:=hx;rcases hx with rfl|rfl|rfl|rfl|rfl|rfl<;>rfl
 | .by b,_,_,x,hx=>by
   rw[kr]at hx;simp only[du,List.mem_map]at hx;obtain⟨i,_,rfl⟩:=hx;rfl
 | .ob o,_,_,x,hx=>by
   rw[jR]at hx;simp only[fc,List.mem_cons,List.mem_append,g8,List.mem_flatMap,du,List.mem_map,eO,i64,List.not_mem_nil,or_false]at hx;rcases hx with rfl|rfl|rfl|⟨i,_,hx⟩|⟨i,_,rfl⟩
   ·rfl
   ·rfl
   ·rfl
   ·rcases hx with rfl|rfl|rfl|rfl|rfl|rfl<;>rfl
   ·rfl
 | .tp l,_,h,_,_=>by simp[cS]at h
 | .mp id,_,_,x,hx=>by
   simp only[cells,den,Value.cells,List.mem_singleton]at hx;subst hx;rfl
 | .fn f l,hv,_,x,hx=>by
   simp_all[cells,den,dU,oI]
 | .ch b f l y,hv,_,x,hx=>by
   have h1:(den J (.ch b f l y)).oneCell'=true:=ou J (.ch b f l y) hv rfl rfl;simp only[cells,dU h1,List.mem_singleton]at hx;subst hx;exact h1
 | .bs y lo hi,hv,_,x,hx=>by
   simp_all[cells,den,dU,wY]
 | .ks y e n lo hi,hv,_,x,hx=>by
   simp_all[cells,den,dU,wA]
 | .nl v,hv,_,x,hx=>by
   simp only[cells,den,dU hv,List.mem_singleton]at hx;subst hx;exact hv
 | .cb _,_,_,x,hx| .bo _,_,_,x,hx| .ci _ _,_,_,x,hx| .it _ _,_,_,x,hx| .bt _,_,_,x,hx| .st _,_,_,x,hx| .lp _ _,_,_,x,hx| .lx _ _ _ _ _ _,_,_,x,hx
 | .sc _ _ _,_,_,x,hx| .so _ _,_,_,x,hx| .ap _ _ _ _,_,_,x,hx| .sa _,_,_,x,hx| .op _ _,_,_,x,hx| .yl _,_,_,x,hx| .ic _ _,_,_,x,hx| .ax _ _ _ _ _ _ _ _,_,_,x,hx=>by
   simp only[cells,den,Value.cells,List.mem_singleton]at hx;subst hx;rfl
theorem rl (J:Env) {K:Nat->Prop}:∀l,fQ K l->tv l->∀x∈bn J l,x.oneCell'=true
 | [],_,_,x,hx=>by simp[bn]at hx
 |y::l,hv,hc,x,hx=>by
  simp only[bn,List.mem_append]at hx;rcases hx with hx|hx
  ·exact jv J y hv.1 ((eH _).1 hc y (by simp)) x hx
  ·exact rl J l hv.2 ((eH _).2 fun z hz=>(eH _).1 hc z (by simp[hz])) x hx
end
section stores
variable {P:Program}
theorem setRow_other (w:World) (g:Nat) (cs:Array Value) (b:Nat) (h:b≠g):(w.setRow g cs).heap[b]? =w.heap[b]? :=by
 simp only[World.setRow,Array.getElem?_modify];rw[aa1 (Ne.symm h)]
theorem zQ {J:Env} {K:Nat->Prop} {t b off ty:Nat} {c c' y:V} (w:World) (hy:ok K y) (ht:cS y=false) (hs:pg P t=some (fi y))
  (hb:w.heap[b]? =some (.cells (cells J c).toArray ty (0,0))) (hp:H3 K J c c' off y):
  (storeVar t ⟨b,off,none⟩ (den J y)).run P w= .ok () (w.setRow b (cells J c').toArray):=by
 obtain⟨⟨p,m,q,e1,e2,rfl,e4⟩,_⟩:=hp;have hl:=bg J y hy;have hz:(den J y).cells.size=fi y:=by rw[<-hl];simp[cells]
 have hst:=run_storeCells_at (P:=P) b p.length ty (cells J y) 0 (cells J c).toArray w hb (by simp[e1];omega) (jv J y hy ht)
 simp only[Nat.add_zero]at hst;simp only[storeVar,Sem.run_bind,gC w hs,Result.andThen_ok,hz,ne_eq,not_true_eq_false,if_false];rw[show(den J y).cells.toList=cells J y from rfl,hst];congr 3
 rw[e2];simp only[e1]
 rw[show List.take p.length (p++m++q)=p by simp,show List.drop (p.length+(cells J y).length) (p++m++q)=q by
  rw[hl,<-e4,<-List.length_append,List.drop_left]]
end stores
end Go.Sx
