import Derived.WalkKit
import Derived.Laws.OwnMore
set_option linter.unusedSimpArgs false
set_option linter.unusedVariables false
namespace Go.Sx
theorem aa {α : Type _} (a b : α) : (some a = some b) = (a = b):=Option.some.injEq a b
theorem ae {α β : Type _} (a : α) (b : β) (c : α) (d : β) : ((a, b) = (c, d)) = (a = c ∧ b = d):=Prod.mk.injEq a b c d
theorem ah (a b : Bool) : ((a && b) = true) = (a = true ∧ b = true):=Bool.and_eq_true a b
theorem ai {p : Prop} [Decidable p] : (decide p = true) = p:=decide_eq_true_eq
theorem aj {α : Type _} [BEq α] [LawfulBEq α] {a b : α} : (a == b) = true ↔ a = b:=beq_iff_eq
theorem ak {p : Prop} [Decidable p] : decide p = false → ¬p:=of_decide_eq_false
theorem an {p : Prop} [Decidable p] : decide p = true → p:=of_decide_eq_true
theorem aq {α : Type _} {l : List α} {i : Nat} {a : α} : l.getD i a = l[i]?.getD a:=List.getD_eq_getElem?_getD
theorem ar {c : Prop} {h : Decidable c} (hc : ¬c) {α : Sort _} {t e : α} : ite c t e = e:=if_neg hc
theorem au {c : Prop} {h : Decidable c} (hc : c) {α : Sort _} {t e : α} : ite c t e = t:=if_pos hc
end Go.Sx
namespace Go.Sx
structure Key where
 kind:Int
 oid:Int
 count:Int
 call:Int
 rights:Int
 value:Int
 deriving DecidableEq,Inhabited
abbrev cM:=Vector Key 16
abbrev Bytes:=Vector UInt8 64
def void:Key:=⟨0,0,0,0,0,0⟩
def cM.at(s:cM)(i:Nat):Key:=s.toArray.getD i void
def cM.put(s:cM)(i:Nat)(k:Key):cM:=s.setIfInBounds i k
def Bytes.at(s:Bytes)(i:Nat):UInt8:=s.toArray.getD i 0
def Bytes.put(s:Bytes)(i:Nat)(k:UInt8):Bytes:=s.setIfInBounds i k
structure Obj where
 kind:Int
 count:Int
 calls:Int
 slots:cM
 bytes:Bytes
 deriving DecidableEq
def iH:cM:=Vector.replicate 16 void
def jD:Bytes:=Vector.replicate 64 0
def free:Obj:=⟨0,0,0,iH,jD⟩
instance:Inhabited Obj:=⟨free⟩
def i64(n:Int):Value:= .int .i64 n
def bK(k:Key):List Value:= [i64 k.kind,i64 k.oid,i64 k.count,i64 k.call,i64 k.rights,i64 k.value]
def dp(s:cM):List Value:=(List.range 16).flatMap fun i=>bK (s.at i)
def bF(s:Bytes):List Value:=(List.range 64).map fun i=> .int .u8 ((s.at i).toNat:Int)
def b9(o:Obj):List Value:=i64 o.kind::i64 o.count::i64 o.calls::(dp o.slots++bF o.bytes)
inductive V where
 |cb (b:Bool)|bo (b:Bool)
 |ci (k:IntKind) (n:Int)|it (k:IntKind) (n:Int)|bt (b:UInt8)
 |st (s:ByteArray)
 |nl (v:Value)
 |lp (id off:Nat)
 |lx (id off esz n i inner:Nat)
 |sc (id len cap:Nat)
 |so (id len:Nat)
 |ap (id esz i off:Nat)
 |sa (id:Nat)
 |op (id i:Nat)
 |yl (id:Nat)
 |fn (f:Nat) (l:List V)
 |ic (t:Nat) (x:V)
 |ag (l:List V)|tp (l:List V)
 |key (k:Key)|sl (s:cM)|by(b:Bytes)|ob (o:Obj)
 |mp (id:Nat)
 |ch (b:Bool) (f:Nat) (l:List V) (y:V)
 |ax (id esz k off sz n i inner:Nat)
 |bs (x:V) (lo hi:Nat)
 |ks (x:V) (e n lo hi:Nat)
 |vw (id esz lo hi:Nat)
structure Env where
 num:Nat->Nat
 cap:Nat->Nat
 adr:Nat->Addr
 sa:Nat->Option Addr
 sn:Nat->Nat
 ob:Nat->Nat->Nat
def bU:IntKind->Int->Prop
 | .i8,n=> -128<=n/\n<=127
 | .i16,n=> -32768<=n/\n<=32767
 | .i32,n=> -2147483648<=n/\n<=2147483647
 | .i64,n=> -9223372036854775808<=n/\n<=9223372036854775807
 | .u8,n=>0<=n/\n<=255
 | .u16,n=>0<=n/\n<=65535
 | .u32,n=>0<=n/\n<=4294967295
 | .u64,n=>0<=n/\n<=18446744073709551615
instance(k:IntKind)(n:Int):Decidable (bU k n):=by cases k<;>unfold bU<;>infer_instance
def Key.wf(k:Key):Prop:=bU .i64 k.kind/\bU .i64 k.oid/\bU .i64 k.count/\bU .i64 k.call/\bU .i64 k.rights/\bU .i64 k.value
def cM.wf(s:cM):Prop:=∀i,i<16->(s.at i).wf
def Obj.wf(o:Obj):Prop:=bU .i64 o.kind/\bU .i64 o.count/\bU .i64 o.calls/\o.slots.wf
def pS(v:Value)(lo hi:Nat):Value:=
 match v with
 | .pointer (some a)=> .slice (some (if lo=64 then a else a.add lo)) (hi-lo) (64-lo)
 |_=> .slice none 0 0
def pC(v:Value)(e n lo hi:Nat):Value:=
 match v with
 | .pointer (some a)=> .slice (some (if lo=n then a else a.add (lo*e))) (hi-lo) (n-lo)
 |_=> .slice none 0 0
def wb(a:Option Addr)(cap esz lo hi:Nat):Value:= .slice (if cap=lo then a else a.map (·.add (lo*esz))) (hi-lo) (cap-lo)
theorem pn(v:Value)(e n lo hi:Nat):(pC v e n lo hi).oneCell'=true:=by
 unfold pC;split<;>rfl
theorem o8(v:Value)(lo hi:Nat):(pS v lo hi).oneCell'=true:=by
 unfold pS;split<;>rfl
def xy(f:Nat)(l:List Value):Value:=if Nat.blt f 2000 then .func (.func f) #[] l.toArray else .func (.func (f-2000)) l.toArray #[]
theorem iM(f:Nat)(l:List Value):(xy f l).oneCell'=true:=by unfold xy;split<;>rfl
theorem DV(f:Nat)(l:List Value):∃g b c,xy f l= .func (.func g) b c:=by unfold xy;split<;>exact⟨_,_,_,rfl⟩
def xx(f:Nat):Nat:=if Nat.blt f 2000 then f else f-2000
def Fo{α:Type}(f:Nat)(vs caps:List α):List α:=if Nat.blt f 2000 then vs++caps else caps++vs
theorem r9{f:Nat}{l:List Value}(h:Nat.blt f 2000=true):xy f l= .func (.func f) #[] l.toArray:=by unfold xy;rw[au h]
mutual
def den(J:Env):V->Value
 | .cb b=> .bool b
 | .bo b=> .bool b
 | .ci k n=> .int k n
 | .it k n=> .int k n
 | .bt b=> .int .u8 (b.toNat:Int)
 | .st s=> .string s
 | .nl v=>v
 | .lp id off=> .pointer (some ⟨J.num id,off,none⟩)
 | .lx id off esz _ i inner=> .pointer (some ⟨J.num id,off+i*esz+inner,none⟩)
 | .sc id len cap=> .slice (some ⟨J.num id,0,none⟩) len cap
 | .so id len=> .slice (some ⟨J.num id,0,none⟩) len (J.cap id)
 | .ap id esz i off=> .pointer (some ⟨(J.adr id).block,(J.adr id).off+(i*esz+off),none⟩)
 | .ax id esz k off sz _ i inner=> .pointer (some ⟨(J.adr id).block,(J.adr id).off+(k*esz+(off+i*sz+inner)),none⟩)
 | .sa id=> .slice (J.sa id) (J.sn id) (J.cap id)
 | .op id i=> .pointer (some ⟨J.ob id i,0,none⟩)
 | .yl id=> .func (.yield (J.num id)) #[] #[]
 | .fn f l=>xy f (aV J l)
 | .ic t x=> .iface t (den J x)
 | .ag l=> .agg (aR J l).toArray
 | .tp l=> .tuple (aV J l).toArray
 | .key k=> .agg (bK k).toArray
 | .sl s=> .agg (dp s).toArray
 | .by b=> .agg (bF b).toArray
 | .ob o=> .agg (b9 o).toArray
 | .mp id=> .map (some (J.num id))
 | .bs x lo hi=>pS (den J x) lo hi
 | .ks x e n lo hi=>pC (den J x) e n lo hi
 | .vw id esz lo hi=>wb (J.sa id) (J.cap id) esz lo hi
 | .ch b f l y=>match b with
   |true=>xy f (aV J l)
   |false=>den J y
def aV(J:Env):List V->List Value
 | []=> []
 |x::l=>den J x::aV J l
def aR(J:Env):List V->List Value
 | []=> []
 |x::l=>(den J x).cells.toList++aR J l
end
def cells(J:Env)(v:V):List Value:=(den J v).cells.toList
def eC:V->Bool
 | .ag _| .key _| .sl _| .by _| .ob _=>true
 |_=>false
mutual
def bP:V->Nat
 | .ag l=>ko l
 | .key _=>6
 | .sl _=>96
 | .by _=>64
 | .ob _=>163
 |_=>1
def ko:List V->Nat
 | []=>0
 |x::l=>bP x+ko l
end
mutual
def ok(N:Nat->Prop):V->Prop
 | .nl v=>v.oneCell'=true
 | .ci k n=>bU k n
 | .it k n=>bU k n
 | .key k=>k.wf
 | .sl s=>s.wf
 | .ob o=>o.wf
 | .lp id _=>N id
 | .lx id _ _ n i _=>N id/\i<n
 | .sc id _ _=>N id
 | .so id _=>N id
 | .ap id _ _ _=>N id
 | .ax id _ _ _ _ n i _=>N id/\i<n
 | .sa id=>N id
 | .op id _=>N id
 | .yl id=>N id
 | .fn _ l=>cm N l
 | .ic _ x=>ok N x
 | .ag l=>cm N l/\oE l
 | .tp l=>cm N l
 | .mp id=>N id
 | .bs x lo hi=>ok N x/\lo<=hi/\hi<=64
 | .ks x _ n lo hi=>ok N x/\lo<=hi/\hi<=n
 | .vw id _ _ _=>N id
 | .ch _ _ l y=>cm N l/\ok N y/\∀J:Env,(den J y).oneCell'=true
 |_=>True
def cm(N:Nat->Prop):List V->Prop
 | []=>True
 |x::l=>ok N x/\cm N l
def oE:List V->Prop
 | []=>True
 |x::l=>(match x with| .tp _=>False|_=>True)/\oE l
end
variable {N:Nat->Prop}
section lists
variable (J:Env)
theorem dY(l:List V):aV J l=l.map (den J):=by
 induction l with
 |nil=>simp[aV]
 |cons x l ih=>simp[aV,ih]
theorem td(l:List V):aR J l=l.flatMap (cells J):=by
 induction l with
 |nil=>simp[aR]
 |cons x l ih=>simp[aR,ih,cells]
theorem dZ(l:List V):cm N l↔ ∀x∈l,ok N x:=by
 induction l with
 |nil=>simp[cm]
 |cons x l ih=>simp[cm,ih]
end lists
def bp:V->Bool
 | .tp _=>true
 |_=>false
theorem bX(l:List V):oE l↔ ∀x∈l,bp x=false:=by
 induction l with
 |nil=>simp[oE]
 |cons x l ih=>
  simp only[oE,ih,List.mem_cons,forall_eq_or_imp];refine and_congr_left fun _=>?_
  cases x<;>simp[bp]
theorem gq(k:Key):(bK k).length=6:=rfl
theorem dO(s:cM):(dp s).length=96:=by
 simp[dp,gq,List.range,List.range.loop]
theorem cg(s:Bytes):(bF s).length=64:=by simp[bF]
theorem kN(s:Obj):(b9 s).length=163:=by simp[b9,dO,cg]
theorem bM{v:Value}(h:v.oneCell'=true):v.cells= #[v]:=by
 cases v<;>simp_all[Value.oneCell',Value.cells]
theorem iT(J:Env):∀v,ok N v->eC v=false->bp v=false->(den J v).oneCell'=true:=by
 intro v h h1 h2;cases v<;>try(simp_all[eC,bp,den,Value.oneCell',ok];done)
 ·exact iM _ _
 ·rename_i b f l y;cases b
  ·exact h.2.2 J
  ·exact iM _ _
 ·exact o8 _ _ _
 ·exact pn _ _ _ _ _
 ·rfl
mutual
theorem aO(J:Env):∀v,ok N v->(cells J v).length=bP v
 | .ag l,h=>by
   simp only[ok]at h;simpa[cells,den,Value.cells,bP]using mB J l h.1
 | .tp l,_=>by simp[cells,den,Value.cells,bP]
 | .key k,_=>by simp[cells,den,Value.cells,bP,gq]
 | .sl k,_=>by simp[cells,den,Value.cells,bP,dO]
 | .by k,_=>by simp[cells,den,Value.cells,bP,cg]
 | .ob k,_=>by simp[cells,den,Value.cells,bP,kN]
 | .nl v,h=>by simp only[ok]at h;simp[cells,den,bM h,bP]
 | .cb _,_| .bo _,_| .ci _ _,_| .it _ _,_| .bt _,_| .st _,_| .lp _ _,_| .lx _ _ _ _ _ _,_| .sc _ _ _,_| .so _ _,_
 | .ap _ _ _ _,_| .sa _,_| .op _ _,_| .yl _,_| .ic _ _,_| .mp _,_| .ax _ _ _ _ _ _ _ _,_=>by simp[cells,den,Value.cells,bP]
 | .fn _ _,_=>by simp[cells,den,bM (iM _ _),bP]
 | .bs x lo hi,h=>by simp[cells,den,bM (o8 _ _ _),bP]
 | .ks x e n lo hi,h=>by simp[cells,den,bM (pn _ _ _ _ _),bP]
 | .vw _ _ _ _,h=>by simp[cells,den,wb,Value.cells,bP]
 | .ch b f l y,h=>by
   have:(den J (.ch b f l y)).oneCell'=true:=by
    cases b
    ·exact h.2.2 J
    ·exact iM _ _
   simp[cells,bM this,bP]
theorem mB(J:Env):∀l,cm N l->(aR J l).length=ko l
 | [],_=>by simp[aR,ko]
 |x::l,h=>by
  simp only[cm]at h;have h1:=aO J x h.1;have h2:=mB J l h.2;simp only[cells]at h1;simp only[aR,List.length_append,ko];omega
end
def parts:V->Option (List V)
 | .ag l=>some l
 | .key k=>some [.it .i64 k.kind,.it .i64 k.oid,.it .i64 k.count,.it .i64 k.call,.it .i64 k.rights,.it .i64 k.value]
 | .sl s=>some ((List.range 16).map fun i=> .key (s.at i))
 | .by b=>some ((List.range 64).map fun i=> .bt (b.at i))
 | .ob o=>some [.it .i64 o.kind,.it .i64 o.count,.it .i64 o.calls,.sl o.slots,.by o.bytes]
 |_=>none
theorem A0(J:Env){v:V}{l:List V}(h:parts v=some l):den J v= .agg (aR J l).toArray:=by
 cases v<;>simp[parts]at h<;>subst h
 ·simp[den]
 ·simp[den,aR,Value.cells,bK,i64]
 ·rfl
 ·simp only[den,td,cells,List.flatMap_map,Value.cells,bF,<-List.map_eq_flatMap]
 ·simp[den,aR,Value.cells,b9,i64]
theorem D2{v:V}{l:List V}(h:parts v=some l)(hv:ok N v):cm N l/\oE l:=by
 cases v<;>simp[parts]at h<;>subst h
 ·exact hv
 ·obtain⟨h1,h2,h3,h4,h5,h6⟩:=hv;simp[cm,oE,ok,h1,h2,h3,h4,h5,h6]
 ·simp only[dZ,bX,List.mem_map,List.mem_range];exact⟨by rintro x ⟨i,hi,rfl⟩;exact hv i hi,by rintro x ⟨i,hi,rfl⟩;rfl⟩
 ·simp[dZ,bX,ok,bp]
 ·obtain⟨h1,h2,h3,h4⟩:=hv;simp[cm,oE,ok,h1,h2,h3,h4]
def find:List V->Nat->Option (V×Nat)
 | [],_=>none
 |x::l,off=>if off<bP x then some (x,off)else find l (off-bP x)
def cS:Nat->V->Nat->Nat->Bool->Option V
 |0,_,_,_,_=>none
 |f+1,v,off,n,a=>
  if off==0&&n==bP v&&a==eC v then some v
  else match parts v with
   |none=>none
   |some l=>match find l off with
    |none=>none
    |some (x,o)=>cS f x o n a
def eA(a:Bool)(cs:List Value):Value:=if a then .agg cs.toArray else cs.getD 0 undef
theorem find_spec(J:Env):∀(l:List V) (off:Nat) (x:V) (o:Nat),cm N l->oE l->find l off=some (x,o)->
  ∃p q,aR J l=p++cells J x++q/\off=p.length+o/\o<bP x/\ok N x/\bp x=false
 | [],_,_,_,_,_,h=>by simp[find]at h
 |y::l,off,x,o,hk,hc,h=>by
  simp only[cm]at hk;rw[bX]at hc;simp only[find]at h;split at h
  ·simp_all[aR,cells]
  ·rename_i hlt;obtain⟨p,q,h1,h2,h3⟩:=find_spec J l _ x o hk.2 ((bX l).2 fun z hz=>hc z (by simp[hz])) h
   have hl:=aO J y hk.1;exact⟨cells J y++p,q,by simp[aR,h1,cells],by simp;omega,h3⟩
theorem gD(J:Env){v:V}(hv:ok N v)(ht:bp v=false):den J v=eA (eC v) (cells J v):=by
 cases h:eC v with
 |true=>cases v<;>simp_all[eC,eA,cells,den,Value.cells]
 |false=>
  have:=iT J v hv h ht;simp[eA,cells,bM this]
theorem bO(J:Env):∀(f:Nat) (v:V) (off n:Nat) (a:Bool) (r:V),ok N v->bp v=false->cS f v off n a=some r->
  (∃p q,cells J v=p++cells J r++q/\off=p.length)/\bP r=n/\eC r=a/\ok N r/\bp r=false
 |0,_,_,_,_,_,_,_,h=>by simp[cS]at h
 |f+1,v,off,n,a,r,hv,ht,h=>by
  simp only[cS]at h;split at h
  ·rename_i hc;simp only[ah,aj]at hc;obtain⟨⟨h1,h2⟩,h3⟩:=hc;simp only[aa]at h;subst h;exact⟨⟨[],[],by simp,by simpa using h1⟩,h2.symm,h3.symm,hv,ht⟩
  ·cases hp:parts v with
   |none=>simp[hp]at h
   |some l=>
    simp only[hp]at h;cases hf:find l off with
    |none=>simp[hf]at h
    |some xo=>
     obtain⟨x,o⟩:=xo;simp only[hf]at h;obtain⟨hl,hlc⟩:=D2 hp hv;obtain⟨p,q,h1,h2,h3,h4,h4'⟩:=find_spec J l off x o hl hlc hf;obtain⟨⟨p',q',h5,h6⟩,h7⟩:=bO J f x o n a r h4 h4' h;refine⟨⟨p++p',q'++q,?_,by simp;omega⟩,h7⟩
     rw[cells,A0 J hp];simp[Value.cells,h1,h5]
mutual
theorem bE{M:Nat->Prop}(hM:∀i,N i->M i):∀v,ok N v->ok M v
 | .lp _ _,h| .sc _ _ _,h| .so _ _,h| .ap _ _ _ _,h| .sa _,h| .op _ _,h| .yl _,h| .mp _,h| .vw _ _ _ _,h=>hM _ h
 | .ch _ _ l y,h=>⟨br hM l h.1,bE hM y h.2.1,h.2.2⟩
 | .lx _ _ _ _ _ _,h=>⟨hM _ h.1,h.2⟩
 | .ax _ _ _ _ _ _ _ _,h=>⟨hM _ h.1,h.2⟩
 | .bs x _ _,h=>⟨bE hM x h.1,h.2⟩
 | .ks x _ _ _ _,h=>⟨bE hM x h.1,h.2⟩
 | .fn _ l,h| .tp l,h=>br hM l h
 | .ic _ x,h=>bE hM x h
 | .ag l,h=>⟨br hM l h.1,h.2⟩
 | .cb _,h| .bo _,h| .ci _ _,h| .it _ _,h| .bt _,h| .st _,h| .nl _,h| .key _,h| .sl _,h| .by _,h| .ob _,h=>h
theorem br{M:Nat->Prop}(hM:∀i,N i->M i):∀l,cm N l->cm M l
 | [],_=>trivial
 |x::l,h=>⟨bE hM x h.1,br hM l h.2⟩
end
def Env.agree(N:Nat->Prop)(J ρ':Env):Prop:=∀i,N i->ρ'.num i=J.num i/\ρ'.cap i=J.cap i/\ρ'.adr i=J.adr i/\ρ'.sa i=J.sa i/\ρ'.sn i=J.sn i/\ρ'.ob i=J.ob i
theorem Env.agree.refl(N:Nat->Prop)(J:Env):Env.agree N J J:=fun _ _=>⟨rfl,rfl,rfl,rfl,rfl,rfl⟩
theorem Env.agree.trans{J ρ' ρ'':Env}{M:Nat->Prop}(h:Env.agree N J ρ')(h':Env.agree M ρ' ρ'')(hM:∀i,N i->M i):Env.agree N J ρ'':=fun i hi=>by
 obtain⟨a,b,c,d,e,f⟩:=h i hi;obtain⟨a',b',c',d',e',f'⟩:=h' i (hM i hi);exact⟨a'.trans a,b'.trans b,c'.trans c,d'.trans d,e'.trans e,f'.trans f⟩
theorem Env.agree.mono{J ρ':Env}{M:Nat->Prop}(h:Env.agree N J ρ')(hM:∀i,M i->N i):Env.agree M J ρ':=fun i hi=>h i (hM i hi)
mutual
theorem cJ{J ρ':Env}(h:Env.agree N J ρ'):∀v,ok N v->den ρ' v=den J v
 | .lp id _,hv=>by simp only[den,(h id hv).1]
 | .yl id,hv=>by simp only[den,(h id hv).1]
 | .mp id,hv=>by simp only[den,(h id hv).1]
 | .ch b f l y,hv=>by
   cases b
   ·simp only[den];exact cJ h y hv.2.1
   ·simp only[den,cx h l hv.1]
 | .lx id _ _ _ _ _,hv=>by simp only[den,(h id hv.1).1]
 | .sc id _ _,hv=>by simp only[den,(h id hv).1]
 | .so id _,hv=>by simp only[den,(h id hv).1,(h id hv).2.1]
 | .ap id _ _ _,hv=>by simp only[den,(h id hv).2.2.1]
 | .ax id _ _ _ _ _ _ _,hv=>by simp only[den,(h id hv.1).2.2.1]
 | .bs x _ _,hv=>by simp only[den,cJ h x hv.1]
 | .ks x _ _ _ _,hv=>by simp only[den,cJ h x hv.1]
 | .vw id _ _ _,hv=>by simp only[den,(h id hv).2.1,(h id hv).2.2.2.1]
 | .sa id,hv=>by simp only[den,(h id hv).2.1,(h id hv).2.2.2.1,(h id hv).2.2.2.2.1]
 | .op id _,hv=>by simp only[den,(h id hv).2.2.2.2.2]
 | .fn _ l,hv=>by simp only[den,cx h l hv]
 | .tp l,hv=>by simp only[den,cx h l hv]
 | .ag l,hv=>by simp only[den,nI h l hv.1]
 | .ic _ x,hv=>by simp only[den,cJ h x hv]
 | .cb _,_| .bo _,_| .ci _ _,_| .it _ _,_| .bt _,_| .st _,_| .nl _,_| .key _,_| .sl _,_| .by _,_| .ob _,_=>by simp only[den]
theorem cx{J ρ':Env}(h:Env.agree N J ρ'):∀l,cm N l->aV ρ' l=aV J l
 | [],_=>rfl
 |x::l,hv=>by simp only[aV,cJ h x hv.1,cx h l hv.2]
theorem nI{J ρ':Env}(h:Env.agree N J ρ'):∀l,cm N l->aR ρ' l=aR J l
 | [],_=>rfl
 |x::l,hv=>by simp only[aR,cJ h x hv.1,nI h l hv.2]
end
theorem bw{J ρ':Env}(h:Env.agree N J ρ')(v:V)(hv:ok N v):cells ρ' v=cells J v:=by simp only[cells,cJ h v hv]
end Go.Sx
namespace Go.Sx
variable {N:Nat->Prop}
theorem cM.kU(s:cM)(i:Nat)(k:Key)(j:Nat)(h:i<16):(s.put i k).at j=if j=i then k else s.at j:=by
 unfold cM.at cM.put;simp only[Vector.toArray_setIfInBounds,Array.getD_eq_getD_getElem?];by_cases e:j=i
 ·subst e;simp[h]
 ·rw[ar e,Array.getElem?_setIfInBounds_ne (Ne.symm e)]
theorem Bytes.kU(s:Bytes)(i:Nat)(k:UInt8)(j:Nat)(h:i<64):(s.put i k).at j=if j=i then k else s.at j:=by
 unfold Bytes.at Bytes.put;simp only[Vector.toArray_setIfInBounds,Array.getD_eq_getD_getElem?];by_cases e:j=i
 ·subst e;simp[h]
 ·rw[ar e,Array.getElem?_setIfInBounds_ne (Ne.symm e)]
theorem jZ{α:Type}(f:Nat->List α)(n i:Nat)(h:i<n):
  (List.range n).flatMap f=(List.range i).flatMap f++f i++(List.range' (i+1) (n-i-1)).flatMap f:=by
 have e:List.range n=List.range i++(i::List.range' (i+1) (n-i-1)):=by
  have h1:=List.range'_append (s:=0) (m:=i) (n:=n-i-1+1) (step:=1);rw[List.range_eq_range',List.range_eq_range',<-List.range'_succ];simp only[Nat.zero_add,Nat.one_mul]at h1;rw[h1];congr 1;omega
 rw[e];simp
theorem gV{α:Type}(f g:Nat->List α)(l:List Nat)(h:∀j∈l,f j=g j):l.flatMap f=l.flatMap g:=by
 induction l with
 |nil=>rfl
 |cons x l ih=>simp[h x (by simp),ih fun j hj=>h j (by simp[hj])]
theorem pP{α:Type}(f:Nat->List α)(m:Nat)(l:List Nat)(h:∀j,(f j).length=m):(l.flatMap f).length=l.length*m:=by
 induction l with
 |nil=>simp
 |cons x l ih=>simp[h x,ih,Nat.succ_mul];omega
theorem iq(s:cM)(i:Nat)(h:i<16):
  ∃p q,dp s=p++bK (s.at i)++q/\p.length=i*6/\∀k,dp (s.put i k)=p++bK k++q:=by
 refine⟨_,_,jZ _ 16 i h,by rw[pP _ 6 _ (fun j=>gq _)];simp,fun k=>?_⟩
 unfold dp;rw[jZ _ 16 i h,cM.kU _ _ _ _ h,au rfl];congr 1
 ·grind[gV,cM.kU]
 ·grind[gV,cM.kU]
theorem cM.Cl{s:cM}{i:Nat}{k:Key}(h:s.wf)(hk:k.wf)(hi:i<16):(s.put i k).wf:=by
 intro j hj;rw[cM.kU _ _ _ _ hi];split
 ·exact hk
 ·exact h j hj
theorem h9(s:Bytes)(i:Nat)(h:i<64):
  ∃p q,bF s=p++ [.int .u8 ((s.at i).toNat:Int)]++q/\p.length=i/\∀k,bF (s.put i k)=p++ [.int .u8 (k.toNat:Int)]++q:=by
 have e:∀t:Bytes,bF t=(List.range 64).flatMap fun j=> [.int .u8 ((t.at j).toNat:Int)]:=fun t=>by
  simp[bF,<-List.map_eq_flatMap]
 refine⟨_,_,(e s).trans (jZ _ 64 i h),by rw[pP _ 1 _ (fun j=>rfl)];simp,fun k=>?_⟩
 rw[e,jZ _ 64 i h,Bytes.kU _ _ _ _ h,au rfl];congr 1
 ·grind[gV,Bytes.kU]
 ·grind[gV,Bytes.kU]
def uj:V->Option Int
 | .ci .i64 n=>some n
 | .it .i64 n=>some n
 |_=>none
theorem rP(J:Env){v:V}{n:Int}(h:uj v=some n):cells J v= [i64 n]/\bP v=1/\(ok N v->bU .i64 n):=by
 cases v<;>simp[uj]at h
 ·rename_i k m;cases k<;>simp at h;subst h;exact⟨rfl,rfl,id⟩
 ·rename_i k m;cases k<;>simp at h;subst h;exact⟨rfl,rfl,id⟩
def toByte:V->Option UInt8
 | .bt b=>some b
 | .ci .u8 n=>if decide (0<=n)&&decide (n<256)then some (UInt8.ofNat n.toNat)else none
 |_=>none
theorem k9(J:Env){v:V}{n:UInt8}(h:toByte v=some n):cells J v= [.int .u8 (n.toNat:Int)]/\bP v=1:=by
 cases v<;>simp[toByte]at h
 ·rename_i k m;cases k<;>simp at h
  obtain⟨⟨h1,h2⟩,rfl⟩:=h;refine⟨?_,rfl⟩;simp only[cells,den,Value.cells];simp;omega
 ·subst h;exact⟨rfl,rfl⟩
def rJ(g:V->Nat->V->Option V):List V->Nat->V->Option (List V)
 | [],_,_=>none
 |x::l,off,y=>if off<bP x then(g x off y).map (· ::l)else(rJ g l (off-bP x) y).map (x:: ·)
def xL(k:Key)(off:Nat)(y:V):Option V:=
 match uj y with
 |none=>none
 |some n=>match off with
  |0=>some (.key {k with kind:=n})
  |1=>some (.key {k with oid:=n})
  |2=>some (.key {k with count:=n})
  |3=>some (.key {k with call:=n})
  |4=>some (.key {k with rights:=n})
  |5=>some (.key {k with value:=n})
  |_=>none
def iF(o:Obj)(off:Nat)(y:V):Option V:=
 match uj y with
 |none=>none
 |some n=>match off with
  |0=>some (.ob {o with kind:=n})
  |1=>some (.ob {o with count:=n})
  |2=>some (.ob {o with calls:=n})
  |_=>none
def setAt:Nat->V->Nat->V->Option V
 |0,_,_,_=>none
 |f+1,v,off,y=>
  if off==0&&bP y==bP v&&eC y==eC v then some y
  else match v with
   | .ag l=>(rJ (setAt f) l off y).map .ag
   | .key k=>xL k off y
   | .sl s=>if off<96 then match setAt f (.key (s.at (off / 6))) (off%6) y with
     |some (.key k)=>some (.sl (s.put (off / 6) k))
     |_=>none
     else none
   | .by b=>if off<64 then(toByte y).map fun x=> .by (b.put off x)else none
   | .ob o=>if off<3 then iF o off y
     else if off<99 then match setAt f (.sl o.slots) (off-3) y with
      |some (.sl s)=>some (.ob {o with slots:=s})
      |_=>none
     else match setAt f (.by o.bytes) (off-99) y with
      |some (.by s)=>some (.ob {o with bytes:=s})
      |_=>none
   |_=>none
def zX(N:Nat->Prop)(J:Env)(v v':V)(off:Nat)(y:V):Prop:=
 (∃p m q,cells J v=p++m++q/\cells J v'=p++cells J y++q/\p.length=off/\m.length=bP y)/\eC v'=eC v/\ok N v'/\bp v'=false
theorem vK(J:Env){k:Key}{off:Nat}{y v':V}(hk0:k.wf)(hy0:ok N y)(h:xL k off y=some v'):zX N J (.key k) v' off y:=by
 obtain⟨w1,w2,w3,w4,w5,w6⟩:=hk0;unfold xL at h;cases hy:uj y with
 |none=>simp[hy]at h
 |some n=>
  simp only[hy]at h;obtain⟨h1,h2,hn⟩:=rP (N:=N) J hy;have hn:=hn hy0;have hk:cells J (.key k)=bK k:=by simp[cells,den,Value.cells]
  split at h<;>simp only[aa,reduceCtorEq]at h<;>subst h<;>
   refine⟨?_,rfl,⟨by assumption,by assumption,by assumption,by assumption,by assumption,by assumption⟩,rfl⟩<;>rw[h1,h2,hk]<;>simp only[cells,den,Value.cells,bK]
  ·exact⟨[],[i64 k.kind],_,rfl,rfl,rfl,rfl⟩
  ·exact⟨[i64 k.kind],[i64 k.oid],_,rfl,rfl,rfl,rfl⟩
  ·exact⟨[i64 k.kind,i64 k.oid],[i64 k.count],_,rfl,rfl,rfl,rfl⟩
  ·exact⟨[i64 k.kind,i64 k.oid,i64 k.count],[i64 k.call],_,rfl,rfl,rfl,rfl⟩
  ·exact⟨[i64 k.kind,i64 k.oid,i64 k.count,i64 k.call],[i64 k.rights],_,rfl,rfl,rfl,rfl⟩
  ·exact⟨[i64 k.kind,i64 k.oid,i64 k.count,i64 k.call,i64 k.rights],[i64 k.value],[],rfl,rfl,rfl,rfl⟩
theorem eY(J:Env)(o:Obj):cells J (.ob o)=b9 o:=by simp[cells,den,Value.cells]
theorem iy(J:Env)(o:cM):cells J (.sl o)=dp o:=by simp[cells,den,Value.cells]
theorem e9(J:Env)(o:Bytes):cells J (.by o)=bF o:=by simp[cells,den,Value.cells]
theorem mf(J:Env)(o:Key):cells J (.key o)=bK o:=by simp[cells,den,Value.cells]
theorem bI(J:Env)(l:List V):cells J (.ag l)=aR J l:=by simp[cells,den,Value.cells]
theorem yi(J:Env){o:Obj}{off:Nat}{y v':V}(hk0:o.wf)(hy0:ok N y)(h:iF o off y=some v'):zX N J (.ob o) v' off y:=by
 obtain⟨w1,w2,w3,w4⟩:=hk0;unfold iF at h;cases hy:uj y with
 |none=>simp[hy]at h
 |some n=>
  simp only[hy]at h;obtain⟨h1,h2,hn⟩:=rP (N:=N) J hy;have hn:=hn hy0
  split at h<;>simp only[aa,reduceCtorEq]at h<;>subst h<;>
   refine⟨?_,rfl,⟨by assumption,by assumption,by assumption,by assumption⟩,rfl⟩<;>rw[h1,h2,eY,eY]<;>simp only[b9]
  ·exact⟨[],[i64 o.kind],_,rfl,rfl,rfl,rfl⟩
  ·exact⟨[i64 o.kind],[i64 o.count],_,rfl,rfl,rfl,rfl⟩
  ·exact⟨[i64 o.kind,i64 o.count],[i64 o.calls],_,rfl,rfl,rfl,rfl⟩
theorem zX.whole(J:Env){v y:V}(hv:ok N v)(hy:ok N y)(hs:bP y=bP v)(ha:eC y=eC v)(ht:bp y=false):zX N J v y 0 y:=
 ⟨⟨[],cells J v,[],by simp,by simp,rfl,by rw[aO J v hv,hs]⟩,ha,hy,ht⟩
theorem se(J:Env)(g:V->Nat->V->Option V)(y:V)
  (hg:∀x off x',ok N x->bp x=false->g x off y=some x'->zX N J x x' off y):
  ∀(l:List V) (off:Nat) (l':List V),cm N l->oE l->rJ g l off y=some l'->zX N J (.ag l) (.ag l') off y
 | [],_,_,_,_,h=>by simp[rJ]at h
 |x::l,off,l',hk,hc,h=>by
  have hc':=(bX _).1 hc;simp only[cm]at hk;simp only[rJ]at h;split at h
  ·cases hx:g x off y with
   |none=>simp[hx]at h
   |some x'=>
    simp only[hx,Option.map_some,aa]at h;subst h;obtain⟨⟨p,m,q,h1,h2,h3,h4⟩,_,h6,h7⟩:=hg x off x' hk.1 (hc' x (by simp)) hx
    refine⟨⟨p,m,q++aR J l,?_,?_,h3,h4⟩,rfl,⟨⟨h6,hk.2⟩,(bX _).2 ?_⟩,rfl⟩
    ·grind[bI,aR,den,cells]
    ·grind[bI,aR,den,cells]
    ·simp_all
  ·cases hx:rJ g l (off-bP x) y with
   |none=>simp[hx]at h
   |some l2=>
    simp only[hx,Option.map_some,aa]at h;subst h;obtain⟨⟨p,m,q,h1,h2,h3,h4⟩,_,h6,_⟩:=se J g y hg l _ l2 hk.2 ((bX _).2 fun z hz=>hc' z (by simp[hz])) hx
    have hl:=aO J x hk.1;rw[bI]at h1 h2;refine⟨⟨cells J x++p,m,q,?_,?_,by simp;omega,h4⟩,rfl,⟨⟨hk.1,h6.1⟩,(bX _).2 ?_⟩,rfl⟩
    ·rw[bI];simp only[aR,h1];simp[cells]
    ·rw[bI];simp only[aR,h2];simp[cells]
    ·intro z hz;rcases List.mem_cons.1 hz with rfl|hz
     ·exact hc' _ (by simp)
     ·exact(bX _).1 h6.2 z hz
theorem dF(J:Env)(y:V)(hy:ok N y)(hty:bp y=false):∀(f:Nat) (v:V) (off:Nat) (v':V),ok N v->bp v=false->setAt f v off y=some v'->zX N J v v' off y
 |0,_,_,_,_,_,h=>by simp[setAt]at h
 |f+1,v,off,v',hv,ht,h=>by
  simp only[setAt]at h;split at h
  ·simp_all[zX.whole]
  ·split at h
   ·rename_i l _;cases hs:rJ (setAt f) l off y with
    |none=>simp[hs]at h
    |some l'=>
     simp only[hs,Option.map_some,aa]at h;subst h;exact se J _ y (fun x o x' hx hxt hg=>dF J y hy hty f x o x' hx hxt hg) l off l' hv.1 hv.2 hs
   ·exact vK J hv hy h
   ·rename_i s _;split at h
    ·rename_i hlt;split at h<;>simp only[aa,reduceCtorEq]at h
     rename_i k hk;subst h;obtain⟨⟨p,m,q,h1,h2,h3,h4⟩,_,hkw,_⟩:=dF J y hy hty f (.key _) _ _ (hv (off / 6) (by omega)) rfl hk
     obtain⟨P,Q,e1,e2,e3⟩:=iq s (off / 6) (by omega)
     rw[mf]at h1 h2;refine⟨⟨P++p,m,q++Q,?_,?_,by simp;omega,h4⟩,rfl,cM.Cl hv hkw (by omega),rfl⟩
     ·rw[iy,e1,h1];simp
     ·rw[iy,e3,h2];simp
    ·simp at h
   ·rename_i b _;split at h
    ·rename_i hlt;cases hb:toByte y with
     |none=>simp[hb]at h
     |some x=>
      simp only[hb,Option.map_some,aa]at h;subst h;obtain⟨h1,h2⟩:=k9 J hb;obtain⟨P,Q,e1,e2,e3⟩:=h9 b off hlt;refine⟨⟨P,[.int .u8 ((b.at off).toNat:Int)],Q,?_,?_,e2,?_⟩,rfl,trivial,rfl⟩
      ·rw[e9,e1]
      ·rw[e9,e3,h1]
      ·rw[h2];rfl
    ·simp at h
   ·rename_i o _;split at h
    ·exact yi J hv hy h
    ·split at h
     ·split at h<;>simp only[aa,reduceCtorEq]at h
      rename_i s hs;subst h;obtain⟨w1,w2,w3,w4⟩:=hv;obtain⟨⟨p,m,q,h1,h2,h3,h4⟩,_,hsw,_⟩:=dF J y hy hty f (.sl _) _ _ w4 rfl hs;rw[iy]at h1 h2;refine⟨⟨i64 o.kind::i64 o.count::i64 o.calls::p,m,q++bF o.bytes,?_,?_,by simp;omega,h4⟩,rfl,⟨w1,w2,w3,hsw⟩,rfl⟩
      ·rw[eY,b9,h1];simp
      ·rw[eY,b9];simp only[h2];simp
     ·split at h<;>simp only[aa,reduceCtorEq]at h
      rename_i s hs;subst h;obtain⟨⟨p,m,q,h1,h2,h3,h4⟩,_⟩:=dF J y hy hty f (.by _) _ _ trivial rfl hs
      rw[e9]at h1 h2;have hl:=dO o.slots;refine⟨⟨i64 o.kind::i64 o.count::i64 o.calls::(dp o.slots++p),m,q,?_,?_,by simp;omega,h4⟩,rfl,hv,rfl⟩
      ·rw[eY,b9,h1];simp
      ·rw[eY,b9];simp only[h2];simp
   ·simp at h
theorem zX.size{J:Env}{v v' y:V}{off:Nat}(h:zX N J v v' off y)(hy:ok N y):(cells J v').length=(cells J v).length:=by
 obtain⟨⟨p,m,q,h1,h2,h3,h4⟩,_⟩:=h;rw[h1,h2];simp[aO J y hy,h4]
def Iz(v:V)(esz n i inner sz:Nat)(a:Bool):Option V:=
 match v with
 | .sl s=>if esz==6&&n==16 then cS 3 (.key (s.at i)) inner sz a else none
 | .by b=>if esz==1&&n==64&&inner==0&&sz==1&& !a then some (.bt (b.at i))else none
 |_=>none
theorem A2(J:Env){v:V}{esz n i inner sz:Nat}{a:Bool}{r:V}(hv:ok N v)(hi:i<n)(h:Iz v esz n i inner sz a=some r):
  (∃p q,cells J v=p++cells J r++q/\i*esz+inner=p.length)/\bP r=sz/\eC r=a/\ok N r/\bp r=false:=by
 cases v<;>simp only[Iz,reduceCtorEq]at h
 ·rename_i s;split at h
  ·rename_i hc;simp only[ah,aj]at hc;obtain⟨rfl,rfl⟩:=hc;obtain⟨⟨p,q,h1,h2⟩,h3⟩:=bO J 3 (.key _) _ _ _ _ (hv i hi) rfl h;obtain⟨P,Q,e1,e2,e3⟩:=iq s i hi;rw[mf]at h1;exact⟨⟨P++p,q++Q,by rw[iy,e1,h1];simp,by simp;omega⟩,h3⟩
  ·simp at h
 ·rename_i b;split at h
  ·rename_i hc;simp only[ah,aj,Bool.not_eq_true']at hc;obtain⟨⟨⟨⟨rfl,rfl⟩,rfl⟩,rfl⟩,rfl⟩:=hc;simp only[aa]at h;subst h;obtain⟨P,Q,e1,e2,e3⟩:=h9 b i hi;exact⟨⟨P,Q,by rw[e9,e1];rfl,by omega⟩,rfl,rfl,trivial,rfl⟩
  ·simp at h
def Ga(v:V)(esz n i inner:Nat)(y:V):Option V:=
 match v with
 | .sl s=>if esz==6&&n==16 then match setAt 3 (.key (s.at i)) inner y with
   |some (.key k)=>some (.sl (s.put i k))
   |_=>none
   else none
 | .by b=>if esz==1&&n==64&&inner==0 then(toByte y).map fun x=> .by (b.put i x)else none
 |_=>none
theorem Bh(J:Env){v:V}{esz n i inner:Nat}{y v':V}(hv:ok N v)(hi:i<n)(hy:ok N y)(hty:bp y=false)(h:Ga v esz n i inner y=some v'):
  zX N J v v' (i*esz+inner) y/\bP v'=bP v:=by
 cases v<;>simp only[Ga,reduceCtorEq]at h
 ·rename_i s;split at h
  ·rename_i hc;simp only[ah,aj]at hc;obtain⟨rfl,rfl⟩:=hc;split at h<;>simp only[aa,reduceCtorEq]at h
   rename_i k hk;subst h;obtain⟨⟨p,m,q,h1,h2,h3,h4⟩,_,hkw,_⟩:=dF J y hy hty _ (.key _) _ _ (hv i hi) rfl hk;obtain⟨P,Q,e1,e2,e3⟩:=iq s i hi;rw[mf]at h1 h2;refine⟨⟨⟨P++p,m,q++Q,?_,?_,by simp;omega,h4⟩,rfl,cM.Cl hv hkw hi,rfl⟩,rfl⟩
   ·rw[iy,e1,h1];simp
   ·rw[iy,e3,h2];simp
  ·simp at h
 ·rename_i b;split at h
  ·rename_i hc;simp only[ah,aj]at hc;obtain⟨⟨rfl,rfl⟩,rfl⟩:=hc;cases hb:toByte y with
   |none=>simp[hb]at h
   |some x=>
    simp only[hb,Option.map_some,aa]at h;subst h;obtain⟨h1,h2⟩:=k9 J hb;obtain⟨P,Q,e1,e2,e3⟩:=h9 b i hi;refine⟨⟨⟨P,[.int .u8 ((b.at i).toNat:Int)],Q,?_,?_,by omega,?_⟩,rfl,trivial,rfl⟩,rfl⟩
    ·rw[e9,e1]
    ·rw[e9,e3,h1]
    ·rw[h2];rfl
  ·simp at h
def zE(c:V)(off esz n i inner:Nat)(y:V):Option V:=
 match cS 8 c off (n*esz) true with
 |none=>none
 |some x=>match Ga x esz n i inner y with
  |none=>none
  |some x'=>setAt 8 c off x'
theorem fB{α:Type}{p p' m m' q q':List α}(h:p++m++q=p'++m'++q')(h1:p.length=p'.length)(h2:m.length=m'.length):p=p'/\m=m'/\q=q':=by
 rw[List.append_assoc,List.append_assoc]at h;obtain⟨e1,e2⟩:=List.append_inj h h1;obtain⟨e3,e4⟩:=List.append_inj e2 h2;exact⟨e1,e3,e4⟩
theorem yd(J:Env){c:V}{off esz n i inner:Nat}{y c':V}(hc:ok N c)(ht:bp c=false)(hi:i<n)(hy:ok N y)(hty:bp y=false)(h:zE c off esz n i inner y=some c'):
  zX N J c c' (off+i*esz+inner) y:=by
 unfold zE at h;cases hx:cS 8 c off (n*esz) true with
 |none=>simp[hx]at h
 |some x=>
  simp only[hx]at h;cases hx':Ga x esz n i inner y with
  |none=>simp[hx']at h
  |some x'=>
   simp only[hx']at h;obtain⟨⟨p,q,h1,h2⟩,hsz,_,h5,h6⟩:=bO J _ _ _ _ _ _ hc ht hx;obtain⟨⟨⟨P,M,Q,e1,e2,e3,e4⟩,e5,e6,e7⟩,e8⟩:=Bh J h5 hi hy hty hx';obtain⟨⟨p2,m2,q2,f1,f2,f3,f4⟩,f5,f6,f7⟩:=dF J x' e6 e7 8 c off c' hc ht h;obtain⟨rfl,rfl,rfl⟩:=fB (f1.symm.trans h1) (by omega) (by rw[f4,aO J x h5,e8])
   refine⟨⟨p2++P,M,Q++q2,?_,?_,by simp;omega,e4⟩,f5,f6,f7⟩
   ·rw[h1,e1];simp
   ·rw[f2,e2];simp
end Go.Sx
namespace Go.Sx
open Go.RowKit (Below)
def aX{α:Type}(l:List α)(i:Nat)(d:α):α:=l.getD i d
def aN{α:Type}(l:List α):Nat:=l.length
def bN{α:Type}(l:List α)(x:α):List α:=l++ [x]
inductive TL where
 |fn (n:Nat) (get:Nat->V)
 |ob (l:List Obj)
 |key (l:List Key)
 |it (k:IntKind) (l:List Int)
 |bo (l:List Bool)
 |st (l:List ByteArray)
 |qs (n:Nat) (l:List (List Int))
def TL.len:TL->Nat
 | .fn n _=>n
 | .ob l=>aN l
 | .key l=>aN l
 | .it _ l=>aN l
 | .bo l=>aN l
 | .st l=>aN l
 | .qs _ l=>aN l
def cr(Q:List (List Int))(j c:Nat):Int:=(Q.getD j []).getD c 0
def qL(Q:List (List Int))(j:Nat):Nat->Nat->List V
 |_,0=> []
 |c,m+1=> .it .i64 (cr Q j c)::qL Q j (c+1) m
def TL.get:TL->Nat->V
 | .fn _ g,i=>g i
 | .ob l,i=> .ob (aX l i free)
 | .key l,i=> .key (aX l i void)
 | .it k l,i=> .it k (aX l i 0)
 | .bo l,i=> .bo (aX l i false)
 | .st l,i=> .st (aX l i ByteArray.empty)
 | .qs n l,i=> .ag (qL l i 0 n)
inductive aI where
 |yet
 |gone
 |blk (ty:Nat) (c:V)
 |arr (own:Option Nat) (esz:Nat) (l:TL)
 |obs (ty q:Nat) (L:List Obj)
 |gen (j:Nat)
 |store (ty e:Nat) (L:List Obj)
 |lop (r:Loop) (s:LoopState) (j:Option Code)
 |dfr
 |mp (k:IntKind) (ks:List Int) (vs:List V)
 |mq (ks:List (List Int)) (vs:List V)
 |ms (n:Nat) (D:List (List Int×Int))
 |mi (m n:Nat) (S:List Nat)
 |que (ty n:Nat) (Q:List (List Int))
 |cset (ty et n:Nat) (sv:V) (D:List (List Int×Int)) (Q:List (List Int))
 |pin
 |ro (r:aI)
def aH:List aI->Nat->aI
 | [],_=> .yet
 |r::_,0=>r
 |_::l,i+1=>aH l i
def bd:List aI->Nat->aI->List aI
 | [],_,_=> []
 |_::l,0,r=>r::l
 |x::l,i+1,r=>x::bd l i r
theorem gB:∀(l:List aI) (i:Nat),aH l i=l.getD i .yet
 | [],i=>by simp[aH]
 |r::l,0=>by simp[aH]
 |r::l,i+1=>by simp[aH,gB l i]
theorem lS:∀(l:List aI) (i:Nat) (r:aI),bd l i r=l.set i r
 | [],i,r=>by simp[bd]
 |x::l,0,r=>by simp[bd]
 |x::l,i+1,r=>by simp[bd,lS l i]
theorem aY(l:List aI)(i j:Nat)(r:aI)(h:i<l.length):aH (bd l i r) j=if j=i then r else aH l j:=by
 grind[lS,gB]
theorem aK{l:List aI}{i:Nat}(h:aH l i≠ .yet):i<l.length:=by
 grind[gB]
def known(res:List aI)(i:Nat):Prop:=aH res i≠ .yet
def Env.zero:Env:=⟨fun _=>0,fun _=>0,fun _=>⟨0,0,none⟩,fun _=>none,fun _=>0,fun _ _=>0⟩
def TL.cells(l:TL):List Value:=(List.range l.len).flatMap fun j=>Sx.cells Env.zero (l.get j)
def Env.sl(J:Env)(i:Nat):Value:= .slice (J.sa i) (J.sn i) (J.cap i)
def cF(l:List Int):Value:= .agg (l.map i64).toArray
def ep(D:List (List Int×Int)):Array MapEntry:=(D.mapIdx fun j p=>({key:=cF p.1,val:=i64 p.2,born:=j}:MapEntry)).toArray
def pZ(w:World)(e size:Nat)(v:Value)(n:Nat)(xs:List Value):Prop:=
 xs.length=n*size/\((v= .slice none 0 0/\n=0)\/∃g off cap cur,v= .slice (some ⟨g,off,none⟩) n cap/\w.heap[g]? =some (.cells cur e (0,0))/\n<=cap/\cap<=maxLen/\off+cap*size<=cur.size/\(cur.toList.drop off).take (n*size)=xs)
def ee(Q:List (List Int)):List Value:=Q.flatMap fun x=>x.map i64
def Bw(n:Nat)(Q:List (List Int)):Prop:=∀x∈Q,x.length=n/\∀y∈x,bU .i64 y
def Mh(n:Nat)(D:List (List Int×Int)):Prop:=(∀p∈D,p.1.length=n/\bU .i64 p.2/\∀x∈p.1,bU .i64 x)/\(D.map (·.1)).Nodup
theorem H9{n:Nat}{Q:List (List Int)}(h:Bw n Q)(j c:Nat):bU .i64 (cr Q j c):=by
 unfold cr;rw[aq];cases hc:(Q.getD j [])[c]? with
 |none=>simp[bU]
 |some x=>
  simp only[Option.getD_some];have hx:=List.mem_of_getElem? hc;rw[aq]at hx;cases hq:Q[j]? with
  |none=>rw[hq]at hx;simp at hx
  |some l=>rw[hq]at hx;exact(h l (List.mem_of_getElem? hq)).2 x hx
theorem yr{K:Nat->Prop}{n:Nat}{Q:List (List Int)}(h:Bw n Q)(j:Nat):∀(m c:Nat),cm K (qL Q j c m)/\oE (qL Q j c m)/\ko (qL Q j c m)=m/\∀J,aR J (qL Q j c m)=(List.range m).map fun y=>i64 (cr Q j (c+y))
 |0,c=>⟨trivial,trivial,rfl,fun J=>rfl⟩
 |m+1,c=>by
  obtain⟨a,b,b',d⟩:=yr h j m (c+1);refine⟨⟨H9 h j c,a⟩,⟨trivial,b⟩,by simp only[qL,ko,b',bP];omega,fun J=>?_⟩
  have e:aR J (qL Q j c (m+1))=i64 (cr Q j c)::aR J (qL Q j (c+1) m):=rfl;rw[e,d,List.range_succ_eq_map,List.map_cons,List.map_map];show i64 (cr Q j c)::_=i64 (cr Q j c)::_
  congr 1
  refine List.map_congr_left fun y _=>?_
  simp only[Function.comp,Nat.add_assoc,Nat.succ_eq_add_one,Nat.add_comm 1 y]
theorem BN{n:Nat}{Q:List (List Int)}(h:Bw n Q){j:Nat}(hj:j<Q.length)(J:Env):aR J (qL Q j 0 n)=(Q.getD j []).map i64:=by
 have e:Q.getD j []=Q[j]:=by rw[aq,List.getElem?_eq_getElem hj];rfl
 have hl:(Q.getD j []).length=n:=by rw[e];exact(h _ (List.getElem_mem hj)).1
 rw[(yr (K:=fun _=>False) h j n 0).2.2.2]
 apply List.ext_getElem (by simp only[List.length_map,List.length_range,hl])
 intro y h1 h2;have hy:y<(Q.getD j []).length:=by simpa using h2
 simp only[List.getElem_map,List.getElem_range,Nat.zero_add,cr];rw[aq,List.getElem?_eq_getElem hy];rfl
theorem tW{n:Nat}:∀{Q:List (List Int)},Bw n Q->∀{j k:Nat},j<Q.length->k<n->(ee Q)[j*n+k]? =((Q.getD j []).map i64)[k]?
 | [],_,j,k,hj,_=>by simp at hj
 |x::Q,h,j,k,hj,hk=>by
  have hx:=(h x (by simp)).1
  show((x.map i64)++ee Q)[j*n+k]? =_
  cases j with
  |zero=>rw[Nat.zero_mul,Nat.zero_add,List.getElem?_append_left (by simpa[hx]using hk)];rfl
  |succ j=>
   have e:(j+1)*n+k=n+(j*n+k):=by rw[Nat.succ_mul];omega
   rw[e,List.getElem?_append_right (by simp[hx]),List.length_map,hx,Nat.add_sub_cancel_left,tW (fun y hy=>h y (by simp[hy])) (by simpa using hj) hk]
   rfl
theorem rD{n:Nat}:∀{Q:List (List Int)},Bw n Q->(ee Q).length=Q.length*n
 | [],_=>by simp[ee]
 |x::Q,h=>by
  have hx:=(h x (by simp)).1
  show((x.map i64)++ee Q).length=_
  rw[List.length_append,List.length_map,hx,rD fun y hy=>h y (by simp[hy]),List.length_cons,Nat.succ_mul,Nat.add_comm]
abbrev RR:=Option (Option Prop×V×List aI)
def II:Array Value:=((List.range 20).map fun i=>Value.int .u64 ((10^i:Nat):Int)).toArray
def K4(w0:World)(F0:Nat->Prop):Prop:=¬F0 0/\∃t z,w0.heap[0]? =some (.cells II t z)
def aI.holds(K:Nat->Prop)(J:Env)(i:Nat)(fp:Nat->Prop)(w0:World)(F0:Nat->Prop)(w:World):aI->Prop
 | .yet=>True
 | .gone=>True
 | .blk ty c=>ok K c/\bp c=false/\fp (J.num i)/\w.heap[J.num i]? =some (.cells (cells J c).toArray ty (0,0))
 | .arr own esz l=>(∀j,j<l.len->ok (fun _=>False) (l.get j)/\bp (l.get j)=false/\bP (l.get j)=esz)/\
   J.sn i=l.len/\l.len<=9223372036854775807/\(∀a,J.sa i=some a->a=J.adr i)/\(0<l.len->(J.sa i).isSome=true)/\(0<l.len->(J.adr i).spot=none)/\
   ((own=none/\(0<l.len->¬F0 (J.adr i).block/\(J.adr i).block<w0.heap.size)/\
     ∀j,j<l.len->∀k,k<esz->w0.cell? ⟨(J.adr i).block,(J.adr i).off+(j*esz+k),none⟩=(cells J (l.get j))[k]?)\/
    ∃e,(∀e',own=some e'->e'=e)/\w.ownsRow 0 e esz (J.sl i) l.len l.cells/\∀a,J.sa i=some a->fp a.block)
 | .gen _=>True
 | .obs ty q L=>K q/\(∀o∈L,o.wf)/\J.sn i=L.length/\L.length<=9223372036854775807/\(∀a,J.sa i=some a->a=J.adr i/\fp a.block)/\(0<L.length->(J.sa i).isSome=true)/\
   w.ownsRow 0 ty 1 (J.sl i) L.length ((List.range L.length).map fun j=>Value.pointer (some ⟨J.ob q j,0,none⟩))/\
   ∀j,j<L.length->fp (J.ob q j)/\∃t,w.heap[J.ob q j]? =some (.cells (b9 (L.getD j free)).toArray t (0,0))
 | .store ty e L=>fp (J.num i)/\(∀o∈L,o.wf)/\L.length<=9223372036854775807/\∃(sl:Value) (ob:Nat->Nat),w.heap[J.num i]? =some (.cells #[sl] ty (0,0))/\
   w.ownsRow 0 e 1 sl L.length ((List.range L.length).map fun j=>Value.pointer (some ⟨ob j,0,none⟩))/\(∀b,sl.ownBlock=some b->fp b/\b≠J.num i)/\
   ∀j,j<L.length->fp (ob j)/\ob j≠J.num i/\∃t,w.heap[ob j]? =some (.cells (b9 (L.getD j free)).toArray t (0,0))
 | .lop r s j=>fp (J.num i)/\w.heap[J.num i]? =some (.loop {r with state:=s,pending:=j})
 | .dfr=>(∀j,j<J.sn i->fp (J.ob i j)/\w.heap[J.ob i j]? =some (.deferred (some [])))/\∀j k,j<J.sn i->k<J.sn i->J.ob i j=J.ob i k->j=k
 | .mp k ks vs=>fp (J.num i)/\cm K vs/\oE vs/\(∀c∈ks,bU k c)/\ks.length=vs.length/\∃es clock,w.heap[J.num i]? =some (.map es clock)/\es.toList.map (·.key)=ks.map (Value.int k)/\es.toList.map (·.val)=aV J vs
 | .mq ks vs=>fp (J.num i)/\cm K vs/\oE vs/\(ks.length=vs.length/\ks.Nodup)/\∃es clock,w.heap[J.num i]? =some (.map es clock)/\(es.toList.map fun e=>(e.key,e.val)).Perm ((ks.map cF).zip (aV J vs))
 | .ms n D=>fp (J.num i)/\((∀p∈D,p.1.length=n/\bU .i64 p.2/\∀x∈p.1,bU .i64 x)/\(D.map (·.1)).Nodup)/\w.heap[J.num i]? =some (.map (ep D) D.length)
 | .mi m n S=>K m/\fp (J.num i)/\w.heap[J.num i]? =some (.mapIter (some (J.num m)) n S.toArray n)
 | .que ty n Q=>Bw n Q/\J.sn i=Q.length/\Q.length<=9223372036854775807/\(∀a,J.sa i=some a->a=J.adr i/\a.spot=none/\fp a.block)/\(0<Q.length->(J.sa i).isSome=true)/\pZ w ty n (J.sl i) Q.length (ee Q)
 | .cset ty et n sv D Q=>ok K sv/\bp sv=false/\fp (J.num i)/\Mh n D/\Bw n Q/\Q.length<=9223372036854775807/\∃(m:Nat) (sl:Value),w.heap[J.num i]? =some (.cells (cells J sv++ [.map (some m),sl]).toArray ty (0,0))/\
   (fp m/\m≠J.num i)/\w.heap[m]? =some (.map (ep D) D.length)/\pZ w et n sl Q.length (ee Q)/\∀b,sl.ownBlock=some b->fp b/\b≠J.num i/\b≠m
 | .pin=>K4 w0 F0
 | .ro r=>∃fp':Nat->Prop,aI.holds K J i fp' w0 F0 w0 r/\∀b,fp' b->b<w0.heap.size/\¬F0 b
theorem sP{w w':World}{e size:Nat}{v:Value}{n:Nat}{xs:List Value}(h:w.ownsRow 0 e size v n xs)(hw:∀b,v.ownBlock=some b->w'.heap[b]? =w.heap[b]?):w'.ownsRow 0 e size v n xs:=by
 refine⟨h.1,?_⟩;rcases h.2 with h0|⟨g,cap,cur,h1,h2,h3,h4⟩
 ·exact .inl h0
 ·refine .inr ⟨g,cap,cur,h1,h2,?_,h4⟩;rw[hw g (by rw[h1];rfl)]
  exact h3
theorem tx{w w':World}{e size:Nat}{v:Value}{n:Nat}{xs:List Value}(h:pZ w e size v n xs)(hw:∀b,v.ownBlock=some b->w'.heap[b]? =w.heap[b]?):pZ w' e size v n xs:=by
 refine⟨h.1,?_⟩;rcases h.2 with h0|⟨g,off,cap,cur,h1,h2,h3⟩
 ·exact .inl h0
 ·exact .inr ⟨g,off,cap,cur,h1,by rw[hw g (by rw[h1];rfl)];exact h2,h3⟩
theorem nJ{w w':World}{e size:Nat}{J:Env}{i n:Nat}{xs:List Value}(h:w.ownsRow 0 e size (J.sl i) n xs)(hw:∀a,J.sa i=some a->w'.heap[a.block]? =w.heap[a.block]?):w'.ownsRow 0 e size (J.sl i) n xs:=by
 refine⟨h.1,?_⟩;rcases h.2 with h0|⟨g,cap,cur,h1,h2,h3,h4⟩
 ·exact .inl h0
 ·grind[Env.sl]
theorem aI.cy{K:Nat->Prop}{J:Env}{i:Nat}{fp:Nat->Prop}{w0:World}{F0:Nat->Prop}{w w':World}(r:aI)
  (h:r.holds K J i fp w0 F0 w) (hw:∀b,fp b->w'.heap[b]? =w.heap[b]?):r.holds K J i fp w0 F0 w':=by
 cases r with
 |yet=>trivial
 |gone=>trivial
 |blk ty c=>exact⟨h.1,h.2.1,h.2.2.1,by rw[hw _ h.2.2.1];exact h.2.2.2⟩
 |arr own esz l=>
  obtain⟨h1,h2,h3,h4,h5,h6,h7⟩:=h;refine⟨h1,h2,h3,h4,h5,h6,?_⟩;rcases h7 with h7|⟨e,e1,e2,e3⟩
  ·exact .inl h7
  ·exact .inr ⟨e,e1,nJ e2 fun a ha=>hw _ (e3 a ha),e3⟩
 |gen j=>trivial
 |obs ty q L=>
  obtain⟨h0,h1,h2,h3,h4,h5,h6,h7⟩:=h;refine⟨h0,h1,h2,h3,h4,h5,nJ h6 fun a ha=>hw _ (h4 a ha).2,fun j hj=>?_⟩
  obtain⟨g1,t,g2⟩:=h7 j hj;exact⟨g1,t,by rw[hw _ g1];exact g2⟩
 |store ty e L=>
  obtain⟨h0,h1,h2,sl,ob,h3,h5,h6,h7⟩:=h;refine⟨h0,h1,h2,sl,ob,by rw[hw _ h0];exact h3,sP h5 fun b hb=>hw _ (h6 b hb).1,h6,fun j hj=>?_⟩
  obtain⟨g1,g0,t,g2⟩:=h7 j hj;exact⟨g1,g0,t,by rw[hw _ g1];exact g2⟩
 |lop r s j=>exact⟨h.1,by rw[hw _ h.1];exact h.2⟩
 |dfr=>exact⟨fun j hj=>⟨(h.1 j hj).1,by rw[hw _ (h.1 j hj).1];exact(h.1 j hj).2⟩,h.2⟩
 |mp k ks vs=>
  obtain⟨h0,h1,h2,h3,h4,es,cl,h5,h6⟩:=h;exact⟨h0,h1,h2,h3,h4,es,cl,by rw[hw _ h0];exact h5,h6⟩
 |mq ks vs=>
  obtain⟨h0,h1,h2,h4,es,cl,h5,h6⟩:=h;exact⟨h0,h1,h2,h4,es,cl,by rw[hw _ h0];exact h5,h6⟩
 |ms n D=>exact⟨h.1,h.2.1,by rw[hw _ h.1];exact h.2.2⟩
 |mi m n S=>exact⟨h.1,h.2.1,by rw[hw _ h.2.1];exact h.2.2⟩
 |cset ty et n sv D Q=>
  obtain⟨h1,h2,h3,h4,h5,h6,m,sl,g1,g2,g3,g4,g5⟩:=h;exact⟨h1,h2,h3,h4,h5,h6,m,sl,by rw[hw _ h3];exact g1,g2,by rw[hw _ g2.1];exact g3,tx g4 fun b hb=>hw _ (g5 b hb).1,g5⟩
 |que ty n Q=>
  obtain⟨h1,h2,h3,h4,h5,h6⟩:=h
  exact⟨h1,h2,h3,h4,h5,tx h6 fun b hb=>by
   simp only[Env.sl]at hb;cases ha:J.sa i with
   |none=>rw[ha]at hb;simp[Value.ownBlock]at hb
   |some a=>rw[ha]at hb;simp only[Value.ownBlock,aa]at hb;subst hb;exact hw _ (h4 a ha).2.2⟩
 |pin=>exact h
 |ro r=>exact h
theorem aI.lQ{K K':Nat->Prop}{J ρ':Env}{i:Nat}{fp:Nat->Prop}{w0:World}{F0:Nat->Prop}{w:World}(r:aI)
  (h:r.holds K J i fp w0 F0 w) (hK:∀j,K j->K' j) (ha:Env.agree K J ρ') (hi:K i):r.holds K' ρ' i fp w0 F0 w:=by
 obtain⟨a1,a2,a3,a4,a5,a6⟩:=ha i hi;have hsl:ρ'.sl i=J.sl i:=by simp only[Env.sl,a2,a4,a5]
 induction r generalizing fp w with
 |lop r s j=>exact⟨by rw[a1];exact h.1,by rw[a1];exact h.2⟩
 |dfr=>exact⟨fun j hj=>by rw[a5]at hj;rw[a6];exact h.1 j hj,by rw[a5,a6];exact h.2⟩
 |mp k ks vs=>
  obtain⟨h0,h1,h2,h3,h4,es,cl,h5,h6,h7⟩:=h;exact⟨by rw[a1];exact h0,br hK _ h1,h2,h3,h4,es,cl,by rw[a1];exact h5,h6,by rw[cx ha vs h1];exact h7⟩
 |mq ks vs=>
  obtain⟨h0,h1,h2,h4,es,cl,h5,h7⟩:=h;exact⟨by rw[a1];exact h0,br hK _ h1,h2,h4,es,cl,by rw[a1];exact h5,by rw[cx ha vs h1];exact h7⟩
 |ms n D=>exact⟨by rw[a1];exact h.1,h.2.1,by rw[a1];exact h.2.2⟩
 |mi m n S=>exact⟨hK m h.1,by rw[a1];exact h.2.1,by rw[a1,(ha m h.1).1];exact h.2.2⟩
 |cset ty et n sv D Q=>
  obtain⟨h1,h2,h3,h4,h5,h6,m,sl,g1,g2,g3,g4,g5⟩:=h;exact⟨bE hK _ h1,h2,by rw[a1];exact h3,h4,h5,h6,m,sl,by rw[a1,bw ha sv h1];exact g1,by rw[a1];exact g2,g3,g4,by rw[a1];exact g5⟩
 |que ty n Q=>
  obtain⟨h1,h2,h3,h4,h5,h6⟩:=h;exact⟨h1,by rw[a5];exact h2,h3,by rw[a4,a3];exact h4,by rw[a4];exact h5,by rw[hsl];exact h6⟩
 |store ty e L=>
  obtain⟨h0,h1,h2,sl,ob,h3,h5,h6,h7⟩:=h;exact⟨by rw[a1];exact h0,h1,h2,sl,ob,by rw[a1];exact h3,h5,by rw[a1];exact h6,by rw[a1];exact h7⟩
 |ro r ih=>
  obtain⟨fp',h1,h2⟩:=h;exact⟨fp',ih h1,h2⟩
 |pin=>exact h
 |yet=>trivial
 |gone=>trivial
 |blk ty c=>exact⟨bE hK _ h.1,h.2.1,by rw[a1];exact h.2.2.1,by rw[a1,bw ha c h.1];exact h.2.2.2⟩
 |arr own esz l=>
  obtain⟨h1,h2,h3,h4,h5,h6,h7⟩:=h;refine⟨h1,by rw[a5];exact h2,h3,by rw[a4,a3];exact h4,by rw[a4];exact h5,by rw[a3];exact h6,?_⟩
  rcases h7 with⟨e1,e2,e3⟩|⟨e,e1,e2,e3⟩
  ·refine .inl ⟨e1,by rw[a3];exact e2,fun j hj k hk=>?_⟩
   rw[a3,e3 j hj k hk,bw (N:=fun _=>False) (J:=J) (ρ':=ρ') (fun _ h=>h.elim) _ (h1 j hj).1]
  ·exact .inr ⟨e,e1,by rw[hsl];exact e2,by rw[a4];exact e3⟩
 |gen j=>trivial
 |obs ty q L=>
  obtain⟨h0,h1,h2,h3,h4,h5,h6,h7⟩:=h;have a6:=(ha q h0).2.2.2.2.2;exact⟨hK q h0,h1,by rw[a5];exact h2,h3,by rw[a4,a3];exact h4,by rw[a4];exact h5,by rw[hsl,a6];exact h6,by rw[a6];exact h7⟩
structure aQ(J:Env)(fps:Nat->Nat->Prop)(res:List aI)(K:Nat->Prop)(w0:World)(F0:Nat->Prop)(w:World):Prop where
 sub:∀i,known res i->K i
 old:w0.heap.size<=w.heap.size
 os:w.os=w0.os
 tape:w.tape=w0.tape
 output:w.output=w0.output
 holds:∀i,known res i->(aH res i).holds K J i (fps i) w0 F0 w
 lt:∀i b,known res i->fps i b->b<w.heap.size
 disj:∀i j b,known res i->known res j->i≠j->fps i b->¬fps j b
 inF:∀i b,known res i->fps i b->b<w0.heap.size->F0 b
 same:∀b,b<w0.heap.size->¬F0 b->w.heap[b]? =w0.heap[b]?
def bD(l:List aI)(i:Nat):aI:=
 match aH l i with
 | .ro r=>r
 |r=>r
theorem cw{l:List aI}{i:Nat}{r:aI}(h:bD l i=r)(hr:r≠ .yet):known l i:=by
 grind[bD,known]
theorem aQ.look{J:Env}{fps:Nat->Nat->Prop}{res:List aI}{K:Nat->Prop}{w0:World}{F0:Nat->Prop}{w:World}(h:aQ J fps res K w0 F0 w){i:Nat}{r:aI}
  (hr:bD res i=r) (hne:r≠ .yet):∃fp:Nat->Prop,r.holds K J i fp w0 F0 w/\∀b,fp b->b<w.heap.size:=by
 have hk:=cw hr hne;have hh:=h.holds i hk;unfold bD at hr;split at hr
 ·rename_i r' he;rw[he]at hh;subst hr;obtain⟨fp',h1,h2⟩:=hh;exact⟨fp',aI.cy _ h1 fun b hb=>h.same b (h2 b hb).1 (h2 b hb).2,fun b hb=>Nat.lt_of_lt_of_le (h2 b hb).1 h.old⟩
 ·subst hr;exact⟨fps i,hh,fun b hb=>h.lt i b hk hb⟩
def fresh(nid n:Nat)(i:Nat):Prop:=nid<=i/\i<nid+n
def fJ(K:Nat->Prop)(J ρ':Env)(nid:Nat)(new:List aI)(w0:World)(F0:Nat->Prop)(w w':World):Prop:=
 Below w.heap.size w w'/\Env.agree (fun i=>¬fresh nid new.length i) J ρ'/\
 ∃fp:Nat->Nat->Prop,(∀k,k<new.length->(aH new k).holds (fun i=>K i\/fresh nid new.length i) ρ' (nid+k) (fp k) w0 F0 w'/\∀b,fp k b->w.heap.size<=b/\b<w'.heap.size)/\
  ∀k l b,k<new.length->l<new.length->k≠l->fp k b->¬fp l b
theorem fJ.refl(K:Nat->Prop)(J:Env)(nid:Nat)(w0:World)(F0:Nat->Prop)(w:World):fJ K J J nid [] w0 F0 w w:=
 ⟨Below.refl _ _,Env.agree.refl _ _,fun _ _=>False,fun k hk=>by simp at hk,fun k l b hk=>by simp at hk⟩
def F5(res res':List aI)(nid:Nat)(new:List aI):Prop:=
 (∀i,known res i->aH res' i=aH res i/\¬fresh nid new.length i)/\
 (∀i,known res' i->known res i\/fresh nid new.length i)/\
 ∀k,k<new.length->aH res' (nid+k)=aH new k
theorem aI.iE{K K':Nat->Prop}{J:Env}{i:Nat}{fp:Nat->Prop}{w0:World}{F0:Nat->Prop}{w:World}(r:aI)
  (h:r.holds K J i fp w0 F0 w) (hK:∀j,K j->K' j):r.holds K' J i fp w0 F0 w:=by
 induction r generalizing fp w with
 |blk ty c=>exact⟨bE hK _ h.1,h.2⟩
 |mp k ks vs=>exact⟨h.1,br hK _ h.2.1,h.2.2⟩
 |mq ks vs=>exact⟨h.1,br hK _ h.2.1,h.2.2⟩
 |ms n D=>exact h
 |mi m n S=>exact⟨hK m h.1,h.2⟩
 |cset ty et n sv D Q=>exact⟨bE hK _ h.1,h.2⟩
 |que ty n Q=>exact h
 |obs ty q L=>exact⟨hK q h.1,h.2⟩
 |ro r ih=>
  obtain⟨fp',h1,h2⟩:=h;exact⟨fp',ih h1,h2⟩
 |_=>exact h
theorem aQ.grow{J ρ':Env}{fps:Nat->Nat->Prop}{res res':List aI}{w0:World}{F0:Nat->Prop}{w w':World}{nid:Nat}{new:List aI}{K K':Nat->Prop}
  (h:aQ J fps res K w0 F0 w) (ha:F5 res res' nid new) (hKf:∀i,K i->¬fresh nid new.length i) (hK':∀i,K i\/fresh nid new.length i->K' i)
  (hg:fJ K J ρ' nid new w0 F0 w w'):
  ∃fps',aQ ρ' fps' res' K' w0 F0 w'/\Env.agree K J ρ':=by
 obtain⟨hb,hag,fp,h1,h2⟩:=hg;obtain⟨a1,a2,a3⟩:=ha;have hag':Env.agree K J ρ':=hag.mono hKf;have hkey:∀i,known res i->¬fresh nid new.length i:=fun i hi=>(a1 i hi).2
 classical
 refine⟨fun i=>if fresh nid new.length i then fp (i-nid)else fps i,⟨?_,Nat.le_trans h.old hb.size,hb.os.trans h.os,hb.tape.trans h.tape,hb.output.trans h.output,?_,?_,?_,?_,?_⟩,hag'⟩
 ·intro i hi;rcases a2 i hi with hk|hf
  ·exact hK' i (.inl (h.sub i hk))
  ·exact hK' i (.inr hf)
 ·intro i hi;rcases a2 i hi with hk|hf
  ·simp only[ar (hkey i hk)];rw[(a1 i hk).1];exact aI.lQ _ (aI.cy _ (h.holds i hk) fun b hbb=>hb.block b (h.lt i b hk hbb)) (fun j hj=>hK' j (.inl hj)) hag' (h.sub i hk)
  ·simp only[au hf];obtain⟨e1,e2⟩:=hf;have:=(h1 (i-nid) (by omega)).1
   rw[show nid+(i-nid)=i by omega]at this
   have h3:=a3 (i-nid) (by omega)
   rw[show nid+(i-nid)=i by omega]at h3
   rw[h3];exact aI.iE _ this hK'
 ·intro i b hi hbb;rcases a2 i hi with hk|hf
  ·simp only[ar (hkey i hk)]at hbb;exact Nat.lt_of_lt_of_le (h.lt i b hk hbb) hb.size
  ·grind[fresh]
 ·intro i j b hi hj hne hbi hbj;rcases a2 i hi with hk|hf<;>rcases a2 j hj with hk'|hf'
  ·simp only[ar (hkey i hk)]at hbi;simp only[ar (hkey j hk')]at hbj;exact h.disj i j b hk hk' hne hbi hbj
  ·simp only[ar (hkey i hk)]at hbi;simp only[au hf']at hbj;have:=((h1 (j-nid) (by unfold fresh at hf';omega)).2 b hbj).1
   have:=h.lt i b hk hbi;omega
  ·simp only[au hf]at hbi;simp only[ar (hkey j hk')]at hbj;have:=((h1 (i-nid) (by unfold fresh at hf;omega)).2 b hbi).1
   have:=h.lt j b hk' hbj;omega
  ·grind[fresh]
 ·intro i b hi hbb hlt;rcases a2 i hi with hk|hf
  ·simp only[ar (hkey i hk)]at hbb;exact h.inF i b hk hbb hlt
  ·simp only[au hf]at hbb;have:=((h1 (i-nid) (by unfold fresh at hf;omega)).2 b hbb).1
   have:=h.old;omega
 ·intro b hlt hF;rw[hb.block b (Nat.lt_of_lt_of_le hlt h.old)];exact h.same b hlt hF
theorem bc(l m:List aI)(i:Nat):aH (l++m) i=if i<l.length then aH l i else aH m (i-l.length):=by
 grind[gB]
theorem fj(res new:List aI):F5 res (res++new) res.length new:=by
 refine⟨fun i hi=>?_,fun i hi=>?_,fun k hk=>?_⟩
 ·have:=aK hi;exact⟨by rw[bc,au this],by unfold fresh;omega⟩
 ·unfold known at hi⊢;rw[bc]at hi;by_cases h:i<res.length
  ·rw[au h]at hi;exact .inl hi
  ·rw[ar h]at hi;have:=aK hi;exact .inr ⟨by omega,by omega⟩
 ·rw[bc,ar (by omega)];congr 1;omega
def Env.aZ(J:Env)(i b:Nat):Env:= {J with num:=fun j=>if j=i then b else J.num j}
theorem eN(J:Env)(i b:Nat):Env.agree (fun j=>¬fresh i 1 j) J (J.aZ i b):=fun j hj=>by
 have:j≠i:=fun e=>hj ⟨by omega,by omega⟩
 simp[Env.aZ,this]
theorem fJ.alloc{K:Nat->Prop}{J:Env}{nid ty:Nat}{c:V}{w0:World}{F0:Nat->Prop}{w:World}(hc:ok K c)(ht:bp c=false)(hn:¬K nid):
  fJ K J (J.aZ nid w.heap.size) nid [.blk ty c] w0 F0 w (w.alloc (.cells (cells J c).toArray ty)):=by
 refine⟨(Below.refl _ _).alloc (Nat.le_refl _) _,eN J nid _,fun _ b=>b=w.heap.size,fun k hk=>?_,fun k l b hk hl hne=>?_⟩
 ·simp only[List.length_singleton,Nat.lt_one_iff]at hk;subst hk
  have ha:Env.agree K J (J.aZ nid w.heap.size):=(eN J nid _).mono fun i hi hf=>by
   grind[fresh]
  refine⟨⟨bE (fun i hi=> .inl hi) c hc,ht,by simp[Env.aZ],?_⟩,fun b hb=>by subst hb;simp⟩
  rw[bw ha c hc,show(J.aZ nid w.heap.size).num (nid+0)=w.heap.size by simp[Env.aZ]]
  exact heap_alloc_new w _
 ·simp only[List.length_singleton,Nat.lt_one_iff]at hk hl;omega
theorem aQ.write{J:Env}{fps:Nat->Nat->Prop}{res:List aI}{K:Nat->Prop}{w0:World}{F0:Nat->Prop}{w w':World}{i ty:Nat}{c c':V}
  (h:aQ J fps res K w0 F0 w) (hi:aH res i= .blk ty c) (hc:ok K c') (ht:bp c'=false)
  (hos:w'.os=w.os) (htape:w'.tape=w.tape) (hout:w'.output=w.output) (hsize:w'.heap.size=w.heap.size)
  (hnew:w'.heap[J.num i]? =some (.cells (cells J c').toArray ty (0,0))) (hold:∀b,b≠J.num i->w'.heap[b]? =w.heap[b]?):
  aQ J fps (bd res i (.blk ty c')) K w0 F0 w':=by
 have hk:known res i:=by unfold known;rw[hi];simp
 have hlt:=aK hk;have hh:=h.holds i hk;rw[hi]at hh;obtain⟨_,_,hfp,_⟩:=hh
 have hkn:∀j,known (bd res i (.blk ty c')) j↔known res j:=fun j=>by
  grind[known,aY]
 refine⟨fun j hj=>h.sub j ((hkn j).1 hj),by rw[hsize];exact h.old,hos.trans h.os,htape.trans h.tape,hout.trans h.output,fun j hj=>?_,fun j b hj hb=>by rw[hsize];exact h.lt j b ((hkn j).1 hj) hb,
  fun j l b hj hl=>h.disj j l b ((hkn j).1 hj) ((hkn l).1 hl),fun j b hj=>h.inF j b ((hkn j).1 hj),fun b hb hF=>?_⟩
 ·rw[aY _ _ _ _ hlt];by_cases e:j=i
  ·subst e;simp only[if_true];exact⟨hc,ht,hfp,hnew⟩
  ·simp only[ar e];have hj':=(hkn j).1 hj;refine aI.cy _ (h.holds j hj') fun b hb=>hold b fun eb=>?_
   subst eb;exact h.disj j i _ hj' hk e hb hfp
 ·rw[hold b fun e=>hF (h.inF i _ hk hfp (e▸hb) |> fun x=>e▸x)]
  exact h.same b hb hF
theorem aQ.forget{J:Env}{fps:Nat->Nat->Prop}{res res':List aI}{K:Nat->Prop}{w0:World}{F0:Nat->Prop}{w:World}
  (h:aQ J fps res K w0 F0 w) (hf:∀i,known res' i->aH res' i=aH res i):aQ J fps res' K w0 F0 w:=by
 have hk:∀i,known res' i->known res i:=fun i hi=>by
  have:=hf i hi;unfold known at hi⊢;rwa [this]at hi
 exact⟨fun i hi=>h.sub i (hk i hi),h.old,h.os,h.tape,h.output,fun i hi=>by rw[hf i hi];exact h.holds i (hk i hi),fun i b hi=>h.lt i b (hk i hi),
  fun i j b hi hj=>h.disj i j b (hk i hi) (hk j hj),fun i b hi=>h.inF i b (hk i hi),h.same⟩
theorem aQ.ki{J:Env}{fps:Nat->Nat->Prop}{res:List aI}{K K':Nat->Prop}{w0:World}{F0:Nat->Prop}{w:World}
  (h:aQ J fps res K w0 F0 w) (hK:∀i,K i->K' i):aQ J fps res K' w0 F0 w:=
 ⟨fun i hi=>hK i (h.sub i hi),h.old,h.os,h.tape,h.output,fun i hi=>aI.iE _ (h.holds i hi) hK,h.lt,h.disj,h.inF,h.same⟩
theorem aQ.turn{J ρ':Env}{fps:Nat->Nat->Prop}{res res':List aI}{K K':Nat->Prop}{w0:World}{F0:Nat->Prop}{w w':World}(h:aQ J fps res K w0 F0 w)(T B:Nat->Prop)(fp':Nat->Nat->Prop)
  (hK:∀i,known res' i->K' i) (hKK:∀i,K i->K' i) (hag:Env.agree K J ρ')
  (hA:∀i,known res' i->¬B i->known res i/\¬T i/\aH res' i=aH res i)
  (hB:∀i,known res' i->B i->(aH res' i).holds K' ρ' i (fp' i) w0 F0 w'/\∀b,fp' i b->(∃t,T t/\known res t/\fps t b)\/(w.heap.size<=b/\b<w'.heap.size))
  (hBd:∀i j b,B i->B j->i≠j->fp' i b->¬fp' j b)
  (hos:w'.os=w.os) (htape:w'.tape=w.tape) (hout:w'.output=w.output) (hsize:w.heap.size<=w'.heap.size)
  (hsame:∀b,b<w.heap.size->(∀t,T t->known res t->¬fps t b)->w'.heap[b]? =w.heap[b]?):
  ∃fps',aQ ρ' fps' res' K' w0 F0 w':=by
 classical
 have hAB:∀i j b,known res' i->known res' j->¬B i->B j->fps i b->¬fp' j b:=by
  intro i j b hi hj hbi hbj hf hf';obtain⟨k1,k2,_⟩:=hA i hi hbi;rcases(hB j hj hbj).2 b hf' with⟨t,ht,hkt,hft⟩|⟨hge,_⟩
  ·exact h.disj i t b k1 hkt (fun e=>k2 (e▸ht)) hf hft
  ·have:=h.lt i b k1 hf;omega
 refine⟨fun i=>if B i then fp' i else fps i,⟨hK,Nat.le_trans h.old hsize,hos.trans h.os,htape.trans h.tape,hout.trans h.output,?_,?_,?_,?_,?_⟩⟩
 ·intro i hi;by_cases hb:B i
  ·simp only[au hb];exact(hB i hi hb).1
  ·simp only[ar hb];obtain⟨k1,k2,k3⟩:=hA i hi hb;rw[k3];exact aI.lQ _ (aI.cy _ (h.holds i k1) fun b hf=>hsame b (h.lt i b k1 hf) fun t ht hkt hft=>h.disj i t b k1 hkt (fun e=>k2 (e▸ht)) hf hft) hKK hag (h.sub i k1)
 ·intro i b hi hf;by_cases hb:B i
  ·simp only[au hb]at hf;rcases(hB i hi hb).2 b hf with⟨t,ht,hkt,hft⟩|⟨_,hlt⟩
   ·exact Nat.lt_of_lt_of_le (h.lt t b hkt hft) hsize
   ·exact hlt
  ·simp only[ar hb]at hf;exact Nat.lt_of_lt_of_le (h.lt i b (hA i hi hb).1 hf) hsize
 ·intro i j b hi hj hne hf hf';by_cases hbi:B i<;>by_cases hbj:B j
  ·grind
  ·grind
  ·grind
  ·simp only[ar hbi]at hf;simp only[ar hbj]at hf';exact h.disj i j b (hA i hi hbi).1 (hA j hj hbj).1 hne hf hf'
 ·intro i b hi hf hlt;by_cases hb:B i
  ·simp only[au hb]at hf;rcases(hB i hi hb).2 b hf with⟨t,ht,hkt,hft⟩|⟨hge,_⟩
   ·exact h.inF t b hkt hft hlt
   ·have:=h.old;omega
  ·simp only[ar hb]at hf;exact h.inF i b (hA i hi hb).1 hf hlt
 ·intro b hlt hF;rw[hsame b (Nat.lt_of_lt_of_le hlt h.old) fun t _ hkt hft=>hF (h.inF t b hkt hft hlt)]
  exact h.same b hlt hF
end Go.Sx
namespace Go.Sx
open Go.RowKit (Below)
inductive S where
 |und
 |ud
 |v (x:V)
 |gv (ch:List (Nat×Bool)) (x:V)
def bh:List S->Nat->S
 | [],_=> .und
 |x::_,0=>x
 |_::l,n+1=>bh l n
def sset:List S->Nat->S->List S
 | [],_,_=> []
 |_::l,0,y=>y::l
 |x::l,n+1,y=>x::sset l n y
theorem fV:∀(l:List S) (i:Nat),bh l i=l.getD i .und
 | [],i=>by simp[bh]
 |r::l,0=>by simp[bh]
 |r::l,i+1=>by simp[bh,fV l i]
theorem vk:∀(l:List S) (i:Nat) (r:S),sset l i r=l.set i r
 | [],i,r=>by simp[sset]
 |x::l,0,r=>by simp[sset]
 |x::l,i+1,r=>by simp[sset,vk l i]
theorem dz(l:List S)(i:Nat)(r:S):(sset l i r).length=l.length:=by rw[vk];simp
theorem dc(l:List S)(i j:Nat)(r:S):bh (sset l i r) j=if j=i/\i<l.length then r else bh l j:=by
 grind[vk,fV]
theorem zM{l:List S}{i:Nat}(h:bh l i≠ .und):i<l.length:=by
 grind[fV]
def GR(a b:Bool):Bool:=a&&b
def Ji(a b:Bool):Bool:=a||b
def Es(a:Bool):Bool:= !a
def J3(c a b:Bool):Bool:=if c then a else b
def yz(a b:Bool):Bool:=a==b
def Ln(a b:Int):Bool:=decide (a<b)
def Lq(a b:Int):Bool:=decide (a<=b)
def vp(a b:Int):Bool:=decide (a=b)
def DM(a b:Int):Int:=if b<a then b else a
def imax(a b:Int):Int:=if a<b then b else a
def CM(a b:Key):Bool:=decide (a=b)
def wi(a b:cM):Bool:=decide (a=b)
def wO(a b:Bytes):Bool:=decide (a=b)
def Jl(a b:Obj):Bool:=decide (a=b)
def p9(a b:ByteArray):Bool:=decide (a=b)
def Hy(a b:Int):Int:=a+b
def sK(a b:Int):Int:=a-b
def Hw(a b:Int):Int:=a*b
def G8(a b:Int):Int:=a.tdiv b
def IE(a b:Int):Int:=a.tmod b
def gX(a:Int):Nat:=a.toNat
def cW(a:Nat):Int:=(a:Int)
def Ku(a:UInt8):Int:=(a.toNat:Int)
def JA(a:ByteArray):Int:=(a.size:Int)
def dI(k:IntKind)(n:Int):Prop:=bU k n
def GH(j:Int)(n:Nat):Prop:=0<=j/\j<(n:Int)
def AX(i n:Nat):Prop:=i<n
def En(b:Int):Prop:=b≠0
def bq:Option Prop->Prop
 |none=>True
 |some p=>p
def rV:Option Prop->Prop->Prop
 |none,k=>k
 |some p,k=>p/\k
def H5(g:Bool):Option Prop->Prop->Prop
 |none,k=>k
 |some p,k=>(g=true->p)/\k
theorem gm{q:Option Prop}{k:Prop}(h:rV q k):bq q/\k:=by cases q with
 |none=>exact⟨trivial,h⟩
 |some p=>exact h
theorem xt{g:Bool}{q:Option Prop}{k:Prop}(h:H5 g q k):(g=true->bq q)/\k:=by cases q with
 |none=>exact⟨fun _=>trivial,h⟩
 |some p=>exact h
def raw:S->Option Bool
 | .v (.cb b)=>some b
 | .v (.bo b)=>some b
 | .gv _ (.cb b)=>some b
 | .gv _ (.bo b)=>some b
 |_=>none
def gx(sl:List S):List (Nat×Bool)->Bool
 | []=>true
 | (s,w)::c=>match raw (bh sl s)with
   |some b=>match c with
    | []=>if w then b else Es b
    |_=>GR (if w then b else Es b) (gx sl c)
   |none=>false
def zg(ch:List (Nat×Bool))(s:Nat)(w:Bool):Bool:=ch.any fun p=>p.1==s&&p.2==w
def zd(a b:List (Nat×Bool)):Bool:=a.all fun p=>zg b p.1 p.2
theorem eg(sl:List S)(s:Nat)(w:Bool)(c:List (Nat×Bool)):gx sl ((s,w)::c)=((match raw (bh sl s)with|some b=>(if w then b else !b)|none=>false)&&gx sl c):=by
 grind[gx,raw,bh,GR,Es]
theorem qj(sl:List S)(ch:List (Nat×Bool)):gx sl ch=true↔ ∀p∈ch,raw (bh sl p.1)=some p.2:=by
 induction ch with
 |nil=>simp[gx]
 |cons p c ih=>
  obtain⟨s,w⟩:=p;rw[eg];simp only[ah,ih,List.mem_cons,forall_eq_or_imp];refine and_congr_left fun _=>?_
  cases raw (bh sl s)with
  |none=>simp
  |some b=>cases w<;>cases b<;>simp
theorem zu{sl:List S}{a b:List (Nat×Bool)}(h:zd a b=true)(hb:gx sl b=true):gx sl a=true:=by
 simp_all[qj,zd,zg]
def du(J:Env)(K:Nat->Prop)(sl:List S)(x:Value):S->Prop
 | .und=>True
 | .ud=>x=undef
 | .v y=>x=den J y/\ok K y
 | .gv ch y=>(gx sl ch=true->x=den J y/\ok K y)/\(gx sl ch=false->x=undef)
def er(J:Env)(K:Nat->Prop)(sl:List S)(a:Act):Prop:=
 a.tmps.size=sl.length/\∀t,du J K sl (a.tmps.getD t undef) (bh sl t)
theorem du.env{J ρ':Env}{K K':Nat->Prop}{sl:List S}{x:Value}{s:S}(h:du J K sl x s)(hK:∀i,K i->K' i)(ha:Env.agree K J ρ'):du ρ' K' sl x s:=by
 cases s with
 |und=>trivial
 |ud=>exact h
 |v y=>exact⟨by rw[cJ ha y h.2];exact h.1,bE hK y h.2⟩
 |gv ch y=>exact⟨fun hg=>⟨by rw[cJ ha y (h.1 hg).2];exact(h.1 hg).1,bE hK y (h.1 hg).2⟩,h.2⟩
theorem er.env{J ρ':Env}{K K':Nat->Prop}{sl:List S}{a:Act}(h:er J K sl a)(hK:∀i,K i->K' i)(ha:Env.agree K J ρ'):er ρ' K' sl a:=
 ⟨h.1,fun t=>(h.2 t).env hK ha⟩
def named(d:Nat)(ch:List (Nat×Bool)):Bool:=ch.any fun p=>p.1==d
def rX(d:Nat)(sl:List S):Bool:=sl.all fun s=>match s with| .gv ch _=> !named d ch|_=>true
theorem nc{sl:List S}{d:Nat}{s:S}{ch:List (Nat×Bool)}(h:named d ch=false):gx (sset sl d s) ch=gx sl ch:=by
 induction ch with
 |nil=>rfl
 |cons p c ih=>
  obtain⟨t,w⟩:=p;simp only[named,List.any_cons,Bool.or_eq_false_iff,beq_eq_false_iff_ne,ne_eq]at h;have h2:named d c=false:=h.2;rw[eg,eg,ih h2,dc,ar (fun hh=>h.1 hh.1)]
theorem xK{sl:List S}{d t:Nat}{ch:List (Nat×Bool)}{y:V}(h:rX d sl=true)(ht:bh sl t= .gv ch y):named d ch=false:=by
 have hlt:t<sl.length:=zM (by rw[ht];simp)
 rw[fV,aq,List.getElem?_eq_getElem hlt]at ht;simp only[Option.getD_some]at ht;have:=(List.all_eq_true.1 h) _ (List.getElem_mem hlt);rw[ht]at this;simpa using this
theorem er.put{J:Env}{K:Nat->Prop}{sl:List S}{a:Act}{d:Nat}{s:S}{x:Value}(h:er J K sl a)(hf:rX d sl=true)
  (hs:du J K (sset sl d s) x s):er J K (sset sl d s) (a.put (some d) x):=by
 refine⟨by simp[Act.put,dz,h.1],fun t=>?_⟩
 rw[dc];by_cases e:t=d/\d<sl.length
 ·rw[au e];obtain⟨rfl,hd⟩:=e
  have:(a.put (some t) x).tmps.getD t undef=x:=by
   simp[Act.put,h.1,hd]
  rw[this];exact hs
 ·rw[ar e]
  have hx:(a.put (some d) x).tmps.getD t undef=a.tmps.getD t undef:=by
   simp only[Act.put,Array.getD_eq_getD_getElem?,Array.getElem?_setIfInBounds];by_cases ed:d=t
   ·subst ed;have:¬d<sl.length:=fun hl=>e ⟨rfl,hl⟩
    simp[h.1,this]
   ·simp[ed]
  rw[hx];have:=h.2 t;cases hst:bh sl t with
  |und=>trivial
  |ud=>rw[hst]at this;exact this
  |v y=>rw[hst]at this;exact this
  |gv ch y=>
   rw[hst]at this;have hn:=xK hf hst;exact⟨fun hg=>this.1 (by rwa [nc hn]at hg),fun hg=>this.2 (by rwa [nc hn]at hg)⟩
def xI:Value->Option V
 | .bool b=>some (.cb b)
 | .int k n=>if bU k n then some (.ci k n)else none
 | .string s=>some (.st s)
 | .pointer none=>some (.nl (.pointer none))
 | .slice none 0 0=>some (.nl (.slice none 0 0))
 | .map none=>some (.nl (.map none))
 | .nilFunc=>some (.nl .nilFunc)
 | .nilIface=>some (.nl .nilIface)
 |_=>none
theorem xa{c:Value}{x:V}(J:Env)(K:Nat->Prop)(h:xI c=some x):c=den J x/\ok K x:=by
 unfold xI at h;split at h
 ·simp only[aa]at h;subst h;exact⟨rfl,trivial⟩
 ·split at h
  ·simp only[aa]at h;subst h;exact⟨rfl,by assumption⟩
  ·simp at h
 ·simp only[aa]at h;subst h;exact⟨rfl,trivial⟩
 ·simp only[aa]at h;subst h;exact⟨rfl,rfl⟩
 ·simp only[aa]at h;subst h;exact⟨rfl,rfl⟩
 ·simp only[aa]at h;subst h;exact⟨rfl,rfl⟩
 ·simp only[aa]at h;subst h;exact⟨rfl,rfl⟩
 ·simp only[aa]at h;subst h;exact⟨rfl,rfl⟩
 ·simp at h
def bS(sl:List S)(ch:List (Nat×Bool)):Operand->Option V
 | .tmp t=>match bh sl t with
   | .v x=>some x
   | .gv c x=>if zd c ch then some x else none
   |_=>none
 | .const v=>xI v
 | .func f=>if Nat.blt f 2000 then some (.fn f [])else none
 | .global _=>none
theorem dv{J:Env}{K:Nat->Prop}{sl:List S}{a:Act}{ch:List (Nat×Bool)}{o:Operand}{x:V}(h:er J K sl a)(hg:gx sl ch=true)
  (ho:bS sl ch o=some x):a.eval o=den J x/\ok K x:=by
 cases o with
 |tmp t=>
  simp only[bS]at ho;have ht:=h.2 t;cases hs:bh sl t with
  |und=>simp[hs]at ho
  |ud=>simp[hs]at ho
  |v y=>
   simp only[hs,aa]at ho;subst ho;rw[hs]at ht;exact ht
  |gv c y=>
   simp only[hs]at ho;split at ho
   ·rename_i hc;simp only[aa]at ho;subst ho;rw[hs]at ht;exact ht.1 (zu hc hg)
   ·simp at ho
 |const v=>exact xa J K ho
 |func f=>
  simp only[bS]at ho;split at ho
  ·rename_i hlo;simp only[aa]at ho;subst ho;exact⟨by simp[Act.eval,den,aV,r9 hlo],trivial⟩
  ·simp at ho
 |global g=>simp[bS]at ho
def gz(sl:List S)(ch:List (Nat×Bool)):List Operand->Option (List V)
 | []=>some []
 |o::l=>match bS sl ch o,gz sl ch l with
  |some x,some xs=>some (x::xs)
  |_,_=>none
theorem di{J:Env}{K:Nat->Prop}{sl:List S}{a:Act}{ch:List (Nat×Bool)}(h:er J K sl a)(hg:gx sl ch=true):
  ∀{l:List Operand} {xs:List V},gz sl ch l=some xs->l.map a.eval=aV J xs/\cm K xs
 | [],xs,ho=>by simp only[gz,aa]at ho;subst ho;exact⟨rfl,trivial⟩
 |o::l,xs,ho=>by
  simp only[gz]at ho;split at ho
  ·rename_i x ys hx hl;simp only[aa]at ho;subst ho;obtain⟨h1,h2⟩:=dv h hg hx;obtain⟨h3,h4⟩:=di h hg hl;exact⟨by simp[h1,h3,aV],h2,h4⟩
  ·simp at ho
def lM(sl:List S)(ops:List Oper):Option (Nat×Bool)->Option (Option (List (Nat×Bool)))
 |none=>some (some [])
 |some (j,w)=>match (ops[j]?).bind (·.dst)with
  |none=>none
  |some s=>match bh sl s with
   | .ud=>some none
   | .v (.cb b)=>if b==w then some (some [])else some none
   | .v (.bo _)=>some (some [(s,w)])
   | .gv c (.bo _)=>some (some ((s,w)::c))
   | .gv c (.cb b)=>if b==w then some (some c)else some none
   |_=>none
def p6(sl:List S):Option (List (Nat×Bool))->Bool
 |none=>false
 |some ch=>gx sl ch
theorem gC{J:Env}{K:Nat->Prop}{sl:List S}{a:Act}{ops:Array Oper}{o:Oper}{r:Option (List (Nat×Bool))}(h:er J K sl a)
  (hc:lM sl ops.toList o.guard=some r):Region.wanted o (yielded ops a.tmps)=p6 sl r:=by
 unfold Region.wanted;cases hg:o.guard with
 |none=>rw[hg]at hc;simp only[lM,aa]at hc;subst hc;rfl
 |some jw=>
  obtain⟨j,w⟩:=jw;rw[hg]at hc;simp only[lM,Array.getElem?_toList]at hc;simp only[yielded];cases hs:(ops[j]?).bind (·.dst)with
  |none=>simp[hs]at hc
  |some s=>
   simp only[hs,Option.bind_some]at hc⊢;have hsl:=h.2 s
   have hval:∀x,bh sl s≠ .und->a.tmps.getD s undef=x->a.tmps[s]? =some x:=fun x hne hx=>by
    have:=zM hne;rw[<-h.1]at this;rw[Array.getD_eq_getD_getElem?,Array.getElem?_eq_getElem this]at hx;rw[Array.getElem?_eq_getElem this];simpa using hx
   cases hss:bh sl s with
   |und=>simp[hss]at hc
   |ud=>
    rw[hss]at hsl hc;simp only[aa]at hc;subst hc;rw[hval _ (by rw[hss];simp) hsl]
    simp[undef,p6]
   |v y=>
    rw[hss]at hsl hc;rw[hval _ (by rw[hss];simp) hsl.1]
    cases y<;>simp only[reduceCtorEq]at hc
    ·grind[den,p6,gx]
    ·grind[den,p6,eg,raw,gx]
   |gv c y=>
    rw[hss]at hsl hc;obtain⟨h1,h3⟩:=hsl;cases y<;>simp only[reduceCtorEq]at hc
    ·rename_i b;cases hgc:gx sl c with
     |true=>
      rw[hval _ (by rw[hss];simp) (h1 hgc).1]
      simp only[den];clear hval;split at hc<;>simp only[aa]at hc<;>subst hc<;>rename_i hb
      ·simpa[p6,hgc]using hb
      ·simpa[p6]using hb
     |false=>
      rw[hval _ (by rw[hss];simp) (h3 hgc)]
      split at hc<;>simp only[aa]at hc<;>subst hc<;>simp[undef,hgc,p6]
    ·rename_i b;simp only[aa]at hc;subst hc;simp only[p6];rw[eg];simp only[hss,raw];cases hgc:gx sl c with
     |true=>
      rw[hval _ (by rw[hss];simp) (h1 hgc).1]
      simp only[den];cases w<;>cases b<;>rfl
     |false=>
      rw[hval _ (by rw[hss];simp) (h3 hgc)]
      simp[undef]
def clean:List S->List S
 | []=> []
 | .v x::l=> .v x::clean l
 |_::l=> .und::clean l
theorem fh:∀(l:List S) (t:Nat),bh (clean l) t=match bh l t with| .v x=> .v x|_=> .und
 | [],t=>by simp[clean,bh]
 |s::l,0=>by cases s<;>simp[clean,bh]
 |s::l,t+1=>by cases s<;>simp[clean,bh,fh l t]
theorem eL:∀(l:List S),(clean l).length=l.length
 | []=>rfl
 |s::l=>by cases s<;>simp[clean,eL l]
theorem er.clean{J:Env}{K:Nat->Prop}{sl:List S}{a:Act}(h:er J K sl a):er J K (clean sl) a:=by
 refine⟨by rw[eL];exact h.1,fun t=>?_⟩
 rw[fh];have:=h.2 t;split
 ·rename_i x hx;rw[hx]at this;exact this
 ·trivial
section runs
variable {P:Program}
def fM(P:Program)(t:Nat):Option Bool:=
 match P.underlying t with
 |some (.struct _)=>some true
 |some (.array _ _)=>some true
 |some _=>some false
 |none=>none
def iz(P:Program)(t:Nat):Option Nat:=(P.info? t).map (·.size)
theorem aT{t:Nat}{d:TypeDesc}(w:World)(h:P.underlying t=some d):(underlying t).run P w= .ok d w:=by
 simp[underlying,h]
theorem lT{t:Nat}{b:Bool}(w:World)(h:fM P t=some b):(Go.isAgg t).run P w= .ok b w:=by
 unfold fM at h;unfold Go.isAgg;split at h<;>simp only[aa,reduceCtorEq]at h<;>subst h
 ·rename_i hu;simp[aT w hu]
 ·rename_i hu;simp[aT w hu]
 ·simp_all[aT]
theorem cE{t n:Nat}(w:World)(h:iz P t=some n):(sizeOf t).run P w= .ok n w:=by
 unfold iz at h;cases hi:P.info? t with
 |none=>simp[hi]at h
 |some i=>
  simp only[hi,Option.map_some,aa]at h;simp[sizeOf,typeInfo,hi,h]
theorem add_lit(b o n:Nat):Addr.add ⟨b,o,none⟩ n=⟨b,o+n,none⟩:=by unfold Addr.add;split<;>simp_all
theorem dQ{J:Env}{K:Nat->Prop}{t b off:Nat}{r:V}(w:World)(hr:ok K r)(ht:bp r=false)(ha:fM P t=some (eC r))(hs:iz P t=some (bP r))
  (hc:∀k,k<bP r->w.cell? ⟨b,off+k,none⟩=(cells J r)[k]?):(loadVar t ⟨b,off,none⟩).run P w= .ok (den J r) w:=by
 have hl:=aO J r hr;unfold loadVar;rw[Sem.run_bind,lT w ha,gD J hr ht];cases hag:Sx.eC r with
 |true=>
  have:=run_loadCells_list (P:=P) w ⟨b,off,none⟩ (cells J r) (fun j v hv=>by
   have hj:j<bP r:=by
    rw[<-hl];exact(List.getElem?_eq_some_iff.1 hv).1
   rw[add_lit,hc j hj,hv])
  rw[hl]at this;simp[cE w hs,this,eA]
 |false=>
  have h1:bP r=1:=by
   grind[iT,cells,bM]
  have h0:=hc 0 (by omega)
  simp only[Nat.add_zero]at h0
  have:(cells J r)[0]? =some ((cells J r).getD 0 undef):=by
   simp_all
  simp only[Result.andThen_ok,Bool.false_eq_true,if_false,run_load];rw[h0,this];rfl
theorem dX{α:Type}(p m q:List α)(k:Nat)(hk:k<m.length):(p++m++q)[p.length+k]? =m[k]? :=by
 grind
theorem iZ{J:Env}{K:Nat->Prop}{t b off ty:Nat}{c r:V}(w:World)(hr:ok K r)(ht:bp r=false)(ha:fM P t=some (eC r))(hs:iz P t=some (bP r))
  (hb:w.heap[b]? =some (.cells (cells J c).toArray ty (0,0))) (hp:∃p q,cells J c=p++cells J r++q/\off=p.length):(loadVar t ⟨b,off,none⟩).run P w= .ok (den J r) w:=by
 obtain⟨p,q,e1,rfl⟩:=hp;refine dQ w hr ht ha hs fun k hk=>?_
 have hl:=aO J r hr;rw[cell_of_row w b _ _ _ _ hb];simp only[List.getElem?_toArray,e1];exact dX p _ q k (by omega)
end runs
mutual
theorem c9(J:Env){K:Nat->Prop}:∀v,ok K v->bp v=false->∀x∈cells J v,x.oneCell'=true
 | .ag l,hv,_,x,hx=>kZ J l hv.1 hv.2 x (by rwa [bI]at hx)
 | .key k,_,_,x,hx=>by
   rw[mf]at hx;simp only[bK,List.mem_cons,List.not_mem_nil,or_false,i64]at hx;rcases hx with rfl|rfl|rfl|rfl|rfl|rfl<;>rfl
 | .sl s,_,_,x,hx=>by
   rw[iy]at hx;simp only[dp,List.mem_flatMap,bK,List.mem_cons,List.not_mem_nil,or_false,i64]at hx;obtain⟨i,_,hx⟩:=hx;rcases hx with rfl|rfl|rfl|rfl|rfl|rfl<;>rfl
 | .by b,_,_,x,hx=>by
   rw[e9]at hx;simp only[bF,List.mem_map]at hx;obtain⟨i,_,rfl⟩:=hx;rfl
 | .ob o,_,_,x,hx=>by
   rw[eY]at hx;simp only[b9,List.mem_cons,List.mem_append,dp,List.mem_flatMap,bF,List.mem_map,bK,i64,List.not_mem_nil,or_false]at hx;rcases hx with rfl|rfl|rfl|⟨i,_,hx⟩|⟨i,_,rfl⟩
   ·rfl
   ·rfl
   ·rfl
   ·rcases hx with rfl|rfl|rfl|rfl|rfl|rfl<;>rfl
   ·rfl
 | .tp l,_,h,_,_=>by simp[bp]at h
 | .mp id,_,_,x,hx=>by
   simp only[cells,den,Value.cells,List.mem_singleton]at hx;subst hx;rfl
 | .fn f l,hv,_,x,hx=>by
   simp_all[cells,den,bM,iM]
 | .ch b f l y,hv,_,x,hx=>by
   have h1:(den J (.ch b f l y)).oneCell'=true:=iT J (.ch b f l y) hv rfl rfl;simp only[cells,bM h1,List.mem_singleton]at hx;subst hx;exact h1
 | .bs y lo hi,hv,_,x,hx=>by
   simp_all[cells,den,bM,o8]
 | .ks y e n lo hi,hv,_,x,hx=>by
   simp_all[cells,den,bM,pn]
 | .vw _ _ _ _,hv,_,x,hx=>by
   simp only[cells,den,wb,Value.cells,List.mem_singleton]at hx;subst hx;rfl
 | .nl v,hv,_,x,hx=>by
   simp only[cells,den,bM hv,List.mem_singleton]at hx;subst hx;exact hv
 | .cb _,_,_,x,hx| .bo _,_,_,x,hx| .ci _ _,_,_,x,hx| .it _ _,_,_,x,hx| .bt _,_,_,x,hx| .st _,_,_,x,hx| .lp _ _,_,_,x,hx| .lx _ _ _ _ _ _,_,_,x,hx
 | .sc _ _ _,_,_,x,hx| .so _ _,_,_,x,hx| .ap _ _ _ _,_,_,x,hx| .sa _,_,_,x,hx| .op _ _,_,_,x,hx| .yl _,_,_,x,hx| .ic _ _,_,_,x,hx| .ax _ _ _ _ _ _ _ _,_,_,x,hx=>by
   simp only[cells,den,Value.cells,List.mem_singleton]at hx;subst hx;rfl
theorem kZ(J:Env){K:Nat->Prop}:∀l,cm K l->oE l->∀x∈aR J l,x.oneCell'=true
 | [],_,_,x,hx=>by simp[aR]at hx
 |y::l,hv,hc,x,hx=>by
  simp only[aR,List.mem_append]at hx;rcases hx with hx|hx
  ·exact c9 J y hv.1 ((bX _).1 hc y (by simp)) x hx
  ·exact kZ J l hv.2 ((bX _).2 fun z hz=>(bX _).1 hc z (by simp[hz])) x hx
end
section stores
variable {P:Program}
theorem setRow_other(w:World)(g:Nat)(cs:Array Value)(b:Nat)(h:b≠g):(w.setRow g cs).heap[b]? =w.heap[b]? :=by
 simp only[World.setRow,Array.getElem?_modify];rw[ar (Ne.symm h)]
theorem sr{J:Env}{K:Nat->Prop}{t b off ty:Nat}{c c' y:V}(w:World)(hy:ok K y)(ht:bp y=false)(hs:iz P t=some (bP y))
  (hb:w.heap[b]? =some (.cells (cells J c).toArray ty (0,0))) (hp:zX K J c c' off y):
  (storeVar t ⟨b,off,none⟩ (den J y)).run P w= .ok () (w.setRow b (cells J c').toArray):=by
 obtain⟨⟨p,m,q,e1,e2,rfl,e4⟩,_⟩:=hp;have hl:=aO J y hy;have hz:(den J y).cells.size=bP y:=by rw[<-hl];simp[cells]
 have hst:=run_storeCells_at (P:=P) b p.length ty (cells J y) 0 (cells J c).toArray w hb (by simp[e1];omega) (c9 J y hy ht)
 simp only[Nat.add_zero]at hst;simp only[storeVar,Sem.run_bind,cE w hs,Result.andThen_ok,hz,ne_eq,not_true_eq_false,if_false];rw[show(den J y).cells.toList=cells J y from rfl,hst];congr 3
 rw[e2];simp only[e1]
 rw[show List.take p.length (p++m++q)=p by simp,show List.drop (p.length+(cells J y).length) (p++m++q)=q by
  rw[hl,<-e4,<-List.length_append,List.drop_left]]
end stores
end Go.Sx
