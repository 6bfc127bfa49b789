import Derived.WalkKit
import Derived.Laws.OwnMore
set_option linter.unusedSimpArgs false
set_option linter.unusedVariables false
namespace Go.Sx
theorem UQ {α : Type _} (a b : α) : (some a = some b) = (a = b):=Option.some.injEq a b
theorem UR {α β : Type _} (a : α) (b : β) (c : α) (d : β) : ((a, b) = (c, d)) = (a = c ∧ b = d):=Prod.mk.injEq a b c d
theorem US (a b : Bool) : ((a && b) = true) = (a = true ∧ b = true):=Bool.and_eq_true a b
theorem UT {p : Prop} [Decidable p] : (decide p = true) = p:=decide_eq_true_eq
theorem UU {α : Type _} [BEq α] [LawfulBEq α] {a b : α} : (a == b) = true ↔ a = b:=beq_iff_eq
theorem UW {p : Prop} [Decidable p] : decide p = false → ¬p:=of_decide_eq_false
theorem UX {p : Prop} [Decidable p] : decide p = true → p:=of_decide_eq_true
theorem UY {α : Type _} {l : List α} {i : Nat} {a : α} : l.getD i a = l[i]?.getD a:=List.getD_eq_getElem?_getD
theorem UZ {c : Prop} {h : Decidable c} (hc : ¬c) {α : Sort _} {t e : α} : ite c t e = e:=if_neg hc
theorem U0 {c : Prop} {h : Decidable c} (hc : c) {α : Sort _} {t e : α} : ite c t e = t:=if_pos hc
end Go.Sx
namespace Go.Sx
structure Key where
 kind:Int
 oid:Int
 count:Int
 call:Int
 rights:Int
 value:Int
 deriving DecidableEq,Inhabited
abbrev bN:=Vector Key 16
abbrev Bytes:=Vector UInt8 64
def void:Key:=⟨0,0,0,0,0,0⟩
def bN.at (s:bN) (i:Nat):Key:=s.toArray.getD i void
def bN.put (s:bN) (i:Nat) (k:Key):bN:=s.setIfInBounds i k
def Bytes.at (s:Bytes) (i:Nat):UInt8:=s.toArray.getD i 0
def Bytes.put (s:Bytes) (i:Nat) (k:UInt8):Bytes:=s.setIfInBounds i k
structure Obj where
 kind:Int
 count:Int
 calls:Int
 slots:bN
 bytes:Bytes
 deriving DecidableEq
def fT:bN:=Vector.replicate 16 void
def ej:Bytes:=Vector.replicate 64 0
def free:Obj:=⟨0,0,0,fT,ej⟩
instance:Inhabited Obj:=⟨free⟩
def i64 (n:Int):Value:= .int .i64 n
def c9 (k:Key):List Value:= [i64 k.kind,i64 k.oid,i64 k.count,i64 k.call,i64 k.rights,i64 k.value]
def eY (s:bN):List Value:=(List.range 16).flatMap fun i=>c9 (s.at i)
def bV (s:Bytes):List Value:=(List.range 64).map fun i=> .int .u8 ((s.at i).toNat:Int)
def dD (o:Obj):List Value:=i64 o.kind::i64 o.count::i64 o.calls::(eY o.slots++bV o.bytes)
inductive V where
 |cb (b:Bool)|bo (b:Bool)
 |ci (k:IntKind) (n:Int)|it (k:IntKind) (n:Int)|bt (b:UInt8)
 |st (s:ByteArray)
 |nl (v:Value)
 |lp (id off:Nat)
 |lx (id off esz n i inner:Nat)
 |sc (id len cap:Nat)
 |so (id len:Nat)
 |ap (id esz i off:Nat)
 |sa (id:Nat)
 |op (id i:Nat)
 |yl (id:Nat)
 |fn (f:Nat) (l:List V)
 |ic (t:Nat) (x:V)
 |ag (l:List V)|tp (l:List V)
 |key (k:Key)|sl (s:bN)|by(b:Bytes)|ob (o:Obj)
 |mp (id:Nat)
 |ch (b:Bool) (f:Nat) (l:List V) (y:V)
 |ax (id esz k off sz n i inner:Nat)
 |bs (x:V) (lo hi:Nat)
 |ks (x:V) (e n lo hi:Nat)
structure Env where
 num:Nat->Nat
 cap:Nat->Nat
 adr:Nat->Addr
 sa:Nat->Option Addr
 sn:Nat->Nat
 ob:Nat->Nat->Nat
def b7:IntKind->Int->Prop
 | .i8,n=> -128<=n/\n<=127
 | .i16,n=> -32768<=n/\n<=32767
 | .i32,n=> -2147483648<=n/\n<=2147483647
 | .i64,n=> -9223372036854775808<=n/\n<=9223372036854775807
 | .u8,n=>0<=n/\n<=255
 | .u16,n=>0<=n/\n<=65535
 | .u32,n=>0<=n/\n<=4294967295
 | .u64,n=>0<=n/\n<=18446744073709551615
instance (k:IntKind) (n:Int):Decidable (b7 k n):=by cases k<;>unfold b7<;>infer_instance
def Key.wf (k:Key):Prop:=b7 .i64 k.kind/\b7 .i64 k.oid/\b7 .i64 k.count/\b7 .i64 k.call/\b7 .i64 k.rights/\b7 .i64 k.value
def bN.wf (s:bN):Prop:=∀i,i<16->(s.at i).wf
def Obj.wf (o:Obj):Prop:=b7 .i64 o.kind/\b7 .i64 o.count/\b7 .i64 o.calls/\o.slots.wf
def ui (v:Value) (lo hi:Nat):Value:=
 match v with
 | .pointer (some a)=> .slice (some (if lo=64 then a else a.add lo)) (hi-lo) (64-lo)
 |_=> .slice none 0 0
def tO (v:Value) (e n lo hi:Nat):Value:=
 match v with
 | .pointer (some a)=> .slice (some (if lo=n then a else a.add (lo*e))) (hi-lo) (n-lo)
 |_=> .slice none 0 0
theorem pS (v:Value) (e n lo hi:Nat):(tO v e n lo hi).oneCell'=true:=by
 unfold tO;split<;>rfl
theorem pz (v:Value) (lo hi:Nat):(ui v lo hi).oneCell'=true:=by
 unfold ui;split<;>rfl
def BZ (f:Nat) (l:List Value):Value:=if Nat.blt f 2000 then .func (.func f) #[] l.toArray else .func (.func (f-2000)) l.toArray #[]
theorem kX (f:Nat) (l:List Value):(BZ f l).oneCell'=true:=by unfold BZ;split<;>rfl
theorem Iy (f:Nat) (l:List Value):∃g b c,BZ f l= .func (.func g) b c:=by unfold BZ;split<;>exact⟨_,_,_,rfl⟩
def B0 (f:Nat):Nat:=if Nat.blt f 2000 then f else f-2000
def MP {α:Type} (f:Nat) (vs caps:List α):List α:=if Nat.blt f 2000 then vs++caps else caps++vs
theorem vA {f:Nat} {l:List Value} (h:Nat.blt f 2000=true):BZ f l= .func (.func f) #[] l.toArray:=by unfold BZ;rw[U0 h]
mutual
def den (J:Env):V->Value
 | .cb b=> .bool b
 | .bo b=> .bool b
 | .ci k n=> .int k n
 | .it k n=> .int k n
 | .bt b=> .int .u8 (b.toNat:Int)
 | .st s=> .string s
 | .nl v=>v
 | .lp id off=> .pointer (some ⟨J.num id,off,none⟩)
 | .lx id off esz _ i inner=> .pointer (some ⟨J.num id,off+i*esz+inner,none⟩)
 | .sc id len cap=> .slice (some ⟨J.num id,0,none⟩) len cap
 | .so id len=> .slice (some ⟨J.num id,0,none⟩) len (J.cap id)
 | .ap id esz i off=> .pointer (some ⟨(J.adr id).block,(J.adr id).off+(i*esz+off),none⟩)
 | .ax id esz k off sz _ i inner=> .pointer (some ⟨(J.adr id).block,(J.adr id).off+(k*esz+(off+i*sz+inner)),none⟩)
 | .sa id=> .slice (J.sa id) (J.sn id) (J.cap id)
 | .op id i=> .pointer (some ⟨J.ob id i,0,none⟩)
 | .yl id=> .func (.yield (J.num id)) #[] #[]
 | .fn f l=>BZ f (ba J l)
 | .ic t x=> .iface t (den J x)
 | .ag l=> .agg (aT J l).toArray
 | .tp l=> .tuple (ba J l).toArray
 | .key k=> .agg (c9 k).toArray
 | .sl s=> .agg (eY s).toArray
 | .by b=> .agg (bV b).toArray
 | .ob o=> .agg (dD o).toArray
 | .mp id=> .map (some (J.num id))
 | .bs x lo hi=>ui (den J x) lo hi
 | .ks x e n lo hi=>tO (den J x) e n lo hi
 | .ch b f l y=>match b with
   |true=>BZ f (ba J l)
   |false=>den J y
def ba (J:Env):List V->List Value
 | []=> []
 |x::l=>den J x::ba J l
def aT (J:Env):List V->List Value
 | []=> []
 |x::l=>(den J x).cells.toList++aT J l
end
def cells (J:Env) (v:V):List Value:=(den J v).cells.toList
def gZ:V->Bool
 | .ag _| .key _| .sl _| .by _| .ob _=>true
 |_=>false
mutual
def dH:V->Nat
 | .ag l=>C7 l
 | .key _=>6
 | .sl _=>96
 | .by _=>64
 | .ob _=>163
 |_=>1
def C7:List V->Nat
 | []=>0
 |x::l=>dH x+C7 l
end
mutual
def ok (N:Nat->Prop):V->Prop
 | .nl v=>v.oneCell'=true
 | .ci k n=>b7 k n
 | .it k n=>b7 k n
 | .key k=>k.wf
 | .sl s=>s.wf
 | .ob o=>o.wf
 | .lp id _=>N id
 | .lx id _ _ n i _=>N id/\i<n
 | .sc id _ _=>N id
 | .so id _=>N id
 | .ap id _ _ _=>N id
 | .ax id _ _ _ _ n i _=>N id/\i<n
 | .sa id=>N id
 | .op id _=>N id
 | .yl id=>N id
 | .fn _ l=>eF N l
 | .ic _ x=>ok N x
 | .ag l=>eF N l/\qu l
 | .tp l=>eF N l
 | .mp id=>N id
 | .bs x lo hi=>ok N x/\lo<=hi/\hi<=64
 | .ks x _ n lo hi=>ok N x/\lo<=hi/\hi<=n
 | .ch _ _ l y=>eF N l/\ok N y/\∀J:Env,(den J y).oneCell'=true
 |_=>True
def eF (N:Nat->Prop):List V->Prop
 | []=>True
 |x::l=>ok N x/\eF N l
def qu:List V->Prop
 | []=>True
 |x::l=>(match x with| .tp _=>False|_=>True)/\qu l
end
variable {N:Nat->Prop}
section lists
variable (J:Env)
theorem gX (l:List V):ba J l=l.map (den J):=by
 induction l with
 |nil=>simp[ba]
 |cons x l ih=>simp[ba,ih]
theorem sU (l:List V):aT J l=l.flatMap (cells J):=by
 induction l with
 |nil=>simp[aT]
 |cons x l ih=>simp[aT,ih,cells]
theorem fR (l:List V):eF N l↔ ∀x∈l,ok N x:=by
 induction l with
 |nil=>simp[eF]
 |cons x l ih=>simp[eF,ih]
end lists
def bK:V->Bool
 | .tp _=>true
 |_=>false
theorem cG (l:List V):qu l↔ ∀x∈l,bK x=false:=by
 induction l with
 |nil=>simp[qu]
 |cons x l ih=>
  simp only[qu,ih,List.mem_cons,forall_eq_or_imp];refine and_congr_left fun _=>?_
  cases x<;>simp[bK]
theorem kr (k:Key):(c9 k).length=6:=rfl
theorem fY (s:bN):(eY s).length=96:=by
 simp[eY,kr,List.range,List.range.loop]
theorem dY (s:Bytes):(bV s).length=64:=by simp[bV]
theorem lD (s:Obj):(dD s).length=163:=by simp[dD,fY,dY]
theorem cI {v:Value} (h:v.oneCell'=true):v.cells= #[v]:=by
 cases v<;>simp_all[Value.oneCell',Value.cells]
theorem mo (J:Env):∀v,ok N v->gZ v=false->bK v=false->(den J v).oneCell'=true:=by
 intro v h h1 h2;cases v<;>try(simp_all[gZ,bK,den,Value.oneCell',ok];done)
 ·exact kX _ _
 ·rename_i b f l y;cases b
  ·exact h.2.2 J
  ·exact kX _ _
 ·exact pz _ _ _
 ·exact pS _ _ _ _ _
mutual
theorem aR (J:Env):∀v,ok N v->(cells J v).length=dH v
 | .ag l,h=>by
   simp only[ok]at h;simpa[cells,den,Value.cells,dH]using qq J l h.1
 | .tp l,_=>by simp[cells,den,Value.cells,dH]
 | .key k,_=>by simp[cells,den,Value.cells,dH,kr]
 | .sl k,_=>by simp[cells,den,Value.cells,dH,fY]
 | .by k,_=>by simp[cells,den,Value.cells,dH,dY]
 | .ob k,_=>by simp[cells,den,Value.cells,dH,lD]
 | .nl v,h=>by simp only[ok]at h;simp[cells,den,cI h,dH]
 | .cb _,_| .bo _,_| .ci _ _,_| .it _ _,_| .bt _,_| .st _,_| .lp _ _,_| .lx _ _ _ _ _ _,_| .sc _ _ _,_| .so _ _,_
 | .ap _ _ _ _,_| .sa _,_| .op _ _,_| .yl _,_| .ic _ _,_| .mp _,_| .ax _ _ _ _ _ _ _ _,_=>by simp[cells,den,Value.cells,dH]
 | .fn _ _,_=>by simp[cells,den,cI (kX _ _),dH]
 | .bs x lo hi,h=>by simp[cells,den,cI (pz _ _ _),dH]
 | .ks x e n lo hi,h=>by simp[cells,den,cI (pS _ _ _ _ _),dH]
 | .ch b f l y,h=>by
   have:(den J (.ch b f l y)).oneCell'=true:=by
    cases b
    ·exact h.2.2 J
    ·exact kX _ _
   simp[cells,cI this,dH]
theorem qq (J:Env):∀l,eF N l->(aT J l).length=C7 l
 | [],_=>by simp[aT,C7]
 |x::l,h=>by
  simp only[eF]at h;have h1:=aR J x h.1;have h2:=qq J l h.2;simp only[cells]at h1;simp only[aT,List.length_append,C7];omega
end
def parts:V->Option (List V)
 | .ag l=>some l
 | .key k=>some [.it .i64 k.kind,.it .i64 k.oid,.it .i64 k.count,.it .i64 k.call,.it .i64 k.rights,.it .i64 k.value]
 | .sl s=>some ((List.range 16).map fun i=> .key (s.at i))
 | .by b=>some ((List.range 64).map fun i=> .bt (b.at i))
 | .ob o=>some [.it .i64 o.kind,.it .i64 o.count,.it .i64 o.calls,.sl o.slots,.by o.bytes]
 |_=>none
theorem EZ (J:Env) {v:V} {l:List V} (h:parts v=some l):den J v= .agg (aT J l).toArray:=by
 cases v<;>simp[parts]at h<;>subst h
 ·simp[den]
 ·simp[den,aT,Value.cells,c9,i64]
 ·simp only[den,sU,cells,List.flatMap_map,Value.cells,eY]
 ·simp only[den,sU,cells,List.flatMap_map,Value.cells,bV,<-List.map_eq_flatMap]
 ·simp[den,aT,Value.cells,dD,i64]
theorem IP {v:V} {l:List V} (h:parts v=some l) (hv:ok N v):eF N l/\qu l:=by
 cases v<;>simp[parts]at h<;>subst h
 ·exact hv
 ·obtain⟨h1,h2,h3,h4,h5,h6⟩:=hv;simp[eF,qu,ok,h1,h2,h3,h4,h5,h6]
 ·simp only[fR,cG,List.mem_map,List.mem_range];exact⟨by rintro x ⟨i,hi,rfl⟩;exact hv i hi,by rintro x ⟨i,hi,rfl⟩;rfl⟩
 ·simp[fR,cG,ok,bK]
 ·obtain⟨h1,h2,h3,h4⟩:=hv;simp[eF,qu,ok,h1,h2,h3,h4]
def find:List V->Nat->Option (V×Nat)
 | [],_=>none
 |x::l,off=>if off<dH x then some (x,off)else find l (off-dH x)
def ga:Nat->V->Nat->Nat->Bool->Option V
 |0,_,_,_,_=>none
 |f+1,v,off,n,a=>
  if off==0&&n==dH v&&a==gZ v then some v
  else match parts v with
   |none=>none
   |some l=>match find l off with
    |none=>none
    |some (x,o)=>ga f x o n a
def gP (a:Bool) (cs:List Value):Value:=if a then .agg cs.toArray else cs.getD 0 undef
theorem find_spec (J:Env):∀(l:List V) (off:Nat) (x:V) (o:Nat),eF N l->qu l->find l off=some (x,o)->
  ∃p q,aT J l=p++cells J x++q/\off=p.length+o/\o<dH x/\ok N x/\bK x=false
 | [],_,_,_,_,_,h=>by simp[find]at h
 |y::l,off,x,o,hk,hc,h=>by
  simp only[eF]at hk;rw[cG]at hc;simp only[find]at h;split at h
  ·rename_i hlt;simp only[UQ,UR]at h;obtain⟨rfl,rfl⟩:=h;exact⟨[],aT J l,by simp[aT,cells],by simp,hlt,hk.1,hc _ (by simp)⟩
  ·rename_i hlt;obtain⟨p,q,h1,h2,h3⟩:=find_spec J l _ x o hk.2 ((cG l).2 fun z hz=>hc z (by simp[hz])) h
   have hl:=aR J y hk.1;exact⟨cells J y++p,q,by simp[aT,h1,cells],by simp;omega,h3⟩
theorem kL (J:Env) {v:V} (hv:ok N v) (ht:bK v=false):den J v=gP (gZ v) (cells J v):=by
 cases h:gZ v with
 |true=>cases v<;>simp_all[gZ,gP,cells,den,Value.cells]
 |false=>
  have:=mo J v hv h ht;simp[gP,cells,cI this]
theorem dI (J:Env):∀(f:Nat) (v:V) (off n:Nat) (a:Bool) (r:V),ok N v->bK v=false->ga f v off n a=some r->
  (∃p q,cells J v=p++cells J r++q/\off=p.length)/\dH r=n/\gZ r=a/\ok N r/\bK r=false
 |0,_,_,_,_,_,_,_,h=>by simp[ga]at h
 |f+1,v,off,n,a,r,hv,ht,h=>by
  simp only[ga]at h;split at h
  ·rename_i hc;simp only[US,UU]at hc;obtain⟨⟨h1,h2⟩,h3⟩:=hc;simp only[UQ]at h;subst h;exact⟨⟨[],[],by simp,by simpa using h1⟩,h2.symm,h3.symm,hv,ht⟩
  ·cases hp:parts v with
   |none=>simp[hp]at h
   |some l=>
    simp only[hp]at h;cases hf:find l off with
    |none=>simp[hf]at h
    |some xo=>
     obtain⟨x,o⟩:=xo;simp only[hf]at h;obtain⟨hl,hlc⟩:=IP hp hv;obtain⟨p,q,h1,h2,h3,h4,h4'⟩:=find_spec J l off x o hl hlc hf;obtain⟨⟨p',q',h5,h6⟩,h7⟩:=dI J f x o n a r h4 h4' h;refine⟨⟨p++p',q'++q,?_,by simp;omega⟩,h7⟩
     rw[cells,EZ J hp];simp[Value.cells,h1,h5]
mutual
theorem cH {M:Nat->Prop} (hM:∀i,N i->M i):∀v,ok N v->ok M v
 | .lp _ _,h| .sc _ _ _,h| .so _ _,h| .ap _ _ _ _,h| .sa _,h| .op _ _,h| .yl _,h| .mp _,h=>hM _ h
 | .ch _ _ l y,h=>⟨bX hM l h.1,cH hM y h.2.1,h.2.2⟩
 | .lx _ _ _ _ _ _,h=>⟨hM _ h.1,h.2⟩
 | .ax _ _ _ _ _ _ _ _,h=>⟨hM _ h.1,h.2⟩
 | .bs x _ _,h=>⟨cH hM x h.1,h.2⟩
 | .ks x _ _ _ _,h=>⟨cH hM x h.1,h.2⟩
 | .fn _ l,h| .tp l,h=>bX hM l h
 | .ic _ x,h=>cH hM x h
 | .ag l,h=>⟨bX hM l h.1,h.2⟩
 | .cb _,h| .bo _,h| .ci _ _,h| .it _ _,h| .bt _,h| .st _,h| .nl _,h| .key _,h| .sl _,h| .by _,h| .ob _,h=>h
theorem bX {M:Nat->Prop} (hM:∀i,N i->M i):∀l,eF N l->eF M l
 | [],_=>trivial
 |x::l,h=>⟨cH hM x h.1,bX hM l h.2⟩
end
def Env.aZ (N:Nat->Prop) (J ρ':Env):Prop:=∀i,N i->ρ'.num i=J.num i/\ρ'.cap i=J.cap i/\ρ'.adr i=J.adr i/\ρ'.sa i=J.sa i/\ρ'.sn i=J.sn i/\ρ'.ob i=J.ob i
theorem Env.aZ.refl (N:Nat->Prop) (J:Env):Env.aZ N J J:=fun _ _=>⟨rfl,rfl,rfl,rfl,rfl,rfl⟩
theorem Env.aZ.trans {J ρ' ρ'':Env} {M:Nat->Prop} (h:Env.aZ N J ρ') (h':Env.aZ M ρ' ρ'') (hM:∀i,N i->M i):Env.aZ N J ρ'':=fun i hi=>by
 obtain⟨a,b,c,d,e,f⟩:=h i hi;obtain⟨a',b',c',d',e',f'⟩:=h' i (hM i hi);exact⟨a'.trans a,b'.trans b,c'.trans c,d'.trans d,e'.trans e,f'.trans f⟩
theorem Env.aZ.mono {J ρ':Env} {M:Nat->Prop} (h:Env.aZ N J ρ') (hM:∀i,M i->N i):Env.aZ M J ρ':=fun i hi=>h i (hM i hi)
mutual
theorem ep {J ρ':Env} (h:Env.aZ N J ρ'):∀v,ok N v->den ρ' v=den J v
 | .lp id _,hv=>by simp only[den,(h id hv).1]
 | .yl id,hv=>by simp only[den,(h id hv).1]
 | .mp id,hv=>by simp only[den,(h id hv).1]
 | .ch b f l y,hv=>by
   cases b
   ·simp only[den];exact ep h y hv.2.1
   ·simp only[den,fl h l hv.1]
 | .lx id _ _ _ _ _,hv=>by simp only[den,(h id hv.1).1]
 | .sc id _ _,hv=>by simp only[den,(h id hv).1]
 | .so id _,hv=>by simp only[den,(h id hv).1,(h id hv).2.1]
 | .ap id _ _ _,hv=>by simp only[den,(h id hv).2.2.1]
 | .ax id _ _ _ _ _ _ _,hv=>by simp only[den,(h id hv.1).2.2.1]
 | .bs x _ _,hv=>by simp only[den,ep h x hv.1]
 | .ks x _ _ _ _,hv=>by simp only[den,ep h x hv.1]
 | .sa id,hv=>by simp only[den,(h id hv).2.1,(h id hv).2.2.2.1,(h id hv).2.2.2.2.1]
 | .op id _,hv=>by simp only[den,(h id hv).2.2.2.2.2]
 | .fn _ l,hv=>by simp only[den,fl h l hv]
 | .tp l,hv=>by simp only[den,fl h l hv]
 | .ag l,hv=>by simp only[den,qZ h l hv.1]
 | .ic _ x,hv=>by simp only[den,ep h x hv]
 | .cb _,_| .bo _,_| .ci _ _,_| .it _ _,_| .bt _,_| .st _,_| .nl _,_| .key _,_| .sl _,_| .by _,_| .ob _,_=>by simp only[den]
theorem fl {J ρ':Env} (h:Env.aZ N J ρ'):∀l,eF N l->ba ρ' l=ba J l
 | [],_=>rfl
 |x::l,hv=>by simp only[ba,ep h x hv.1,fl h l hv.2]
theorem qZ {J ρ':Env} (h:Env.aZ N J ρ'):∀l,eF N l->aT ρ' l=aT J l
 | [],_=>rfl
 |x::l,hv=>by simp only[aT,ep h x hv.1,qZ h l hv.2]
end
theorem cx {J ρ':Env} (h:Env.aZ N J ρ') (v:V) (hv:ok N v):cells ρ' v=cells J v:=by simp only[cells,ep h v hv]
end Go.Sx
namespace Go.Sx
variable {N:Nat->Prop}
theorem bN.eM (s:bN) (i:Nat) (k:Key) (j:Nat) (h:i<16):(s.put i k).at j=if j=i then k else s.at j:=by
 unfold bN.at bN.put;simp only[Vector.toArray_setIfInBounds,Array.getD_eq_getD_getElem?];by_cases e:j=i
 ·subst e;simp[h]
 ·rw[UZ e,Array.getElem?_setIfInBounds_ne (Ne.symm e)]
theorem Bytes.eM (s:Bytes) (i:Nat) (k:UInt8) (j:Nat) (h:i<64):(s.put i k).at j=if j=i then k else s.at j:=by
 unfold Bytes.at Bytes.put;simp only[Vector.toArray_setIfInBounds,Array.getD_eq_getD_getElem?];by_cases e:j=i
 ·subst e;simp[h]
 ·rw[UZ e,Array.getElem?_setIfInBounds_ne (Ne.symm e)]
theorem nS {α:Type} (f:Nat->List α) (n i:Nat) (h:i<n):
  (List.range n).flatMap f=(List.range i).flatMap f++f i++(List.range' (i+1) (n-i-1)).flatMap f:=by
 have e:List.range n=List.range i++(i::List.range' (i+1) (n-i-1)):=by
  have h1:=List.range'_append (s:=0) (m:=i) (n:=n-i-1+1) (step:=1);rw[List.range_eq_range',List.range_eq_range',<-List.range'_succ];simp only[Nat.zero_add,Nat.one_mul]at h1;rw[h1];congr 1;omega
 rw[e];simp
theorem lO {α:Type} (f g:Nat->List α) (l:List Nat) (h:∀j∈l,f j=g j):l.flatMap f=l.flatMap g:=by
 induction l with
 |nil=>rfl
 |cons x l ih=>simp[h x (by simp),ih fun j hj=>h j (by simp[hj])]
theorem tX {α:Type} (f:Nat->List α) (m:Nat) (l:List Nat) (h:∀j,(f j).length=m):(l.flatMap f).length=l.length*m:=by
 induction l with
 |nil=>simp
 |cons x l ih=>simp[h x,ih,Nat.succ_mul];omega
theorem lj (s:bN) (i:Nat) (h:i<16):
  ∃p q,eY s=p++c9 (s.at i)++q/\p.length=i*6/\∀k,eY (s.put i k)=p++c9 k++q:=by
 refine⟨_,_,nS _ 16 i h,by rw[tX _ 6 _ (fun j=>kr _)];simp,fun k=>?_⟩
 unfold eY;rw[nS _ 16 i h,bN.eM _ _ _ _ h,U0 rfl];congr 1
 ·congr 1
  refine lO _ _ _ fun j hj=>?_
  rw[bN.eM _ _ _ _ h,UZ (by simp at hj;omega)]
 ·refine lO _ _ _ fun j hj=>?_
  rw[bN.eM _ _ _ _ h,UZ (by simp[List.mem_range']at hj;omega)]
theorem bN.Hv {s:bN} {i:Nat} {k:Key} (h:s.wf) (hk:k.wf) (hi:i<16):(s.put i k).wf:=by
 intro j hj;rw[bN.eM _ _ _ _ hi];split
 ·exact hk
 ·exact h j hj
theorem lh (s:Bytes) (i:Nat) (h:i<64):
  ∃p q,bV s=p++ [.int .u8 ((s.at i).toNat:Int)]++q/\p.length=i/\∀k,bV (s.put i k)=p++ [.int .u8 (k.toNat:Int)]++q:=by
 have e:∀t:Bytes,bV t=(List.range 64).flatMap fun j=> [.int .u8 ((t.at j).toNat:Int)]:=fun t=>by
  simp[bV,<-List.map_eq_flatMap]
 refine⟨_,_,(e s).trans (nS _ 64 i h),by rw[tX _ 1 _ (fun j=>rfl)];simp,fun k=>?_⟩
 rw[e,nS _ 64 i h,Bytes.eM _ _ _ _ h,U0 rfl];congr 1
 ·congr 1
  refine lO _ _ _ fun j hj=>?_
  rw[Bytes.eM _ _ _ _ h,UZ (by simp at hj;omega)]
 ·refine lO _ _ _ fun j hj=>?_
  rw[Bytes.eM _ _ _ _ h,UZ (by simp[List.mem_range']at hj;omega)]
def xN:V->Option Int
 | .ci .i64 n=>some n
 | .it .i64 n=>some n
 |_=>none
theorem vU (J:Env) {v:V} {n:Int} (h:xN v=some n):cells J v= [i64 n]/\dH v=1/\(ok N v->b7 .i64 n):=by
 cases v<;>simp[xN]at h
 ·rename_i k m;cases k<;>simp at h;subst h;exact⟨rfl,rfl,id⟩
 ·rename_i k m;cases k<;>simp at h;subst h;exact⟨rfl,rfl,id⟩
def toByte:V->Option UInt8
 | .bt b=>some b
 | .ci .u8 n=>if decide (0<=n)&&decide (n<256)then some (UInt8.ofNat n.toNat)else none
 |_=>none
theorem oq (J:Env) {v:V} {n:UInt8} (h:toByte v=some n):cells J v= [.int .u8 (n.toNat:Int)]/\dH v=1:=by
 cases v<;>simp[toByte]at h
 ·rename_i k m;cases k<;>simp at h
  obtain⟨⟨h1,h2⟩,rfl⟩:=h;refine⟨?_,rfl⟩;simp only[cells,den,Value.cells];simp;omega
 ·subst h;exact⟨rfl,rfl⟩
def wI (g:V->Nat->V->Option V):List V->Nat->V->Option (List V)
 | [],_,_=>none
 |x::l,off,y=>if off<dH x then(g x off y).map (· ::l)else(wI g l (off-dH x) y).map (x:: ·)
def B1 (k:Key) (off:Nat) (y:V):Option V:=
 match xN y with
 |none=>none
 |some n=>match off with
  |0=>some (.key {k with kind:=n})
  |1=>some (.key {k with oid:=n})
  |2=>some (.key {k with count:=n})
  |3=>some (.key {k with call:=n})
  |4=>some (.key {k with rights:=n})
  |5=>some (.key {k with value:=n})
  |_=>none
def mi (o:Obj) (off:Nat) (y:V):Option V:=
 match xN y with
 |none=>none
 |some n=>match off with
  |0=>some (.ob {o with kind:=n})
  |1=>some (.ob {o with count:=n})
  |2=>some (.ob {o with calls:=n})
  |_=>none
def setAt:Nat->V->Nat->V->Option V
 |0,_,_,_=>none
 |f+1,v,off,y=>
  if off==0&&dH y==dH v&&gZ y==gZ v then some y
  else match v with
   | .ag l=>(wI (setAt f) l off y).map .ag
   | .key k=>B1 k off y
   | .sl s=>if off<96 then match setAt f (.key (s.at (off / 6))) (off%6) y with
     |some (.key k)=>some (.sl (s.put (off / 6) k))
     |_=>none
     else none
   | .by b=>if off<64 then(toByte y).map fun x=> .by (b.put off x)else none
   | .ob o=>if off<3 then mi o off y
     else if off<99 then match setAt f (.sl o.slots) (off-3) y with
      |some (.sl s)=>some (.ob {o with slots:=s})
      |_=>none
     else match setAt f (.by o.bytes) (off-99) y with
      |some (.by s)=>some (.ob {o with bytes:=s})
      |_=>none
   |_=>none
def Et (N:Nat->Prop) (J:Env) (v v':V) (off:Nat) (y:V):Prop:=
 (∃p m q,cells J v=p++m++q/\cells J v'=p++cells J y++q/\p.length=off/\m.length=dH y)/\gZ v'=gZ v/\ok N v'/\bK v'=false
theorem Bu (J:Env) {k:Key} {off:Nat} {y v':V} (hk0:k.wf) (hy0:ok N y) (h:B1 k off y=some v'):Et N J (.key k) v' off y:=by
 obtain⟨w1,w2,w3,w4,w5,w6⟩:=hk0;unfold B1 at h;cases hy:xN y with
 |none=>simp[hy]at h
 |some n=>
  simp only[hy]at h;obtain⟨h1,h2,hn⟩:=vU (N:=N) J hy;have hn:=hn hy0;have hk:cells J (.key k)=c9 k:=by simp[cells,den,Value.cells]
  split at h<;>simp only[UQ,reduceCtorEq]at h<;>subst h<;>
   refine⟨?_,rfl,⟨by assumption,by assumption,by assumption,by assumption,by assumption,by assumption⟩,rfl⟩<;>rw[h1,h2,hk]<;>simp only[cells,den,Value.cells,c9]
  ·exact⟨[],[i64 k.kind],_,rfl,rfl,rfl,rfl⟩
  ·exact⟨[i64 k.kind],[i64 k.oid],_,rfl,rfl,rfl,rfl⟩
  ·exact⟨[i64 k.kind,i64 k.oid],[i64 k.count],_,rfl,rfl,rfl,rfl⟩
  ·exact⟨[i64 k.kind,i64 k.oid,i64 k.count],[i64 k.call],_,rfl,rfl,rfl,rfl⟩
  ·exact⟨[i64 k.kind,i64 k.oid,i64 k.count,i64 k.call],[i64 k.rights],_,rfl,rfl,rfl,rfl⟩
  ·exact⟨[i64 k.kind,i64 k.oid,i64 k.count,i64 k.call,i64 k.rights],[i64 k.value],[],rfl,rfl,rfl,rfl⟩
theorem hS (J:Env) (o:Obj):cells J (.ob o)=dD o:=by simp[cells,den,Value.cells]
theorem lJ (J:Env) (o:bN):cells J (.sl o)=eY o:=by simp[cells,den,Value.cells]
theorem iL (J:Env) (o:Bytes):cells J (.by o)=bV o:=by simp[cells,den,Value.cells]
theorem pT (J:Env) (o:Key):cells J (.key o)=c9 o:=by simp[cells,den,Value.cells]
theorem eE (J:Env) (l:List V):cells J (.ag l)=aT J l:=by simp[cells,den,Value.cells]
theorem CM (J:Env) {o:Obj} {off:Nat} {y v':V} (hk0:o.wf) (hy0:ok N y) (h:mi o off y=some v'):Et N J (.ob o) v' off y:=by
 obtain⟨w1,w2,w3,w4⟩:=hk0;unfold mi at h;cases hy:xN y with
 |none=>simp[hy]at h
 |some n=>
  simp only[hy]at h;obtain⟨h1,h2,hn⟩:=vU (N:=N) J hy;have hn:=hn hy0
  split at h<;>simp only[UQ,reduceCtorEq]at h<;>subst h<;>
   refine⟨?_,rfl,⟨by assumption,by assumption,by assumption,by assumption⟩,rfl⟩<;>rw[h1,h2,hS,hS]<;>simp only[dD]
  ·exact⟨[],[i64 o.kind],_,rfl,rfl,rfl,rfl⟩
  ·exact⟨[i64 o.kind],[i64 o.count],_,rfl,rfl,rfl,rfl⟩
  ·exact⟨[i64 o.kind,i64 o.count],[i64 o.calls],_,rfl,rfl,rfl,rfl⟩
theorem Et.whole (J:Env) {v y:V} (hv:ok N v) (hy:ok N y) (hs:dH y=dH v) (ha:gZ y=gZ v) (ht:bK y=false):Et N J v y 0 y:=
 ⟨⟨[],cells J v,[],by simp,by simp,rfl,by rw[aR J v hv,hs]⟩,ha,hy,ht⟩
theorem vC (J:Env) (g:V->Nat->V->Option V) (y:V)
  (hg:∀x off x',ok N x->bK x=false->g x off y=some x'->Et N J x x' off y):
  ∀(l:List V) (off:Nat) (l':List V),eF N l->qu l->wI g l off y=some l'->Et N J (.ag l) (.ag l') off y
 | [],_,_,_,_,h=>by simp[wI]at h
 |x::l,off,l',hk,hc,h=>by
  have hc':=(cG _).1 hc;simp only[eF]at hk;simp only[wI]at h;split at h
  ·cases hx:g x off y with
   |none=>simp[hx]at h
   |some x'=>
    simp only[hx,Option.map_some,UQ]at h;subst h;obtain⟨⟨p,m,q,h1,h2,h3,h4⟩,_,h6,h7⟩:=hg x off x' hk.1 (hc' x (by simp)) hx
    refine⟨⟨p,m,q++aT J l,?_,?_,h3,h4⟩,rfl,⟨⟨h6,hk.2⟩,(cG _).2 ?_⟩,rfl⟩
    ·rw[eE];simp only[aT];rw[show(den J x).cells.toList=cells J x from rfl,h1];simp
    ·rw[eE];simp only[aT];rw[show(den J x').cells.toList=cells J x' from rfl,h2];simp
    ·intro z hz;rcases List.mem_cons.1 hz with rfl|hz
     ·exact h7
     ·exact hc' z (by simp[hz])
  ·cases hx:wI g l (off-dH x) y with
   |none=>simp[hx]at h
   |some l2=>
    simp only[hx,Option.map_some,UQ]at h;subst h;obtain⟨⟨p,m,q,h1,h2,h3,h4⟩,_,h6,_⟩:=vC J g y hg l _ l2 hk.2 ((cG _).2 fun z hz=>hc' z (by simp[hz])) hx
    have hl:=aR J x hk.1;rw[eE]at h1 h2;refine⟨⟨cells J x++p,m,q,?_,?_,by simp;omega,h4⟩,rfl,⟨⟨hk.1,h6.1⟩,(cG _).2 ?_⟩,rfl⟩
    ·rw[eE];simp only[aT,h1];simp[cells]
    ·rw[eE];simp only[aT,h2];simp[cells]
    ·intro z hz;rcases List.mem_cons.1 hz with rfl|hz
     ·exact hc' _ (by simp)
     ·exact(cG _).1 h6.2 z hz
theorem fO (J:Env) (y:V) (hy:ok N y) (hty:bK y=false):∀(f:Nat) (v:V) (off:Nat) (v':V),ok N v->bK v=false->setAt f v off y=some v'->Et N J v v' off y
 |0,_,_,_,_,_,h=>by simp[setAt]at h
 |f+1,v,off,v',hv,ht,h=>by
  simp only[setAt]at h;split at h
  ·rename_i hc;simp only[US,UU]at hc;obtain⟨⟨rfl,h2⟩,h3⟩:=hc;simp only[UQ]at h;subst h;exact Et.whole J hv hy h2 h3 hty
  ·split at h
   ·rename_i l _;cases hs:wI (setAt f) l off y with
    |none=>simp[hs]at h
    |some l'=>
     simp only[hs,Option.map_some,UQ]at h;subst h;exact vC J _ y (fun x o x' hx hxt hg=>fO J y hy hty f x o x' hx hxt hg) l off l' hv.1 hv.2 hs
   ·exact Bu J hv hy h
   ·rename_i s _;split at h
    ·rename_i hlt;split at h<;>simp only[UQ,reduceCtorEq]at h
     rename_i k hk;subst h;obtain⟨⟨p,m,q,h1,h2,h3,h4⟩,_,hkw,_⟩:=fO J y hy hty f (.key _) _ _ (hv (off / 6) (by omega)) rfl hk
     obtain⟨P,Q,e1,e2,e3⟩:=lj s (off / 6) (by omega)
     rw[pT]at h1 h2;refine⟨⟨P++p,m,q++Q,?_,?_,by simp;omega,h4⟩,rfl,bN.Hv hv hkw (by omega),rfl⟩
     ·rw[lJ,e1,h1];simp
     ·rw[lJ,e3,h2];simp
    ·simp at h
   ·rename_i b _;split at h
    ·rename_i hlt;cases hb:toByte y with
     |none=>simp[hb]at h
     |some x=>
      simp only[hb,Option.map_some,UQ]at h;subst h;obtain⟨h1,h2⟩:=oq J hb;obtain⟨P,Q,e1,e2,e3⟩:=lh b off hlt;refine⟨⟨P,[.int .u8 ((b.at off).toNat:Int)],Q,?_,?_,e2,?_⟩,rfl,trivial,rfl⟩
      ·rw[iL,e1]
      ·rw[iL,e3,h1]
      ·rw[h2];rfl
    ·simp at h
   ·rename_i o _;split at h
    ·exact CM J hv hy h
    ·split at h
     ·split at h<;>simp only[UQ,reduceCtorEq]at h
      rename_i s hs;subst h;obtain⟨w1,w2,w3,w4⟩:=hv;obtain⟨⟨p,m,q,h1,h2,h3,h4⟩,_,hsw,_⟩:=fO J y hy hty f (.sl _) _ _ w4 rfl hs;rw[lJ]at h1 h2;refine⟨⟨i64 o.kind::i64 o.count::i64 o.calls::p,m,q++bV o.bytes,?_,?_,by simp;omega,h4⟩,rfl,⟨w1,w2,w3,hsw⟩,rfl⟩
      ·rw[hS,dD,h1];simp
      ·rw[hS,dD];simp only[h2];simp
     ·split at h<;>simp only[UQ,reduceCtorEq]at h
      rename_i s hs;subst h;obtain⟨⟨p,m,q,h1,h2,h3,h4⟩,_⟩:=fO J y hy hty f (.by _) _ _ trivial rfl hs
      rw[iL]at h1 h2;have hl:=fY o.slots;refine⟨⟨i64 o.kind::i64 o.count::i64 o.calls::(eY o.slots++p),m,q,?_,?_,by simp;omega,h4⟩,rfl,hv,rfl⟩
      ·rw[hS,dD,h1];simp
      ·rw[hS,dD];simp only[h2];simp
   ·simp at h
theorem Et.size {J:Env} {v v' y:V} {off:Nat} (h:Et N J v v' off y) (hy:ok N y):(cells J v').length=(cells J v).length:=by
 obtain⟨⟨p,m,q,h1,h2,h3,h4⟩,_⟩:=h;rw[h1,h2];simp[aR J y hy,h4]
def QU (v:V) (esz n i inner sz:Nat) (a:Bool):Option V:=
 match v with
 | .sl s=>if esz==6&&n==16 then ga 3 (.key (s.at i)) inner sz a else none
 | .by b=>if esz==1&&n==64&&inner==0&&sz==1&& !a then some (.bt (b.at i))else none
 |_=>none
theorem FW (J:Env) {v:V} {esz n i inner sz:Nat} {a:Bool} {r:V} (hv:ok N v) (hi:i<n) (h:QU v esz n i inner sz a=some r):
  (∃p q,cells J v=p++cells J r++q/\i*esz+inner=p.length)/\dH r=sz/\gZ r=a/\ok N r/\bK r=false:=by
 cases v<;>simp only[QU,reduceCtorEq]at h
 ·rename_i s;split at h
  ·rename_i hc;simp only[US,UU]at hc;obtain⟨rfl,rfl⟩:=hc;obtain⟨⟨p,q,h1,h2⟩,h3⟩:=dI J 3 (.key _) _ _ _ _ (hv i hi) rfl h;obtain⟨P,Q,e1,e2,e3⟩:=lj s i hi;rw[pT]at h1;exact⟨⟨P++p,q++Q,by rw[lJ,e1,h1];simp,by simp;omega⟩,h3⟩
  ·simp at h
 ·rename_i b;split at h
  ·rename_i hc;simp only[US,UU,Bool.not_eq_true']at hc;obtain⟨⟨⟨⟨rfl,rfl⟩,rfl⟩,rfl⟩,rfl⟩:=hc;simp only[UQ]at h;subst h;obtain⟨P,Q,e1,e2,e3⟩:=lh b i hi;exact⟨⟨P,Q,by rw[iL,e1];rfl,by omega⟩,rfl,rfl,trivial,rfl⟩
  ·simp at h
def Ng (v:V) (esz n i inner:Nat) (y:V):Option V:=
 match v with
 | .sl s=>if esz==6&&n==16 then match setAt 3 (.key (s.at i)) inner y with
   |some (.key k)=>some (.sl (s.put i k))
   |_=>none
   else none
 | .by b=>if esz==1&&n==64&&inner==0 then(toByte y).map fun x=> .by (b.put i x)else none
 |_=>none
theorem EY (J:Env) {v:V} {esz n i inner:Nat} {y v':V} (hv:ok N v) (hi:i<n) (hy:ok N y) (hty:bK y=false) (h:Ng v esz n i inner y=some v'):
  Et N J v v' (i*esz+inner) y/\dH v'=dH v:=by
 cases v<;>simp only[Ng,reduceCtorEq]at h
 ·rename_i s;split at h
  ·rename_i hc;simp only[US,UU]at hc;obtain⟨rfl,rfl⟩:=hc;split at h<;>simp only[UQ,reduceCtorEq]at h
   rename_i k hk;subst h;obtain⟨⟨p,m,q,h1,h2,h3,h4⟩,_,hkw,_⟩:=fO J y hy hty _ (.key _) _ _ (hv i hi) rfl hk;obtain⟨P,Q,e1,e2,e3⟩:=lj s i hi;rw[pT]at h1 h2;refine⟨⟨⟨P++p,m,q++Q,?_,?_,by simp;omega,h4⟩,rfl,bN.Hv hv hkw hi,rfl⟩,rfl⟩
   ·rw[lJ,e1,h1];simp
   ·rw[lJ,e3,h2];simp
  ·simp at h
 ·rename_i b;split at h
  ·rename_i hc;simp only[US,UU]at hc;obtain⟨⟨rfl,rfl⟩,rfl⟩:=hc;cases hb:toByte y with
   |none=>simp[hb]at h
   |some x=>
    simp only[hb,Option.map_some,UQ]at h;subst h;obtain⟨h1,h2⟩:=oq J hb;obtain⟨P,Q,e1,e2,e3⟩:=lh b i hi;refine⟨⟨⟨P,[.int .u8 ((b.at i).toNat:Int)],Q,?_,?_,by omega,?_⟩,rfl,trivial,rfl⟩,rfl⟩
    ·rw[iL,e1]
    ·rw[iL,e3,h1]
    ·rw[h2];rfl
  ·simp at h
def DZ (c:V) (off esz n i inner:Nat) (y:V):Option V:=
 match ga 8 c off (n*esz) true with
 |none=>none
 |some x=>match Ng x esz n i inner y with
  |none=>none
  |some x'=>setAt 8 c off x'
theorem jv {α:Type} {p p' m m' q q':List α} (h:p++m++q=p'++m'++q') (h1:p.length=p'.length) (h2:m.length=m'.length):p=p'/\m=m'/\q=q':=by
 rw[List.append_assoc,List.append_assoc]at h;obtain⟨e1,e2⟩:=List.append_inj h h1;obtain⟨e3,e4⟩:=List.append_inj e2 h2;exact⟨e1,e3,e4⟩
theorem Cg (J:Env) {c:V} {off esz n i inner:Nat} {y c':V} (hc:ok N c) (ht:bK c=false) (hi:i<n) (hy:ok N y) (hty:bK y=false) (h:DZ c off esz n i inner y=some c'):
  Et N J c c' (off+i*esz+inner) y:=by
 unfold DZ at h;cases hx:ga 8 c off (n*esz) true with
 |none=>simp[hx]at h
 |some x=>
  simp only[hx]at h;cases hx':Ng x esz n i inner y with
  |none=>simp[hx']at h
  |some x'=>
   simp only[hx']at h;obtain⟨⟨p,q,h1,h2⟩,hsz,_,h5,h6⟩:=dI J _ _ _ _ _ _ hc ht hx;obtain⟨⟨⟨P,M,Q,e1,e2,e3,e4⟩,e5,e6,e7⟩,e8⟩:=EY J h5 hi hy hty hx';obtain⟨⟨p2,m2,q2,f1,f2,f3,f4⟩,f5,f6,f7⟩:=fO J x' e6 e7 8 c off c' hc ht h;obtain⟨rfl,rfl,rfl⟩:=jv (f1.symm.trans h1) (by omega) (by rw[f4,aR J x h5,e8])
   refine⟨⟨p2++P,M,Q++q2,?_,?_,by simp;omega,e4⟩,f5,f6,f7⟩
   ·rw[h1,e1];simp
   ·rw[f2,e2];simp
end Go.Sx
namespace Go.Sx
open Go.RowKit (Below)
def ai {α:Type} (l:List α) (i:Nat) (d:α):α:=l.getD i d
def ar {α:Type} (l:List α):Nat:=l.length
inductive TL where
 |fn (n:Nat) (get:Nat->V)
 |ob (l:List Obj)
 |key (l:List Key)
 |it (k:IntKind) (l:List Int)
 |bo (l:List Bool)
 |st (l:List ByteArray)
def TL.len:TL->Nat
 | .fn n _=>n
 | .ob l=>ar l
 | .key l=>ar l
 | .it _ l=>ar l
 | .bo l=>ar l
 | .st l=>ar l
def TL.get:TL->Nat->V
 | .fn _ g,i=>g i
 | .ob l,i=> .ob (ai l i free)
 | .key l,i=> .key (ai l i void)
 | .it k l,i=> .it k (ai l i 0)
 | .bo l,i=> .bo (ai l i false)
 | .st l,i=> .st (ai l i ByteArray.empty)
inductive aA where
 |yet
 |gone
 |blk (ty:Nat) (c:V)
 |arr (own:Option Nat) (esz:Nat) (l:TL)
 |obs (ty q:Nat) (L:List Obj)
 |gen (j:Nat)
 |store (ty e:Nat) (L:List Obj)
 |lop (r:Loop) (s:LoopState) (j:Option Code)
 |dfr
 |mp (k:IntKind) (ks:List Int) (vs:List V)
 |mq (ks:List (List Int)) (vs:List V)
 |ro (r:aA)
def ak:List aA->Nat->aA
 | [],_=> .yet
 |r::_,0=>r
 |_::l,i+1=>ak l i
def bC:List aA->Nat->aA->List aA
 | [],_,_=> []
 |_::l,0,r=>r::l
 |x::l,i+1,r=>x::bC l i r
theorem ja:∀(l:List aA) (i:Nat),ak l i=l.getD i .yet
 | [],i=>by simp[ak]
 |r::l,0=>by simp[ak]
 |r::l,i+1=>by simp[ak,ja l i]
theorem kR:∀(l:List aA) (i:Nat) (r:aA),bC l i r=l.set i r
 | [],i,r=>by simp[bC]
 |x::l,0,r=>by simp[bC]
 |x::l,i+1,r=>by simp[bC,kR l i]
theorem bp (l:List aA) (i j:Nat) (r:aA) (h:i<l.length):ak (bC l i r) j=if j=i then r else ak l j:=by
 rw[kR,ja,ja,UY,UY,List.getElem?_set];by_cases e:i=j
 ·subst e;simp[h]
 ·simp[e,Ne.symm e]
theorem aG {l:List aA} {i:Nat} (h:ak l i≠ .yet):i<l.length:=by
 rw[ja]at h;rcases Nat.lt_or_ge i l.length with h'|h'
 ·exact h'
 ·simp[UY,List.getElem?_eq_none h']at h
def known (res:List aA) (i:Nat):Prop:=ak res i≠ .yet
def Env.zero:Env:=⟨fun _=>0,fun _=>0,fun _=>⟨0,0,none⟩,fun _=>none,fun _=>0,fun _ _=>0⟩
def TL.cells (l:TL):List Value:=(List.range l.len).flatMap fun j=>Sx.cells Env.zero (l.get j)
def Env.sl (J:Env) (i:Nat):Value:= .slice (J.sa i) (J.sn i) (J.cap i)
def iG (l:List Int):Value:= .agg (l.map i64).toArray
def aA.holds (K:Nat->Prop) (J:Env) (i:Nat) (fp:Nat->Prop) (w0:World) (F0:Nat->Prop) (w:World):aA->Prop
 | .yet=>True
 | .gone=>True
 | .blk ty c=>ok K c/\bK c=false/\fp (J.num i)/\w.heap[J.num i]? =some (.cells (cells J c).toArray ty (0,0))
 | .arr own esz l=>(∀j,j<l.len->ok (fun _=>False) (l.get j)/\bK (l.get j)=false/\dH (l.get j)=esz)/\
   J.sn i=l.len/\l.len<=9223372036854775807/\(∀a,J.sa i=some a->a=J.adr i)/\(0<l.len->(J.sa i).isSome=true)/\(0<l.len->(J.adr i).spot=none)/\
   ((own=none/\(0<l.len->¬F0 (J.adr i).block/\(J.adr i).block<w0.heap.size)/\
     ∀j,j<l.len->∀k,k<esz->w0.cell? ⟨(J.adr i).block,(J.adr i).off+(j*esz+k),none⟩=(cells J (l.get j))[k]?)\/
    ∃e,(∀e',own=some e'->e'=e)/\w.ownsRow 0 e esz (J.sl i) l.len l.cells/\∀a,J.sa i=some a->fp a.block)
 | .gen _=>True
 | .obs ty q L=>K q/\(∀o∈L,o.wf)/\J.sn i=L.length/\L.length<=9223372036854775807/\(∀a,J.sa i=some a->a=J.adr i/\fp a.block)/\(0<L.length->(J.sa i).isSome=true)/\
   w.ownsRow 0 ty 1 (J.sl i) L.length ((List.range L.length).map fun j=>Value.pointer (some ⟨J.ob q j,0,none⟩))/\
   ∀j,j<L.length->fp (J.ob q j)/\∃t,w.heap[J.ob q j]? =some (.cells (dD (L.getD j free)).toArray t (0,0))
 | .store ty e L=>fp (J.num i)/\(∀o∈L,o.wf)/\L.length<=9223372036854775807/\∃(sl:Value) (ob:Nat->Nat),w.heap[J.num i]? =some (.cells #[sl] ty (0,0))/\
   w.ownsRow 0 e 1 sl L.length ((List.range L.length).map fun j=>Value.pointer (some ⟨ob j,0,none⟩))/\(∀b,sl.ownBlock=some b->fp b/\b≠J.num i)/\
   ∀j,j<L.length->fp (ob j)/\ob j≠J.num i/\∃t,w.heap[ob j]? =some (.cells (dD (L.getD j free)).toArray t (0,0))
 | .lop r s j=>fp (J.num i)/\w.heap[J.num i]? =some (.loop {r with state:=s,pending:=j})
 | .dfr=>(∀j,j<J.sn i->fp (J.ob i j)/\w.heap[J.ob i j]? =some (.deferred (some [])))/\∀j k,j<J.sn i->k<J.sn i->J.ob i j=J.ob i k->j=k
 | .mp k ks vs=>fp (J.num i)/\eF K vs/\qu vs/\(∀c∈ks,b7 k c)/\ks.length=vs.length/\∃es clock,w.heap[J.num i]? =some (.map es clock)/\es.toList.map (·.key)=ks.map (Value.int k)/\es.toList.map (·.val)=ba J vs
 | .mq ks vs=>fp (J.num i)/\eF K vs/\qu vs/\(ks.length=vs.length/\ks.Nodup)/\∃es clock,w.heap[J.num i]? =some (.map es clock)/\(es.toList.map fun e=>(e.key,e.val)).Perm ((ks.map iG).zip (ba J vs))
 | .ro r=>∃fp':Nat->Prop,aA.holds K J i fp' w0 F0 w0 r/\∀b,fp' b->b<w0.heap.size/\¬F0 b
theorem w7 {w w':World} {e size:Nat} {v:Value} {n:Nat} {xs:List Value} (h:w.ownsRow 0 e size v n xs) (hw:∀b,v.ownBlock=some b->w'.heap[b]? =w.heap[b]?):w'.ownsRow 0 e size v n xs:=by
 refine⟨h.1,?_⟩;rcases h.2 with h0|⟨g,cap,cur,h1,h2,h3,h4⟩
 ·exact .inl h0
 ·refine .inr ⟨g,cap,cur,h1,h2,?_,h4⟩;rw[hw g (by rw[h1];rfl)]
  exact h3
theorem r9 {w w':World} {e size:Nat} {J:Env} {i n:Nat} {xs:List Value} (h:w.ownsRow 0 e size (J.sl i) n xs) (hw:∀a,J.sa i=some a->w'.heap[a.block]? =w.heap[a.block]?):w'.ownsRow 0 e size (J.sl i) n xs:=by
 refine⟨h.1,?_⟩;rcases h.2 with h0|⟨g,cap,cur,h1,h2,h3,h4⟩
 ·exact .inl h0
 ·refine .inr ⟨g,cap,cur,h1,h2,?_,h4⟩;simp only[Env.sl,Value.slice.injEq]at h1;rw[hw _ h1.1];exact h3
theorem aA.eO {K:Nat->Prop} {J:Env} {i:Nat} {fp:Nat->Prop} {w0:World} {F0:Nat->Prop} {w w':World} (r:aA)
  (h:r.holds K J i fp w0 F0 w) (hw:∀b,fp b->w'.heap[b]? =w.heap[b]?):r.holds K J i fp w0 F0 w':=by
 cases r with
 |yet=>trivial
 |gone=>trivial
 |blk ty c=>exact⟨h.1,h.2.1,h.2.2.1,by rw[hw _ h.2.2.1];exact h.2.2.2⟩
 |arr own esz l=>
  obtain⟨h1,h2,h3,h4,h5,h6,h7⟩:=h;refine⟨h1,h2,h3,h4,h5,h6,?_⟩;rcases h7 with h7|⟨e,e1,e2,e3⟩
  ·exact .inl h7
  ·exact .inr ⟨e,e1,r9 e2 fun a ha=>hw _ (e3 a ha),e3⟩
 |gen j=>trivial
 |obs ty q L=>
  obtain⟨h0,h1,h2,h3,h4,h5,h6,h7⟩:=h;refine⟨h0,h1,h2,h3,h4,h5,r9 h6 fun a ha=>hw _ (h4 a ha).2,fun j hj=>?_⟩
  obtain⟨g1,t,g2⟩:=h7 j hj;exact⟨g1,t,by rw[hw _ g1];exact g2⟩
 |store ty e L=>
  obtain⟨h0,h1,h2,sl,ob,h3,h5,h6,h7⟩:=h;refine⟨h0,h1,h2,sl,ob,by rw[hw _ h0];exact h3,w7 h5 fun b hb=>hw _ (h6 b hb).1,h6,fun j hj=>?_⟩
  obtain⟨g1,g0,t,g2⟩:=h7 j hj;exact⟨g1,g0,t,by rw[hw _ g1];exact g2⟩
 |lop r s j=>exact⟨h.1,by rw[hw _ h.1];exact h.2⟩
 |dfr=>exact⟨fun j hj=>⟨(h.1 j hj).1,by rw[hw _ (h.1 j hj).1];exact(h.1 j hj).2⟩,h.2⟩
 |mp k ks vs=>
  obtain⟨h0,h1,h2,h3,h4,es,cl,h5,h6⟩:=h;exact⟨h0,h1,h2,h3,h4,es,cl,by rw[hw _ h0];exact h5,h6⟩
 |mq ks vs=>
  obtain⟨h0,h1,h2,h4,es,cl,h5,h6⟩:=h;exact⟨h0,h1,h2,h4,es,cl,by rw[hw _ h0];exact h5,h6⟩
 |ro r=>exact h
theorem aA.p9 {K K':Nat->Prop} {J ρ':Env} {i:Nat} {fp:Nat->Prop} {w0:World} {F0:Nat->Prop} {w:World} (r:aA)
  (h:r.holds K J i fp w0 F0 w) (hK:∀j,K j->K' j) (ha:Env.aZ K J ρ') (hi:K i):r.holds K' ρ' i fp w0 F0 w:=by
 obtain⟨a1,a2,a3,a4,a5,a6⟩:=ha i hi;have hsl:ρ'.sl i=J.sl i:=by simp only[Env.sl,a2,a4,a5]
 induction r generalizing fp w with
 |lop r s j=>exact⟨by rw[a1];exact h.1,by rw[a1];exact h.2⟩
 |dfr=>exact⟨fun j hj=>by rw[a5]at hj;rw[a6];exact h.1 j hj,by rw[a5,a6];exact h.2⟩
 |mp k ks vs=>
  obtain⟨h0,h1,h2,h3,h4,es,cl,h5,h6,h7⟩:=h;exact⟨by rw[a1];exact h0,bX hK _ h1,h2,h3,h4,es,cl,by rw[a1];exact h5,h6,by rw[fl ha vs h1];exact h7⟩
 |mq ks vs=>
  obtain⟨h0,h1,h2,h4,es,cl,h5,h7⟩:=h;exact⟨by rw[a1];exact h0,bX hK _ h1,h2,h4,es,cl,by rw[a1];exact h5,by rw[fl ha vs h1];exact h7⟩
 |store ty e L=>
  obtain⟨h0,h1,h2,sl,ob,h3,h5,h6,h7⟩:=h;exact⟨by rw[a1];exact h0,h1,h2,sl,ob,by rw[a1];exact h3,h5,by rw[a1];exact h6,by rw[a1];exact h7⟩
 |ro r ih=>
  obtain⟨fp',h1,h2⟩:=h;exact⟨fp',ih h1,h2⟩
 |yet=>trivial
 |gone=>trivial
 |blk ty c=>exact⟨cH hK _ h.1,h.2.1,by rw[a1];exact h.2.2.1,by rw[a1,cx ha c h.1];exact h.2.2.2⟩
 |arr own esz l=>
  obtain⟨h1,h2,h3,h4,h5,h6,h7⟩:=h;refine⟨h1,by rw[a5];exact h2,h3,by rw[a4,a3];exact h4,by rw[a4];exact h5,by rw[a3];exact h6,?_⟩
  rcases h7 with⟨e1,e2,e3⟩|⟨e,e1,e2,e3⟩
  ·refine .inl ⟨e1,by rw[a3];exact e2,fun j hj k hk=>?_⟩
   rw[a3,e3 j hj k hk,cx (N:=fun _=>False) (J:=J) (ρ':=ρ') (fun _ h=>h.elim) _ (h1 j hj).1]
  ·exact .inr ⟨e,e1,by rw[hsl];exact e2,by rw[a4];exact e3⟩
 |gen j=>trivial
 |obs ty q L=>
  obtain⟨h0,h1,h2,h3,h4,h5,h6,h7⟩:=h;have a6:=(ha q h0).2.2.2.2.2;exact⟨hK q h0,h1,by rw[a5];exact h2,h3,by rw[a4,a3];exact h4,by rw[a4];exact h5,by rw[hsl,a6];exact h6,by rw[a6];exact h7⟩
structure aU (J:Env) (fps:Nat->Nat->Prop) (res:List aA) (K:Nat->Prop) (w0:World) (F0:Nat->Prop) (w:World):Prop where
 sub:∀i,known res i->K i
 old:w0.heap.size<=w.heap.size
 os:w.os=w0.os
 tape:w.tape=w0.tape
 output:w.output=w0.output
 holds:∀i,known res i->(ak res i).holds K J i (fps i) w0 F0 w
 lt:∀i b,known res i->fps i b->b<w.heap.size
 disj:∀i j b,known res i->known res j->i≠j->fps i b->¬fps j b
 inF:∀i b,known res i->fps i b->b<w0.heap.size->F0 b
 same:∀b,b<w0.heap.size->¬F0 b->w.heap[b]? =w0.heap[b]?
def dw (l:List aA) (i:Nat):aA:=
 match ak l i with
 | .ro r=>r
 |r=>r
theorem fa {l:List aA} {i:Nat} {r:aA} (h:dw l i=r) (hr:r≠ .yet):known l i:=by
 unfold dw at h;unfold known;intro e;rw[e]at h;exact hr h.symm
theorem aU.look {J:Env} {fps:Nat->Nat->Prop} {res:List aA} {K:Nat->Prop} {w0:World} {F0:Nat->Prop} {w:World} (h:aU J fps res K w0 F0 w) {i:Nat} {r:aA}
  (hr:dw res i=r) (hne:r≠ .yet):∃fp:Nat->Prop,r.holds K J i fp w0 F0 w/\∀b,fp b->b<w.heap.size:=by
 have hk:=fa hr hne;have hh:=h.holds i hk;unfold dw at hr;split at hr
 ·rename_i r' he;rw[he]at hh;subst hr;obtain⟨fp',h1,h2⟩:=hh;exact⟨fp',aA.eO _ h1 fun b hb=>h.same b (h2 b hb).1 (h2 b hb).2,fun b hb=>Nat.lt_of_lt_of_le (h2 b hb).1 h.old⟩
 ·subst hr;exact⟨fps i,hh,fun b hb=>h.lt i b hk hb⟩
def fresh (nid n:Nat) (i:Nat):Prop:=nid<=i/\i<nid+n
def lV (K:Nat->Prop) (J ρ':Env) (nid:Nat) (new:List aA) (w0:World) (F0:Nat->Prop) (w w':World):Prop:=
 Below w.heap.size w w'/\Env.aZ (fun i=>¬fresh nid new.length i) J ρ'/\
 ∃fp:Nat->Nat->Prop,(∀k,k<new.length->(ak new k).holds (fun i=>K i\/fresh nid new.length i) ρ' (nid+k) (fp k) w0 F0 w'/\∀b,fp k b->w.heap.size<=b/\b<w'.heap.size)/\
  ∀k l b,k<new.length->l<new.length->k≠l->fp k b->¬fp l b
theorem lV.refl (K:Nat->Prop) (J:Env) (nid:Nat) (w0:World) (F0:Nat->Prop) (w:World):lV K J J nid [] w0 F0 w w:=
 ⟨Below.refl _ _,Env.aZ.refl _ _,fun _ _=>False,fun k hk=>by simp at hk,fun k l b hk=>by simp at hk⟩
def Ns (res res':List aA) (nid:Nat) (new:List aA):Prop:=
 (∀i,known res i->ak res' i=ak res i/\¬fresh nid new.length i)/\
 (∀i,known res' i->known res i\/fresh nid new.length i)/\
 ∀k,k<new.length->ak res' (nid+k)=ak new k
theorem aA.mr {K K':Nat->Prop} {J:Env} {i:Nat} {fp:Nat->Prop} {w0:World} {F0:Nat->Prop} {w:World} (r:aA)
  (h:r.holds K J i fp w0 F0 w) (hK:∀j,K j->K' j):r.holds K' J i fp w0 F0 w:=by
 induction r generalizing fp w with
 |blk ty c=>exact⟨cH hK _ h.1,h.2⟩
 |mp k ks vs=>exact⟨h.1,bX hK _ h.2.1,h.2.2⟩
 |mq ks vs=>exact⟨h.1,bX hK _ h.2.1,h.2.2⟩
 |obs ty q L=>exact⟨hK q h.1,h.2⟩
 |ro r ih=>
  obtain⟨fp',h1,h2⟩:=h;exact⟨fp',ih h1,h2⟩
 |_=>exact h
theorem aU.grow {J ρ':Env} {fps:Nat->Nat->Prop} {res res':List aA} {w0:World} {F0:Nat->Prop} {w w':World} {nid:Nat} {new:List aA} {K K':Nat->Prop}
  (h:aU J fps res K w0 F0 w) (ha:Ns res res' nid new) (hKf:∀i,K i->¬fresh nid new.length i) (hK':∀i,K i\/fresh nid new.length i->K' i)
  (hg:lV K J ρ' nid new w0 F0 w w'):
  ∃fps',aU ρ' fps' res' K' w0 F0 w'/\Env.aZ K J ρ':=by
 obtain⟨hb,hag,fp,h1,h2⟩:=hg;obtain⟨a1,a2,a3⟩:=ha;have hag':Env.aZ K J ρ':=hag.mono hKf;have hkey:∀i,known res i->¬fresh nid new.length i:=fun i hi=>(a1 i hi).2
 classical
 refine⟨fun i=>if fresh nid new.length i then fp (i-nid)else fps i,⟨?_,Nat.le_trans h.old hb.size,hb.os.trans h.os,hb.tape.trans h.tape,hb.output.trans h.output,?_,?_,?_,?_,?_⟩,hag'⟩
 ·intro i hi;rcases a2 i hi with hk|hf
  ·exact hK' i (.inl (h.sub i hk))
  ·exact hK' i (.inr hf)
 ·intro i hi;rcases a2 i hi with hk|hf
  ·simp only[UZ (hkey i hk)];rw[(a1 i hk).1];exact aA.p9 _ (aA.eO _ (h.holds i hk) fun b hbb=>hb.block b (h.lt i b hk hbb)) (fun j hj=>hK' j (.inl hj)) hag' (h.sub i hk)
  ·simp only[U0 hf];obtain⟨e1,e2⟩:=hf;have:=(h1 (i-nid) (by omega)).1
   rw[show nid+(i-nid)=i by omega]at this
   have h3:=a3 (i-nid) (by omega)
   rw[show nid+(i-nid)=i by omega]at h3
   rw[h3];exact aA.mr _ this hK'
 ·intro i b hi hbb;rcases a2 i hi with hk|hf
  ·simp only[UZ (hkey i hk)]at hbb;exact Nat.lt_of_lt_of_le (h.lt i b hk hbb) hb.size
  ·simp only[U0 hf]at hbb;exact((h1 (i-nid) (by unfold fresh at hf;omega)).2 b hbb).2
 ·intro i j b hi hj hne hbi hbj;rcases a2 i hi with hk|hf<;>rcases a2 j hj with hk'|hf'
  ·simp only[UZ (hkey i hk)]at hbi;simp only[UZ (hkey j hk')]at hbj;exact h.disj i j b hk hk' hne hbi hbj
  ·simp only[UZ (hkey i hk)]at hbi;simp only[U0 hf']at hbj;have:=((h1 (j-nid) (by unfold fresh at hf';omega)).2 b hbj).1
   have:=h.lt i b hk hbi;omega
  ·simp only[U0 hf]at hbi;simp only[UZ (hkey j hk')]at hbj;have:=((h1 (i-nid) (by unfold fresh at hf;omega)).2 b hbi).1
   have:=h.lt j b hk' hbj;omega
  ·simp only[U0 hf]at hbi;simp only[U0 hf']at hbj;unfold fresh at hf hf';exact h2 (i-nid) (j-nid) b (by omega) (by omega) (by omega) hbi hbj
 ·intro i b hi hbb hlt;rcases a2 i hi with hk|hf
  ·simp only[UZ (hkey i hk)]at hbb;exact h.inF i b hk hbb hlt
  ·simp only[U0 hf]at hbb;have:=((h1 (i-nid) (by unfold fresh at hf;omega)).2 b hbb).1
   have:=h.old;omega
 ·intro b hlt hF;rw[hb.block b (Nat.lt_of_lt_of_le hlt h.old)];exact h.same b hlt hF
theorem bG (l m:List aA) (i:Nat):ak (l++m) i=if i<l.length then ak l i else ak m (i-l.length):=by
 rw[ja,ja,ja,UY,UY,UY];split
 ·rename_i h;rw[List.getElem?_append_left h]
 ·rename_i h;rw[List.getElem?_append_right (by omega)]
theorem ji (res new:List aA):Ns res (res++new) res.length new:=by
 refine⟨fun i hi=>?_,fun i hi=>?_,fun k hk=>?_⟩
 ·have:=aG hi;exact⟨by rw[bG,U0 this],by unfold fresh;omega⟩
 ·unfold known at hi⊢;rw[bG]at hi;by_cases h:i<res.length
  ·rw[U0 h]at hi;exact .inl hi
  ·rw[UZ h]at hi;have:=aG hi;exact .inr ⟨by omega,by omega⟩
 ·rw[bG,UZ (by omega)];congr 1;omega
def Env.bf (J:Env) (i b:Nat):Env:= {J with num:=fun j=>if j=i then b else J.num j}
theorem kJ (J:Env) (i b:Nat):Env.aZ (fun j=>¬fresh i 1 j) J (J.bf i b):=fun j hj=>by
 have:j≠i:=fun e=>hj ⟨by omega,by omega⟩
 simp[Env.bf,this]
theorem lV.alloc {K:Nat->Prop} {J:Env} {nid ty:Nat} {c:V} {w0:World} {F0:Nat->Prop} {w:World} (hc:ok K c) (ht:bK c=false) (hn:¬K nid):
  lV K J (J.bf nid w.heap.size) nid [.blk ty c] w0 F0 w (w.alloc (.cells (cells J c).toArray ty)):=by
 refine⟨(Below.refl _ _).alloc (Nat.le_refl _) _,kJ J nid _,fun _ b=>b=w.heap.size,fun k hk=>?_,fun k l b hk hl hne=>?_⟩
 ·simp only[List.length_singleton,Nat.lt_one_iff]at hk;subst hk
  have ha:Env.aZ K J (J.bf nid w.heap.size):=(kJ J nid _).mono fun i hi hf=>by
   unfold fresh at hf;exact hn ((show i=nid by omega)▸hi)
  refine⟨⟨cH (fun i hi=> .inl hi) c hc,ht,by simp[Env.bf],?_⟩,fun b hb=>by subst hb;simp⟩
  rw[cx ha c hc,show(J.bf nid w.heap.size).num (nid+0)=w.heap.size by simp[Env.bf]]
  exact heap_alloc_new w _
 ·simp only[List.length_singleton,Nat.lt_one_iff]at hk hl;omega
theorem aU.write {J:Env} {fps:Nat->Nat->Prop} {res:List aA} {K:Nat->Prop} {w0:World} {F0:Nat->Prop} {w w':World} {i ty:Nat} {c c':V}
  (h:aU J fps res K w0 F0 w) (hi:ak res i= .blk ty c) (hc:ok K c') (ht:bK c'=false)
  (hos:w'.os=w.os) (htape:w'.tape=w.tape) (hout:w'.output=w.output) (hsize:w'.heap.size=w.heap.size)
  (hnew:w'.heap[J.num i]? =some (.cells (cells J c').toArray ty (0,0))) (hold:∀b,b≠J.num i->w'.heap[b]? =w.heap[b]?):
  aU J fps (bC res i (.blk ty c')) K w0 F0 w':=by
 have hk:known res i:=by unfold known;rw[hi];simp
 have hlt:=aG hk;have hh:=h.holds i hk;rw[hi]at hh;obtain⟨_,_,hfp,_⟩:=hh
 have hkn:∀j,known (bC res i (.blk ty c')) j↔known res j:=fun j=>by
  unfold known;rw[bp _ _ _ _ hlt];by_cases e:j=i
  ·subst e;simp[hi]
  ·simp[e]
 refine⟨fun j hj=>h.sub j ((hkn j).1 hj),by rw[hsize];exact h.old,hos.trans h.os,htape.trans h.tape,hout.trans h.output,fun j hj=>?_,fun j b hj hb=>by rw[hsize];exact h.lt j b ((hkn j).1 hj) hb,
  fun j l b hj hl=>h.disj j l b ((hkn j).1 hj) ((hkn l).1 hl),fun j b hj=>h.inF j b ((hkn j).1 hj),fun b hb hF=>?_⟩
 ·rw[bp _ _ _ _ hlt];by_cases e:j=i
  ·subst e;simp only[if_true];exact⟨hc,ht,hfp,hnew⟩
  ·simp only[UZ e];have hj':=(hkn j).1 hj;refine aA.eO _ (h.holds j hj') fun b hb=>hold b fun eb=>?_
   subst eb;exact h.disj j i _ hj' hk e hb hfp
 ·rw[hold b fun e=>hF (h.inF i _ hk hfp (e▸hb) |> fun x=>e▸x)]
  exact h.same b hb hF
theorem aU.forget {J:Env} {fps:Nat->Nat->Prop} {res res':List aA} {K:Nat->Prop} {w0:World} {F0:Nat->Prop} {w:World}
  (h:aU J fps res K w0 F0 w) (hf:∀i,known res' i->ak res' i=ak res i):aU J fps res' K w0 F0 w:=by
 have hk:∀i,known res' i->known res i:=fun i hi=>by
  have:=hf i hi;unfold known at hi⊢;rwa [this]at hi
 exact⟨fun i hi=>h.sub i (hk i hi),h.old,h.os,h.tape,h.output,fun i hi=>by rw[hf i hi];exact h.holds i (hk i hi),fun i b hi=>h.lt i b (hk i hi),
  fun i j b hi hj=>h.disj i j b (hk i hi) (hk j hj),fun i b hi=>h.inF i b (hk i hi),h.same⟩
theorem aU.rp {J:Env} {fps:Nat->Nat->Prop} {res:List aA} {K K':Nat->Prop} {w0:World} {F0:Nat->Prop} {w:World}
  (h:aU J fps res K w0 F0 w) (hK:∀i,K i->K' i):aU J fps res K' w0 F0 w:=
 ⟨fun i hi=>hK i (h.sub i hi),h.old,h.os,h.tape,h.output,fun i hi=>aA.mr _ (h.holds i hi) hK,h.lt,h.disj,h.inF,h.same⟩
theorem aU.turn {J ρ':Env} {fps:Nat->Nat->Prop} {res res':List aA} {K K':Nat->Prop} {w0:World} {F0:Nat->Prop} {w w':World} (h:aU J fps res K w0 F0 w) (T B:Nat->Prop) (fp':Nat->Nat->Prop)
  (hK:∀i,known res' i->K' i) (hKK:∀i,K i->K' i) (hag:Env.aZ K J ρ')
  (hA:∀i,known res' i->¬B i->known res i/\¬T i/\ak res' i=ak res i)
  (hB:∀i,known res' i->B i->(ak res' i).holds K' ρ' i (fp' i) w0 F0 w'/\∀b,fp' i b->(∃t,T t/\known res t/\fps t b)\/(w.heap.size<=b/\b<w'.heap.size))
  (hBd:∀i j b,B i->B j->i≠j->fp' i b->¬fp' j b)
  (hos:w'.os=w.os) (htape:w'.tape=w.tape) (hout:w'.output=w.output) (hsize:w.heap.size<=w'.heap.size)
  (hsame:∀b,b<w.heap.size->(∀t,T t->known res t->¬fps t b)->w'.heap[b]? =w.heap[b]?):
  ∃fps',aU ρ' fps' res' K' w0 F0 w':=by
 classical
 have hAB:∀i j b,known res' i->known res' j->¬B i->B j->fps i b->¬fp' j b:=by
  intro i j b hi hj hbi hbj hf hf';obtain⟨k1,k2,_⟩:=hA i hi hbi;rcases(hB j hj hbj).2 b hf' with⟨t,ht,hkt,hft⟩|⟨hge,_⟩
  ·exact h.disj i t b k1 hkt (fun e=>k2 (e▸ht)) hf hft
  ·have:=h.lt i b k1 hf;omega
 refine⟨fun i=>if B i then fp' i else fps i,⟨hK,Nat.le_trans h.old hsize,hos.trans h.os,htape.trans h.tape,hout.trans h.output,?_,?_,?_,?_,?_⟩⟩
 ·intro i hi;by_cases hb:B i
  ·simp only[U0 hb];exact(hB i hi hb).1
  ·simp only[UZ hb];obtain⟨k1,k2,k3⟩:=hA i hi hb;rw[k3];exact aA.p9 _ (aA.eO _ (h.holds i k1) fun b hf=>hsame b (h.lt i b k1 hf) fun t ht hkt hft=>h.disj i t b k1 hkt (fun e=>k2 (e▸ht)) hf hft) hKK hag (h.sub i k1)
 ·intro i b hi hf;by_cases hb:B i
  ·simp only[U0 hb]at hf;rcases(hB i hi hb).2 b hf with⟨t,ht,hkt,hft⟩|⟨_,hlt⟩
   ·exact Nat.lt_of_lt_of_le (h.lt t b hkt hft) hsize
   ·exact hlt
  ·simp only[UZ hb]at hf;exact Nat.lt_of_lt_of_le (h.lt i b (hA i hi hb).1 hf) hsize
 ·intro i j b hi hj hne hf hf';by_cases hbi:B i<;>by_cases hbj:B j
  ·simp only[U0 hbi]at hf;simp only[U0 hbj]at hf';exact hBd i j b hbi hbj hne hf hf'
  ·simp only[U0 hbi]at hf;simp only[UZ hbj]at hf';exact hAB j i b hj hi hbj hbi hf' hf
  ·simp only[UZ hbi]at hf;simp only[U0 hbj]at hf';exact hAB i j b hi hj hbi hbj hf hf'
  ·simp only[UZ hbi]at hf;simp only[UZ hbj]at hf';exact h.disj i j b (hA i hi hbi).1 (hA j hj hbj).1 hne hf hf'
 ·intro i b hi hf hlt;by_cases hb:B i
  ·simp only[U0 hb]at hf;rcases(hB i hi hb).2 b hf with⟨t,ht,hkt,hft⟩|⟨hge,_⟩
   ·exact h.inF t b hkt hft hlt
   ·have:=h.old;omega
  ·simp only[UZ hb]at hf;exact h.inF i b (hA i hi hb).1 hf hlt
 ·intro b hlt hF;rw[hsame b (Nat.lt_of_lt_of_le hlt h.old) fun t _ hkt hft=>hF (h.inF t b hkt hft hlt)]
  exact h.same b hlt hF
end Go.Sx
namespace Go.Sx
open Go.RowKit (Below)
inductive S where
 |und
 |ud
 |v (x:V)
 |gv (ch:List (Nat×Bool)) (x:V)
def bB:List S->Nat->S
 | [],_=> .und
 |x::_,0=>x
 |_::l,n+1=>bB l n
def sset:List S->Nat->S->List S
 | [],_,_=> []
 |_::l,0,y=>y::l
 |x::l,n+1,y=>x::sset l n y
theorem iY:∀(l:List S) (i:Nat),bB l i=l.getD i .und
 | [],i=>by simp[bB]
 |r::l,0=>by simp[bB]
 |r::l,i+1=>by simp[bB,iY l i]
theorem yW:∀(l:List S) (i:Nat) (r:S),sset l i r=l.set i r
 | [],i,r=>by simp[sset]
 |x::l,0,r=>by simp[sset]
 |x::l,i+1,r=>by simp[sset,yW l i]
theorem fF (l:List S) (i:Nat) (r:S):(sset l i r).length=l.length:=by rw[yW];simp
theorem eK (l:List S) (i j:Nat) (r:S):bB (sset l i r) j=if j=i/\i<l.length then r else bB l j:=by
 rw[yW,iY,iY,UY,UY,List.getElem?_set];by_cases e:i=j
 ·subst e;by_cases h:i<l.length
  ·simp[h]
  ·simp[h]
 ·simp[e,Ne.symm e]
theorem Er {l:List S} {i:Nat} (h:bB l i≠ .und):i<l.length:=by
 rw[iY]at h;rcases Nat.lt_or_ge i l.length with h'|h'
 ·exact h'
 ·simp[UY,List.getElem?_eq_none h']at h
def N3 (a b:Bool):Bool:=a&&b
def Rj (a b:Bool):Bool:=a||b
def KW (a:Bool):Bool:= !a
def RX (c a b:Bool):Bool:=if c then a else b
def Cq (a b:Bool):Bool:=a==b
def T3 (a b:Int):Bool:=decide (a<b)
def Uc (a b:Int):Bool:=decide (a<=b)
def z0 (a b:Int):Bool:=decide (a=b)
def qa (a b:Int):Int:=if b<a then b else a
def imax (a b:Int):Int:=if a<b then b else a
def Gi (a b:Key):Bool:=decide (a=b)
def Ah (a b:bN):Bool:=decide (a=b)
def BU (a b:Bytes):Bool:=decide (a=b)
def B7 (a b:Obj):Bool:=decide (a=b)
def BL (a b:ByteArray):Bool:=decide (a=b)
def Ai (a b:Int):Int:=a+b
def uv (a b:Int):Int:=a-b
def P5 (a b:Int):Int:=a*b
def Q0 (a b:Int):Int:=a.tdiv b
def OY (a b:Int):Int:=a.tmod b
def pI (a:Int):Nat:=a.toNat
def dJ (a:Nat):Int:=(a:Int)
def RJ (a:UInt8):Int:=(a.toNat:Int)
def ca (a:ByteArray):Int:=(a.size:Int)
def aL (k:IntKind) (n:Int):Prop:=b7 k n
def Rb (j:Int) (n:Nat):Prop:=0<=j/\j<(n:Int)
def Gc (i n:Nat):Prop:=i<n
def Ds (b:Int):Prop:=b≠0
def c8:Option Prop->Prop
 |none=>True
 |some p=>p
def Ac:Option Prop->Prop->Prop
 |none,k=>k
 |some p,k=>p/\k
def PU (g:Bool):Option Prop->Prop->Prop
 |none,k=>k
 |some p,k=>(g=true->p)/\k
theorem mQ {q:Option Prop} {k:Prop} (h:Ac q k):c8 q/\k:=by cases q with
 |none=>exact⟨trivial,h⟩
 |some p=>exact h
theorem AK {g:Bool} {q:Option Prop} {k:Prop} (h:PU g q k):(g=true->c8 q)/\k:=by cases q with
 |none=>exact⟨fun _=>trivial,h⟩
 |some p=>exact h
def raw:S->Option Bool
 | .v (.cb b)=>some b
 | .v (.bo b)=>some b
 | .gv _ (.cb b)=>some b
 | .gv _ (.bo b)=>some b
 |_=>none
def kT (sl:List S):List (Nat×Bool)->Bool
 | []=>true
 | (s,w)::c=>match raw (bB sl s)with
   |some b=>match c with
    | []=>if w then b else KW b
    |_=>N3 (if w then b else KW b) (kT sl c)
   |none=>false
def DW (ch:List (Nat×Bool)) (s:Nat) (w:Bool):Bool:=ch.any fun p=>p.1==s&&p.2==w
def DS (a b:List (Nat×Bool)):Bool:=a.all fun p=>DW b p.1 p.2
theorem gI (sl:List S) (s:Nat) (w:Bool) (c:List (Nat×Bool)):kT sl ((s,w)::c)=((match raw (bB sl s)with|some b=>(if w then b else !b)|none=>false)&&kT sl c):=by
 simp only[kT];cases raw (bB sl s)with
 |none=>rfl
 |some b=>cases c<;>simp[N3,KW,kT]
theorem uY (sl:List S) (ch:List (Nat×Bool)):kT sl ch=true↔ ∀p∈ch,raw (bB sl p.1)=some p.2:=by
 induction ch with
 |nil=>simp[kT]
 |cons p c ih=>
  obtain⟨s,w⟩:=p;rw[gI];simp only[US,ih,List.mem_cons,forall_eq_or_imp];refine and_congr_left fun _=>?_
  cases raw (bB sl s)with
  |none=>simp
  |some b=>cases w<;>cases b<;>simp
theorem DP {sl:List S} {a b:List (Nat×Bool)} (h:DS a b=true) (hb:kT sl b=true):kT sl a=true:=by
 rw[uY]at hb⊢;intro p hp;simp only[DS,List.all_eq_true,DW,List.any_eq_true,US,UU]at h;obtain⟨q,hq,e1,e2⟩:=h p hp;have:=hb q hq;rw[e1,e2]at this;exact this
def fy (J:Env) (K:Nat->Prop) (sl:List S) (x:Value):S->Prop
 | .und=>True
 | .ud=>x=undef
 | .v y=>x=den J y/\ok K y
 | .gv ch y=>(kT sl ch=true->x=den J y/\ok K y)/\(kT sl ch=false->x=undef)
def gH (J:Env) (K:Nat->Prop) (sl:List S) (a:Act):Prop:=
 a.tmps.size=sl.length/\∀t,fy J K sl (a.tmps.getD t undef) (bB sl t)
theorem fy.env {J ρ':Env} {K K':Nat->Prop} {sl:List S} {x:Value} {s:S} (h:fy J K sl x s) (hK:∀i,K i->K' i) (ha:Env.aZ K J ρ'):fy ρ' K' sl x s:=by
 cases s with
 |und=>trivial
 |ud=>exact h
 |v y=>exact⟨by rw[ep ha y h.2];exact h.1,cH hK y h.2⟩
 |gv ch y=>exact⟨fun hg=>⟨by rw[ep ha y (h.1 hg).2];exact(h.1 hg).1,cH hK y (h.1 hg).2⟩,h.2⟩
theorem gH.env {J ρ':Env} {K K':Nat->Prop} {sl:List S} {a:Act} (h:gH J K sl a) (hK:∀i,K i->K' i) (ha:Env.aZ K J ρ'):gH ρ' K' sl a:=
 ⟨h.1,fun t=>(h.2 t).env hK ha⟩
def named (d:Nat) (ch:List (Nat×Bool)):Bool:=ch.any fun p=>p.1==d
def wH (d:Nat) (sl:List S):Bool:=sl.all fun s=>match s with| .gv ch _=> !named d ch|_=>true
theorem sd {sl:List S} {d:Nat} {s:S} {ch:List (Nat×Bool)} (h:named d ch=false):kT (sset sl d s) ch=kT sl ch:=by
 induction ch with
 |nil=>rfl
 |cons p c ih=>
  obtain⟨t,w⟩:=p;simp only[named,List.any_cons,Bool.or_eq_false_iff,beq_eq_false_iff_ne,ne_eq]at h;have h2:named d c=false:=h.2;rw[gI,gI,ih h2,eK,UZ (fun hh=>h.1 hh.1)]
theorem CE {sl:List S} {d t:Nat} {ch:List (Nat×Bool)} {y:V} (h:wH d sl=true) (ht:bB sl t= .gv ch y):named d ch=false:=by
 have hlt:t<sl.length:=Er (by rw[ht];simp)
 rw[iY,UY,List.getElem?_eq_getElem hlt]at ht;simp only[Option.getD_some]at ht;have:=(List.all_eq_true.1 h) _ (List.getElem_mem hlt);rw[ht]at this;simpa using this
theorem gH.put {J:Env} {K:Nat->Prop} {sl:List S} {a:Act} {d:Nat} {s:S} {x:Value} (h:gH J K sl a) (hf:wH d sl=true)
  (hs:fy J K (sset sl d s) x s):gH J K (sset sl d s) (a.put (some d) x):=by
 refine⟨by simp[Act.put,fF,h.1],fun t=>?_⟩
 rw[eK];by_cases e:t=d/\d<sl.length
 ·rw[U0 e];obtain⟨rfl,hd⟩:=e
  have:(a.put (some t) x).tmps.getD t undef=x:=by
   simp[Act.put,h.1,hd]
  rw[this];exact hs
 ·rw[UZ e]
  have hx:(a.put (some d) x).tmps.getD t undef=a.tmps.getD t undef:=by
   simp only[Act.put,Array.getD_eq_getD_getElem?,Array.getElem?_setIfInBounds];by_cases ed:d=t
   ·subst ed;have:¬d<sl.length:=fun hl=>e ⟨rfl,hl⟩
    simp[h.1,this]
   ·simp[ed]
  rw[hx];have:=h.2 t;cases hst:bB sl t with
  |und=>trivial
  |ud=>rw[hst]at this;exact this
  |v y=>rw[hst]at this;exact this
  |gv ch y=>
   rw[hst]at this;have hn:=CE hf hst;exact⟨fun hg=>this.1 (by rwa [sd hn]at hg),fun hg=>this.2 (by rwa [sd hn]at hg)⟩
def Ci:Value->Option V
 | .bool b=>some (.cb b)
 | .int k n=>if b7 k n then some (.ci k n)else none
 | .string s=>some (.st s)
 | .pointer none=>some (.nl (.pointer none))
 | .slice none 0 0=>some (.nl (.slice none 0 0))
 | .map none=>some (.nl (.map none))
 | .nilFunc=>some (.nl .nilFunc)
 | .nilIface=>some (.nl .nilIface)
 |_=>none
theorem Aw {c:Value} {x:V} (J:Env) (K:Nat->Prop) (h:Ci c=some x):c=den J x/\ok K x:=by
 unfold Ci at h;split at h
 ·simp only[UQ]at h;subst h;exact⟨rfl,trivial⟩
 ·split at h
  ·simp only[UQ]at h;subst h;exact⟨rfl,by assumption⟩
  ·simp at h
 ·simp only[UQ]at h;subst h;exact⟨rfl,trivial⟩
 ·simp only[UQ]at h;subst h;exact⟨rfl,rfl⟩
 ·simp only[UQ]at h;subst h;exact⟨rfl,rfl⟩
 ·simp only[UQ]at h;subst h;exact⟨rfl,rfl⟩
 ·simp only[UQ]at h;subst h;exact⟨rfl,rfl⟩
 ·simp only[UQ]at h;subst h;exact⟨rfl,rfl⟩
 ·simp at h
def dQ (sl:List S) (ch:List (Nat×Bool)):Operand->Option V
 | .tmp t=>match bB sl t with
   | .v x=>some x
   | .gv c x=>if DS c ch then some x else none
   |_=>none
 | .const v=>Ci v
 | .func f=>if Nat.blt f 2000 then some (.fn f [])else none
 | .global _=>none
theorem fC {J:Env} {K:Nat->Prop} {sl:List S} {a:Act} {ch:List (Nat×Bool)} {o:Operand} {x:V} (h:gH J K sl a) (hg:kT sl ch=true)
  (ho:dQ sl ch o=some x):a.eval o=den J x/\ok K x:=by
 cases o with
 |tmp t=>
  simp only[dQ]at ho;have ht:=h.2 t;cases hs:bB sl t with
  |und=>simp[hs]at ho
  |ud=>simp[hs]at ho
  |v y=>
   simp only[hs,UQ]at ho;subst ho;rw[hs]at ht;exact ht
  |gv c y=>
   simp only[hs]at ho;split at ho
   ·rename_i hc;simp only[UQ]at ho;subst ho;rw[hs]at ht;exact ht.1 (DP hc hg)
   ·simp at ho
 |const v=>exact Aw J K ho
 |func f=>
  simp only[dQ]at ho;split at ho
  ·rename_i hlo;simp only[UQ]at ho;subst ho;exact⟨by simp[Act.eval,den,ba,vA hlo],trivial⟩
  ·simp at ho
 |global g=>simp[dQ]at ho
def kE (sl:List S) (ch:List (Nat×Bool)):List Operand->Option (List V)
 | []=>some []
 |o::l=>match dQ sl ch o,kE sl ch l with
  |some x,some xs=>some (x::xs)
  |_,_=>none
theorem fk {J:Env} {K:Nat->Prop} {sl:List S} {a:Act} {ch:List (Nat×Bool)} (h:gH J K sl a) (hg:kT sl ch=true):
  ∀{l:List Operand} {xs:List V},kE sl ch l=some xs->l.map a.eval=ba J xs/\eF K xs
 | [],xs,ho=>by simp only[kE,UQ]at ho;subst ho;exact⟨rfl,trivial⟩
 |o::l,xs,ho=>by
  simp only[kE]at ho;split at ho
  ·rename_i x ys hx hl;simp only[UQ]at ho;subst ho;obtain⟨h1,h2⟩:=fC h hg hx;obtain⟨h3,h4⟩:=fk h hg hl;exact⟨by simp[h1,h3,ba],h2,h4⟩
  ·simp at ho
def pZ (sl:List S) (ops:List Oper):Option (Nat×Bool)->Option (Option (List (Nat×Bool)))
 |none=>some (some [])
 |some (j,w)=>match (ops[j]?).bind (·.dst)with
  |none=>none
  |some s=>match bB sl s with
   | .ud=>some none
   | .v (.cb b)=>if b==w then some (some [])else some none
   | .v (.bo _)=>some (some [(s,w)])
   | .gv c (.bo _)=>some (some ((s,w)::c))
   | .gv c (.cb b)=>if b==w then some (some c)else some none
   |_=>none
def tk (sl:List S):Option (List (Nat×Bool))->Bool
 |none=>false
 |some ch=>kT sl ch
theorem kQ {J:Env} {K:Nat->Prop} {sl:List S} {a:Act} {ops:Array Oper} {o:Oper} {r:Option (List (Nat×Bool))} (h:gH J K sl a)
  (hc:pZ sl ops.toList o.guard=some r):Region.wanted o (yielded ops a.tmps)=tk sl r:=by
 unfold Region.wanted;cases hg:o.guard with
 |none=>rw[hg]at hc;simp only[pZ,UQ]at hc;subst hc;rfl
 |some jw=>
  obtain⟨j,w⟩:=jw;rw[hg]at hc;simp only[pZ,Array.getElem?_toList]at hc;simp only[yielded];cases hs:(ops[j]?).bind (·.dst)with
  |none=>simp[hs]at hc
  |some s=>
   simp only[hs,Option.bind_some]at hc⊢;have hsl:=h.2 s
   have hval:∀x,bB sl s≠ .und->a.tmps.getD s undef=x->a.tmps[s]? =some x:=fun x hne hx=>by
    have:=Er hne;rw[<-h.1]at this;rw[Array.getD_eq_getD_getElem?,Array.getElem?_eq_getElem this]at hx;rw[Array.getElem?_eq_getElem this];simpa using hx
   cases hss:bB sl s with
   |und=>simp[hss]at hc
   |ud=>
    rw[hss]at hsl hc;simp only[UQ]at hc;subst hc;rw[hval _ (by rw[hss];simp) hsl]
    simp[undef,tk]
   |v y=>
    rw[hss]at hsl hc;rw[hval _ (by rw[hss];simp) hsl.1]
    cases y<;>simp only[reduceCtorEq]at hc
    ·rename_i b;simp only[den];clear hval;split at hc<;>simp only[UQ]at hc<;>subst hc<;>rename_i hb
     ·simpa[tk,kT]using hb
     ·simpa[tk]using hb
    ·rename_i b;simp only[UQ]at hc;subst hc;simp only[den,tk];rw[gI];simp only[hss,raw,kT,Bool.and_true];cases w<;>cases b<;>rfl
   |gv c y=>
    rw[hss]at hsl hc;obtain⟨h1,h3⟩:=hsl;cases y<;>simp only[reduceCtorEq]at hc
    ·rename_i b;cases hgc:kT sl c with
     |true=>
      rw[hval _ (by rw[hss];simp) (h1 hgc).1]
      simp only[den];clear hval;split at hc<;>simp only[UQ]at hc<;>subst hc<;>rename_i hb
      ·simpa[tk,hgc]using hb
      ·simpa[tk]using hb
     |false=>
      rw[hval _ (by rw[hss];simp) (h3 hgc)]
      split at hc<;>simp only[UQ]at hc<;>subst hc<;>simp[undef,hgc,tk]
    ·rename_i b;simp only[UQ]at hc;subst hc;simp only[tk];rw[gI];simp only[hss,raw];cases hgc:kT sl c with
     |true=>
      rw[hval _ (by rw[hss];simp) (h1 hgc).1]
      simp only[den];cases w<;>cases b<;>rfl
     |false=>
      rw[hval _ (by rw[hss];simp) (h3 hgc)]
      simp[undef]
def clean:List S->List S
 | []=> []
 | .v x::l=> .v x::clean l
 |_::l=> .und::clean l
theorem jd:∀(l:List S) (t:Nat),bB (clean l) t=match bB l t with| .v x=> .v x|_=> .und
 | [],t=>by simp[clean,bB]
 |s::l,0=>by cases s<;>simp[clean,bB]
 |s::l,t+1=>by cases s<;>simp[clean,bB,jd l t]
theorem iB:∀(l:List S),(clean l).length=l.length
 | []=>rfl
 |s::l=>by cases s<;>simp[clean,iB l]
theorem gH.clean {J:Env} {K:Nat->Prop} {sl:List S} {a:Act} (h:gH J K sl a):gH J K (clean sl) a:=by
 refine⟨by rw[iB];exact h.1,fun t=>?_⟩
 rw[jd];have:=h.2 t;split
 ·rename_i x hx;rw[hx]at this;exact this
 ·trivial
section runs
variable {P:Program}
def j3 (P:Program) (t:Nat):Option Bool:=
 match P.underlying t with
 |some (.struct _)=>some true
 |some (.array _ _)=>some true
 |some _=>some false
 |none=>none
def mO (P:Program) (t:Nat):Option Nat:=(P.info? t).map (·.size)
theorem aY {t:Nat} {d:TypeDesc} (w:World) (h:P.underlying t=some d):(underlying t).run P w= .ok d w:=by
 simp[underlying,h]
theorem pH {t:Nat} {b:Bool} (w:World) (h:j3 P t=some b):(Go.isAgg t).run P w= .ok b w:=by
 unfold j3 at h;unfold Go.isAgg;split at h<;>simp only[UQ,reduceCtorEq]at h<;>subst h
 ·rename_i hu;simp[aY w hu]
 ·rename_i hu;simp[aY w hu]
 ·rename_i d h1 h2 hu;rw[Sem.run_bind,aY w hu];cases d<;>simp_all
theorem eX {t n:Nat} (w:World) (h:mO P t=some n):(sizeOf t).run P w= .ok n w:=by
 unfold mO at h;cases hi:P.info? t with
 |none=>simp[hi]at h
 |some i=>
  simp only[hi,Option.map_some,UQ]at h;simp[sizeOf,typeInfo,hi,h]
theorem add_lit (b o n:Nat):Addr.add ⟨b,o,none⟩ n=⟨b,o+n,none⟩:=by unfold Addr.add;split<;>simp_all
theorem jq {J:Env} {K:Nat->Prop} {t b off:Nat} {r:V} (w:World) (hr:ok K r) (ht:bK r=false) (ha:j3 P t=some (gZ r)) (hs:mO P t=some (dH r))
  (hc:∀k,k<dH r->w.cell? ⟨b,off+k,none⟩=(cells J r)[k]?):(loadVar t ⟨b,off,none⟩).run P w= .ok (den J r) w:=by
 have hl:=aR J r hr;unfold loadVar;rw[Sem.run_bind,pH w ha,kL J hr ht];cases hag:Sx.gZ r with
 |true=>
  have:=run_loadCells_list (P:=P) w ⟨b,off,none⟩ (cells J r) (fun j v hv=>by
   have hj:j<dH r:=by
    rw[<-hl];exact(List.getElem?_eq_some_iff.1 hv).1
   rw[add_lit,hc j hj,hv])
  rw[hl]at this;simp[eX w hs,this,gP]
 |false=>
  have h1:dH r=1:=by
   have:=mo J r hr hag ht;rw[<-hl];simp[cells,cI this]
  have h0:=hc 0 (by omega)
  simp only[Nat.add_zero]at h0
  have:(cells J r)[0]? =some ((cells J r).getD 0 undef):=by
   have:0<(cells J r).length:=by omega
   simp[UY,List.getElem?_eq_getElem this]
  simp only[Result.andThen_ok,Bool.false_eq_true,if_false,run_load];rw[h0,this];rfl
theorem iD {α:Type} (p m q:List α) (k:Nat) (hk:k<m.length):(p++m++q)[p.length+k]? =m[k]? :=by
 rw[List.append_assoc,List.getElem?_append_right (by omega),List.getElem?_append_left (by omega)]
 congr 1;omega
theorem mG {J:Env} {K:Nat->Prop} {t b off ty:Nat} {c r:V} (w:World) (hr:ok K r) (ht:bK r=false) (ha:j3 P t=some (gZ r)) (hs:mO P t=some (dH r))
  (hb:w.heap[b]? =some (.cells (cells J c).toArray ty (0,0))) (hp:∃p q,cells J c=p++cells J r++q/\off=p.length):(loadVar t ⟨b,off,none⟩).run P w= .ok (den J r) w:=by
 obtain⟨p,q,e1,rfl⟩:=hp;refine jq w hr ht ha hs fun k hk=>?_
 have hl:=aR J r hr;rw[cell_of_row w b _ _ _ _ hb];simp only[List.getElem?_toArray,e1];exact iD p _ q k (by omega)
end runs
mutual
theorem gL (J:Env) {K:Nat->Prop}:∀v,ok K v->bK v=false->∀x∈cells J v,x.oneCell'=true
 | .ag l,hv,_,x,hx=>oO J l hv.1 hv.2 x (by rwa [eE]at hx)
 | .key k,_,_,x,hx=>by
   rw[pT]at hx;simp only[c9,List.mem_cons,List.not_mem_nil,or_false,i64]at hx;rcases hx with rfl|rfl|rfl|rfl|rfl|rfl<;>rfl
 | .sl s,_,_,x,hx=>by
   rw[lJ]at hx;simp only[eY,List.mem_flatMap,c9,List.mem_cons,List.not_mem_nil,or_false,i64]at hx;obtain⟨i,_,hx⟩:=hx;rcases hx with rfl|rfl|rfl|rfl|rfl|rfl<;>rfl
 | .by b,_,_,x,hx=>by
   rw[iL]at hx;simp only[bV,List.mem_map]at hx;obtain⟨i,_,rfl⟩:=hx;rfl
 | .ob o,_,_,x,hx=>by
   rw[hS]at hx;simp only[dD,List.mem_cons,List.mem_append,eY,List.mem_flatMap,bV,List.mem_map,c9,i64,List.not_mem_nil,or_false]at hx;rcases hx with rfl|rfl|rfl|⟨i,_,hx⟩|⟨i,_,rfl⟩
   ·rfl
   ·rfl
   ·rfl
   ·rcases hx with rfl|rfl|rfl|rfl|rfl|rfl<;>rfl
   ·rfl
 | .tp l,_,h,_,_=>by simp[bK]at h
 | .mp id,_,_,x,hx=>by
   simp only[cells,den,Value.cells,List.mem_singleton]at hx;subst hx;rfl
 | .fn f l,hv,_,x,hx=>by
   simp only[cells,den,cI (kX _ _),List.mem_singleton]at hx;subst hx;exact kX _ _
 | .ch b f l y,hv,_,x,hx=>by
   have h1:(den J (.ch b f l y)).oneCell'=true:=mo J (.ch b f l y) hv rfl rfl;simp only[cells,cI h1,List.mem_singleton]at hx;subst hx;exact h1
 | .bs y lo hi,hv,_,x,hx=>by
   simp only[cells,den,cI (pz _ _ _),List.mem_singleton]at hx;subst hx;exact pz _ _ _
 | .ks y e n lo hi,hv,_,x,hx=>by
   simp only[cells,den,cI (pS _ _ _ _ _),List.mem_singleton]at hx;subst hx;exact pS _ _ _ _ _
 | .nl v,hv,_,x,hx=>by
   simp only[cells,den,cI hv,List.mem_singleton]at hx;subst hx;exact hv
 | .cb _,_,_,x,hx| .bo _,_,_,x,hx| .ci _ _,_,_,x,hx| .it _ _,_,_,x,hx| .bt _,_,_,x,hx| .st _,_,_,x,hx| .lp _ _,_,_,x,hx| .lx _ _ _ _ _ _,_,_,x,hx
 | .sc _ _ _,_,_,x,hx| .so _ _,_,_,x,hx| .ap _ _ _ _,_,_,x,hx| .sa _,_,_,x,hx| .op _ _,_,_,x,hx| .yl _,_,_,x,hx| .ic _ _,_,_,x,hx| .ax _ _ _ _ _ _ _ _,_,_,x,hx=>by
   simp only[cells,den,Value.cells,List.mem_singleton]at hx;subst hx;rfl
theorem oO (J:Env) {K:Nat->Prop}:∀l,eF K l->qu l->∀x∈aT J l,x.oneCell'=true
 | [],_,_,x,hx=>by simp[aT]at hx
 |y::l,hv,hc,x,hx=>by
  simp only[aT,List.mem_append]at hx;rcases hx with hx|hx
  ·exact gL J y hv.1 ((cG _).1 hc y (by simp)) x hx
  ·exact oO J l hv.2 ((cG _).2 fun z hz=>(cG _).1 hc z (by simp[hz])) x hx
end
section stores
variable {P:Program}
theorem setRow_other (w:World) (g:Nat) (cs:Array Value) (b:Nat) (h:b≠g):(w.setRow g cs).heap[b]? =w.heap[b]? :=by
 simp only[World.setRow,Array.getElem?_modify];rw[UZ (Ne.symm h)]
theorem wV {J:Env} {K:Nat->Prop} {t b off ty:Nat} {c c' y:V} (w:World) (hy:ok K y) (ht:bK y=false) (hs:mO P t=some (dH y))
  (hb:w.heap[b]? =some (.cells (cells J c).toArray ty (0,0))) (hp:Et K J c c' off y):
  (storeVar t ⟨b,off,none⟩ (den J y)).run P w= .ok () (w.setRow b (cells J c').toArray):=by
 obtain⟨⟨p,m,q,e1,e2,rfl,e4⟩,_⟩:=hp;have hl:=aR J y hy;have hz:(den J y).cells.size=dH y:=by rw[<-hl];simp[cells]
 have hst:=run_storeCells_at (P:=P) b p.length ty (cells J y) 0 (cells J c).toArray w hb (by simp[e1];omega) (gL J y hy ht)
 simp only[Nat.add_zero]at hst;simp only[storeVar,Sem.run_bind,eX w hs,Result.andThen_ok,hz,ne_eq,not_true_eq_false,if_false];rw[show(den J y).cells.toList=cells J y from rfl,hst];congr 3
 rw[e2];simp only[e1]
 rw[show List.take p.length (p++m++q)=p by simp,show List.drop (p.length+(cells J y).length) (p++m++q)=q by
  rw[hl,<-e4,<-List.length_append,List.drop_left]]
end stores
end Go.Sx
