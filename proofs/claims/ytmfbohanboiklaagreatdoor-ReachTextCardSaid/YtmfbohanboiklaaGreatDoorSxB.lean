import Derived.Test.YtmfbohanboiklaaGreatDoorSxA
set_option linter.unusedSimpArgs false
set_option linter.unusedVariables false
namespace Go.Sx
inductive Kd where
 |b
 |s
 |i (k:IntKind)
 deriving DecidableEq
def Kd.of:Kd->Value->Prop
 | .b,v=>∃x,v= .bool x
 | .s,v=>∃x,v= .string x
 | .i k,v=>∃n,v= .int k n
def gE:List Kd->List Value->Prop
 | [],[]=>True
 |k::ks,v::vs=>k.of v/\gE ks vs
 |_,_=>False
theorem gE.length:∀{ks:List Kd} {vs:List Value},gE ks vs->vs.length=ks.length
 | [],[],_=>rfl
 |_::_,_::_,h=>by simp[gE.length h.2]
 | [],_::_,h=>h.elim
 |_::_,[],h=>h.elim
theorem gE.split:∀{a b:List Kd} {vs:List Value},gE (a++b) vs->gE a (vs.take a.length)/\gE b (vs.drop a.length)
 | [],b,vs,h=>by simpa[gE]using h
 |k::a,b,[],h=>h.elim
 |k::a,b,v::vs,h=>by
  obtain⟨h1,h2⟩:=gE.split (a:=a) h.2;exact⟨by simpa[gE]using⟨h.1,h1⟩,by simpa using h2⟩
theorem gE.join:∀{a b:List Kd} {vs us:List Value},gE a vs->gE b us->gE (a++b) (vs++us)
 | [],_,[],_,_,h=>by simpa using h
 |k::a,_,v::vs,_,h,h'=>⟨h.1,gE.join h.2 h'⟩
 | [],_,_::_,_,h,_=>h.elim
 |_::_,_,[],_,h,_=>h.elim
def fQ(g:Nat->Option (List Kd)):Nat->List Field->Option (List Kd)
 |_,[]=>some []
 |off,f::fs=>if f.name != "_" &&f.offset==off then
  match g f.type with
  |none=>none
  |some ks=>(fQ g (off+ks.length) fs).map (ks++ ·)
  else none
def flatK(P:Program):Nat->Nat->Option (List Kd)
 |0,_=>none
 |f+1,t=>match P.underlying t with
  |some .bool=>some [.b]
  |some .string=>some [.s]
  |some (.int k)=>some [.i k]
  |some (.struct fs)=>if P.stoodInHeld t then none else
   match fQ (flatK P f) 0 fs.toList with
   |none=>none
   |some ks=>if iz P t==some ks.length then some ks else none
  |some (.array n e)=>match flatK P f e with
   |none=>none
   |some ks=>if iz P e==some ks.length&&iz P t==some (n*ks.length)then some (List.replicate n ks).flatten else none
  |_=>none
theorem ua(x y:ByteArray):(x==y)=decide (x=y):=by
 rw[beq_toListBytes,ByteArray.toList_eq,ByteArray.toList_eq];obtain⟨⟨x⟩⟩:=x;obtain⟨⟨y⟩⟩:=y;rw[Bool.eq_iff_iff];simp
section
variable {P:Program}
theorem mz{f t:Nat}{ks:List Kd}{a:Bool}(h:flatK P f t=some ks)(ha:fM P t=some a):(a=true->iz P t=some ks.length)/\(a=false->ks.length=1):=by
 cases f with
 |zero=>simp[flatK]at h
 |succ f=>
  unfold flatK at h;unfold fM at ha;split at h
  ·rename_i hu;rw[hu]at ha;simp at ha h;subst ha;subst h;simp
  ·rename_i hu;rw[hu]at ha;simp at ha h;subst ha;subst h;simp
  ·rename_i hu;rw[hu]at ha;simp at ha h;subst ha;subst h;simp
  ·grind
  ·rename_i hu;rw[hu]at ha;simp at ha;subst ha;split at h
   ·simp at h
   ·split at h
    ·rename_i hs;simp at h;subst h;simp only[ah,aj]at hs;simp[hs.2]
    ·simp at h
  ·simp at h
theorem lU{f t:Nat}{ks:List Kd}(h:flatK P f t=some ks):∃a,fM P t=some a:=by
 cases f with
 |zero=>simp[flatK]at h
 |succ f=>
  unfold flatK at h;unfold fM;split at h<;>first| (rename_i hu;rw[hu];exact⟨_,rfl⟩)| (simp at h)
theorem eW{f t off:Nat}{ks:List Kd}{a:Bool}{xs:List Value}(w:World)(h:flatK P f t=some ks)(ha:fM P t=some a)
  (hl:off+ks.length<=xs.length):(part t xs.toArray off).run P w= .ok (eA a ((xs.drop off).take ks.length)) w:=by
 obtain⟨h1,h2⟩:=mz h ha;unfold part;rw[Sem.run_bind,lT w ha];cases a with
 |true=>
  simp only[Result.andThen_ok,if_true,Sem.run_bind,cE w (h1 rfl),Sem.run_pure,eA];congr 2
  apply Array.ext'
  simp[List.extract_eq_take_drop]
 |false=>
  have h2:=h2 rfl;have hlt:off<xs.length:=by omega
  simp only[Result.andThen_ok,Bool.false_eq_true,if_false,List.getElem?_toArray,List.getElem?_eq_getElem hlt,Sem.run_pure,eA,h2];congr 1
  rw[aq,List.getElem?_take_of_lt (by omega),List.getElem?_drop]
  simp[List.getElem?_eq_getElem hlt]
def LJ(P:Program)(d t:Nat)(a:Bool)(xs ys:List Value):Prop:=
 ∀w,∃b,(Op.equalIn d t (eA a xs) (eA a ys)).run P w= .ok b w/\(b=true↔xs=ys)
theorem nZ{α:Type}(n:Nat)(xs ys:List α):xs=ys↔xs.take n=ys.take n/\xs.drop n=ys.drop n:=
 ⟨fun h=>by subst h;exact⟨rfl,rfl⟩,fun⟨h1,h2⟩=>by rw[<-List.take_append_drop n xs,<-List.take_append_drop n ys,h1,h2]⟩
theorem ot(f d:Nat)(hd:∀t ks a xs ys,flatK P f t=some ks->fM P t=some a->gE ks xs->gE ks ys->LJ P d t a xs ys)(X Y:List Value)(hXY:X.length=Y.length)(w:World):
  ∀(fs:List Field) (off:Nat) (ks:List Kd),fQ (flatK P f) off fs=some ks->off+ks.length=X.length->gE ks (X.drop off)->gE ks (Y.drop off)->
  ∃b,(Op.eqFields d X.toArray Y.toArray fs).run P w= .ok b w/\(b=true↔X.drop off=Y.drop off)
 | [],off,ks,h,hl,hx,hy=>by
   simp only[fQ,aa]at h;subst h;refine⟨true,rfl,?_⟩;simp only[List.length_nil,Nat.add_zero]at hl;simp[List.drop_eq_nil_of_le (show X.length<=off by omega),List.drop_eq_nil_of_le (show Y.length<=off by omega)]
 |g::fs,off,ks,h,hl,hx,hy=>by
  simp only[fQ]at h;split at h
  ·rename_i hc;simp only[ah,bne_iff_ne,ne_eq,aj]at hc;obtain⟨hn,ho⟩:=hc;cases hg:flatK P f g.type with
   |none=>simp[hg]at h
   |some k1=>
    simp only[hg]at h;cases hr:fQ (flatK P f) (off+k1.length) fs with
    |none=>simp[hr]at h
    |some k2=>
     simp only[hr,Option.map_some,aa]at h;subst h;simp only[List.length_append]at hl;obtain⟨a,ha⟩:=lU hg;obtain⟨x1,x2⟩:=gE.split hx;obtain⟨y1,y2⟩:=gE.split hy;obtain⟨b,hb,hbi⟩:=hd _ _ _ _ _ hg ha x1 y1 w;simp only[List.drop_drop]at x2 y2;obtain⟨b',hb',hbi'⟩:=ot f d hd X Y hXY w fs (off+k1.length) k2 hr (by omega) x2 y2
     have e1:=eW (xs:=X) (off:=off) w hg ha (by omega)
     have e2:=eW (xs:=Y) (off:=off) w hg ha (by omega)
     simp only[Op.eqFields,au hn,ho,Sem.run_bind,e1,e2,hb,Result.andThen_ok,Sem.run_ite];rw[nZ k1.length (X.drop off) (Y.drop off)];simp only[List.drop_drop];cases b with
     |false=>exact⟨false,by simp,by simp;exact fun h=>absurd (hbi.2 h) (by simp)⟩
     |true=>exact⟨b',by simpa using hb',by rw[hbi'];exact⟨fun h=>⟨hbi.1 rfl,h⟩,fun h=>h.2⟩⟩
  ·simp at h
theorem pX(n:Nat)(ks:List Kd):(List.replicate n ks).flatten.length=n*ks.length:=by simp
def tJ(d e n:Nat)(X Y:Array Value):List Nat->Sem Bool
 | []=>pure true
 |i::is=>do
  let a<-part e X (i*n)
  let b<-part e Y (i*n)
  let r<-Op.equalIn d e a b
  if(!r)=true then pure false else tJ d e n X Y is
theorem tF(f d:Nat)(hd:∀t ks a xs ys,flatK P f t=some ks->fM P t=some a->gE ks xs->gE ks ys->LJ P d t a xs ys){e:Nat}{ks:List Kd}{a:Bool}(he:flatK P f e=some ks)(ha:fM P e=some a)
  (X Y:List Value) (hXY:X.length=Y.length) (w:World):∀(m j:Nat),j*ks.length+m*ks.length=X.length->gE (List.replicate m ks).flatten (X.drop (j*ks.length))->gE (List.replicate m ks).flatten (Y.drop (j*ks.length))->
  ∃b,(tJ d e ks.length X.toArray Y.toArray (List.range' j m)).run P w= .ok b w/\(b=true↔X.drop (j*ks.length)=Y.drop (j*ks.length))
 |0,j,hl,hx,hy=>by
  refine⟨true,rfl,?_⟩;simp only[Nat.zero_mul,Nat.add_zero]at hl;simp[List.drop_eq_nil_of_le (show X.length<=j*ks.length by omega),List.drop_eq_nil_of_le (show Y.length<=j*ks.length by omega)]
 |m+1,j,hl,hx,hy=>by
  rw[List.replicate_succ,List.flatten_cons]at hx hy;obtain⟨x1,x2⟩:=gE.split hx;obtain⟨y1,y2⟩:=gE.split hy;rw[Nat.succ_mul]at hl;obtain⟨b,hb,hbi⟩:=hd _ _ _ _ _ he ha x1 y1 w;simp only[List.drop_drop,show j*ks.length+ks.length=(j+1)*ks.length by rw[Nat.succ_mul]]at x2 y2
  obtain⟨b',hb',hbi'⟩:=tF f d hd he ha X Y hXY w m (j+1) (by rw[Nat.succ_mul];omega) x2 y2
  have e1:=eW (xs:=X) (off:=j*ks.length) w he ha (by omega)
  have e2:=eW (xs:=Y) (off:=j*ks.length) w he ha (by omega)
  simp only[List.range'_succ,tJ,Sem.run_bind,e1,e2,hb,Result.andThen_ok,Sem.run_ite];rw[nZ ks.length (X.drop (j*ks.length)) (Y.drop (j*ks.length))];simp only[List.drop_drop,show j*ks.length+ks.length=(j+1)*ks.length by rw[Nat.succ_mul]]
  cases b with
  |false=>exact⟨false,by simp,by simp;exact fun h=>absurd (hbi.2 h) (by simp)⟩
  |true=>exact⟨b',by simpa using hb',by rw[hbi'];exact⟨fun h=>⟨hbi.1 rfl,h⟩,fun h=>h.2⟩⟩
theorem run_equalIn_array(d t len e n:Nat)(X Y:Array Value)(w:World)(hu:P.underlying t=some (.array len e))(hn:iz P e=some n):
  (Op.equalIn (d+1) t (.agg X) (.agg Y)).run P w=(tJ d e n X Y (List.range' 0 len)).run P w:=by
 simp only[Op.equalIn,Sem.run_bind,aT w hu,Result.andThen_ok,cE w hn];rw[Std.Legacy.Range.forIn_eq_forIn_range'];simp only[Std.Legacy.Range.size,Nat.sub_zero,Nat.add_sub_cancel,Nat.div_one];generalize List.range' 0 len=is
 induction is generalizing w with
 |nil=>simp[tJ]
 |cons i is ih=>
  simp only[List.forIn_cons,tJ,Sem.run_bind,Sem.run_ite];generalize (part e X (i*n)).run P w=r1
  cases r1 with
  |ok a w1=>
   simp only[Result.andThen_ok];generalize (part e Y (i*n)).run P w1=r2
   cases r2 with
   |ok b w2=>
    simp only[Result.andThen_ok];generalize (Op.equalIn d e a b).run P w2=r3
    cases r3 with
    |ok r w3=>
     cases r
     ·simp only[Result.andThen_ok,Bool.not_false,if_true,Sem.run_pure]
     ·simp_all
    |halt x w3=>simp[Result.andThen]
   |halt x w2=>simp[Result.andThen]
  |halt x w1=>simp[Result.andThen]
theorem lr:∀(f d:Nat),f<=d->∀t ks a xs ys,flatK P f t=some ks->fM P t=some a->gE ks xs->gE ks ys->LJ P d t a xs ys
 |0,_,_,_,_,_,_,_,h,_,_,_=>by simp[flatK]at h
 |f+1,0,hfd,_,_,_,_,_,_,_,_,_=>by omega
 |f+1,d+1,hfd,t,ks,a,xs,ys,h,ha,hx,hy=>by
  intro w;have ih:=fun t ks a xs ys=>lr f d (by omega) t ks a xs ys
  unfold flatK at h;split at h
  ·rename_i hu;simp only[fM,hu,aa]at ha h;subst ha;subst h;match xs,ys,hx,hy with
   | [_],[_],⟨⟨x,rfl⟩,_⟩,⟨⟨y,rfl⟩,_⟩=>
     exact⟨x==y,by simp[eA,Op.equalIn,aT w hu],by simp⟩
  ·rename_i hu;simp only[fM,hu,aa]at ha h;subst ha;subst h;match xs,ys,hx,hy with
   | [_],[_],⟨⟨x,rfl⟩,_⟩,⟨⟨y,rfl⟩,_⟩=>
     refine⟨x==y,by simp[eA,Op.equalIn,aT w hu],?_⟩
     rw[ua];simp
  ·rename_i k hu;simp only[fM,hu,aa]at ha h;subst ha;subst h;match xs,ys,hx,hy with
   | [_],[_],⟨⟨x,rfl⟩,_⟩,⟨⟨y,rfl⟩,_⟩=>
     exact⟨x==y,by simp[eA,Op.equalIn,aT w hu],by simp⟩
  ·rename_i fs hu;simp only[fM,hu,aa]at ha;subst ha;split at h
   ·simp at h
   ·rename_i hst;split at h
    ·simp at h
    ·rename_i k hk;split at h<;>simp only[aa,reduceCtorEq]at h
     subst h;have hlx:=hx.length;have hly:=hy.length;obtain⟨b,hb,hbi⟩:=ot f d ih xs ys (by omega) w fs.toList 0 k hk (by omega) (by simpa using hx) (by simpa using hy)
     have hff:P.fieldsOf t=fs:=by simp[Program.fieldsOf,hu]
     refine⟨b,?_,by simpa using hbi⟩
     rw[<-hb];have:=run_equalIn_struct (P:=P) w d t xs.toArray ys.toArray (by rw[hu,hff]) (by simpa using hst)
     rw[hff]at this;simpa[eA]using this
  ·rename_i n e hu;simp only[fM,hu,aa]at ha;subst ha;split at h
   ·simp at h
   ·rename_i k hk;split at h<;>simp only[aa,reduceCtorEq]at h
    rename_i hs;simp only[ah,aj]at hs;subst h;have hlx:=hx.length;have hly:=hy.length;rw[pX]at hlx hly;obtain⟨a,ha⟩:=lU hk;obtain⟨b,hb,hbi⟩:=tF f d ih hk ha xs ys (by omega) w n 0 (by omega) (by simpa using hx) (by simpa using hy)
    refine⟨b,?_,by simpa using hbi⟩
    rw[<-hb];simpa[eA]using run_equalIn_array (P:=P) d t n e k.length xs.toArray ys.toArray w hu hs.1
  ·simp at h
end
end Go.Sx
namespace Go.Sx
open Go.RowKit (Below)
structure Ctx where
 P:Program
 Z:Nat->Option V
 Γ:Nat->Option (List aI->Nat->List V->Option (Option Prop×V×List aI))
 D:Nat->Option (Nat×Nat):=fun _=>none
theorem fz{k:IntKind}{n:Int}(h:bU k n):k.wrap n=n:=by
 cases k<;>simp only[bU]at h<;>simp[IntKind.wrap,IntKind.bits,IntKind.signed]<;>omega
theorem nM(k:IntKind)(n:Int):bU k (k.wrap n):=by
 cases k<;>simp[IntKind.wrap,IntKind.bits,IntKind.signed,bU]<;>omega
def toInt:V->Option (IntKind×Int)
 | .ci k n=>some (k,n)
 | .it k n=>some (k,n)
 | .bt b=>some (.u8,Ku b)
 |_=>none
def oG:V->Bool
 | .ci _ _=>true
 |_=>false
theorem bB{J:Env}{K:Nat->Prop}{v:V}{k:IntKind}{n:Int}(h:toInt v=some (k,n))(hv:ok K v):den J v= .int k n/\bU k n:=by
 cases v<;>simp[toInt]at h
 ·obtain⟨rfl,rfl⟩:=h;exact⟨rfl,hv⟩
 ·obtain⟨rfl,rfl⟩:=h;exact⟨rfl,hv⟩
 ·obtain⟨rfl,rfl⟩:=h;rename_i b;have:=b.toNat_lt;exact⟨rfl,by simp only[bU,Ku];omega⟩
def toBool:V->Option Bool
 | .cb b=>some b
 | .bo b=>some b
 |_=>none
theorem bT{J:Env}{v:V}{b:Bool}(h:toBool v=some b):den J v= .bool b:=by
 cases v<;>simp[toBool]at h<;>subst h<;>rfl
def EO:V->Bool
 | .cb _=>true
 |_=>false
def IL(c:Bool)(b:Bool):V:=if c then .cb b else .bo b
theorem FG(J:Env)(c:Bool)(b:Bool):den J (IL c b)= .bool b:=by unfold IL;split<;>rfl
theorem Ih{K:Nat->Prop}{c:Bool}{b:Bool}:ok K (IL c b):=by unfold IL;split<;>trivial
def ER(op:BinOp)(a b:Int):Option Bool:=
 match op with
 | .lss=>some (Ln a b)
 | .leq=>some (Lq a b)
 | .gtr=>some (Ln b a)
 | .geq=>some (Lq b a)
 | .eql=>some (vp a b)
 | .neq=>some (Es (vp a b))
 |_=>none
def cG(op:BinOp)(k:IntKind)(x y:Int):Int:=
 let a:=BitVec.ofInt k.bits x
 let b:=BitVec.ofInt k.bits y
 match op with
 | .and=>k.wrap (a &&& b).toNat
 | .or=>k.wrap (a ||| b).toNat
 | .xor=>k.wrap (a ^^^ b).toNat
 |_=>k.wrap (a &&& ~~~b).toNat
def arith(op:BinOp)(k:IntKind)(a b:Int):Option (Option Prop×Int):=
 match op with
 | .add=>some (some (dI k (Hy a b)),Hy a b)
 | .sub=>some (some (dI k (sK a b)),sK a b)
 | .mul=>some (some (dI k (Hw a b)),Hw a b)
 | .quo=>some (some (En b/\dI k (G8 a b)),G8 a b)
 | .rem=>some (some (En b/\dI k (IE a b)),IE a b)
 | .and=>some (none,cG .and k a b)
 | .or=>some (none,cG .or k a b)
 | .xor=>some (none,cG .xor k a b)
 | .andNot=>some (none,cG .andNot k a b)
 |_=>none
def JR(op:BinOp)(a b:Int):Option Bool:=
 match op with
 | .lss=>some (decide (a<b))
 | .leq=>some (decide (a<=b))
 | .gtr=>some (decide (b<a))
 | .geq=>some (decide (b<=a))
 | .eql=>some (decide (a=b))
 | .neq=>some (!decide (a=b))
 |_=>none
def xJ(op:BinOp)(a b:Int):Option Int:=
 match op with
 | .add=>some (a+b)
 | .sub=>some (a-b)
 | .mul=>some (a*b)
 |_=>none
theorem EN(op:BinOp)(a b:Int):JR op a b=ER op a b:=by cases op<;>rfl
section
variable {P:Program}
theorem xD{op:BinOp}{k:IntKind}{a b n:Int}(t:Nat)(w:World)(h:xJ op a b=some n)(hp:bU k n):
  (binOp op t (.int k a) (.int k b)).run P w= .ok (.int k n) w:=by
 cases op<;>simp only[xJ,aa,reduceCtorEq]at h<;>subst h<;>simp[binOp,Op.intArith,fz hp]
theorem zS{op:BinOp}{k:IntKind}{a b:Int}{r:Bool}(t:Nat)(w:World)(h:ER op a b=some r):(binOp op t (.int k a) (.int k b)).run P w= .ok (.bool r) w:=by
 cases op<;>simp only[ER,aa,reduceCtorEq]at h<;>subst h<;>simp[binOp,Op.intCmp,Ln,Lq,vp,Es]<;>rw[Bool.eq_iff_iff]<;>simp
theorem z6{op:BinOp}{k:IntKind}{a b n:Int}{p:Option Prop}(t:Nat)(w:World)(h:arith op k a b=some (p,n))(hp:bq p):
  (binOp op t (.int k a) (.int k b)).run P w= .ok (.int k n) w/\bU k n:=by
 cases op<;>simp only[arith,aa,ae,reduceCtorEq]at h<;>obtain⟨rfl,rfl⟩:=h
 ·exact⟨by simp[binOp,Op.intArith,Hy,fz (show bU k (a+b)from hp)],hp⟩
 ·exact⟨by simp[binOp,Op.intArith,sK,fz (show bU k (a-b)from hp)],hp⟩
 ·exact⟨by simp[binOp,Op.intArith,Hw,fz (show bU k (a*b)from hp)],hp⟩
 ·exact⟨by simp[binOp,Op.intDiv,G8,fz (show bU k (a.tdiv b)from hp.2),show b≠0 from hp.1],hp.2⟩
 ·exact⟨by simp[binOp,Op.intDiv,IE,show b≠0 from hp.1],hp.2⟩
 ·exact⟨by simp[binOp,Op.intBits,cG],nM _ _⟩
 ·exact⟨by simp[binOp,Op.intBits,cG],nM _ _⟩
 ·exact⟨by simp[binOp,Op.intBits,cG],nM _ _⟩
 ·exact⟨by simp[binOp,Op.intBits,cG],nM _ _⟩
end
def Gc:List Kd:=List.replicate 6 (.i .i64)
def Jg:List Kd:=List.replicate 96 (.i .i64)
def Je:List Kd:=List.replicate 64 (.i .u8)
def Jd:List Kd:=List.replicate 99 (.i .i64)++List.replicate 64 (.i .u8)
theorem qi(k:Kd):∀(l:List Value),(∀v∈l,k.of v)->gE (List.replicate l.length k) l
 | [],_=>trivial
 |v::l,h=>⟨h v (by simp),qi k l fun u hu=>h u (by simp[hu])⟩
theorem qf(k:Key):gE Gc (bK k):=by
 refine qi (.i .i64) (bK k) fun v hv=>?_
 simp only[bK,List.mem_cons,List.not_mem_nil,or_false,i64]at hv;rcases hv with rfl|rfl|rfl|rfl|rfl|rfl<;>exact⟨_,rfl⟩
theorem qI(s:cM):gE Jg (dp s):=by
 have:=qi (.i .i64) (dp s) fun v hv=>by
  simp only[dp,List.mem_flatMap,bK,List.mem_cons,List.not_mem_nil,or_false,i64]at hv;obtain⟨i,_,hx⟩:=hv;rcases hx with rfl|rfl|rfl|rfl|rfl|rfl<;>exact⟨_,rfl⟩
 rwa [dO]at this
theorem si(s:Bytes):gE Je (bF s):=by
 have:=qi (.i .u8) (bF s) fun v hv=>by
  simp only[bF,List.mem_map]at hv;obtain⟨i,_,rfl⟩:=hv;exact⟨_,rfl⟩
 rwa [cg]at this
theorem u7(o:Obj):gE Jd (b9 o):=by
 have h1:gE (List.replicate 3 (.i .i64)) [i64 o.kind,i64 o.count,i64 o.calls]:=⟨⟨_,rfl⟩,⟨_,rfl⟩,⟨_,rfl⟩,trivial⟩;have h2:=gE.join h1 (gE.join (qI o.slots) (si o.bytes));have e:Jd=List.replicate 3 (.i .i64)++(Jg++Je):=rfl;rw[e];simpa[b9]using h2
theorem jJ{a b:Key}:bK a=bK b↔a=b:=by
 refine⟨fun h=>?_,fun h=>by rw[h]⟩
 simp only[bK,i64,List.cons.injEq,Value.int.injEq,true_and,and_true]at h;cases a;cases b;simp_all
theorem ky{a b:cM}:dp a=dp b↔a=b:=by
 refine⟨fun h=>?_,fun h=>by rw[h]⟩
 have key:∀i,i<16->a.at i=b.at i:=fun i hi=>by
  obtain⟨p,q,e1,e2,_⟩:=iq a i hi;obtain⟨p',q',e1',e2',_⟩:=iq b i hi;rw[e1,e1']at h;exact jJ.1 (fB h (by omega) rfl).2.1
 ext i hi
 have:=key i hi;simp only[cM.at,Array.getD_eq_getD_getElem?,Vector.getElem?_toArray,Vector.getElem?_eq_getElem hi,Option.getD_some]at this;all_goals(first| (rw[this])| (simp[this]))
theorem kE{a b:Bytes}:bF a=bF b↔a=b:=by
 refine⟨fun h=>?_,fun h=>by rw[h]⟩
 have key:∀i,i<64->a.at i=b.at i:=fun i hi=>by
  obtain⟨p,q,e1,e2,_⟩:=h9 a i hi;obtain⟨p',q',e1',e2',_⟩:=h9 b i hi;rw[e1,e1']at h;have:=(fB h (by omega) rfl).2.1
  simp only[List.cons.injEq,Value.int.injEq,true_and,and_true]at this;exact UInt8.toNat_inj.1 (by omega)
 ext i hi
 have:=key i hi;simp only[Bytes.at,Array.getD_eq_getD_getElem?,Vector.getElem?_toArray,Vector.getElem?_eq_getElem hi,Option.getD_some]at this;rw[this]
theorem pA{a b:Obj}:b9 a=b9 b↔a=b:=by
 refine⟨fun h=>?_,fun h=>by rw[h]⟩
 simp only[b9,i64,List.cons.injEq,Value.int.injEq,true_and]at h;obtain⟨h1,h2,h3,h4⟩:=h;obtain⟨h5,h6⟩:=List.append_inj h4 (by rw[dO,dO])
 cases a;cases b;simp_all[ky,kE]
def j8(P:Program)(t:Nat):Bool:= !(P.eqGuardType P.depth t)
mutual
def LR:V->Option (List Kd)
 | .cb _| .bo _=>some [.b]
 | .ci k _| .it k _=>some [.i k]
 | .st _=>some [.s]
 | .key _=>some Gc
 | .sl _=>some Jg
 | .by _=>some Je
 | .ob _=>some Jd
 | .ag l=>BC l
 |_=>none
def BC:List V->Option (List Kd)
 | []=>some []
 |x::l=>match LR x with
  |some a=>match BC l with
   |some b=>some (a++b)
   |none=>none
  |none=>none
end
mutual
def K3:V->V->Option Bool
 | .ag l,.ag m=>wj l m
 | .key a,.key b=>some (CM a b)
 | .sl a,.sl b=>some (wi a b)
 | .by a,.by b=>some (wO a b)
 | .ob a,.ob b=>some (Jl a b)
 | .st a,.st b=>some (p9 a b)
 |x,y=>match toBool x,toBool y with
  |some a,some b=>some (yz a b)
  |_,_=>match x with
   | .bt _=>none
   |_=>match y with
    | .bt _=>none
    |_=>match toInt x,toInt y with
     |some (k,a),some (k',b)=>if k==k' then some (vp a b)else none
     |_,_=>none
def wj:List V->List V->Option Bool
 | [],[]=>some true
 |x::l,y::m=>match K3 x y with
  |some a=>match wj l m with
   |some b=>some (GR a b)
   |none=>none
  |none=>none
 |_,_=>none
end
theorem EL{ks:List Kd}:∀{a b c d:List Value},gE ks a->gE ks b->(a++c=b++d↔a=b/\c=d):=fun ha hb=>
 ⟨fun h=>List.append_inj h (by rw[ha.length,hb.length]),fun h=>by rw[h.1,h.2]⟩
mutual
theorem Co(J:Env):∀(x y:V) (b:Bool),K3 x y=some b->∃ks,LR x=some ks/\gE ks (cells J x)/\gE ks (cells J y)/\(b=true↔cells J x=cells J y)
 |x,y,b,h=>by
  unfold K3 at h;split at h
  ·rename_i l m;obtain⟨ks,h1,h2,h3,h4⟩:=oK J l m b h;refine⟨ks,by rw[LR];exact h1,?_⟩
   simp only[cells,den];exact⟨by simpa[Value.cells]using h2,by simpa[Value.cells]using h3,by simpa[Value.cells]using h4⟩
  ·rename_i u v;simp only[aa]at h;subst h;exact⟨Gc,rfl,qf u,qf v,by show CM u v=true↔bK u=bK v;rw[jJ];simp[CM]⟩
  ·rename_i u v;simp only[aa]at h;subst h;exact⟨Jg,rfl,qI u,qI v,by show wi u v=true↔dp u=dp v;rw[ky];simp[wi]⟩
  ·rename_i u v;simp only[aa]at h;subst h;exact⟨Je,rfl,si u,si v,by show wO u v=true↔bF u=bF v;rw[kE];simp[wO]⟩
  ·rename_i u v;simp only[aa]at h;subst h;exact⟨Jd,rfl,u7 u,u7 v,by show Jl u v=true↔b9 u=b9 v;rw[pA];simp[Jl]⟩
  ·rename_i u v;simp only[aa]at h;subst h;exact⟨[.s],rfl,⟨⟨_,rfl⟩,trivial⟩,⟨⟨_,rfl⟩,trivial⟩,by show p9 u v=true↔ [Value.string u]= [Value.string v];simp[p9]⟩
  ·split at h
   ·rename_i u v hu hv;simp only[aa]at h;subst h;refine⟨[.b],?_,?_,?_,?_⟩
    ·cases x<;>simp[toBool]at hu<;>rfl
    ·rw[cells,bT hu];exact⟨⟨_,rfl⟩,trivial⟩
    ·rw[cells,bT hv];exact⟨⟨_,rfl⟩,trivial⟩
    ·rw[cells,cells,bT hu,bT hv];show yz u v=true↔ [Value.bool u]= [Value.bool v]
     simp[yz]
   ·split at h
    ·simp at h
    ·rename_i hx;split at h
     ·simp at h
     ·rename_i hy;split at h
      ·rename_i k u k' v hu hv;split at h<;>simp only[aa,reduceCtorEq]at h
       rename_i hk;have hk:=aj.1 hk;subst hk;subst h
       have e1:den J x= .int k u:=by
        cases x<;>simp[toInt]at hu
        ·obtain⟨rfl,rfl⟩:=hu;rfl
        ·obtain⟨rfl,rfl⟩:=hu;rfl
        ·exact absurd rfl (hx _)
       have e2:den J y= .int k v:=by
        cases y<;>simp[toInt]at hv
        ·obtain⟨rfl,rfl⟩:=hv;rfl
        ·obtain⟨rfl,rfl⟩:=hv;rfl
        ·exact absurd rfl (hy _)
       refine⟨[.i k],?_,?_,?_,?_⟩
       ·cases x<;>simp[toInt]at hu
        ·obtain⟨rfl,rfl⟩:=hu;rfl
        ·obtain⟨rfl,rfl⟩:=hu;rfl
        ·exact absurd rfl (hx _)
       ·rw[cells,e1];exact⟨⟨_,rfl⟩,trivial⟩
       ·rw[cells,e2];exact⟨⟨_,rfl⟩,trivial⟩
       ·rw[cells,cells,e1,e2];show vp u v=true↔ [Value.int k u]= [Value.int k v]
        simp[vp]
      ·simp at h
theorem oK(J:Env):∀(l m:List V) (b:Bool),wj l m=some b->∃ks,BC l=some ks/\gE ks (aR J l)/\gE ks (aR J m)/\(b=true↔aR J l=aR J m)
 | [],[],b,h=>by
   simp only[wj,aa]at h;subst h;exact⟨[],rfl,trivial,trivial,by simp[aR]⟩
 |x::l,y::m,b,h=>by
  simp only[wj]at h;split at h
  case h_2=>simp at h
  rename_i a ha;split at h<;>simp only[aa,reduceCtorEq]at h
  rename_i c hc;subst h;obtain⟨k1,h1,h2,h3,h4⟩:=Co J x y a ha;obtain⟨k2,i1,i2,i3,i4⟩:=oK J l m c hc;refine⟨k1++k2,by simp only[BC,h1,i1],?_,?_,?_⟩
  ·simp only[aR];exact gE.join h2 i2
  ·simp only[aR];exact gE.join h3 i3
  ·grind[aR,EL,cells,GR]
 | [],_::_,_,h=>by simp[wj]at h
 |_::_,[],_,h=>by simp[wj]at h
end
def ID(P:Program)(t:Nat):V->V->Option V
 | .key a,.key b=>if j8 P t&&flatK P 8 t==some Gc then some (.bo (CM a b))else none
 | .sl a,.sl b=>if j8 P t&&flatK P 8 t==some Jg then some (.bo (wi a b))else none
 | .by a,.by b=>if j8 P t&&flatK P 8 t==some Je then some (.bo (wO a b))else none
 | .ob a,.ob b=>if j8 P t&&flatK P 8 t==some Jd then some (.bo (Jl a b))else none
 | .st a,.st b=>some (.bo (p9 a b))
 | .ag l,.ag m=>match BC l with
   |some ks=>if j8 P t&&flatK P 8 t==some ks&&Nat.ble 2 ks.length then match wj l m with
    |some b=>some (.bo b)
    |none=>none
    else none
   |none=>none
 | .nl (.pointer none),.nl (.pointer none)=>match P.underlying t with
   |some (.pointer _)=>some (.cb true)
   |_=>none
 | .lp _ _,.nl (.pointer none)=>match P.underlying t with
   |some (.pointer _)=>some (.cb false)
   |_=>none
 | .fn _ _,.nl .nilFunc=>match P.underlying t with
   |some (.func _ _ _)=>some (.cb false)
   |_=>none
 | .nl .nilFunc,.nl .nilFunc=>match P.underlying t with
   |some (.func _ _ _)=>some (.cb true)
   |_=>none
 |x,y=>match toBool x,toBool y with
  |some a,some b=>match P.underlying t with
   |some .bool=>some (IL (EO x&&EO y) (yz a b))
   |_=>none
  |_,_=>none
section
variable {P:Program}
theorem hI{t:Nat}{ks:List Kd}{xs ys:List Value}(w:World)(o1 o2:Operand)(hk:flatK P 8 t=some ks)(hg:j8 P t=true)(ha:fM P t=some true)(hx:gE ks xs)(hy:gE ks ys):
  ∃b,(do eqGuard .eql t o1 o2 (.agg xs.toArray) (.agg ys.toArray);binOp .eql t (.agg xs.toArray) (.agg ys.toArray)).run P w= .ok (.bool b) w/\
   (do eqGuard .neq t o1 o2 (.agg xs.toArray) (.agg ys.toArray);binOp .neq t (.agg xs.toArray) (.agg ys.toArray)).run P w= .ok (.bool !b) w/\(b=true↔xs=ys):=by
 obtain⟨b,hb,hbi⟩:=lr (P:=P) 8 10000 (by omega) t ks true xs ys hk ha hx hy w
 have hg':P.eqGuardType P.depth t=false:=by simpa[j8]using hg
 simp only[eA,if_true]at hb;refine⟨b,?_,?_,hbi⟩
 ·simp only[Sem.run_bind,run_eqGuard_agg w .eql t o1 o2 _ _ hg',Result.andThen_ok,run_eql_struct,hb]
 ·simp only[Sem.run_bind,run_eqGuard_agg w .neq t o1 o2 _ _ hg',Result.andThen_ok,run_neq_struct,hb]
theorem fH{t:Nat}{ks:List Kd}(hk:flatK P 8 t=some ks)(h:2<=ks.length):fM P t=some true:=by
 obtain⟨a,ha⟩:=lU hk;cases a with
 |true=>exact ha
 |false=>have:=(mz hk ha).2 rfl;omega
def mV(P:Program)(t:Nat)(x y:Value)(b:Bool):Prop:=
 ∀w o1 o2,(do eqGuard .eql t o1 o2 x y;binOp .eql t x y).run P w= .ok (.bool b) w/\(do eqGuard .neq t o1 o2 x y;binOp .neq t x y).run P w= .ok (.bool !b) w
theorem lV{t:Nat}{x y:Value}{b:Bool}(h1:binOp .eql t x y=(do pure (.bool (<-Op.equal t x y))))(h2:binOp .neq t x y=(do pure (.bool (!(<-Op.equal t x y)))))
  (hg:∀op w o1 o2,(eqGuard op t o1 o2 x y).run P w= .ok () w) (he:∀d w,(Op.equalIn (d+1) t x y).run P w= .ok b w):mV P t x y b:=by
 intro w o1 o2;have he':(Op.equal t x y).run P w= .ok b w:=he 9999 w;constructor
 ·simp_all
 ·simp_all
theorem xj{t:Nat}(a b:Bool)(hu:P.underlying t=some .bool):mV P t (.bool a) (.bool b) (yz a b):=
 lV rfl rfl (fun op w o1 o2=>by cases op<;>simp[eqGuard]) (fun d w=>by simp[Op.equalIn,aT w hu,yz])
theorem my{t e:Nat}(b:Option Addr)(hu:P.underlying t=some (.pointer e)):mV P t (.pointer b) (.pointer none) b.isNone:=
 lV rfl rfl (fun op w o1 o2=>by cases op<;>simp[eqGuard]) (fun d w=>by cases b<;>simp[Op.equalIn,aT w hu])
theorem rZ{t:Nat}{p r:Array Nat}{v:Bool}(hu:P.underlying t=some (.func p r v)):mV P t .nilFunc .nilFunc true:=
 lV rfl rfl (fun op w o1 o2=>by cases op<;>simp[eqGuard]) (fun d w=>by simp[Op.equalIn,aT w hu])
theorem v8{t:Nat}{p r:Array Nat}{v:Bool}(f:Fn)(a c:Array Value)(hu:P.underlying t=some (.func p r v)):mV P t (.func f a c) .nilFunc false:=
 lV rfl rfl (fun op w o1 o2=>by cases op<;>simp[eqGuard]) (fun d w=>by simp[Op.equalIn,aT w hu])
theorem sO{t:Nat}(a b:ByteArray):mV P t (.string a) (.string b) (p9 a b):=by
 intro w o1 o2;unfold p9;rw[<-ua,beq_toListBytes];constructor<;>simp[eqGuard,binOp,Op.stringOp]
theorem sf{J:Env}{t:Nat}{x y r:V}(h:ID P t x y=some r):∃b,toBool r=some b/\mV P t (den J x) (den J y) b:=by
 unfold ID at h;split at h
 ·rename_i u v;split at h<;>simp only[aa,reduceCtorEq]at h
  rename_i hc;subst h;simp only[ah,aj]at hc;refine⟨_,rfl,fun w o1 o2=>?_⟩
  obtain⟨b,h1,h2,h3⟩:=hI w o1 o2 hc.2 hc.1 (fH hc.2 (by decide)) (qf u) (qf v)
  rw[jJ]at h3;have:b=CM u v:=Bool.eq_iff_iff.2 (by rw[h3];simp[CM])
  subst this;exact⟨h1,h2⟩
 ·rename_i u v;split at h<;>simp only[aa,reduceCtorEq]at h
  rename_i hc;subst h;simp only[ah,aj]at hc;refine⟨_,rfl,fun w o1 o2=>?_⟩
  obtain⟨b,h1,h2,h3⟩:=hI w o1 o2 hc.2 hc.1 (fH hc.2 (by simp[Jg])) (qI u) (qI v)
  rw[ky]at h3;have:b=wi u v:=Bool.eq_iff_iff.2 (by rw[h3];simp[wi])
  subst this;exact⟨h1,h2⟩
 ·rename_i u v;split at h<;>simp only[aa,reduceCtorEq]at h
  rename_i hc;subst h;simp only[ah,aj]at hc;refine⟨_,rfl,fun w o1 o2=>?_⟩
  obtain⟨b,h1,h2,h3⟩:=hI w o1 o2 hc.2 hc.1 (fH hc.2 (by simp[Je])) (si u) (si v)
  rw[kE]at h3;have:b=wO u v:=Bool.eq_iff_iff.2 (by rw[h3];simp[wO])
  subst this;exact⟨h1,h2⟩
 ·rename_i u v;split at h<;>simp only[aa,reduceCtorEq]at h
  rename_i hc;subst h;simp only[ah,aj]at hc;refine⟨_,rfl,fun w o1 o2=>?_⟩
  obtain⟨b,h1,h2,h3⟩:=hI w o1 o2 hc.2 hc.1 (fH hc.2 (by simp[Jd])) (u7 u) (u7 v)
  rw[pA]at h3;have:b=Jl u v:=Bool.eq_iff_iff.2 (by rw[h3];simp[Jl])
  subst this;exact⟨h1,h2⟩
 ·rename_i a b;simp only[aa]at h;subst h;exact⟨_,rfl,sO _ _⟩
 ·rename_i l m;split at h
  case h_2=>simp at h
  rename_i ks hks;split at h
  case isFalse=>simp at h
  rename_i hc;simp only[ah,aj]at hc;split at h<;>simp only[aa,reduceCtorEq]at h
  rename_i b hb;subst h;obtain⟨ks',g1,g2,g3,g4⟩:=oK J l m b hb;rw[hks]at g1;simp only[aa]at g1;subst g1;refine⟨_,rfl,fun w o1 o2=>?_⟩
  obtain⟨b',h1,h2,h3⟩:=hI w o1 o2 hc.1.2 hc.1.1 (fH hc.1.2 (Nat.le_of_ble_eq_true hc.2)) g2 g3;have:b'=b:=Bool.eq_iff_iff.2 (by rw[h3,g4])
  subst this;exact⟨h1,h2⟩
 ·split at h<;>simp only[aa,reduceCtorEq]at h
  rename_i hu;subst h;exact⟨_,rfl,my none hu⟩
 ·split at h<;>simp only[aa,reduceCtorEq]at h
  rename_i hu;subst h;exact⟨_,rfl,my (some _) hu⟩
 ·split at h<;>simp only[aa,reduceCtorEq]at h
  rename_i hu;subst h;exact⟨_,rfl,by simp only[den];unfold xy;split<;>exact v8 _ _ _ hu⟩
 ·split at h<;>simp only[aa,reduceCtorEq]at h
  rename_i hu;subst h;exact⟨_,rfl,rZ hu⟩
 ·split at h
  ·rename_i a b ha hb;split at h<;>simp only[aa,reduceCtorEq]at h
   rename_i hu;subst h;refine⟨yz a b,by unfold IL;split<;>rfl,?_⟩
   rw[bT ha,bT hb];exact xj _ _ hu
  ·simp at h
theorem Hf{t:Nat}{x y r:V}{K:Nat->Prop}(h:ID P t x y=some r):ok K r/\bp r=false:=by
 obtain⟨b,hb,_⟩:=sf (J:=Env.zero) h;cases r<;>simp[toBool]at hb<;>exact⟨trivial,rfl⟩
end
def Fw(P:Program)(op:BinOp)(t:Nat)(x y:V):Option (Option Prop×V):=
 match toInt x,toInt y with
 |some (k,a),some (k',b)=>
  if k==k' then
   if oG x&&oG y then
    match JR op a b with
    |some r=>some (none,.cb r)
    |none=>match xJ op a b with
     |some n=>if bU k n then some (none,.ci k n)else none
     |none=>none
   else match ER op a b with
   |some r=>some (none,.bo r)
   |none=>match arith op k a b with
    |some (p,n)=>some (p,.it k n)
    |none=>none
  else none
 |_,_=>match op with
  | .eql=>(ID P t x y).map fun r=>(none,r)
  | .neq=>match ID P t x y with
    |some r=>match toBool r with
     |some b=>some (none,IL (EO r) (Es b))
     |none=>none
    |none=>none
  |_=>none
theorem Ab{P:Program}{J:Env}{K:Nat->Prop}{op:BinOp}{t:Nat}{x y r:V}{p:Option Prop}(w:World)(o1 o2:Operand)(h:Fw P op t x y=some (p,r))(hp:bq p)(hx:ok K x)(hy:ok K y):
  (do eqGuard op t o1 o2 (den J x) (den J y);binOp op t (den J x) (den J y)).run P w= .ok (den J r) w/\ok K r:=by
 unfold Fw at h;split at h
 ·rename_i k a k' b ha hb;obtain⟨e1,r1⟩:=bB (J:=J) ha hx;obtain⟨e2,r2⟩:=bB (J:=J) hb hy;split at h
  ·rename_i hk;have hk:=aj.1 hk;subst hk;have hgd:∀w,(eqGuard op t o1 o2 (.int k a) (.int k b)).run P w= .ok () w:=fun w=>by cases op<;>simp[eqGuard]
   rw[e1,e2];split at h
   ·split at h
    ·rename_i r hr;simp only[aa,ae]at h;obtain⟨_,rfl⟩:=h;rw[EN]at hr;exact⟨by rw[Sem.run_bind,hgd,Result.andThen_ok,zS t w hr];rfl,trivial⟩
    ·split at h
     ·rename_i n hn;split at h<;>simp only[aa,ae,reduceCtorEq]at h
      rename_i hin;obtain⟨_,rfl⟩:=h;exact⟨by rw[Sem.run_bind,hgd,Result.andThen_ok,xD t w hn hin];rfl,hin⟩
     ·simp at h
   ·split at h
    ·rename_i r hr;simp only[aa,ae]at h;obtain⟨_,rfl⟩:=h;exact⟨by rw[Sem.run_bind,hgd,Result.andThen_ok,zS t w hr];rfl,trivial⟩
    ·split at h<;>simp only[aa,ae,reduceCtorEq]at h
     rename_i p n hn;obtain⟨rfl,rfl⟩:=h;obtain⟨h1,h2⟩:=z6 (P:=P) t w hn hp;exact⟨by rw[Sem.run_bind,hgd,Result.andThen_ok,h1];rfl,h2⟩
  ·simp at h
 ·split at h
  ·cases he:ID P t x y with
   |none=>simp[he]at h
   |some r'=>
    simp only[he,Option.map_some,aa,ae]at h;obtain⟨_,rfl⟩:=h;obtain⟨b,hb,hr⟩:=sf (J:=J) he;rw[bT hb];exact⟨(hr w o1 o2).1,(Hf he).1⟩
  ·cases he:ID P t x y with
   |none=>simp[he]at h
   |some r'=>
    simp only[he]at h;obtain⟨b,hb,hr⟩:=sf (J:=J) he;simp only[hb,aa,ae]at h;obtain⟨_,rfl⟩:=h;rw[FG];exact⟨(hr w o1 o2).2,Ih⟩
  ·simp at h
end Go.Sx
namespace Go.Sx
def allM{α β:Type}(g:α->Option β):List α->Option (List β)
 | []=>some []
 |x::l=>match g x,allM g l with
  |some y,some ys=>some (y::ys)
  |_,_=>none
theorem kJ{α β:Type}{g:α->Option β}:∀{l:List α} {r:List β},allM g l=some r->r.length=l.length
 | [],r,h=>by simp only[allM,aa]at h;subst h;rfl
 |x::l,r,h=>by
  simp only[allM]at h;split at h
  ·rename_i y ys _ hys;simp only[aa]at h;subst h;simp[kJ hys]
  ·simp at h
theorem ji{α β:Type}{g:α->Option β}:∀{l:List α} {r:List β},allM g l=some r->∀(i:Nat) (x:α),l[i]? =some x->∃y,r[i]? =some y/\g x=some y
 | [],r,h,i,x,hx=>by simp at hx
 |a::l,r,h,i,x,hx=>by
  simp only[allM]at h;split at h
  ·rename_i y ys hy hys;simp only[aa]at h;subst h;cases i with
   |zero=>simp only[List.getElem?_cons_zero,aa]at hx;subst hx;exact⟨y,rfl,hy⟩
   |succ i=>simp only[List.getElem?_cons_succ]at hx⊢;exact ji hys i x hx
  ·simp at h
def KJ(k:IntKind):V->Option Int
 | .ci k' n=>if k'==k then some n else none
 | .it k' n=>if k'==k then some n else none
 |_=>none
def GO:V->Option ByteArray
 | .st s=>some s
 |_=>none
def asKey:V->Option Key
 | .key k=>some k
 |_=>none
def HE:V->Option (List V)
 | .ag l=>some l
 |_=>none
def oH(g:List V->Option V)(rows:List (List V)):Nat->Nat->Option (List V)
 |_,0=>some []
 |j,n+1=>match allM (fun m:List V=>m[j]?) rows with
  |none=>none
  |some c=>match g c,oH g rows (j+1) n with
   |some x,some xs=>some (x::xs)
   |_,_=>none
def ya:Nat->List V->Nat->Option V
 |0,_,_=>none
 |f+1,l,i=>match l with
  | []=>none
  |x::_=>match x with
   | .ci k _=>(allM (KJ k) l).map fun ns=> .it k (aX ns i 0)
   | .it k _=>(allM (KJ k) l).map fun ns=> .it k (aX ns i 0)
   | .cb _=>(allM toBool l).map fun bs=> .bo (aX bs i false)
   | .bo _=>(allM toBool l).map fun bs=> .bo (aX bs i false)
   | .st _=>(allM GO l).map fun bs=> .st (aX bs i ByteArray.empty)
   | .key _=>(allM asKey l).map fun bs=> .key (aX bs i void)
   | .ag m=>match allM HE l with
     |none=>none
     |some rows=>if rows.all fun r=>r.length==m.length then(oH (fun c=>ya f c i) rows 0 m.length).map .ag else none
   |_=>none
def Ba(J:Env)(K:Nat->Prop)(r x:V):Prop:=cells J r=cells J x/\eC r=eC x/\ok K r/\bp r=false
theorem EW{α:Type}{l:List α}{i:Nat}{a d:α}(h:l[i]? =some a):l.getD i d=a:=by simp[aq,h]
theorem pJ{J:Env}{K:Nat->Prop}{g:List V->Option V}{i:Nat}{rows:List (List V)}{row:List V}(hrow:rows[i]? =some row)
  (hg:∀c r x,g c=some r->c[i]? =some x->(∀y∈c,ok K y/\bp y=false)->Ba J K r x) (hok:∀m∈rows,∀y∈m,ok K y/\bp y=false):
  ∀(n j:Nat) (rs:List V),oH g rows j n=some rs->rs.length=n/\(∀k,k<n->∃r x,rs[k]? =some r/\row[j+k]? =some x/\Ba J K r x)
 |0,j,rs,h=>by simp only[oH,aa]at h;subst h;exact⟨rfl,fun k hk=>absurd hk (by omega)⟩
 |n+1,j,rs,h=>by
  simp only[oH]at h;split at h
  ·simp at h
  ·rename_i c hc;split at h
   ·rename_i x xs hx hxs;simp only[aa]at h;subst h;obtain⟨h1,h2⟩:=pJ hrow hg hok n (j+1) xs hxs;refine⟨by simp[h1],fun k hk=>?_⟩
    cases k with
    |zero=>
     obtain⟨y,hy1,hy2⟩:=ji hc i row hrow;refine⟨x,y,rfl,hy2,hg c x y hx hy1 fun z hz=>?_⟩
     obtain⟨q,hq⟩:=List.getElem?_of_mem hz
     have hql:q<rows.length:=by
      grind[kJ]
     obtain⟨z',hz1,hz2⟩:=ji hc q rows[q] (List.getElem?_eq_getElem hql);rw[hz1]at hq;simp only[aa]at hq;subst hq;exact hok rows[q] (List.getElem_mem hql) _ (List.mem_of_getElem? hz2)
    |succ k=>
     obtain⟨r,y,e1,e2,e3⟩:=h2 k (by omega)
     exact⟨r,y,by simpa using e1,by rw[<-e2];congr 1;omega,e3⟩
   ·simp at h
theorem xg{J:Env}{K:Nat->Prop}{k:IntKind}{v:V}{n:Int}(h:KJ k v=some n):cells J v= [.int k n]/\eC v=false/\(ok K v->bU k n):=by
 cases v<;>simp[KJ]at h
 ·obtain⟨rfl,rfl⟩:=h;exact⟨rfl,rfl,id⟩
 ·obtain⟨rfl,rfl⟩:=h;exact⟨rfl,rfl,id⟩
theorem lF{α:Type}{J:Env}{K:Nat->Prop}{g:V->Option α}{mk:α->V}{d:α}{l:List V}{i:Nat}{r x:V}(h:(allM g l).map (fun ns=>mk (aX ns i d))=some r)(hx:l[i]? =some x)
  (H:∀a,g x=some a->Ba J K (mk a) x):Ba J K r x:=by
 cases hm:allM g l with
 |none=>simp[hm]at h
 |some ns=>
  simp only[hm,Option.map_some,aa]at h;subst h;obtain⟨n,hn1,hn2⟩:=ji hm i x hx;rw[aX,EW hn1];exact H n hn2
theorem tL{J:Env}{K:Nat->Prop}:∀(a b:List V),a.length=b.length->(∀k,k<a.length->∃r x,a[k]? =some r/\b[k]? =some x/\Ba J K r x)->aR J a=aR J b/\cm K a/\oE a
 | [],[],_,_=>⟨rfl,trivial,trivial⟩
 | [],_::_,h,_=>by simp at h
 |_::_,[],h,_=>by simp at h
 |a0::a,b0::b,hb,hh=>by
  obtain⟨r,x,e1,e2,e3⟩:=hh 0 (by simp)
  simp only[List.getElem?_cons_zero,aa]at e1 e2;subst e1;subst e2
  obtain⟨i1,i2,i3⟩:=tL a b (by simpa using hb) fun k hk=>by
   obtain⟨r,x,e1,e2,e3⟩:=hh (k+1) (by simp;omega)
   exact⟨r,x,by simpa using e1,by simpa using e2,e3⟩
  refine⟨?_,⟨e3.2.2.1,i2⟩,(bX _).2 fun z hz=>?_⟩
  ·simp only[aR,i1];rw[show(den J a0).cells.toList=cells J a0 from rfl,e3.1];rfl
  ·rcases List.mem_cons.1 hz with rfl|hz
   ·exact e3.2.2.2
   ·exact(bX _).1 i3 z hz
theorem tI{J:Env}{K:Nat->Prop}{i:Nat}:∀(f:Nat) (l:List V) (r x:V),ya f l i=some r->l[i]? =some x->(∀y∈l,ok K y/\bp y=false)->Ba J K r x
 |0,_,_,_,h,_,_=>by simp[ya]at h
 |f+1,[],_,_,h,_,_=>by simp[ya]at h
 |f+1,y::l,r,x,h,hx,hok=>by
  have hxm:ok K x/\bp x=false:=hok x (List.mem_of_getElem? hx);simp only[ya]at h;split at h
  ·exact lF h hx fun a ha=>by
    obtain⟨e1,e2,e3⟩:=xg (J:=J) (K:=K) ha;exact⟨by rw[e1];rfl,e2.symm,e3 hxm.1,rfl⟩
  ·exact lF h hx fun a ha=>by
    obtain⟨e1,e2,e3⟩:=xg (J:=J) (K:=K) ha;exact⟨by rw[e1];rfl,e2.symm,e3 hxm.1,rfl⟩
  ·exact lF h hx fun a ha=>⟨by unfold cells;rw[bT ha];rfl,by cases x<;>simp[toBool]at ha<;>rfl,trivial,rfl⟩
  ·exact lF h hx fun a ha=>⟨by unfold cells;rw[bT ha];rfl,by cases x<;>simp[toBool]at ha<;>rfl,trivial,rfl⟩
  ·exact lF h hx fun a ha=>by
    cases x<;>simp[GO]at ha
    subst ha;exact⟨rfl,rfl,trivial,rfl⟩
  ·exact lF h hx fun a ha=>by
    cases x<;>simp[asKey]at ha
    subst ha;exact⟨rfl,rfl,hxm.1,rfl⟩
  ·rename_i m;generalize V.ag m::l=L at h hx hok
   split at h
   ·simp at h
   ·rename_i rows hm;split at h
    ·rename_i hlen;cases hc:oH (fun c=>ya f c i) rows 0 m.length with
     |none=>simp[hc]at h
     |some rs=>
      simp only[hc,Option.map_some,aa]at h;subst h;obtain⟨row,hr1,hr2⟩:=ji hm i x hx;cases x<;>simp[HE]at hr2
      subst hr2;rename_i row
      have hrl:row.length=m.length:=by
       grind
      obtain⟨h1,h2⟩:=pJ (J:=J) (K:=K) hr1 (fun c r x hg hc hok=>tI f c r x hg hc hok) (fun q hq z hz=>by
       obtain⟨p,hp⟩:=List.getElem?_of_mem hq
       have hpl:p<L.length:=by
        grind[kJ]
       obtain⟨q',hq1,hq2⟩:=ji hm p _ (List.getElem?_eq_getElem hpl);rw[hq1]at hp;simp only[aa]at hp;subst hp;have hk:=hok _ (List.getElem_mem hpl);generalize L[p]=t at hk hq2
       cases t<;>simp[HE]at hq2
       subst hq2;exact⟨(dZ _).1 hk.1.1 z hz,(bX _).1 hk.1.2 z hz⟩) m.length 0 rs hc
      obtain⟨c1,c2,c3⟩:=tL (J:=J) (K:=K) rs row (by omega) fun k hk=>by
       simp_all
      exact⟨by rw[bI,bI,c1],rfl,⟨c2,c3⟩,rfl⟩
    ·simp at h
  ·simp at h
def Ec(v:V)(esz n i inner sz:Nat)(a:Bool):Option V:=
 match v with
 | .ag l=>if l.length==n&&l.all (fun x=>bP x==esz)then
   match ya 4 l i with
   |none=>none
   |some x=>cS 8 x inner sz a
   else none
 |_=>Iz v esz n i inner sz a
theorem sU(J:Env){K:Nat->Prop}:∀(l:List V) (esz i:Nat) (x:V),cm K l->(∀y∈l,bP y=esz)->l[i]? =some x->∃p q,aR J l=p++cells J x++q/\p.length=i*esz
 | [],_,_,_,_,_,h=>by simp at h
 |y::l,esz,0,x,hk,hs,h=>by
  simp_all[aR,cells]
 |y::l,esz,i+1,x,hk,hs,h=>by
  simp only[List.getElem?_cons_succ]at h;obtain⟨p,q,h1,h2⟩:=sU J l esz i x hk.2 (fun z hz=>hs z (by simp[hz])) h
  have hl:=aO J y hk.1;have:=hs y (by simp)
  exact⟨cells J y++p,q,by simp[aR,h1,cells],by simp;rw[Nat.succ_mul];omega⟩
theorem tf(J:Env){N:Nat->Prop}{v:V}{esz n i inner sz:Nat}{a:Bool}{r:V}(hv:ok N v)(hi:i<n)(h:Ec v esz n i inner sz a=some r):
  (∃p q,cells J v=p++cells J r++q/\i*esz+inner=p.length)/\bP r=sz/\eC r=a/\ok N r/\bp r=false:=by
 unfold Ec at h;split at h
 ·rename_i l;split at h
  ·rename_i hc;simp only[ah,aj,List.all_eq_true]at hc;obtain⟨rfl,hs⟩:=hc;split at h
   ·simp at h
   ·rename_i x hx;have hxl:l[i]? =some l[i]:=List.getElem?_eq_getElem hi;obtain⟨e1,e2,e3,e4⟩:=tI (J:=J) (K:=N) 4 l x _ hx hxl fun y hy=>⟨(dZ _).1 hv.1 y hy,(bX _).1 hv.2 y hy⟩
    obtain⟨⟨p,q,h1,h2⟩,h3⟩:=bO J 8 x inner sz a r e3 e4 h;obtain⟨P,Q,f1,f2⟩:=sU J l esz i _ hv.1 hs hxl;exact⟨⟨P++p,q++Q,by rw[bI,f1,<-e1,h1];simp,by simp;omega⟩,h3⟩
  ·simp at h
 ·exact A2 J hv hi h
def ui(c:V)(off esz n i inner sz:Nat)(a:Bool):Option V:=
 match cS 8 c off (n*esz) true with
 |none=>none
 |some x=>Ec x esz n i inner sz a
theorem rz(J:Env){N:Nat->Prop}{c:V}{off esz n i inner sz:Nat}{a:Bool}{r:V}(hc:ok N c)(ht:bp c=false)(hi:i<n)(h:ui c off esz n i inner sz a=some r):
  (∃p q,cells J c=p++cells J r++q/\off+i*esz+inner=p.length)/\bP r=sz/\eC r=a/\ok N r/\bp r=false:=by
 unfold ui at h;cases hx:cS 8 c off (n*esz) true with
 |none=>simp[hx]at h
 |some x=>
  simp only[hx]at h;obtain⟨⟨p,q,h1,h2⟩,_,_,h5,h6⟩:=bO J _ _ _ _ _ _ hc ht hx;obtain⟨⟨p',q',h1',h2'⟩,h3⟩:=tf J h5 hi h;exact⟨⟨p++p',q'++q,by rw[h1,h1'];simp,by simp;omega⟩,h3⟩
end Go.Sx
namespace Go.Sx
open Go.RowKit (Below)
def Ctx.vo(C:Ctx):Prop:=∀t z,C.Z t=some z->∃i,C.P.info? t=some i/\(∀J,i.zero=some (den J z))/\ok (fun _=>False) z/\bp z=false/\i.size=bP z
theorem de{K:Nat->Prop}{v:V}(h:ok (fun _=>False) v):ok K v:=bE (fun _ h=>h.elim) v h
section
variable {C:Ctx} {J:Env} {fps:Nat->Nat->Prop} {res:List aI} {K:Nat->Prop} {w0 w:World} {F0:Nat->Prop}
def rA(C:Ctx)(res:List aI)(t:Nat)(p:V):Option (Option Prop×V):=
 match fM C.P t,iz C.P t with
 |some a,some n=>match p with
  | .lp id off=>match bD res id with
    | .blk _ c=>(cS 8 c off n a).map fun r=>(none,r)
    | .cset _ _ _ sv _ _=>(cS 8 (.ag [sv]) off n a).map fun r=>(none,r)
    |_=>none
  | .lx id off esz m i inner=>match bD res id with
    | .blk _ c=>(ui c off esz m i inner n a).map fun r=>(none,r)
    |_=>none
  | .ap id esz i off=>match bD res id with
    | .arr _ esz' l=>if esz==esz' then(cS 8 (l.get i) off n a).map fun r=>(some (AX i l.len),r)else none
    | .obs _ q L=>if esz==1&&off==0&&n==1&&a==false then some (some (AX i (aN L)),.op q i)else none
    | .que _ n' Q=>if esz==n' then(cS 8 (.ag (qL Q i 0 n')) off n a).map fun r=>(some (AX i (aN Q)),r)else none
    |_=>none
  | .ax id esz k off sz m i inner=>match bD res id with
    | .arr _ esz' l=>if esz==esz' then(ui (l.get k) off sz m i inner n a).map fun r=>(some (AX k l.len),r)else none
    |_=>none
  | .op q i=>match bD res q with
    | .gen id=>match bD res id with
      | .obs _ q' L=>if q==q' then(cS 8 (.ob (aX L i free)) 0 n a).map fun r=>(some (AX i (aN L)),r)else none
      |_=>none
    |_=>none
  |_=>none
 |_,_=>none
theorem nH{α:Type}{f:Nat->List α}{esz:Nat}:∀{n:Nat},(∀j,j<n->(f j).length=esz)->∀{i k:Nat},i<n->k<esz->((List.range n).flatMap f)[i*esz+k]? =(f i)[k]?
 |0,_,i,k,hi,_=>by omega
 |n+1,h,i,k,hi,hk=>by
  rw[List.range_succ,List.flatMap_append]
  have hlen:((List.range n).flatMap f).length=n*esz:=by
   clear hi hk;induction n with
   |zero=>simp
   |succ n ih=>
    rw[List.range_succ,List.flatMap_append,List.length_append,ih fun j hj=>h j (by omega)]
    simp[h n (by omega),Nat.succ_mul]
  by_cases e:i<n
  ·rw[List.getElem?_append_left (by rw[hlen];have:(i+1)*esz<=n*esz:=Nat.mul_le_mul_right _ e;rw[Nat.succ_mul]at this;omega)]
   exact nH (fun j hj=>h j (by omega)) e hk
  ·have:i=n:=by omega
   subst this;rw[List.getElem?_append_right (by rw[hlen];omega),hlen]
   simp
theorem fo{w:World}{e size n:Nat}{J:Env}{i:Nat}{xs:List Value}(h:w.ownsRow 0 e size (J.sl i) n xs)(hn:0<n):∃g,J.sa i=some ⟨g,0,none⟩/\J.sn i=n/\g<w.heap.size/\∀j,j<n*size->w.cell? ⟨g,j,none⟩=xs[j]? :=by
 have h':=h;rcases h.2 with⟨_,h0⟩|⟨g,cap,cur,h1,h2,h3,h4⟩
 ·omega
 ·have hh:=h1;simp only[Env.sl,Value.slice.injEq]at h1;rw[hh]at h';exact⟨g,h1.1,h1.2.1,(Array.getElem?_eq_some_iff.1 h3).1,fun j hj=>h'.cellAt j hj⟩
theorem fO{id esz:Nat}{own:Option Nat}{l:TL}(h:aQ J fps res K w0 F0 w)(hr:bD res id= .arr own esz l){i:Nat}(hi:i<l.len):
  ok (fun _=>False) (l.get i)/\bp (l.get i)=false/\bP (l.get i)=esz/\∀k,k<esz->w.cell? ⟨(J.adr id).block,(J.adr id).off+(i*esz+k),none⟩=(cells J (l.get i))[k]? :=by
 obtain⟨fp,hh,_⟩:=h.look hr (by simp)
 obtain⟨h1,h2,h3,h4,h5,h6,h7⟩:=hh;obtain⟨g1,g2,g3⟩:=h1 i hi;refine⟨g1,g2,g3,fun k hk=>?_⟩
 have hl:=aO J (l.get i) g1;rcases h7 with⟨_,h7,h8⟩|⟨e,_,e2,e3⟩
 ·have e:=h8 i hi k hk
  have hlt:(J.adr id).block<w0.heap.size:=by
   omega
  rw[<-e];exact World.cell?_of_block (w:=w0) (h.same _ hlt (h7 (by omega)).1)
 ·obtain⟨g,f1,f2,f3,f4⟩:=fo e2 (by omega)
  have ha:=h4 _ f1;rw[<-ha];simp only[Nat.zero_add]
  have hlt:i*esz+k<l.len*esz:=by
   have:(i+1)*esz<=l.len*esz:=Nat.mul_le_mul_right _ hi;rw[Nat.succ_mul]at this;omega
  rw[f4 _ hlt];unfold TL.cells;rw[nH (esz:=esz) (fun j hj=>by rw[aO Env.zero _ (h1 j hj).1];exact(h1 j hj).2.2) hi hk]
  rw[bw (N:=fun _=>False) (J:=J) (ρ':=Env.zero) (fun _ h=>h.elim) _ g1]
theorem AH{id ty n:Nat}{Q:List (List Int)}(h:aQ J fps res K w0 F0 w)(hr:bD res id= .que ty n Q){i:Nat}(hi:i<Q.length):
  Bw n Q/\∀k,k<n->w.cell? ⟨(J.adr id).block,(J.adr id).off+(i*n+k),none⟩=(cells J (.ag (qL Q i 0 n)))[k]? :=by
 obtain⟨fp,hh,_⟩:=h.look hr (by simp)
 obtain⟨h1,h2,h3,h4,h5,h6,h7⟩:=hh;refine⟨h1,fun k hk=>?_⟩
 rcases h7 with⟨_,h0⟩|⟨g,off,cap,cur,f1,f2,f3,f4,f5,f6⟩
 ·omega
 simp only[Env.sl,Value.slice.injEq]at f1;obtain⟨f1,_,_⟩:=f1;have ha:=(h4 _ f1).1;rw[<-ha]
 have hlt:i*n+k<Q.length*n:=by
  have:(i+1)*n<=Q.length*n:=Nat.mul_le_mul_right _ hi;rw[Nat.succ_mul]at this;omega
 rw[cell_of_row w g _ cur ty (0,0) f2,bI,BN h1 hi,<-tW h1 hi hk,<-f6,List.getElem?_take_of_lt hlt,List.getElem?_drop,Array.getElem?_toList]
theorem B1{id ty q:Nat}{L:List Obj}(h:aQ J fps res K w0 F0 w)(hr:bD res id= .obs ty q L){i:Nat}(hi:i<aN L):
  w.cell? ⟨(J.adr id).block,(J.adr id).off+i,none⟩=some (.pointer (some ⟨J.ob q i,0,none⟩))/\((L.getD i free).wf/\K q)/\∃t,w.heap[J.ob q i]? =some (.cells (b9 (L.getD i free)).toArray t (0,0)):=by
 obtain⟨fp,hh,_⟩:=h.look hr (by simp)
 obtain⟨h0,h1,h2,h3,h4,h5,h6,h7⟩:=hh;have hi:i<L.length:=hi;obtain⟨g,f1,f2,f3,f4⟩:=fo h6 (by omega)
 have ha:=(h4 _ f1).1;refine⟨?_,?_,(h7 i hi).2⟩
 ·grind
 ·simp_all
theorem mJ{t:Nat}{p r:V}{q:Option Prop}(h:aQ J fps res K w0 F0 w)(hl:rA C res t p=some (q,r))(hq:bq q)(hp:ok K p):
  (Instr.loadAt t (den J p)).run C.P w= .ok (den J r) w/\ok K r/\bp r=false:=by
 unfold rA at hl;split at hl
 ·rename_i a n ha hn
  have run:∀b off,(Instr.loadAt t (.pointer (some ⟨b,off,none⟩))).run C.P w=(loadVar t ⟨b,off,none⟩).run C.P w:=fun b off=>by
   simp[Instr.loadAt,Instr.sureAddr]
  split at hl
  ·rename_i id off;split at hl
   ·rename_i ty c hc;cases hg:cS 8 c off n a with
    |none=>simp[hg]at hl
    |some r'=>
     simp only[hg,Option.map_some,aa,ae]at hl;obtain⟨_,rfl⟩:=hl;obtain⟨fp,hh,_⟩:=h.look hc (by simp)
     obtain⟨h1,h2,h3,h4⟩:=hh;obtain⟨e1,e2,e3,e4,e5⟩:=bO J 8 c off n a r' h1 h2 hg;refine⟨?_,e4,e5⟩;simp only[den];rw[run];exact iZ w e4 e5 (by rw[e3];exact ha) (by rw[e2];exact hn) h4 e1
   ·rename_i ty et n' sv D Q hc;cases hg:cS 8 (.ag [sv]) off n a with
    |none=>simp[hg]at hl
    |some r'=>
     simp only[hg,Option.map_some,aa,ae]at hl;obtain⟨_,rfl⟩:=hl;obtain⟨fp,hh,_⟩:=h.look hc (by simp)
     obtain⟨h1,h2,h3,_,_,_,m,sl,h4,_⟩:=hh;obtain⟨⟨P,P',f1,f2⟩,e2,e3,e4,e5⟩:=bO J 8 (.ag [sv]) off n a r' ⟨⟨h1,trivial⟩,by cases sv<;>first|trivial|simp[bp]at h2,trivial⟩ rfl hg
     refine⟨?_,e4,e5⟩;simp only[den];rw[run];have e:cells J (.ag [sv])=cells J sv:=by rw[bI];simp[aR,cells]
     rw[e]at f1;refine dQ w e4 e5 (by rw[e3];exact ha) (by rw[e2];exact hn) fun k hk=>?_
     have hlr:=aO J r' e4;rw[cell_of_row w _ _ _ _ _ h4];simp only[List.getElem?_toArray,f1,f2,List.append_assoc];rw[List.getElem?_append_right (by omega),Nat.add_sub_cancel_left,List.getElem?_append_left (by omega)]
   ·simp at hl
  ·rename_i id off esz m i inner;split at hl
   ·rename_i ty c hc;cases hg:ui c off esz m i inner n a with
    |none=>simp[hg]at hl
    |some r'=>
     simp only[hg,Option.map_some,aa,ae]at hl;obtain⟨_,rfl⟩:=hl;obtain⟨fp,hh,_⟩:=h.look hc (by simp)
     obtain⟨h1,h2,h3,h4⟩:=hh;obtain⟨e1,e2,e3,e4,e5⟩:=rz J h1 h2 hp.2 hg;refine⟨?_,e4,e5⟩;simp only[den];rw[run];exact iZ w e4 e5 (by rw[e3];exact ha) (by rw[e2];exact hn) h4 e1
   ·simp at hl
  ·rename_i id esz i off;split at hl
   ·rename_i own esz' l hc;split at hl
    ·rename_i he;have he:=aj.1 he;subst he;cases hg:cS 8 (l.get i) off n a with
     |none=>simp[hg]at hl
     |some r'=>
      simp only[hg,Option.map_some,aa,ae]at hl;obtain⟨rfl,rfl⟩:=hl;obtain⟨g1,g2,g3,g4⟩:=fO h hc hq;obtain⟨⟨P,Q,f1,f2⟩,e2,e3,e4,e5⟩:=bO J 8 (l.get i) off n a r' g1 g2 hg;have hlr:=aO J r' e4;have hlg:=aO J _ g1;refine⟨?_,de e4,e5⟩;simp only[den];rw[run];refine dQ w e4 e5 (by rw[e3];exact ha) (by rw[e2];exact hn) fun k hk=>?_
      have hk2:off+k<esz:=by
       rw[<-g3,<-hlg,f1];simp;omega
      have:=g4 (off+k) hk2;rw[show(J.adr id).off+(i*esz+off)+k=(J.adr id).off+(i*esz+(off+k)) by omega,this,f1,f2]
      exact dX P _ Q k (by omega)
    ·simp at hl
   ·rename_i ty q' L hc;split at hl
    ·rename_i hb;simp only[ah,aj]at hb;obtain⟨⟨⟨rfl,rfl⟩,rfl⟩,rfl⟩:=hb;simp only[aa,ae]at hl;obtain⟨rfl,rfl⟩:=hl;obtain⟨f1,⟨_,f2⟩,_⟩:=B1 h hc hq;refine⟨?_,f2,rfl⟩;simp only[den];rw[run]
     have:=dQ (P:=C.P) (J:=J) (K:=K) (t:=t) (b:=(J.adr id).block) (off:=(J.adr id).off+(i*1+0)) (r:= .op q' i) w f2 rfl ha hn (fun k hk=>by
      have hk:k<1:=hk;rw[show(J.adr id).off+(i*1+0)+k=(J.adr id).off+i by omega,f1,show k=0 by omega]
      simp[cells,den,Value.cells])
     rw[this];simp only[den]
    ·simp at hl
   ·rename_i ty n' Q hc;split at hl
    ·rename_i he;have he:=aj.1 he;subst he;cases hg:cS 8 (.ag (qL Q i 0 esz)) off n a with
     |none=>simp[hg]at hl
     |some r'=>
      simp only[hg,Option.map_some,aa,ae]at hl;obtain⟨rfl,rfl⟩:=hl;obtain⟨hQ,g4⟩:=AH h hc hq;obtain⟨o1,o2,o3,o4⟩:=yr (K:=fun _=>False) hQ i esz 0
      have g1:ok (fun _=>False) (.ag (qL Q i 0 esz)):=⟨o1,o2⟩
      obtain⟨⟨P,P',f1,f2⟩,e2,e3,e4,e5⟩:=bO J 8 (.ag (qL Q i 0 esz)) off n a r' g1 rfl hg;have hlr:=aO J r' e4;have hlg:(cells J (.ag (qL Q i 0 esz))).length=esz:=by rw[bI,o4];simp
      refine⟨?_,de e4,e5⟩;simp only[den];rw[run];refine dQ w e4 e5 (by rw[e3];exact ha) (by rw[e2];exact hn) fun k hk=>?_
      have hk2:off+k<esz:=by
       rw[<-hlg,f1];simp;omega
      have:=g4 (off+k) hk2;rw[show(J.adr id).off+(i*esz+off)+k=(J.adr id).off+(i*esz+(off+k)) by omega,this,f1,f2]
      exact dX P _ P' k (by omega)
    ·simp at hl
   ·simp at hl
  ·rename_i id esz k off sz m i inner;split at hl
   ·rename_i own esz' l hc;split at hl
    ·rename_i he;have he:=aj.1 he;subst he;cases hg:ui (l.get k) off sz m i inner n a with
     |none=>simp[hg]at hl
     |some r'=>
      simp only[hg,Option.map_some,aa,ae]at hl;obtain⟨rfl,rfl⟩:=hl;obtain⟨g1,g2,g3,g4⟩:=fO h hc hq;obtain⟨⟨P,Q,f1,f2⟩,e2,e3,e4,e5⟩:=rz J g1 g2 hp.2 hg;have hlr:=aO J r' e4;have hlg:=aO J _ g1;refine⟨?_,de e4,e5⟩;simp only[den];rw[run];refine dQ w e4 e5 (by rw[e3];exact ha) (by rw[e2];exact hn) fun x hx=>?_
      have hk2:off+i*sz+inner+x<esz:=by
       rw[<-g3,<-hlg,f1];simp;omega
      have:=g4 (off+i*sz+inner+x) hk2;rw[show(J.adr id).off+(k*esz+(off+i*sz+inner))+x=(J.adr id).off+(k*esz+(off+i*sz+inner+x)) by omega,this,f1,f2]
      exact dX P _ Q x (by omega)
    ·simp at hl
   ·simp at hl
  ·rename_i q0 i;split at hl
   ·split at hl
    ·rename_i ty q' L hc;split at hl
     ·rename_i hqq;have hqq:=aj.1 hqq;subst hqq;cases hg:cS 8 (.ob (aX L i free)) 0 n a with
      |none=>simp[hg]at hl
      |some r'=>
       simp only[hg,Option.map_some,aa,ae]at hl;obtain⟨rfl,rfl⟩:=hl;obtain⟨_,⟨f2,_⟩,t',f3⟩:=B1 h hc hq;have hobk:ok (fun _=>False) (.ob (aX L i free)):=f2
       obtain⟨e1,e2,e3,e4,e5⟩:=bO J 8 (.ob (aX L i free)) 0 n a r' hobk rfl hg;refine⟨?_,de e4,e5⟩;simp only[den];rw[run];exact iZ (c:= .ob (aX L i free)) w e4 e5 (by rw[e3];exact ha) (by rw[e2];exact hn) (by rw[eY];exact f3) e1
     ·simp at hl
    ·simp at hl
   ·simp at hl
  ·simp at hl
 ·simp at hl
def KW(P:Program)(t:Nat)(p:V)(f:Nat):Option V:=
 match P.underlying t with
 |some (.struct fs)=>match fs[f]? with
  |some fd=>match iz P fd.type with
   |some (_+1)=>match p with
    | .lp id off=>some (.lp id (off+fd.offset))
    | .lx id off esz n i inner=>some (.lx id off esz n i (inner+fd.offset))
    | .ap id esz i off=>some (.ap id esz i (off+fd.offset))
    | .ax id esz k off sz n i inner=>some (.ax id esz k off sz n i (inner+fd.offset))
    |_=>none
   |_=>none
  |none=>none
 |_=>none
theorem CH{P:Program}{t f:Nat}{p r:V}(hl:KW P t p f=some r)(hp:ok K p):
  (Instr.fieldAt t (den J p) f).run P w= .ok (den J r) w/\ok K r/\bp r=false:=by
 unfold KW at hl;split at hl
 ·rename_i fs hu;split at hl
  ·rename_i fd hf;split at hl
   ·rename_i m hs
    have run:∀b off,(Instr.fieldAt t (.pointer (some ⟨b,off,none⟩)) f).run P w= .ok (.pointer (some ⟨b,off+fd.offset,none⟩)) w:=fun b off=>by
     simp[Instr.fieldAt,aT w hu,hf,Instr.sureAddr,fieldPlace,cE w hs,add_lit]
    split at hl<;>simp only[aa,reduceCtorEq]at hl<;>subst hl<;>simp only[den]<;>rw[run]
    ·exact⟨rfl,hp,rfl⟩
    ·exact⟨by simp only[Nat.add_assoc],hp,rfl⟩
    ·exact⟨by simp only[Nat.add_assoc],hp,rfl⟩
    ·exact⟨by simp only[Nat.add_assoc],hp,rfl⟩
   ·simp at hl
  ·simp at hl
 ·simp at hl
def inside(j:Int)(n:Nat):Bool:=decide (0<=j)&&decide (j<(n:Int))
def KZ(P:Program)(res:List aI)(t:Nat)(p i:V):Option (Option Prop×V):=
 match toInt i with
 |none=>none
 |some (_,j)=>match P.underlying t with
  |some (.array len e)=>match iz P e with
   |none=>none
   |some sz=>match p with
    | .lp id off=>if oG i then(if inside j len then some (none,.lp id (off+j.toNat*sz))else none)
      else some (some (GH j len),.lx id off sz len (gX j) 0)
    | .ap id esz k off=>if oG i then(if inside j len then some (none,.ap id esz k (off+j.toNat*sz))else none)
      else some (some (GH j len),.ax id esz k off sz len (gX j) 0)
    | .lx id off esz n k inner=>if oG i&&inside j len then some (none,.lx id off esz n k (inner+j.toNat*sz))else none
    |_=>none
  |some (.slice e)=>match iz P e with
   |none=>none
   |some sz=>match p with
    | .sa id=>match bD res id with
      | .arr _ esz l=>if esz==sz then some (some (GH j l.len),.ap id esz (gX j) 0)else none
      | .obs _ _ L=>if 1==sz then some (some (GH j (aN L)),.ap id 1 (gX j) 0)else none
      | .que _ n Q=>if n==sz then some (some (GH j (aN Q)),.ap id n (gX j) 0)else none
      |_=>none
    | .sc id len _=>if oG i then(if inside j len then some (none,.lp id (j.toNat*sz))else none)
      else some (some (GH j len),.lx id 0 sz len (gX j) 0)
    | .ks x z n lo hi=>match x with
      | .lp id off=>if oG i&&inside j (hi-lo)&&z==sz then some (none,.lp id (off+(lo+j.toNat)*sz))else none
      |_=>none
    |_=>none
  |_=>none
theorem fA{P:Program}{t e len sz b off:Nat}{k:IntKind}{j:Int}(w:World)(hu:P.underlying t=some (.array len e))(hs:iz P e=some sz)(h0:0<=j)(h1:j<(len:Int)):
  (Instr.indexAt t (.pointer (some ⟨b,off,none⟩)) (.int k j)).run P w= .ok (.pointer (some ⟨b,off+j.toNat*sz,none⟩)) w:=by
 simp[Instr.indexAt,asIntOf,aT w hu,Instr.sureAddr,h0,h1,cE w hs,add_lit]
theorem eO{P:Program}{t e len cap sz:Nat}{a:Addr}{k:IntKind}{j:Int}(w:World)(hu:P.underlying t=some (.slice e))(hs:iz P e=some sz)(ha:a.spot=none)(h0:0<=j)(h1:j<(len:Int)):
  (Instr.indexAt t (.slice (some a) len cap) (.int k j)).run P w= .ok (.pointer (some ⟨a.block,a.off+j.toNat*sz,none⟩)) w:=by
 obtain⟨b,o,s⟩:=a;simp only at ha;subst ha;simp[Instr.indexAt,asIntOf,aT w hu,h0,h1,cE w hs,add_lit]
theorem CK{t:Nat}{p i r:V}{q:Option Prop}(h:aQ J fps res K w0 F0 w)(hl:KZ C.P res t p i=some (q,r))(hq:bq q)(hp:ok K p)(hi:ok K i):
  (Instr.indexAt t (den J p) (den J i)).run C.P w= .ok (den J r) w/\ok K r/\bp r=false:=by
 unfold KZ at hl;split at hl
 ·simp at hl
 ·rename_i k j hj;rw[(bB (J:=J) hj hi).1];have hin:∀n,inside j n=true->0<=j/\j<(n:Int):=fun n hn=>by simpa[inside]using hn
  split at hl
  ·rename_i len e hu;split at hl
   ·simp at hl
   ·rename_i sz hs;split at hl
    ·split at hl
     ·split at hl<;>simp only[aa,ae,reduceCtorEq]at hl
      rename_i hb;obtain⟨_,rfl⟩:=hl;exact⟨by simp only[den];exact fA w hu hs (hin _ hb).1 (hin _ hb).2,hp,rfl⟩
     ·simp only[aa,ae]at hl;obtain⟨rfl,rfl⟩:=hl;exact⟨by simp only[den,Nat.add_zero];exact fA w hu hs hq.1 hq.2,⟨hp,by have:=hq.1;have:=hq.2;unfold gX;omega⟩,rfl⟩
    ·split at hl
     ·split at hl<;>simp only[aa,ae,reduceCtorEq]at hl
      rename_i hb;obtain⟨_,rfl⟩:=hl;have hb:=hin _ hb;exact⟨by simp only[den];rw[fA w hu hs hb.1 hb.2];simp only[Nat.add_assoc],hp,rfl⟩
     ·simp only[aa,ae]at hl;obtain⟨rfl,rfl⟩:=hl;exact⟨by simp only[den,Nat.add_zero];rw[fA w hu hs hq.1 hq.2];simp only[Nat.add_assoc,gX],⟨hp,by have:=hq.1;have:=hq.2;unfold gX;omega⟩,rfl⟩
    ·split at hl<;>simp only[aa,ae,reduceCtorEq]at hl
     rename_i hb;obtain⟨_,rfl⟩:=hl;have hb:=hin _ (by simp only[ah]at hb;exact hb.2)
     exact⟨by simp only[den];rw[fA w hu hs hb.1 hb.2];simp only[Nat.add_assoc],hp,rfl⟩
    ·simp at hl
  ·rename_i e hu;split at hl
   ·simp at hl
   ·rename_i sz hs;split at hl
    ·rename_i id;split at hl
     ·rename_i own esz l hc;split at hl<;>simp only[aa,ae,reduceCtorEq]at hl
      rename_i he;have he:=aj.1 he;obtain⟨rfl,rfl⟩:=hl;subst he;obtain⟨fp,hh,_⟩:=h.look hc (by simp)
      obtain⟨h1,h2,_,h3,h4,h5,h7⟩:=hh;have h5:=h5 (by have:=hq.1;have:=hq.2;omega)
      obtain⟨hq1,hq2⟩:=hq;have hn:=h4 (by omega)
      cases ha:J.sa id with
      |none=>rw[ha]at hn;simp at hn
      |some a=>
       have:=h3 a ha;refine⟨?_,hp,rfl⟩;simp only[den,ha,h2];subst this;rw[eO w hu hs h5 hq1 hq2];simp[gX]
     ·rename_i ty q' L hc;split at hl<;>simp only[aa,ae,reduceCtorEq]at hl
      rename_i he;have he:=aj.1 he;obtain⟨rfl,rfl⟩:=hl;subst he;obtain⟨fp,hh,_⟩:=h.look hc (by simp)
      obtain⟨_,h1,h2,h3,h4,h5,h6,h7⟩:=hh;obtain⟨hq1,hq2⟩:=hq;have hq2:j<(L.length:Int):=hq2;obtain⟨g,f1,f2,f3,f4⟩:=fo h6 (by omega)
      have hadr:=(h4 _ f1).1;refine⟨?_,hp,rfl⟩;simp only[den,f1,h2];rw[eO w hu hs rfl hq1 hq2,<-hadr];simp[gX]
     ·rename_i ty esz l hc;split at hl<;>simp only[aa,ae,reduceCtorEq]at hl
      rename_i he;have he:=aj.1 he;obtain⟨rfl,rfl⟩:=hl;subst he;obtain⟨fp,hh,_⟩:=h.look hc (by simp)
      obtain⟨h1,h2,_,h3,h4,h5⟩:=hh;obtain⟨hq1,hq2⟩:=hq;have hq2:j<(l.length:Int):=hq2;have hn:=h4 (by omega)
      cases ha:J.sa id with
      |none=>rw[ha]at hn;simp at hn
      |some a=>
       obtain⟨e1,e2,_⟩:=h3 a ha;refine⟨?_,hp,rfl⟩;simp only[den,ha,h2];subst e1;rw[eO w hu hs e2 hq1 hq2];simp[gX]
     ·simp at hl
    ·split at hl
     ·split at hl<;>simp only[aa,ae,reduceCtorEq]at hl
      rename_i hb;obtain⟨_,rfl⟩:=hl;refine⟨?_,hp,rfl⟩;simp only[den];rw[eO w hu hs rfl (hin _ hb).1 (hin _ hb).2];simp
     ·simp only[aa,ae]at hl;obtain⟨rfl,rfl⟩:=hl;refine⟨?_,⟨hp,by have:=hq.1;have:=hq.2;unfold gX;omega⟩,rfl⟩
      simp only[den];rw[eO w hu hs rfl hq.1 hq.2];simp[gX]
    ·rename_i p z n lo hi;split at hl
     case h_2=>simp at hl
     rename_i id off;split at hl<;>simp only[aa,ae,reduceCtorEq]at hl
     rename_i hc;simp only[ah,aj]at hc;obtain⟨⟨_,hin'⟩,rfl⟩:=hc;obtain⟨_,rfl⟩:=hl;obtain⟨j0,j1⟩:=hin _ hin';obtain⟨hp1,hp2,hp3⟩:=hp;refine⟨?_,hp1,rfl⟩;simp only[den,pC];rw[ar (by omega),add_lit,eO w hu hs rfl j0 j1]
     simp only[Nat.add_mul,Nat.add_assoc]
    ·simp at hl
  ·simp at hl
theorem kR{P:Program}{t off:Nat}{cs:List Value}{r:V}(hr:ok K r)(ht:bp r=false)(ha:fM P t=some (eC r))(hs:iz P t=some (bP r))
  (hp:∃p q,cs=p++cells J r++q/\off=p.length):(part t cs.toArray off).run P w= .ok (den J r) w:=by
 obtain⟨p,q,rfl,rfl⟩:=hp;have hl:=aO J r hr;unfold part;rw[Sem.run_bind,lT w ha,gD J hr ht];cases hag:Sx.eC r with
 |true=>
  simp only[Result.andThen_ok,if_true,Sem.run_bind,cE w hs,Sem.run_pure,eA];congr 2
  apply Array.ext'
  rw[<-hl];simp[List.extract_eq_take_drop]
 |false=>
  have h1:bP r=1:=by
   grind[iT,cells,bM]
  have hlt:0<(cells J r).length:=by omega
  have:=dX p (cells J r) q 0 hlt;simp only[Nat.add_zero]at this;simp only[Result.andThen_ok,Bool.false_eq_true,if_false,List.getElem?_toArray,this,List.getElem?_eq_getElem hlt,Sem.run_pure,eA];congr 1
  simp[aq,List.getElem?_eq_getElem hlt]
theorem qw{x:V}(hx:ok K x)(ha:eC x=true):den J x= .agg (cells J x).toArray:=by
 have ht:bp x=false:=by cases x<;>simp_all[eC,bp]
 rw[gD J hx ht,ha];rfl
def KM(P:Program)(t:Nat)(x:V)(f:Nat):Option V:=
 match P.underlying t with
 |some (.struct fs)=>match fs[f]? with
  |some fd=>match fM P fd.type,iz P fd.type with
   |some a,some n=>if eC x then cS 8 x fd.offset n a else none
   |_,_=>none
  |none=>none
 |_=>none
theorem D6{P:Program}{t f:Nat}{x r:V}(hl:KM P t x f=some r)(hx:ok K x):
  (Instr.field t (den J x) f).run P w= .ok (den J r) w/\ok K r/\bp r=false:=by
 unfold KM at hl;split at hl
 ·rename_i fs hu;split at hl
  ·rename_i fd hf;split at hl
   ·rename_i a n ha hn;split at hl
    ·rename_i hag;have ht:bp x=false:=by cases x<;>simp_all[eC,bp]
     obtain⟨e1,e2,e3,e4,e5⟩:=bO J 8 x fd.offset n a r hx ht hl;refine⟨?_,e4,e5⟩;rw[qw hx hag];simp only[Instr.field,Sem.run_bind,aT w hu,Result.andThen_ok,hf,asAgg,Sem.run_pure];exact kR e4 e5 (by rw[e3];exact ha) (by rw[e2];exact hn) e1
    ·simp at hl
   ·simp at hl
  ·simp at hl
 ·simp at hl
def KH(P:Program)(t:Nat)(x i:V):Option (Option Prop×V):=
 match toInt i with
 |none=>none
 |some (_,j)=>match P.underlying t with
  |some (.array len e)=>match fM P e,iz P e with
   |some a,some sz=>if eC x then
    if oG i then(if inside j len then(cS 8 x (j.toNat*sz) sz a).map fun r=>(none,r)else none)
    else(Ec x sz len (gX j) 0 sz a).map fun r=>(some (GH j len),r)
    else none
   |_,_=>none
  |_=>none
theorem DI{P:Program}{t:Nat}{x i r:V}{q:Option Prop}(hl:KH P t x i=some (q,r))(hq:bq q)(hx:ok K x)(hi:ok K i):
  (Instr.index t (den J x) (den J i)).run P w= .ok (den J r) w/\ok K r/\bp r=false:=by
 unfold KH at hl;split at hl
 ·simp at hl
 ·rename_i k j hj;rw[(bB (J:=J) hj hi).1];split at hl
  ·rename_i len e hu;split at hl
   ·rename_i a sz ha hs;split at hl
    ·rename_i hag;have ht:bp x=false:=by cases x<;>simp_all[eC,bp]
     have run:0<=j->j<(len:Int)->(Instr.index t (den J x) (.int k j)).run P w=(part e (cells J x).toArray (j.toNat*sz)).run P w:=fun h0 h1=>by
      rw[qw hx hag];simp[Instr.index,asIntOf,aT w hu,h0,h1,cE w hs]
     split at hl
     ·split at hl
      ·rename_i hb;have hb:0<=j/\j<(len:Int):=by simpa[inside]using hb
       cases hg:cS 8 x (j.toNat*sz) sz a with
       |none=>simp[hg]at hl
       |some r'=>
        simp only[hg,Option.map_some,aa,ae]at hl;obtain⟨_,rfl⟩:=hl;obtain⟨e1,e2,e3,e4,e5⟩:=bO J 8 x _ sz a r' hx ht hg;refine⟨?_,e4,e5⟩;rw[run hb.1 hb.2];exact kR e4 e5 (by rw[e3];exact ha) (by rw[e2];exact hs) e1
      ·simp at hl
     ·cases hg:Ec x sz len (gX j) 0 sz a with
      |none=>simp[hg]at hl
      |some r'=>
       simp only[hg,Option.map_some,aa,ae]at hl;obtain⟨rfl,rfl⟩:=hl;have h0:=hq.1;have h1:=hq.2;obtain⟨e1,e2,e3,e4,e5⟩:=tf J hx (by unfold gX;omega) hg
       refine⟨?_,e4,e5⟩;rw[run h0 h1];simp only[Nat.add_zero]at e1;exact kR e4 e5 (by rw[e3];exact ha) (by rw[e2];exact hs) e1
    ·simp at hl
   ·simp at hl
  ·simp at hl
def K9(n:Int):UInt8:=UInt8.ofNat n.toNat
theorem FT{n:Int}(h:bU .u8 n):((K9 n).toNat:Int)=n:=by
 obtain⟨h0,h1⟩:=h;unfold K9;rw[UInt8.toNat_ofNat'];omega
def KX(P:Program)(s d:Nat)(x:V):Option (Option Prop×V):=
 match P.underlying s,P.underlying d with
 |some _,some (.int k')=>match toInt x with
  |some (k,n)=>if k==k' then some (none,x)else if oG x then(if bU k' n then some (none,.ci k' n)else none)else if k'== .u8 then some (some (dI .u8 n),.bt (K9 n))else some (some (dI k' n),.it k' n)
  |none=>none
 |some .string,some .string=>match x with
  | .st b=>some (none,.st b)
  |_=>none
 |_,_=>none
theorem DZ{P:Program}{s d:Nat}{x r:V}{q:Option Prop}(hl:KX P s d x=some (q,r))(hq:bq q)(hx:ok K x):
  (convert s d (den J x)).run P w= .ok (den J r) w/\ok K r/\bp r=false:=by
 unfold KX at hl;split at hl
 ·rename_i u k' h1 h2;split at hl
  ·rename_i k n hx';obtain⟨e1,e2⟩:=bB (J:=J) hx' hx;split at hl
   ·rename_i hk;have hk:=aj.1 hk;subst hk;simp only[aa,ae]at hl;obtain⟨_,rfl⟩:=hl;refine⟨?_,hx,by cases x<;>first|rfl| (simp[toInt]at hx')⟩
    rw[e1];simp[convert,aT w h1,aT w h2,Conv.intToInt,fz e2]
   ·split at hl
    ·split at hl<;>simp only[aa,ae,reduceCtorEq]at hl
     rename_i hin;obtain⟨_,rfl⟩:=hl;refine⟨?_,hin,rfl⟩;rw[e1];simp[convert,aT w h1,aT w h2,Conv.intToInt,fz hin,den]
    ·split at hl
     ·rename_i hk8;have hk8:=aj.1 hk8;subst hk8;simp only[aa,ae]at hl;obtain⟨rfl,rfl⟩:=hl;refine⟨?_,trivial,rfl⟩;rw[e1];simp[convert,aT w h1,aT w h2,Conv.intToInt,fz (show bU .u8 n from hq),den,FT (show bU .u8 n from hq)]
     ·simp only[aa,ae]at hl;obtain⟨rfl,rfl⟩:=hl;refine⟨?_,hq,rfl⟩;rw[e1];simp[convert,aT w h1,aT w h2,Conv.intToInt,fz (show bU k' n from hq),den]
  ·simp at hl
 ·rename_i h1 h2;split at hl<;>simp only[aa,ae,reduceCtorEq]at hl
  obtain⟨_,rfl⟩:=hl;refine⟨?_,trivial,rfl⟩;simp[den,convert,aT w h1,aT w h2]
 ·simp at hl
end
end Go.Sx
namespace Go.Sx
open Go.RowKit (Below)
theorem pK(off:Nat):∀(l:List Value) (k:Nat) (cur:Array Value),off+k+l.length<=cur.size->
  ((l.zipIdx k).foldl (fun(cs:Array Value) (x:Value×Nat)=>cs.setIfInBounds (off+x.2) x.1) cur).toList=cur.toList.take (off+k)++l++cur.toList.drop (off+k+l.length)
 | [],k,cur,_=>by simp
 |v::l,k,cur,h=>by
  simp only[List.length_cons]at h;simp only[List.zipIdx_cons,List.foldl_cons];rw[pK off l (k+1) _ (by simp;omega)]
  have e:=list_seg_step cur.toList (off+k) v l (by simp;omega)
  simpa[Array.toList_setIfInBounds,Nat.add_assoc,Nat.add_comm 1]using e
def gQ(place:Nat->Option (Nat×Nat)):V->List (Nat×V)->Option V
 |z,[]=>some z
 |z,(i,y)::l=>match place i with
  |none=>none
  |some (off,size)=>if bP y==size&& !bp y then
   match setAt 8 z off y with
   |none=>none
   |some z'=>gQ place z' l
   else none
theorem fY{J:Env}{K:Nat->Prop}(place:Nat->Option (Nat×Nat)):∀(l:List (Nat×V)) (z r:V),gQ place z l=some r->ok K z->bp z=false->(∀p∈l,ok K p.2)->
  Instr.fill place (cells J z).toArray (l.map fun p=>(p.1,den J p.2))=some (cells J r).toArray/\ok K r/\bp r=false/\eC r=eC z/\(cells J r).length=(cells J z).length
 | [],z,r,h,hz,ht,_=>by
   simp only[gQ,aa]at h;subst h;exact⟨rfl,hz,ht,rfl,rfl⟩
 | (i,y)::l,z,r,h,hz,ht,hl=>by
   simp only[gQ]at h;split at h
   ·simp at h
   ·rename_i off size hp;split at h
    ·rename_i hc;simp only[ah,aj,Bool.not_eq_true']at hc;obtain⟨hs,hty⟩:=hc;split at h
     ·simp at h
     ·rename_i z' hz';have hy:ok K y:=hl (i,y) (by simp)
      have hput:=dF J y hy hty 8 z off z' hz ht hz';have hsz:=hput.size hy;obtain⟨⟨p,m,q,e1,e2,e3,e4⟩,e5,e6,e7⟩:=hput;obtain⟨f1,f2,f3,f4,f5⟩:=fY place l z' r h e6 e7 fun p hp=>hl p (by simp[hp])
      have hly:=aO J y hy;have hcs:(den J y).cells.size=size:=by rw[<-hs,<-hly];simp[cells]
      refine⟨?_,f2,f3,f4.trans e5,f5.trans hsz⟩;simp only[List.map_cons,Instr.fill,hp]
      have hbound:¬((den J y).cells.size≠size||off+(den J y).cells.size>(cells J z).toArray.size)=true:=by
       simp[hcs,e1];omega
      rw[ar hbound,<-f1];congr 1
      apply Array.ext'
      have hsp:=pK off (den J y).cells.toList 0 (cells J z).toArray (by simp[hcs,e1];omega)
      simp only[Nat.add_zero]at hsp;rw[<-Array.foldl_toList,Array.toList_zipIdx];refine hsp.trans ?_;simp only[Array.length_toList,hcs];rw[show(den J y).cells.toList=cells J y from rfl,e2,e1];subst e3
      rw[show List.take p.length (p++m++q)=p by simp,show List.drop (p.length+size) (p++m++q)=q by
       rw[<-hs,<-e4,<-List.length_append,List.drop_left]]
    ·simp at h
def uF(P:Program)(fs:Array Field)(i:Nat):Option (Nat×Nat):=
 match fs[i]? with
 |none=>none
 |some f=>match iz P f.type with
  |none=>none
  |some n=>some (f.offset,n)
def BI(P:Program)(fs:Array Field):Bool:=fs.toList.all fun f=>(iz P f.type).isSome
def uB(C:Ctx)(t:Nat)(parts:List (Nat×V)):Option V:=
 match C.Z t with
 |none=>none
 |some z=>if eC z then
  match C.P.underlying t with
  |some (.struct fs)=>if BI C.P fs then gQ (uF C.P fs) z parts else none
  |some (.array _ e)=>match iz C.P e with
   |none=>none
   |some n=>gQ (fun i=>some (i*n,n)) z parts
  |_=>none
  else none
section
variable {C:Ctx} {J:Env} {K:Nat->Prop} {w:World}
theorem gU{t:Nat}{z:V}(hC:C.vo)(h:C.Z t=some z):(zeroValue t).run C.P w= .ok (den J z) w:=by
 obtain⟨i,h1,h2,_⟩:=hC t z h;simp[zeroValue,typeInfo,h1,h2 J]
theorem wy{P:Program}{α β:Type}(g:α->Sem β)(f:α->β)(w:World):∀(l:List α),(∀x∈l,(g x).run P w= .ok (f x) w)->(l.mapM g).run P w= .ok (l.map f) w
 | [],_=>by simp
 |x::l,h=>by
  simp_all[wy]
theorem wT{t:Nat}{parts:List (Nat×V)}{r:V}(hC:C.vo)(h:uB C t parts=some r)(hp:∀p∈parts,ok K p.2):
  (Instr.build t (parts.map fun p=>(p.1,den J p.2)).toArray).run C.P w= .ok (den J r) w/\ok K r/\bp r=false:=by
 unfold uB at h;split at h
 ·simp at h
 ·rename_i z hz;obtain⟨i,h1,h2,h3,h4,h5⟩:=hC t z hz;split at h
  ·rename_i hag;have hz0:=gU (C:=C) (J:=J) (w:=w) hC hz;split at h
   ·rename_i fs hu;split at h
    ·rename_i hfs;obtain⟨f1,f2,f3,f4,_⟩:=fY (J:=J) (K:=K) _ parts z r h (de h3) h4 hp;refine⟨?_,f2,f3⟩;simp only[Instr.build,Sem.run_bind,hz0,Result.andThen_ok,aT w hu]
     have hm:(fs.mapM fun f=>do pure (f.offset,<-sizeOf f.type):Sem (Array (Nat×Nat))).run C.P w= .ok (fs.map fun f=>(f.offset,C.P.cellsOf f.type)) w:=by
      rw[Array.mapM_eq_mapM_toList];simp only[Sem.run_map]
      rw[wy _ (fun f:Field=>(f.offset,C.P.cellsOf f.type)) w fs.toList fun f hf=>by
       have:=List.all_eq_true.1 hfs f hf;cases hs:iz C.P f.type with
       |none=>simp[hs]at this
       |some n=>
        have e:C.P.cellsOf f.type=n:=by
         unfold iz at hs;simp[Program.cellsOf,hs]
        simp[cE w hs,e]]
      simp only[Result.andThen_ok];congr 1
      apply Array.ext'
      simp
     rw[hm];simp only[Result.andThen_ok]
     have hpl:(fun i=>(fs.map fun f=>(f.offset,C.P.cellsOf f.type))[i]?)=uF C.P fs:=by
      funext i
      unfold uF;rw[Array.getElem?_map];cases hi:fs[i]? with
      |none=>simp
      |some f=>
       have hmem:f∈fs.toList:=by
        grind
       have:=List.all_eq_true.1 hfs f hmem;cases hs:iz C.P f.type with
       |none=>simp[hs]at this
       |some n=>
        have e:C.P.cellsOf f.type=n:=by
         unfold iz at hs;simp[Program.cellsOf,hs]
        simp[hs,e]
     rw[hpl];have hcz:(den J z).cells=(cells J z).toArray:=by simp[cells]
     rw[hcz,f1];simp only[Sem.run_pure];rw[qw f2 (f4.trans hag)]
    ·simp at h
   ·rename_i e hu;split at h
    ·simp at h
    ·rename_i m hm;obtain⟨f1,f2,f3,f4,_⟩:=fY (J:=J) (K:=K) _ parts z r h (de h3) h4 hp;refine⟨?_,f2,f3⟩;simp only[Instr.build,Sem.run_bind,hz0,Result.andThen_ok,aT w hu,cE w hm];have hcz:(den J z).cells=(cells J z).toArray:=by simp[cells]
     rw[hcz,f1];simp only[Sem.run_pure];rw[qw f2 (f4.trans hag)]
   ·simp at h
  ·simp at h
def J2(C:Ctx)(t n:Nat)(parts:List (Nat×V))(nid:Nat):Option (V×List aI):=
 match C.P.underlying t with
 |some (.slice e)=>match C.Z e with
  |none=>none
  |some z=>if decide (n*bP z<=16777216)then
   match gQ (fun i=>some (i*bP z,bP z)) (.ag (List.replicate n z)) parts with
   |none=>none
   |some c=>some (.sc nid n n,[.blk e c])
   else none
 |_=>none
theorem jo(z:V):∀n,aR J (List.replicate n z)=(List.replicate n (cells J z)).flatten
 |0=>rfl
 |n+1=>by simp only[List.replicate_succ,aR,List.flatten_cons,jo z n];rfl
theorem eE{α:Type}(l:List α)(hl:0<l.length):∀(n i:Nat),i<n*l.length->(List.replicate n l).flatten[i]? =l[i%l.length]?
 |0,i,h=>by omega
 |n+1,i,h=>by
  rw[List.replicate_succ,List.flatten_cons];rw[Nat.succ_mul]at h;by_cases hi:i<l.length
  ·rw[List.getElem?_append_left hi,Nat.mod_eq_of_lt hi]
  ·rw[List.getElem?_append_right (by omega),eE l hl n _ (by omega),<-Nat.mod_eq_sub_mod (by omega)]
theorem oM(z:Array Value)(n:Nat):((Array.range (n*z.size)).map fun i=>z[i%z.size]!)=((List.replicate n z.toList).flatten).toArray:=by
 apply Array.ext'
 apply List.ext_getElem?
 intro i;by_cases hz:z.size=0
 ·simp_all
 ·by_cases hi:i<n*z.size
  ·have:=eE z.toList (by simpa using Nat.pos_of_ne_zero hz) n i (by simpa using hi)
   rw[show((List.replicate n z.toList).flatten).toArray.toList=(List.replicate n z.toList).flatten from rfl,this];have hm:i%z.size<z.size:=Nat.mod_lt _ (Nat.pos_of_ne_zero hz);simp[hi,hm]
  ·simp_all
theorem Db{t n nid:Nat}{parts:List (Nat×V)}{r:V}{new:List aI}{w0:World}{F0:Nat->Prop}(hC:C.vo)(h:J2 C t n parts nid=some (r,new))(hp:∀p∈parts,ok K p.2)(hn:¬K nid):
  ∃w' ρ',(Instr.buildSlice t n (parts.map fun p=>(p.1,den J p.2)).toArray).run C.P w= .ok (den ρ' r) w'/\fJ K J ρ' nid new w0 F0 w w'/\ok (fun i=>K i\/fresh nid new.length i) r/\(∀k,k<new.length->aH new k≠ .yet):=by
 unfold J2 at h;split at h
 ·rename_i e hu;split at h
  ·simp at h
  ·rename_i z hz;obtain⟨i,h1,h2,h3,h4,h5⟩:=hC e z hz;split at h
   ·rename_i hle;have hle:n*bP z<=16777216:=by simpa using hle
    split at h
    ·simp at h
    ·rename_i c hc;simp only[aa,ae]at h;obtain⟨rfl,rfl⟩:=h;have hzok:ok K (.ag (List.replicate n z)):=⟨(dZ _).2 fun x hx=>by rw[List.eq_of_mem_replicate hx];exact de h3,(bX _).2 fun x hx=>by rw[List.eq_of_mem_replicate hx];exact h4⟩
     obtain⟨f1,f2,f3,f4,_⟩:=fY (J:=J) (K:=K) _ parts _ c hc hzok rfl hp;refine⟨w.alloc (.cells (cells J c).toArray e),J.aZ nid w.heap.size,?_,fJ.alloc f2 f3 hn,?_,?_⟩
     ·have hs:iz C.P e=some (bP z):=by simp[iz,h1,h5]
      have hz0:=gU (C:=C) (J:=J) (w:=w) hC hz;have hzc:(den J z).cells.size=bP z:=by rw[<-aO J z h3];simp[cells]
      simp only[Instr.buildSlice,Sem.run_bind,aT w hu,Result.andThen_ok,cE w hs,Sem.run_ite];rw[ar (by omega)]
      simp only[Sem.run_pure,Result.andThen_ok]
      have key:∀zz:Array Value,(n*bP z=0\/zz=(den J z).cells)->((Array.range (n*bP z)).map fun x=>zz[x%zz.size]!)=(cells J (.ag (List.replicate n z))).toArray:=by
       grind[bI,jo,cells,aO,oM]
      by_cases h0:n*bP z=0
      ·rw[au h0];rw[key #[] (.inl h0),f1];simp only[Sem.run_bind,newRow,run_newObj_alloc,Result.andThen_ok,Sem.run_pure];simp[den,Env.aZ]
      ·rw[ar h0];simp only[hz0,Result.andThen_ok];rw[key _ (.inr rfl),f1];simp only[Sem.run_bind,newRow,run_newObj_alloc,Result.andThen_ok,Sem.run_pure];simp[den,Env.aZ]
     ·exact .inr ⟨Nat.le_refl _,by simp⟩
     ·simp_all[aH]
   ·simp at h
 ·simp at h
end
end Go.Sx
