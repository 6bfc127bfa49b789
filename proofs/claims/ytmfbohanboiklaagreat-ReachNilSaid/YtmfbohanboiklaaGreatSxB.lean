import Derived.Test.YtmfbohanboiklaaGreatSxA
set_option linter.unusedSimpArgs false
set_option linter.unusedVariables false
namespace Go.Sx
inductive Kd where
 |b
 |s
 |i (k:IntKind)
 deriving DecidableEq
def Kd.of:Kd->Value->Prop
 | .b,v=>∃x,v= .bool x
 | .s,v=>∃x,v= .string x
 | .i k,v=>∃n,v= .int k n
def fP:List Kd->List Value->Prop
 | [],[]=>True
 |k::ks,v::vs=>k.of v/\fP ks vs
 |_,_=>False
theorem fP.length:∀{ks:List Kd} {vs:List Value},fP ks vs->vs.length=ks.length
 | [],[],_=>rfl
 |_::_,_::_,h=>by simp[fP.length h.2]
 | [],_::_,h=>h.elim
 |_::_,[],h=>h.elim
theorem fP.split:∀{a b:List Kd} {vs:List Value},fP (a++b) vs->fP a (vs.take a.length)/\fP b (vs.drop a.length)
 | [],b,vs,h=>by simpa[fP]using h
 |k::a,b,[],h=>h.elim
 |k::a,b,v::vs,h=>by
  obtain⟨h1,h2⟩:=fP.split (a:=a) h.2;exact⟨by simpa[fP]using⟨h.1,h1⟩,by simpa using h2⟩
theorem fP.join:∀{a b:List Kd} {vs us:List Value},fP a vs->fP b us->fP (a++b) (vs++us)
 | [],_,[],_,_,h=>by simpa using h
 |k::a,_,v::vs,_,h,h'=>⟨h.1,fP.join h.2 h'⟩
 | [],_,_::_,_,h,_=>h.elim
 |_::_,_,[],_,h,_=>h.elim
def ff (g:Nat->Option (List Kd)):Nat->List Field->Option (List Kd)
 |_,[]=>some []
 |off,f::fs=>if f.name != "_" &&f.offset==off then
  match g f.type with
  |none=>none
  |some ks=>(ff g (off+ks.length) fs).map (ks++ ·)
  else none
def flatK (P:Program):Nat->Nat->Option (List Kd)
 |0,_=>none
 |f+1,t=>match P.underlying t with
  |some .bool=>some [.b]
  |some .string=>some [.s]
  |some (.int k)=>some [.i k]
  |some (.struct fs)=>if P.stoodInHeld t then none else
   match ff (flatK P f) 0 fs.toList with
   |none=>none
   |some ks=>if gz P t==some ks.length then some ks else none
  |some (.array n e)=>match flatK P f e with
   |none=>none
   |some ks=>if gz P e==some ks.length&&gz P t==some (n*ks.length)then some (List.replicate n ks).flatten else none
  |_=>none
theorem rE (x y:ByteArray):(x==y)=decide (x=y):=by
 rw[beq_toListBytes,ByteArray.toList_eq,ByteArray.toList_eq];obtain⟨⟨x⟩⟩:=x;obtain⟨⟨y⟩⟩:=y;rw[Bool.eq_iff_iff];simp
section
variable {P:Program}
theorem lk {f t:Nat} {ks:List Kd} {a:Bool} (h:flatK P f t=some ks) (ha:fg P t=some a):(a=true->gz P t=some ks.length)/\(a=false->ks.length=1):=by
 cases f with
 |zero=>simp[flatK]at h
 |succ f=>
  unfold flatK at h;unfold fg at ha;split at h
  ·rename_i hu;rw[hu]at ha;simp at ha h;subst ha;subst h;simp
  ·rename_i hu;rw[hu]at ha;simp at ha h;subst ha;subst h;simp
  ·rename_i hu;rw[hu]at ha;simp at ha h;subst ha;subst h;simp
  ·grind
  ·rename_i hu;rw[hu]at ha;simp at ha;subst ha;split at h
   ·simp at h
   ·split at h
    ·rename_i hs;simp at h;subst h;simp only[JR,JT]at hs;simp[hs.2]
    ·simp at h
  ·simp at h
theorem kK {f t:Nat} {ks:List Kd} (h:flatK P f t=some ks):∃a,fg P t=some a:=by
 cases f with
 |zero=>simp[flatK]at h
 |succ f=>
  unfold flatK at h;unfold fg;split at h<;>first| (rename_i hu;rw[hu];exact⟨_,rfl⟩)| (simp at h)
theorem ej {f t off:Nat} {ks:List Kd} {a:Bool} {xs:List Value} (w:World) (h:flatK P f t=some ks) (ha:fg P t=some a)
  (hl:off+ks.length<=xs.length):(part t xs.toArray off).run P w= .ok (dD a ((xs.drop off).take ks.length)) w:=by
 obtain⟨h1,h2⟩:=lk h ha;unfold part;rw[Sem.run_bind,kq w ha];cases a with
 |true=>
  simp only[Result.andThen_ok,if_true,Sem.run_bind,bQ w (h1 rfl),Sem.run_pure,dD];congr 2
  apply Array.ext'
  simp[List.extract_eq_take_drop]
 |false=>
  have h2:=h2 rfl;have hlt:off<xs.length:=by omega
  simp only[Result.andThen_ok,Bool.false_eq_true,if_false,List.getElem?_toArray,List.getElem?_eq_getElem hlt,Sem.run_pure,dD,h2];congr 1
  rw[JW,List.getElem?_take_of_lt (by omega),List.getElem?_drop]
  simp[List.getElem?_eq_getElem hlt]
def IM (P:Program) (d t:Nat) (a:Bool) (xs ys:List Value):Prop:=
 ∀w,∃b,(Op.equalIn d t (dD a xs) (dD a ys)).run P w= .ok b w/\(b=true↔xs=ys)
theorem nb {α:Type} (n:Nat) (xs ys:List α):xs=ys↔xs.take n=ys.take n/\xs.drop n=ys.drop n:=
 ⟨fun h=>by subst h;exact⟨rfl,rfl⟩,fun⟨h1,h2⟩=>by rw[<-List.take_append_drop n xs,<-List.take_append_drop n ys,h1,h2]⟩
theorem mF (f d:Nat) (hd:∀t ks a xs ys,flatK P f t=some ks->fg P t=some a->fP ks xs->fP ks ys->IM P d t a xs ys) (X Y:List Value) (hXY:X.length=Y.length) (w:World):
  ∀(fs:List Field) (off:Nat) (ks:List Kd),ff (flatK P f) off fs=some ks->off+ks.length=X.length->fP ks (X.drop off)->fP ks (Y.drop off)->
  ∃b,(Op.eqFields d X.toArray Y.toArray fs).run P w= .ok b w/\(b=true↔X.drop off=Y.drop off)
 | [],off,ks,h,hl,hx,hy=>by
   simp only[ff,JP]at h;subst h;refine⟨true,rfl,?_⟩;simp only[List.length_nil,Nat.add_zero]at hl;simp[List.drop_eq_nil_of_le (show X.length<=off by omega),List.drop_eq_nil_of_le (show Y.length<=off by omega)]
 |g::fs,off,ks,h,hl,hx,hy=>by
  simp only[ff]at h;split at h
  ·rename_i hc;simp only[JR,bne_iff_ne,ne_eq,JT]at hc;obtain⟨hn,ho⟩:=hc;cases hg:flatK P f g.type with
   |none=>simp[hg]at h
   |some k1=>
    simp only[hg]at h;cases hr:ff (flatK P f) (off+k1.length) fs with
    |none=>simp[hr]at h
    |some k2=>
     simp only[hr,Option.map_some,JP]at h;subst h;simp only[List.length_append]at hl;obtain⟨a,ha⟩:=kK hg;obtain⟨x1,x2⟩:=fP.split hx;obtain⟨y1,y2⟩:=fP.split hy;obtain⟨b,hb,hbi⟩:=hd _ _ _ _ _ hg ha x1 y1 w;simp only[List.drop_drop]at x2 y2;obtain⟨b',hb',hbi'⟩:=mF f d hd X Y hXY w fs (off+k1.length) k2 hr (by omega) x2 y2
     have e1:=ej (xs:=X) (off:=off) w hg ha (by omega)
     have e2:=ej (xs:=Y) (off:=off) w hg ha (by omega)
     simp only[Op.eqFields,JY hn,ho,Sem.run_bind,e1,e2,hb,Result.andThen_ok,Sem.run_ite];rw[nb k1.length (X.drop off) (Y.drop off)];simp only[List.drop_drop];cases b with
     |false=>exact⟨false,by simp,by simp;exact fun h=>absurd (hbi.2 h) (by simp)⟩
     |true=>exact⟨b',by simpa using hb',by rw[hbi'];exact⟨fun h=>⟨hbi.1 rfl,h⟩,fun h=>h.2⟩⟩
  ·simp at h
theorem oO (n:Nat) (ks:List Kd):(List.replicate n ks).flatten.length=n*ks.length:=by simp
def ry (d e n:Nat) (X Y:Array Value):List Nat->Sem Bool
 | []=>pure true
 |i::is=>do
  let a<-part e X (i*n)
  let b<-part e Y (i*n)
  let r<-Op.equalIn d e a b
  if(!r)=true then pure false else ry d e n X Y is
theorem rY (f d:Nat) (hd:∀t ks a xs ys,flatK P f t=some ks->fg P t=some a->fP ks xs->fP ks ys->IM P d t a xs ys) {e:Nat} {ks:List Kd} {a:Bool} (he:flatK P f e=some ks) (ha:fg P e=some a)
  (X Y:List Value) (hXY:X.length=Y.length) (w:World):∀(m j:Nat),j*ks.length+m*ks.length=X.length->fP (List.replicate m ks).flatten (X.drop (j*ks.length))->fP (List.replicate m ks).flatten (Y.drop (j*ks.length))->
  ∃b,(ry d e ks.length X.toArray Y.toArray (List.range' j m)).run P w= .ok b w/\(b=true↔X.drop (j*ks.length)=Y.drop (j*ks.length))
 |0,j,hl,hx,hy=>by
  refine⟨true,rfl,?_⟩;simp only[Nat.zero_mul,Nat.add_zero]at hl;simp[List.drop_eq_nil_of_le (show X.length<=j*ks.length by omega),List.drop_eq_nil_of_le (show Y.length<=j*ks.length by omega)]
 |m+1,j,hl,hx,hy=>by
  rw[List.replicate_succ,List.flatten_cons]at hx hy;obtain⟨x1,x2⟩:=fP.split hx;obtain⟨y1,y2⟩:=fP.split hy;rw[Nat.succ_mul]at hl;obtain⟨b,hb,hbi⟩:=hd _ _ _ _ _ he ha x1 y1 w;simp only[List.drop_drop,show j*ks.length+ks.length=(j+1)*ks.length by rw[Nat.succ_mul]]at x2 y2
  obtain⟨b',hb',hbi'⟩:=rY f d hd he ha X Y hXY w m (j+1) (by rw[Nat.succ_mul];omega) x2 y2
  have e1:=ej (xs:=X) (off:=j*ks.length) w he ha (by omega)
  have e2:=ej (xs:=Y) (off:=j*ks.length) w he ha (by omega)
  simp only[List.range'_succ,ry,Sem.run_bind,e1,e2,hb,Result.andThen_ok,Sem.run_ite];rw[nb ks.length (X.drop (j*ks.length)) (Y.drop (j*ks.length))];simp only[List.drop_drop,show j*ks.length+ks.length=(j+1)*ks.length by rw[Nat.succ_mul]]
  cases b with
  |false=>exact⟨false,by simp,by simp;exact fun h=>absurd (hbi.2 h) (by simp)⟩
  |true=>exact⟨b',by simpa using hb',by rw[hbi'];exact⟨fun h=>⟨hbi.1 rfl,h⟩,fun h=>h.2⟩⟩
theorem run_equalIn_array (d t len e n:Nat) (X Y:Array Value) (w:World) (hu:P.underlying t=some (.array len e)) (hn:gz P e=some n):
  (Op.equalIn (d+1) t (.agg X) (.agg Y)).run P w=(ry d e n X Y (List.range' 0 len)).run P w:=by
 simp only[Op.equalIn,Sem.run_bind,au w hu,Result.andThen_ok,bQ w hn];rw[Std.Legacy.Range.forIn_eq_forIn_range'];simp only[Std.Legacy.Range.size,Nat.sub_zero,Nat.add_sub_cancel,Nat.div_one];generalize List.range' 0 len=is
 induction is generalizing w with
 |nil=>simp[ry]
 |cons i is ih=>
  simp only[List.forIn_cons,ry,Sem.run_bind,Sem.run_ite];generalize (part e X (i*n)).run P w=r1
  cases r1 with
  |ok a w1=>
   simp only[Result.andThen_ok];generalize (part e Y (i*n)).run P w1=r2
   cases r2 with
   |ok b w2=>
    simp only[Result.andThen_ok];generalize (Op.equalIn d e a b).run P w2=r3
    cases r3 with
    |ok r w3=>
     cases r
     ·simp only[Result.andThen_ok,Bool.not_false,if_true,Sem.run_pure]
     ·simp_all
    |halt x w3=>simp[Result.andThen]
   |halt x w2=>simp[Result.andThen]
  |halt x w1=>simp[Result.andThen]
theorem kf:∀(f d:Nat),f<=d->∀t ks a xs ys,flatK P f t=some ks->fg P t=some a->fP ks xs->fP ks ys->IM P d t a xs ys
 |0,_,_,_,_,_,_,_,h,_,_,_=>by simp[flatK]at h
 |f+1,0,hfd,_,_,_,_,_,_,_,_,_=>by omega
 |f+1,d+1,hfd,t,ks,a,xs,ys,h,ha,hx,hy=>by
  intro w;have ih:=fun t ks a xs ys=>kf f d (by omega) t ks a xs ys
  unfold flatK at h;split at h
  ·rename_i hu;simp only[fg,hu,JP]at ha h;subst ha;subst h;match xs,ys,hx,hy with
   | [_],[_],⟨⟨x,rfl⟩,_⟩,⟨⟨y,rfl⟩,_⟩=>
     exact⟨x==y,by simp[dD,Op.equalIn,au w hu],by simp⟩
  ·rename_i hu;simp only[fg,hu,JP]at ha h;subst ha;subst h;match xs,ys,hx,hy with
   | [_],[_],⟨⟨x,rfl⟩,_⟩,⟨⟨y,rfl⟩,_⟩=>
     refine⟨x==y,by simp[dD,Op.equalIn,au w hu],?_⟩
     rw[rE];simp
  ·rename_i k hu;simp only[fg,hu,JP]at ha h;subst ha;subst h;match xs,ys,hx,hy with
   | [_],[_],⟨⟨x,rfl⟩,_⟩,⟨⟨y,rfl⟩,_⟩=>
     exact⟨x==y,by simp[dD,Op.equalIn,au w hu],by simp⟩
  ·rename_i fs hu;simp only[fg,hu,JP]at ha;subst ha;split at h
   ·simp at h
   ·rename_i hst;split at h
    ·simp at h
    ·rename_i k hk;split at h<;>simp only[JP,reduceCtorEq]at h
     subst h;have hlx:=hx.length;have hly:=hy.length;obtain⟨b,hb,hbi⟩:=mF f d ih xs ys (by omega) w fs.toList 0 k hk (by omega) (by simpa using hx) (by simpa using hy)
     have hff:P.fieldsOf t=fs:=by simp[Program.fieldsOf,hu]
     refine⟨b,?_,by simpa using hbi⟩
     rw[<-hb];have:=run_equalIn_struct (P:=P) w d t xs.toArray ys.toArray (by rw[hu,hff]) (by simpa using hst)
     rw[hff]at this;simpa[dD]using this
  ·rename_i n e hu;simp only[fg,hu,JP]at ha;subst ha;split at h
   ·simp at h
   ·rename_i k hk;split at h<;>simp only[JP,reduceCtorEq]at h
    rename_i hs;simp only[JR,JT]at hs;subst h;have hlx:=hx.length;have hly:=hy.length;rw[oO]at hlx hly;obtain⟨a,ha⟩:=kK hk;obtain⟨b,hb,hbi⟩:=rY f d ih hk ha xs ys (by omega) w n 0 (by omega) (by simpa using hx) (by simpa using hy)
    refine⟨b,?_,by simpa using hbi⟩
    rw[<-hb];simpa[dD]using run_equalIn_array (P:=P) d t n e k.length xs.toArray ys.toArray w hu hs.1
  ·simp at h
end
end Go.Sx
namespace Go.Sx
open Go.RowKit (Below)
structure Ctx where
 P:Program
 Z:Nat->Option V
 Γ:Nat->Option (List ae->Nat->List V->Option (Option Prop×V×List ae))
 D:Nat->Option (Nat×Nat):=fun _=>none
theorem eG {k:IntKind} {n:Int} (h:br k n):k.wrap n=n:=by
 cases k<;>simp only[br]at h<;>simp[IntKind.wrap,IntKind.bits,IntKind.signed]<;>omega
theorem lV (k:IntKind) (n:Int):br k (k.wrap n):=by
 cases k<;>simp[IntKind.wrap,IntKind.bits,IntKind.signed,br]<;>omega
def toInt:V->Option (IntKind×Int)
 | .ci k n=>some (k,n)
 | .it k n=>some (k,n)
 | .bt b=>some (.u8,HE b)
 |_=>none
def nX:V->Bool
 | .ci _ _=>true
 |_=>false
theorem aT {J:Env} {K:Nat->Prop} {v:V} {k:IntKind} {n:Int} (h:toInt v=some (k,n)) (hv:ok K v):den J v= .int k n/\br k n:=by
 cases v<;>simp[toInt]at h
 ·obtain⟨rfl,rfl⟩:=h;exact⟨rfl,hv⟩
 ·obtain⟨rfl,rfl⟩:=h;exact⟨rfl,hv⟩
 ·obtain⟨rfl,rfl⟩:=h;rename_i b;have:=b.toNat_lt;exact⟨rfl,by simp only[br,HE];omega⟩
def toBool:V->Option Bool
 | .cb b=>some b
 | .bo b=>some b
 |_=>none
theorem bh {J:Env} {v:V} {b:Bool} (h:toBool v=some b):den J v= .bool b:=by
 cases v<;>simp[toBool]at h<;>subst h<;>rfl
def D5:V->Bool
 | .cb _=>true
 |_=>false
def Gr (c:Bool) (b:Bool):V:=if c then .cb b else .bo b
theorem C3 (J:Env) (c:Bool) (b:Bool):den J (Gr c b)= .bool b:=by unfold Gr;split<;>rfl
theorem Fm {K:Nat->Prop} {c:Bool} {b:Bool}:ok K (Gr c b):=by unfold Gr;split<;>trivial
def D7 (op:BinOp) (a b:Int):Option Bool:=
 match op with
 | .lss=>some (Ja a b)
 | .leq=>some (IV a b)
 | .gtr=>some (Ja b a)
 | .geq=>some (IV b a)
 | .eql=>some (tQ a b)
 | .neq=>some (Cu (tQ a b))
 |_=>none
def cq (op:BinOp) (k:IntKind) (x y:Int):Int:=
 let a:=BitVec.ofInt k.bits x
 let b:=BitVec.ofInt k.bits y
 match op with
 | .and=>k.wrap (a &&& b).toNat
 | .or=>k.wrap (a ||| b).toNat
 | .xor=>k.wrap (a ^^^ b).toNat
 |_=>k.wrap (a &&& ~~~b).toNat
def arith (op:BinOp) (k:IntKind) (a b:Int):Option (Option Prop×Int):=
 match op with
 | .add=>some (some (fy k (E6 a b)),E6 a b)
 | .sub=>some (some (fy k (qV a b)),qV a b)
 | .mul=>some (some (fy k (FC a b)),FC a b)
 | .quo=>some (some (Jk b/\fy k (Gi a b)),Gi a b)
 | .rem=>some (some (Jk b/\fy k (F6 a b)),F6 a b)
 | .and=>some (none,cq .and k a b)
 | .or=>some (none,cq .or k a b)
 | .xor=>some (none,cq .xor k a b)
 | .andNot=>some (none,cq .andNot k a b)
 |_=>none
def HC (op:BinOp) (a b:Int):Option Bool:=
 match op with
 | .lss=>some (decide (a<b))
 | .leq=>some (decide (a<=b))
 | .gtr=>some (decide (b<a))
 | .geq=>some (decide (b<=a))
 | .eql=>some (decide (a=b))
 | .neq=>some (!decide (a=b))
 |_=>none
def v8 (op:BinOp) (a b:Int):Option Int:=
 match op with
 | .add=>some (a+b)
 | .sub=>some (a-b)
 | .mul=>some (a*b)
 |_=>none
theorem Dw (op:BinOp) (a b:Int):HC op a b=D7 op a b:=by cases op<;>rfl
section
variable {P:Program}
theorem wA {op:BinOp} {k:IntKind} {a b n:Int} (t:Nat) (w:World) (h:v8 op a b=some n) (hp:br k n):
  (binOp op t (.int k a) (.int k b)).run P w= .ok (.int k n) w:=by
 cases op<;>simp only[v8,JP,reduceCtorEq]at h<;>subst h<;>simp[binOp,Op.intArith,eG hp]
theorem xV {op:BinOp} {k:IntKind} {a b:Int} {r:Bool} (t:Nat) (w:World) (h:D7 op a b=some r):(binOp op t (.int k a) (.int k b)).run P w= .ok (.bool r) w:=by
 cases op<;>simp only[D7,JP,reduceCtorEq]at h<;>subst h<;>simp[binOp,Op.intCmp,Ja,IV,tQ,Cu]<;>rw[Bool.eq_iff_iff]<;>simp
theorem yK {op:BinOp} {k:IntKind} {a b n:Int} {p:Option Prop} (t:Nat) (w:World) (h:arith op k a b=some (p,n)) (hp:aN p):
  (binOp op t (.int k a) (.int k b)).run P w= .ok (.int k n) w/\br k n:=by
 cases op<;>simp only[arith,JP,JQ,reduceCtorEq]at h<;>obtain⟨rfl,rfl⟩:=h
 ·exact⟨by simp[binOp,Op.intArith,E6,eG (show br k (a+b)from hp)],hp⟩
 ·exact⟨by simp[binOp,Op.intArith,qV,eG (show br k (a-b)from hp)],hp⟩
 ·exact⟨by simp[binOp,Op.intArith,FC,eG (show br k (a*b)from hp)],hp⟩
 ·exact⟨by simp[binOp,Op.intDiv,Gi,eG (show br k (a.tdiv b)from hp.2),show b≠0 from hp.1],hp.2⟩
 ·exact⟨by simp[binOp,Op.intDiv,F6,show b≠0 from hp.1],hp.2⟩
 ·exact⟨by simp[binOp,Op.intBits,cq],lV _ _⟩
 ·exact⟨by simp[binOp,Op.intBits,cq],lV _ _⟩
 ·exact⟨by simp[binOp,Op.intBits,cq],lV _ _⟩
 ·exact⟨by simp[binOp,Op.intBits,cq],lV _ _⟩
end
def Dv:List Kd:=List.replicate 6 (.i .i64)
def GF:List Kd:=List.replicate 96 (.i .i64)
def GB:List Kd:=List.replicate 64 (.i .u8)
def Gu:List Kd:=List.replicate 99 (.i .i64)++List.replicate 64 (.i .u8)
theorem pq (k:Kd):∀(l:List Value),(∀v∈l,k.of v)->fP (List.replicate l.length k) l
 | [],_=>trivial
 |v::l,h=>⟨h v (by simp),pq k l fun u hu=>h u (by simp[hu])⟩
theorem o8 (k:Key):fP Dv (aY k):=by
 refine pq (.i .i64) (aY k) fun v hv=>?_
 simp only[aY,List.mem_cons,List.not_mem_nil,or_false,i64]at hv;rcases hv with rfl|rfl|rfl|rfl|rfl|rfl<;>exact⟨_,rfl⟩
theorem pK (s:bS):fP GF (cr s):=by
 have:=pq (.i .i64) (cr s) fun v hv=>by
  simp only[cr,List.mem_flatMap,aY,List.mem_cons,List.not_mem_nil,or_false,i64]at hv;obtain⟨i,_,hx⟩:=hv;rcases hx with rfl|rfl|rfl|rfl|rfl|rfl<;>exact⟨_,rfl⟩
 rwa [cU]at this
theorem pY (s:Bytes):fP GB (aV s):=by
 have:=pq (.i .u8) (aV s) fun v hv=>by
  simp only[aV,List.mem_map]at hv;obtain⟨i,_,rfl⟩:=hv;exact⟨_,rfl⟩
 rwa [bC]at this
theorem tk (o:Obj):fP Gu (bB o):=by
 have h1:fP (List.replicate 3 (.i .i64)) [i64 o.kind,i64 o.count,i64 o.calls]:=⟨⟨_,rfl⟩,⟨_,rfl⟩,⟨_,rfl⟩,trivial⟩;have h2:=fP.join h1 (fP.join (pK o.slots) (pY o.bytes));have e:Gu=List.replicate 3 (.i .i64)++(GF++GB):=rfl;rw[e];simpa[bB]using h2
theorem iF {a b:Key}:aY a=aY b↔a=b:=by
 refine⟨fun h=>?_,fun h=>by rw[h]⟩
 simp only[aY,i64,List.cons.injEq,Value.int.injEq,true_and,and_true]at h;cases a;cases b;simp_all
theorem j8 {a b:bS}:cr a=cr b↔a=b:=by
 refine⟨fun h=>?_,fun h=>by rw[h]⟩
 have key:∀i,i<16->a.at i=b.at i:=fun i hi=>by
  obtain⟨p,q,e1,e2,_⟩:=gu a i hi;obtain⟨p',q',e1',e2',_⟩:=gu b i hi;rw[e1,e1']at h;exact iF.1 (eN h (by omega) rfl).2.1
 ext i hi
 have:=key i hi;simp only[bS.at,Array.getD_eq_getD_getElem?,Vector.getElem?_toArray,Vector.getElem?_eq_getElem hi,Option.getD_some]at this;all_goals(first| (rw[this])| (simp[this]))
theorem j4 {a b:Bytes}:aV a=aV b↔a=b:=by
 refine⟨fun h=>?_,fun h=>by rw[h]⟩
 have key:∀i,i<64->a.at i=b.at i:=fun i hi=>by
  obtain⟨p,q,e1,e2,_⟩:=gk a i hi;obtain⟨p',q',e1',e2',_⟩:=gk b i hi;rw[e1,e1']at h;have:=(eN h (by omega) rfl).2.1
  simp only[List.cons.injEq,Value.int.injEq,true_and,and_true]at this;exact UInt8.toNat_inj.1 (by omega)
 ext i hi
 have:=key i hi;simp only[Bytes.at,Array.getD_eq_getD_getElem?,Vector.getElem?_toArray,Vector.getElem?_eq_getElem hi,Option.getD_some]at this;rw[this]
theorem oB {a b:Obj}:bB a=bB b↔a=b:=by
 refine⟨fun h=>?_,fun h=>by rw[h]⟩
 simp only[bB,i64,List.cons.injEq,Value.int.injEq,true_and]at h;obtain⟨h1,h2,h3,h4⟩:=h;obtain⟨h5,h6⟩:=List.append_inj h4 (by rw[cU,cU])
 cases a;cases b;simp_all[j8,j4]
def iT (P:Program) (t:Nat):Bool:= !(P.eqGuardType P.depth t)
mutual
def IJ:V->Option (List Kd)
 | .cb _| .bo _=>some [.b]
 | .ci k _| .it k _=>some [.i k]
 | .st _=>some [.s]
 | .key _=>some Dv
 | .sl _=>some GF
 | .by _=>some GB
 | .ob _=>some Gu
 | .ag l=>Ci l
 |_=>none
def Ci:List V->Option (List Kd)
 | []=>some []
 |x::l=>match IJ x with
  |some a=>match Ci l with
   |some b=>some (a++b)
   |none=>none
  |none=>none
end
mutual
def IL:V->V->Option Bool
 | .ag l,.ag m=>ua l m
 | .key a,.key b=>some (GD a b)
 | .sl a,.sl b=>some (uv a b)
 | .by a,.by b=>some (vC a b)
 | .ob a,.ob b=>some (GI a b)
 | .st a,.st b=>some (yr a b)
 |x,y=>match toBool x,toBool y with
  |some a,some b=>some (vS a b)
  |_,_=>match x with
   | .bt _=>none
   |_=>match y with
    | .bt _=>none
    |_=>match toInt x,toInt y with
     |some (k,a),some (k',b)=>if k==k' then some (tQ a b)else none
     |_,_=>none
def ua:List V->List V->Option Bool
 | [],[]=>some true
 |x::l,y::m=>match IL x y with
  |some a=>match ua l m with
   |some b=>some (Es a b)
   |none=>none
  |none=>none
 |_,_=>none
end
theorem CW {ks:List Kd}:∀{a b c d:List Value},fP ks a->fP ks b->(a++c=b++d↔a=b/\c=d):=fun ha hb=>
 ⟨fun h=>List.append_inj h (by rw[ha.length,hb.length]),fun h=>by rw[h.1,h.2]⟩
mutual
theorem AA (J:Env):∀(x y:V) (b:Bool),IL x y=some b->∃ks,IJ x=some ks/\fP ks (cells J x)/\fP ks (cells J y)/\(b=true↔cells J x=cells J y)
 |x,y,b,h=>by
  unfold IL at h;split at h
  ·rename_i l m;obtain⟨ks,h1,h2,h3,h4⟩:=nS J l m b h;refine⟨ks,by rw[IJ];exact h1,?_⟩
   simp only[cells,den];exact⟨by simpa[Value.cells]using h2,by simpa[Value.cells]using h3,by simpa[Value.cells]using h4⟩
  ·rename_i u v;simp only[JP]at h;subst h;exact⟨Dv,rfl,o8 u,o8 v,by show GD u v=true↔aY u=aY v;rw[iF];simp[GD]⟩
  ·rename_i u v;simp only[JP]at h;subst h;exact⟨GF,rfl,pK u,pK v,by show uv u v=true↔cr u=cr v;rw[j8];simp[uv]⟩
  ·rename_i u v;simp only[JP]at h;subst h;exact⟨GB,rfl,pY u,pY v,by show vC u v=true↔aV u=aV v;rw[j4];simp[vC]⟩
  ·rename_i u v;simp only[JP]at h;subst h;exact⟨Gu,rfl,tk u,tk v,by show GI u v=true↔bB u=bB v;rw[oB];simp[GI]⟩
  ·rename_i u v;simp only[JP]at h;subst h;exact⟨[.s],rfl,⟨⟨_,rfl⟩,trivial⟩,⟨⟨_,rfl⟩,trivial⟩,by show yr u v=true↔ [Value.string u]= [Value.string v];simp[yr]⟩
  ·split at h
   ·rename_i u v hu hv;simp only[JP]at h;subst h;refine⟨[.b],?_,?_,?_,?_⟩
    ·cases x<;>simp[toBool]at hu<;>rfl
    ·rw[cells,bh hu];exact⟨⟨_,rfl⟩,trivial⟩
    ·rw[cells,bh hv];exact⟨⟨_,rfl⟩,trivial⟩
    ·rw[cells,cells,bh hu,bh hv];show vS u v=true↔ [Value.bool u]= [Value.bool v]
     simp[vS]
   ·split at h
    ·simp at h
    ·rename_i hx;split at h
     ·simp at h
     ·rename_i hy;split at h
      ·rename_i k u k' v hu hv;split at h<;>simp only[JP,reduceCtorEq]at h
       rename_i hk;have hk:=JT.1 hk;subst hk;subst h
       have e1:den J x= .int k u:=by
        cases x<;>simp[toInt]at hu
        ·obtain⟨rfl,rfl⟩:=hu;rfl
        ·obtain⟨rfl,rfl⟩:=hu;rfl
        ·exact absurd rfl (hx _)
       have e2:den J y= .int k v:=by
        cases y<;>simp[toInt]at hv
        ·obtain⟨rfl,rfl⟩:=hv;rfl
        ·obtain⟨rfl,rfl⟩:=hv;rfl
        ·exact absurd rfl (hy _)
       refine⟨[.i k],?_,?_,?_,?_⟩
       ·cases x<;>simp[toInt]at hu
        ·obtain⟨rfl,rfl⟩:=hu;rfl
        ·obtain⟨rfl,rfl⟩:=hu;rfl
        ·exact absurd rfl (hx _)
       ·rw[cells,e1];exact⟨⟨_,rfl⟩,trivial⟩
       ·rw[cells,e2];exact⟨⟨_,rfl⟩,trivial⟩
       ·rw[cells,cells,e1,e2];show tQ u v=true↔ [Value.int k u]= [Value.int k v]
        simp[tQ]
      ·simp at h
theorem nS (J:Env):∀(l m:List V) (b:Bool),ua l m=some b->∃ks,Ci l=some ks/\fP ks (aq J l)/\fP ks (aq J m)/\(b=true↔aq J l=aq J m)
 | [],[],b,h=>by
   simp only[ua,JP]at h;subst h;exact⟨[],rfl,trivial,trivial,by simp[aq]⟩
 |x::l,y::m,b,h=>by
  simp only[ua]at h;split at h
  case h_2=>simp at h
  rename_i a ha;split at h<;>simp only[JP,reduceCtorEq]at h
  rename_i c hc;subst h;obtain⟨k1,h1,h2,h3,h4⟩:=AA J x y a ha;obtain⟨k2,i1,i2,i3,i4⟩:=nS J l m c hc;refine⟨k1++k2,by simp only[Ci,h1,i1],?_,?_,?_⟩
  ·simp only[aq];exact fP.join h2 i2
  ·simp only[aq];exact fP.join h3 i3
  ·grind[aq,CW,cells,Es]
 | [],_::_,_,h=>by simp[ua]at h
 |_::_,[],_,h=>by simp[ua]at h
end
def FH (P:Program) (t:Nat):V->V->Option V
 | .key a,.key b=>if iT P t&&flatK P 8 t==some Dv then some (.bo (GD a b))else none
 | .sl a,.sl b=>if iT P t&&flatK P 8 t==some GF then some (.bo (uv a b))else none
 | .by a,.by b=>if iT P t&&flatK P 8 t==some GB then some (.bo (vC a b))else none
 | .ob a,.ob b=>if iT P t&&flatK P 8 t==some Gu then some (.bo (GI a b))else none
 | .st a,.st b=>some (.bo (yr a b))
 | .ag l,.ag m=>match Ci l with
   |some ks=>if iT P t&&flatK P 8 t==some ks&&Nat.ble 2 ks.length then match ua l m with
    |some b=>some (.bo b)
    |none=>none
    else none
   |none=>none
 | .nl (.pointer none),.nl (.pointer none)=>match P.underlying t with
   |some (.pointer _)=>some (.cb true)
   |_=>none
 | .lp _ _,.nl (.pointer none)=>match P.underlying t with
   |some (.pointer _)=>some (.cb false)
   |_=>none
 | .fn _ _,.nl .nilFunc=>match P.underlying t with
   |some (.func _ _ _)=>some (.cb false)
   |_=>none
 | .nl .nilFunc,.nl .nilFunc=>match P.underlying t with
   |some (.func _ _ _)=>some (.cb true)
   |_=>none
 |x,y=>match toBool x,toBool y with
  |some a,some b=>match P.underlying t with
   |some .bool=>some (Gr (D5 x&&D5 y) (vS a b))
   |_=>none
  |_,_=>none
section
variable {P:Program}
theorem gf {t:Nat} {ks:List Kd} {xs ys:List Value} (w:World) (o1 o2:Operand) (hk:flatK P 8 t=some ks) (hg:iT P t=true) (ha:fg P t=some true) (hx:fP ks xs) (hy:fP ks ys):
  ∃b,(do eqGuard .eql t o1 o2 (.agg xs.toArray) (.agg ys.toArray);binOp .eql t (.agg xs.toArray) (.agg ys.toArray)).run P w= .ok (.bool b) w/\
   (do eqGuard .neq t o1 o2 (.agg xs.toArray) (.agg ys.toArray);binOp .neq t (.agg xs.toArray) (.agg ys.toArray)).run P w= .ok (.bool !b) w/\(b=true↔xs=ys):=by
 obtain⟨b,hb,hbi⟩:=kf (P:=P) 8 10000 (by omega) t ks true xs ys hk ha hx hy w
 have hg':P.eqGuardType P.depth t=false:=by simpa[iT]using hg
 simp only[dD,if_true]at hb;refine⟨b,?_,?_,hbi⟩
 ·simp only[Sem.run_bind,run_eqGuard_agg w .eql t o1 o2 _ _ hg',Result.andThen_ok,run_eql_struct,hb]
 ·simp only[Sem.run_bind,run_eqGuard_agg w .neq t o1 o2 _ _ hg',Result.andThen_ok,run_neq_struct,hb]
theorem eZ {t:Nat} {ks:List Kd} (hk:flatK P 8 t=some ks) (h:2<=ks.length):fg P t=some true:=by
 obtain⟨a,ha⟩:=kK hk;cases a with
 |true=>exact ha
 |false=>have:=(lk hk ha).2 rfl;omega
def lJ (P:Program) (t:Nat) (x y:Value) (b:Bool):Prop:=
 ∀w o1 o2,(do eqGuard .eql t o1 o2 x y;binOp .eql t x y).run P w= .ok (.bool b) w/\(do eqGuard .neq t o1 o2 x y;binOp .neq t x y).run P w= .ok (.bool !b) w
theorem ky {t:Nat} {x y:Value} {b:Bool} (h1:binOp .eql t x y=(do pure (.bool (<-Op.equal t x y)))) (h2:binOp .neq t x y=(do pure (.bool (!(<-Op.equal t x y)))))
  (hg:∀op w o1 o2,(eqGuard op t o1 o2 x y).run P w= .ok () w) (he:∀d w,(Op.equalIn (d+1) t x y).run P w= .ok b w):lJ P t x y b:=by
 intro w o1 o2;have he':(Op.equal t x y).run P w= .ok b w:=he 9999 w;constructor
 ·simp_all
 ·simp_all
theorem uJ {t:Nat} (a b:Bool) (hu:P.underlying t=some .bool):lJ P t (.bool a) (.bool b) (vS a b):=
 ky rfl rfl (fun op w o1 o2=>by cases op<;>simp[eqGuard]) (fun d w=>by simp[Op.equalIn,au w hu,vS])
theorem lf {t e:Nat} (b:Option Addr) (hu:P.underlying t=some (.pointer e)):lJ P t (.pointer b) (.pointer none) b.isNone:=
 ky rfl rfl (fun op w o1 o2=>by cases op<;>simp[eqGuard]) (fun d w=>by cases b<;>simp[Op.equalIn,au w hu])
theorem qi {t:Nat} {p r:Array Nat} {v:Bool} (hu:P.underlying t=some (.func p r v)):lJ P t .nilFunc .nilFunc true:=
 ky rfl rfl (fun op w o1 o2=>by cases op<;>simp[eqGuard]) (fun d w=>by simp[Op.equalIn,au w hu])
theorem uY {t:Nat} {p r:Array Nat} {v:Bool} (f:Fn) (a c:Array Value) (hu:P.underlying t=some (.func p r v)):lJ P t (.func f a c) .nilFunc false:=
 ky rfl rfl (fun op w o1 o2=>by cases op<;>simp[eqGuard]) (fun d w=>by simp[Op.equalIn,au w hu])
theorem ri {t:Nat} (a b:ByteArray):lJ P t (.string a) (.string b) (yr a b):=by
 intro w o1 o2;unfold yr;rw[<-rE,beq_toListBytes];constructor<;>simp[eqGuard,binOp,Op.stringOp]
theorem pD {J:Env} {t:Nat} {x y r:V} (h:FH P t x y=some r):∃b,toBool r=some b/\lJ P t (den J x) (den J y) b:=by
 unfold FH at h;split at h
 ·rename_i u v;split at h<;>simp only[JP,reduceCtorEq]at h
  rename_i hc;subst h;simp only[JR,JT]at hc;refine⟨_,rfl,fun w o1 o2=>?_⟩
  obtain⟨b,h1,h2,h3⟩:=gf w o1 o2 hc.2 hc.1 (eZ hc.2 (by decide)) (o8 u) (o8 v)
  rw[iF]at h3;have:b=GD u v:=Bool.eq_iff_iff.2 (by rw[h3];simp[GD])
  subst this;exact⟨h1,h2⟩
 ·rename_i u v;split at h<;>simp only[JP,reduceCtorEq]at h
  rename_i hc;subst h;simp only[JR,JT]at hc;refine⟨_,rfl,fun w o1 o2=>?_⟩
  obtain⟨b,h1,h2,h3⟩:=gf w o1 o2 hc.2 hc.1 (eZ hc.2 (by simp[GF])) (pK u) (pK v)
  rw[j8]at h3;have:b=uv u v:=Bool.eq_iff_iff.2 (by rw[h3];simp[uv])
  subst this;exact⟨h1,h2⟩
 ·rename_i u v;split at h<;>simp only[JP,reduceCtorEq]at h
  rename_i hc;subst h;simp only[JR,JT]at hc;refine⟨_,rfl,fun w o1 o2=>?_⟩
  obtain⟨b,h1,h2,h3⟩:=gf w o1 o2 hc.2 hc.1 (eZ hc.2 (by simp[GB])) (pY u) (pY v)
  rw[j4]at h3;have:b=vC u v:=Bool.eq_iff_iff.2 (by rw[h3];simp[vC])
  subst this;exact⟨h1,h2⟩
 ·rename_i u v;split at h<;>simp only[JP,reduceCtorEq]at h
  rename_i hc;subst h;simp only[JR,JT]at hc;refine⟨_,rfl,fun w o1 o2=>?_⟩
  obtain⟨b,h1,h2,h3⟩:=gf w o1 o2 hc.2 hc.1 (eZ hc.2 (by simp[Gu])) (tk u) (tk v)
  rw[oB]at h3;have:b=GI u v:=Bool.eq_iff_iff.2 (by rw[h3];simp[GI])
  subst this;exact⟨h1,h2⟩
 ·rename_i a b;simp only[JP]at h;subst h;exact⟨_,rfl,ri _ _⟩
 ·rename_i l m;split at h
  case h_2=>simp at h
  rename_i ks hks;split at h
  case isFalse=>simp at h
  rename_i hc;simp only[JR,JT]at hc;split at h<;>simp only[JP,reduceCtorEq]at h
  rename_i b hb;subst h;obtain⟨ks',g1,g2,g3,g4⟩:=nS J l m b hb;rw[hks]at g1;simp only[JP]at g1;subst g1;refine⟨_,rfl,fun w o1 o2=>?_⟩
  obtain⟨b',h1,h2,h3⟩:=gf w o1 o2 hc.1.2 hc.1.1 (eZ hc.1.2 (Nat.le_of_ble_eq_true hc.2)) g2 g3;have:b'=b:=Bool.eq_iff_iff.2 (by rw[h3,g4])
  subst this;exact⟨h1,h2⟩
 ·split at h<;>simp only[JP,reduceCtorEq]at h
  rename_i hu;subst h;exact⟨_,rfl,lf none hu⟩
 ·split at h<;>simp only[JP,reduceCtorEq]at h
  rename_i hu;subst h;exact⟨_,rfl,lf (some _) hu⟩
 ·split at h<;>simp only[JP,reduceCtorEq]at h
  rename_i hu;subst h;exact⟨_,rfl,by simp only[den];unfold xQ;split<;>exact uY _ _ _ hu⟩
 ·split at h<;>simp only[JP,reduceCtorEq]at h
  rename_i hu;subst h;exact⟨_,rfl,qi hu⟩
 ·split at h
  ·rename_i a b ha hb;split at h<;>simp only[JP,reduceCtorEq]at h
   rename_i hu;subst h;refine⟨vS a b,by unfold Gr;split<;>rfl,?_⟩
   rw[bh ha,bh hb];exact uJ _ _ hu
  ·simp at h
theorem FZ {t:Nat} {x y r:V} {K:Nat->Prop} (h:FH P t x y=some r):ok K r/\aP r=false:=by
 obtain⟨b,hb,_⟩:=pD (J:=Env.zero) h;cases r<;>simp[toBool]at hb<;>exact⟨trivial,rfl⟩
end
def DQ (P:Program) (op:BinOp) (t:Nat) (x y:V):Option (Option Prop×V):=
 match toInt x,toInt y with
 |some (k,a),some (k',b)=>
  if k==k' then
   if nX x&&nX y then
    match HC op a b with
    |some r=>some (none,.cb r)
    |none=>match v8 op a b with
     |some n=>if br k n then some (none,.ci k n)else none
     |none=>none
   else match D7 op a b with
   |some r=>some (none,.bo r)
   |none=>match arith op k a b with
    |some (p,n)=>some (p,.it k n)
    |none=>none
  else none
 |_,_=>match op with
  | .eql=>(FH P t x y).map fun r=>(none,r)
  | .neq=>match FH P t x y with
    |some r=>match toBool r with
     |some b=>some (none,Gr (D5 r) (Cu b))
     |none=>none
    |none=>none
  |_=>none
theorem zn {P:Program} {J:Env} {K:Nat->Prop} {op:BinOp} {t:Nat} {x y r:V} {p:Option Prop} (w:World) (o1 o2:Operand) (h:DQ P op t x y=some (p,r)) (hp:aN p) (hx:ok K x) (hy:ok K y):
  (do eqGuard op t o1 o2 (den J x) (den J y);binOp op t (den J x) (den J y)).run P w= .ok (den J r) w/\ok K r:=by
 unfold DQ at h;split at h
 ·rename_i k a k' b ha hb;obtain⟨e1,r1⟩:=aT (J:=J) ha hx;obtain⟨e2,r2⟩:=aT (J:=J) hb hy;split at h
  ·rename_i hk;have hk:=JT.1 hk;subst hk;have hgd:∀w,(eqGuard op t o1 o2 (.int k a) (.int k b)).run P w= .ok () w:=fun w=>by cases op<;>simp[eqGuard]
   rw[e1,e2];split at h
   ·split at h
    ·rename_i r hr;simp only[JP,JQ]at h;obtain⟨_,rfl⟩:=h;rw[Dw]at hr;exact⟨by rw[Sem.run_bind,hgd,Result.andThen_ok,xV t w hr];rfl,trivial⟩
    ·split at h
     ·rename_i n hn;split at h<;>simp only[JP,JQ,reduceCtorEq]at h
      rename_i hin;obtain⟨_,rfl⟩:=h;exact⟨by rw[Sem.run_bind,hgd,Result.andThen_ok,wA t w hn hin];rfl,hin⟩
     ·simp at h
   ·split at h
    ·rename_i r hr;simp only[JP,JQ]at h;obtain⟨_,rfl⟩:=h;exact⟨by rw[Sem.run_bind,hgd,Result.andThen_ok,xV t w hr];rfl,trivial⟩
    ·split at h<;>simp only[JP,JQ,reduceCtorEq]at h
     rename_i p n hn;obtain⟨rfl,rfl⟩:=h;obtain⟨h1,h2⟩:=yK (P:=P) t w hn hp;exact⟨by rw[Sem.run_bind,hgd,Result.andThen_ok,h1];rfl,h2⟩
  ·simp at h
 ·split at h
  ·cases he:FH P t x y with
   |none=>simp[he]at h
   |some r'=>
    simp only[he,Option.map_some,JP,JQ]at h;obtain⟨_,rfl⟩:=h;obtain⟨b,hb,hr⟩:=pD (J:=J) he;rw[bh hb];exact⟨(hr w o1 o2).1,(FZ he).1⟩
  ·cases he:FH P t x y with
   |none=>simp[he]at h
   |some r'=>
    simp only[he]at h;obtain⟨b,hb,hr⟩:=pD (J:=J) he;simp only[hb,JP,JQ]at h;obtain⟨_,rfl⟩:=h;rw[C3];exact⟨(hr w o1 o2).2,Fm⟩
  ·simp at h
end Go.Sx
namespace Go.Sx
def allM {α β:Type} (g:α->Option β):List α->Option (List β)
 | []=>some []
 |x::l=>match g x,allM g l with
  |some y,some ys=>some (y::ys)
  |_,_=>none
theorem jL {α β:Type} {g:α->Option β}:∀{l:List α} {r:List β},allM g l=some r->r.length=l.length
 | [],r,h=>by simp only[allM,JP]at h;subst h;rfl
 |x::l,r,h=>by
  simp only[allM]at h;split at h
  ·rename_i y ys _ hys;simp only[JP]at h;subst h;simp[jL hys]
  ·simp at h
theorem ie {α β:Type} {g:α->Option β}:∀{l:List α} {r:List β},allM g l=some r->∀(i:Nat) (x:α),l[i]? =some x->∃y,r[i]? =some y/\g x=some y
 | [],r,h,i,x,hx=>by simp at hx
 |a::l,r,h,i,x,hx=>by
  simp only[allM]at h;split at h
  ·rename_i y ys hy hys;simp only[JP]at h;subst h;cases i with
   |zero=>simp only[List.getElem?_cons_zero,JP]at hx;subst hx;exact⟨y,rfl,hy⟩
   |succ i=>simp only[List.getElem?_cons_succ]at hx⊢;exact ie hys i x hx
  ·simp at h
def Ic (k:IntKind):V->Option Int
 | .ci k' n=>if k'==k then some n else none
 | .it k' n=>if k'==k then some n else none
 |_=>none
def Er:V->Option ByteArray
 | .st s=>some s
 |_=>none
def asKey:V->Option Key
 | .key k=>some k
 |_=>none
def Fq:V->Option (List V)
 | .ag l=>some l
 |_=>none
def nK (g:List V->Option V) (rows:List (List V)):Nat->Nat->Option (List V)
 |_,0=>some []
 |j,n+1=>match allM (fun m:List V=>m[j]?) rows with
  |none=>none
  |some c=>match g c,nK g rows (j+1) n with
   |some x,some xs=>some (x::xs)
   |_,_=>none
def wU:Nat->List V->Nat->Option V
 |0,_,_=>none
 |f+1,l,i=>match l with
  | []=>none
  |x::_=>match x with
   | .ci k _=>(allM (Ic k) l).map fun ns=> .it k (aB ns i 0)
   | .it k _=>(allM (Ic k) l).map fun ns=> .it k (aB ns i 0)
   | .cb _=>(allM toBool l).map fun bs=> .bo (aB bs i false)
   | .bo _=>(allM toBool l).map fun bs=> .bo (aB bs i false)
   | .st _=>(allM Er l).map fun bs=> .st (aB bs i ByteArray.empty)
   | .key _=>(allM asKey l).map fun bs=> .key (aB bs i void)
   | .ag m=>match allM Fq l with
     |none=>none
     |some rows=>if rows.all fun r=>r.length==m.length then(nK (fun c=>wU f c i) rows 0 m.length).map .ag else none
   |_=>none
def zi (J:Env) (K:Nat->Prop) (r x:V):Prop:=cells J r=cells J x/\dE r=dE x/\ok K r/\aP r=false
theorem Cx {α:Type} {l:List α} {i:Nat} {a d:α} (h:l[i]? =some a):l.getD i d=a:=by simp[JW,h]
theorem oc {J:Env} {K:Nat->Prop} {g:List V->Option V} {i:Nat} {rows:List (List V)} {row:List V} (hrow:rows[i]? =some row)
  (hg:∀c r x,g c=some r->c[i]? =some x->(∀y∈c,ok K y/\aP y=false)->zi J K r x) (hok:∀m∈rows,∀y∈m,ok K y/\aP y=false):
  ∀(n j:Nat) (rs:List V),nK g rows j n=some rs->rs.length=n/\(∀k,k<n->∃r x,rs[k]? =some r/\row[j+k]? =some x/\zi J K r x)
 |0,j,rs,h=>by simp only[nK,JP]at h;subst h;exact⟨rfl,fun k hk=>absurd hk (by omega)⟩
 |n+1,j,rs,h=>by
  simp only[nK]at h;split at h
  ·simp at h
  ·rename_i c hc;split at h
   ·rename_i x xs hx hxs;simp only[JP]at h;subst h;obtain⟨h1,h2⟩:=oc hrow hg hok n (j+1) xs hxs;refine⟨by simp[h1],fun k hk=>?_⟩
    cases k with
    |zero=>
     obtain⟨y,hy1,hy2⟩:=ie hc i row hrow;refine⟨x,y,rfl,hy2,hg c x y hx hy1 fun z hz=>?_⟩
     obtain⟨q,hq⟩:=List.getElem?_of_mem hz
     have hql:q<rows.length:=by
      grind[jL]
     obtain⟨z',hz1,hz2⟩:=ie hc q rows[q] (List.getElem?_eq_getElem hql);rw[hz1]at hq;simp only[JP]at hq;subst hq;exact hok rows[q] (List.getElem_mem hql) _ (List.mem_of_getElem? hz2)
    |succ k=>
     obtain⟨r,y,e1,e2,e3⟩:=h2 k (by omega)
     exact⟨r,y,by simpa using e1,by rw[<-e2];congr 1;omega,e3⟩
   ·simp at h
theorem uh {J:Env} {K:Nat->Prop} {k:IntKind} {v:V} {n:Int} (h:Ic k v=some n):cells J v= [.int k n]/\dE v=false/\(ok K v->br k n):=by
 cases v<;>simp[Ic]at h
 ·obtain⟨rfl,rfl⟩:=h;exact⟨rfl,rfl,id⟩
 ·obtain⟨rfl,rfl⟩:=h;exact⟨rfl,rfl,id⟩
theorem kF {α:Type} {J:Env} {K:Nat->Prop} {g:V->Option α} {mk:α->V} {d:α} {l:List V} {i:Nat} {r x:V} (h:(allM g l).map (fun ns=>mk (aB ns i d))=some r) (hx:l[i]? =some x)
  (H:∀a,g x=some a->zi J K (mk a) x):zi J K r x:=by
 cases hm:allM g l with
 |none=>simp[hm]at h
 |some ns=>
  simp only[hm,Option.map_some,JP]at h;subst h;obtain⟨n,hn1,hn2⟩:=ie hm i x hx;rw[aB,Cx hn1];exact H n hn2
theorem rW {J:Env} {K:Nat->Prop}:∀(a b:List V),a.length=b.length->(∀k,k<a.length->∃r x,a[k]? =some r/\b[k]? =some x/\zi J K r x)->aq J a=aq J b/\bH K a/\ni a
 | [],[],_,_=>⟨rfl,trivial,trivial⟩
 | [],_::_,h,_=>by simp at h
 |_::_,[],h,_=>by simp at h
 |a0::a,b0::b,hb,hh=>by
  obtain⟨r,x,e1,e2,e3⟩:=hh 0 (by simp)
  simp only[List.getElem?_cons_zero,JP]at e1 e2;subst e1;subst e2
  obtain⟨i1,i2,i3⟩:=rW a b (by simpa using hb) fun k hk=>by
   obtain⟨r,x,e1,e2,e3⟩:=hh (k+1) (by simp;omega)
   exact⟨r,x,by simpa using e1,by simpa using e2,e3⟩
  refine⟨?_,⟨e3.2.2.1,i2⟩,(bm _).2 fun z hz=>?_⟩
  ·simp only[aq,i1];rw[show(den J a0).cells.toList=cells J a0 from rfl,e3.1];rfl
  ·rcases List.mem_cons.1 hz with rfl|hz
   ·exact e3.2.2.2
   ·exact(bm _).1 i3 z hz
theorem rz {J:Env} {K:Nat->Prop} {i:Nat}:∀(f:Nat) (l:List V) (r x:V),wU f l i=some r->l[i]? =some x->(∀y∈l,ok K y/\aP y=false)->zi J K r x
 |0,_,_,_,h,_,_=>by simp[wU]at h
 |f+1,[],_,_,h,_,_=>by simp[wU]at h
 |f+1,y::l,r,x,h,hx,hok=>by
  have hxm:ok K x/\aP x=false:=hok x (List.mem_of_getElem? hx);simp only[wU]at h;split at h
  ·exact kF h hx fun a ha=>by
    obtain⟨e1,e2,e3⟩:=uh (J:=J) (K:=K) ha;exact⟨by rw[e1];rfl,e2.symm,e3 hxm.1,rfl⟩
  ·exact kF h hx fun a ha=>by
    obtain⟨e1,e2,e3⟩:=uh (J:=J) (K:=K) ha;exact⟨by rw[e1];rfl,e2.symm,e3 hxm.1,rfl⟩
  ·exact kF h hx fun a ha=>⟨by unfold cells;rw[bh ha];rfl,by cases x<;>simp[toBool]at ha<;>rfl,trivial,rfl⟩
  ·exact kF h hx fun a ha=>⟨by unfold cells;rw[bh ha];rfl,by cases x<;>simp[toBool]at ha<;>rfl,trivial,rfl⟩
  ·exact kF h hx fun a ha=>by
    cases x<;>simp[Er]at ha
    subst ha;exact⟨rfl,rfl,trivial,rfl⟩
  ·exact kF h hx fun a ha=>by
    cases x<;>simp[asKey]at ha
    subst ha;exact⟨rfl,rfl,hxm.1,rfl⟩
  ·rename_i m;generalize V.ag m::l=L at h hx hok
   split at h
   ·simp at h
   ·rename_i rows hm;split at h
    ·rename_i hlen;cases hc:nK (fun c=>wU f c i) rows 0 m.length with
     |none=>simp[hc]at h
     |some rs=>
      simp only[hc,Option.map_some,JP]at h;subst h;obtain⟨row,hr1,hr2⟩:=ie hm i x hx;cases x<;>simp[Fq]at hr2
      subst hr2;rename_i row
      have hrl:row.length=m.length:=by
       grind
      obtain⟨h1,h2⟩:=oc (J:=J) (K:=K) hr1 (fun c r x hg hc hok=>rz f c r x hg hc hok) (fun q hq z hz=>by
       obtain⟨p,hp⟩:=List.getElem?_of_mem hq
       have hpl:p<L.length:=by
        grind[jL]
       obtain⟨q',hq1,hq2⟩:=ie hm p _ (List.getElem?_eq_getElem hpl);rw[hq1]at hp;simp only[JP]at hp;subst hp;have hk:=hok _ (List.getElem_mem hpl);generalize L[p]=t at hk hq2
       cases t<;>simp[Fq]at hq2
       subst hq2;exact⟨(de _).1 hk.1.1 z hz,(bm _).1 hk.1.2 z hz⟩) m.length 0 rs hc
      obtain⟨c1,c2,c3⟩:=rW (J:=J) (K:=K) rs row (by omega) fun k hk=>by
       simp_all
      exact⟨by rw[aX,aX,c1],rfl,⟨c2,c3⟩,rfl⟩
    ·simp at h
  ·simp at h
def Ai (v:V) (esz n i inner sz:Nat) (a:Bool):Option V:=
 match v with
 | .ag l=>if l.length==n&&l.all (fun x=>bg x==esz)then
   match wU 4 l i with
   |none=>none
   |some x=>bV 8 x inner sz a
   else none
 |_=>Fp v esz n i inner sz a
theorem sL (J:Env) {K:Nat->Prop}:∀(l:List V) (esz i:Nat) (x:V),bH K l->(∀y∈l,bg y=esz)->l[i]? =some x->∃p q,aq J l=p++cells J x++q/\p.length=i*esz
 | [],_,_,_,_,_,h=>by simp at h
 |y::l,esz,0,x,hk,hs,h=>by
  simp_all[aq,cells]
 |y::l,esz,i+1,x,hk,hs,h=>by
  simp only[List.getElem?_cons_succ]at h;obtain⟨p,q,h1,h2⟩:=sL J l esz i x hk.2 (fun z hz=>hs z (by simp[hz])) h
  have hl:=ak J y hk.1;have:=hs y (by simp)
  exact⟨cells J y++p,q,by simp[aq,h1,cells],by simp;rw[Nat.succ_mul];omega⟩
theorem rC (J:Env) {N:Nat->Prop} {v:V} {esz n i inner sz:Nat} {a:Bool} {r:V} (hv:ok N v) (hi:i<n) (h:Ai v esz n i inner sz a=some r):
  (∃p q,cells J v=p++cells J r++q/\i*esz+inner=p.length)/\bg r=sz/\dE r=a/\ok N r/\aP r=false:=by
 unfold Ai at h;split at h
 ·rename_i l;split at h
  ·rename_i hc;simp only[JR,JT,List.all_eq_true]at hc;obtain⟨rfl,hs⟩:=hc;split at h
   ·simp at h
   ·rename_i x hx;have hxl:l[i]? =some l[i]:=List.getElem?_eq_getElem hi;obtain⟨e1,e2,e3,e4⟩:=rz (J:=J) (K:=N) 4 l x _ hx hxl fun y hy=>⟨(de _).1 hv.1 y hy,(bm _).1 hv.2 y hy⟩
    obtain⟨⟨p,q,h1,h2⟩,h3⟩:=ba J 8 x inner sz a r e3 e4 h;obtain⟨P,Q,f1,f2⟩:=sL J l esz i _ hv.1 hs hxl;exact⟨⟨P++p,q++Q,by rw[aX,f1,<-e1,h1];simp,by simp;omega⟩,h3⟩
  ·simp at h
 ·exact yu J hv hi h
def sF (c:V) (off esz n i inner sz:Nat) (a:Bool):Option V:=
 match bV 8 c off (n*esz) true with
 |none=>none
 |some x=>Ai x esz n i inner sz a
theorem qQ (J:Env) {N:Nat->Prop} {c:V} {off esz n i inner sz:Nat} {a:Bool} {r:V} (hc:ok N c) (ht:aP c=false) (hi:i<n) (h:sF c off esz n i inner sz a=some r):
  (∃p q,cells J c=p++cells J r++q/\off+i*esz+inner=p.length)/\bg r=sz/\dE r=a/\ok N r/\aP r=false:=by
 unfold sF at h;cases hx:bV 8 c off (n*esz) true with
 |none=>simp[hx]at h
 |some x=>
  simp only[hx]at h;obtain⟨⟨p,q,h1,h2⟩,_,_,h5,h6⟩:=ba J _ _ _ _ _ _ hc ht hx;obtain⟨⟨p',q',h1',h2'⟩,h3⟩:=rC J h5 hi h;exact⟨⟨p++p',q'++q,by rw[h1,h1'];simp,by simp;omega⟩,h3⟩
end Go.Sx
namespace Go.Sx
open Go.RowKit (Below)
def Ctx.tO (C:Ctx):Prop:=∀t z,C.Z t=some z->∃i,C.P.info? t=some i/\(∀J,i.zero=some (den J z))/\ok (fun _=>False) z/\aP z=false/\i.size=bg z
theorem ca {K:Nat->Prop} {v:V} (h:ok (fun _=>False) v):ok K v:=aU (fun _ h=>h.elim) v h
section
variable {C:Ctx} {J:Env} {fps:Nat->Nat->Prop} {res:List ae} {K:Nat->Prop} {w0 w:World} {F0:Nat->Prop}
def p6 (C:Ctx) (res:List ae) (t:Nat) (p:V):Option (Option Prop×V):=
 match fg C.P t,gz C.P t with
 |some a,some n=>match p with
  | .lp id off=>match aW res id with
    | .blk _ c=>(bV 8 c off n a).map fun r=>(none,r)
    | .cset _ _ _ sv _ _=>(bV 8 (.ag [sv]) off n a).map fun r=>(none,r)
    |_=>none
  | .lx id off esz m i inner=>match aW res id with
    | .blk _ c=>(sF c off esz m i inner n a).map fun r=>(none,r)
    |_=>none
  | .ap id esz i off=>match aW res id with
    | .arr _ esz' l=>if esz==esz' then(bV 8 (l.get i) off n a).map fun r=>(some (zb i l.len),r)else none
    | .obs _ q L=>if esz==1&&off==0&&n==1&&a==false then some (some (zb i (ar L)),.op q i)else none
    | .que _ n' Q=>if esz==n' then(bV 8 (.ag (qL Q i 0 n')) off n a).map fun r=>(some (zb i (ar Q)),r)else none
    |_=>none
  | .ax id esz k off sz m i inner=>match aW res id with
    | .arr _ esz' l=>if esz==esz' then(sF (l.get k) off sz m i inner n a).map fun r=>(some (zb k l.len),r)else none
    |_=>none
  | .op q i=>match aW res q with
    | .gen id=>match aW res id with
      | .obs _ q' L=>if q==q' then(bV 8 (.ob (aB L i free)) 0 n a).map fun r=>(some (zb i (ar L)),r)else none
      |_=>none
    |_=>none
  |_=>none
 |_,_=>none
theorem mP {α:Type} {f:Nat->List α} {esz:Nat}:∀{n:Nat},(∀j,j<n->(f j).length=esz)->∀{i k:Nat},i<n->k<esz->((List.range n).flatMap f)[i*esz+k]? =(f i)[k]?
 |0,_,i,k,hi,_=>by omega
 |n+1,h,i,k,hi,hk=>by
  rw[List.range_succ,List.flatMap_append]
  have hlen:((List.range n).flatMap f).length=n*esz:=by
   clear hi hk;induction n with
   |zero=>simp
   |succ n ih=>
    rw[List.range_succ,List.flatMap_append,List.length_append,ih fun j hj=>h j (by omega)]
    simp[h n (by omega),Nat.succ_mul]
  by_cases e:i<n
  ·rw[List.getElem?_append_left (by rw[hlen];have:(i+1)*esz<=n*esz:=Nat.mul_le_mul_right _ e;rw[Nat.succ_mul]at this;omega)]
   exact mP (fun j hj=>h j (by omega)) e hk
  ·have:i=n:=by omega
   subst this;rw[List.getElem?_append_right (by rw[hlen];omega),hlen]
   simp
theorem eC {w:World} {e size n:Nat} {J:Env} {i:Nat} {xs:List Value} (h:w.ownsRow 0 e size (J.sl i) n xs) (hn:0<n):∃g,J.sa i=some ⟨g,0,none⟩/\J.sn i=n/\g<w.heap.size/\∀j,j<n*size->w.cell? ⟨g,j,none⟩=xs[j]? :=by
 have h':=h;rcases h.2 with⟨_,h0⟩|⟨g,cap,cur,h1,h2,h3,h4⟩
 ·omega
 ·have hh:=h1;simp only[Env.sl,Value.slice.injEq]at h1;rw[hh]at h';exact⟨g,h1.1,h1.2.1,(Array.getElem?_eq_some_iff.1 h3).1,fun j hj=>h'.cellAt j hj⟩
theorem eU {id esz:Nat} {own:Option Nat} {l:TL} (h:an J fps res K w0 F0 w) (hr:aW res id= .arr own esz l) {i:Nat} (hi:i<l.len):
  ok (fun _=>False) (l.get i)/\aP (l.get i)=false/\bg (l.get i)=esz/\∀k,k<esz->w.cell? ⟨(J.adr id).block,(J.adr id).off+(i*esz+k),none⟩=(cells J (l.get i))[k]? :=by
 obtain⟨fp,hh,_⟩:=h.look hr (by simp)
 obtain⟨h1,h2,h3,h4,h5,h6,h7⟩:=hh;obtain⟨g1,g2,g3⟩:=h1 i hi;refine⟨g1,g2,g3,fun k hk=>?_⟩
 have hl:=ak J (l.get i) g1;rcases h7 with⟨_,h7,h8⟩|⟨e,_,e2,e3⟩
 ·have e:=h8 i hi k hk
  have hlt:(J.adr id).block<w0.heap.size:=by
   omega
  rw[<-e];exact World.cell?_of_block (w:=w0) (h.same _ hlt (h7 (by omega)).1)
 ·obtain⟨g,f1,f2,f3,f4⟩:=eC e2 (by omega)
  have ha:=h4 _ f1;rw[<-ha];simp only[Nat.zero_add]
  have hlt:i*esz+k<l.len*esz:=by
   have:(i+1)*esz<=l.len*esz:=Nat.mul_le_mul_right _ hi;rw[Nat.succ_mul]at this;omega
  rw[f4 _ hlt];unfold TL.cells;rw[mP (esz:=esz) (fun j hj=>by rw[ak Env.zero _ (h1 j hj).1];exact(h1 j hj).2.2) hi hk]
  rw[aQ (N:=fun _=>False) (J:=J) (ρ':=Env.zero) (fun _ h=>h.elim) _ g1]
theorem yY {id ty n:Nat} {Q:List (List Int)} (h:an J fps res K w0 F0 w) (hr:aW res id= .que ty n Q) {i:Nat} (hi:i<Q.length):
  zK n Q/\∀k,k<n->w.cell? ⟨(J.adr id).block,(J.adr id).off+(i*n+k),none⟩=(cells J (.ag (qL Q i 0 n)))[k]? :=by
 obtain⟨fp,hh,_⟩:=h.look hr (by simp)
 obtain⟨h1,h2,h3,h4,h5,h6,h7⟩:=hh;refine⟨h1,fun k hk=>?_⟩
 rcases h7 with⟨_,h0⟩|⟨g,off,cap,cur,f1,f2,f3,f4,f5,f6⟩
 ·omega
 simp only[Env.sl,Value.slice.injEq]at f1;obtain⟨f1,_,_⟩:=f1;have ha:=(h4 _ f1).1;rw[<-ha]
 have hlt:i*n+k<Q.length*n:=by
  have:(i+1)*n<=Q.length*n:=Nat.mul_le_mul_right _ hi;rw[Nat.succ_mul]at this;omega
 rw[cell_of_row w g _ cur ty (0,0) f2,aX,B1 h1 hi,<-rr h1 hi hk,<-f6,List.getElem?_take_of_lt hlt,List.getElem?_drop,Array.getElem?_toList]
theorem As {id ty q:Nat} {L:List Obj} (h:an J fps res K w0 F0 w) (hr:aW res id= .obs ty q L) {i:Nat} (hi:i<ar L):
  w.cell? ⟨(J.adr id).block,(J.adr id).off+i,none⟩=some (.pointer (some ⟨J.ob q i,0,none⟩))/\((L.getD i free).wf/\K q)/\∃t,w.heap[J.ob q i]? =some (.cells (bB (L.getD i free)).toArray t (0,0)):=by
 obtain⟨fp,hh,_⟩:=h.look hr (by simp)
 obtain⟨h0,h1,h2,h3,h4,h5,h6,h7⟩:=hh;have hi:i<L.length:=hi;obtain⟨g,f1,f2,f3,f4⟩:=eC h6 (by omega)
 have ha:=(h4 _ f1).1;refine⟨?_,?_,(h7 i hi).2⟩
 ·grind
 ·simp_all
theorem ln {t:Nat} {p r:V} {q:Option Prop} (h:an J fps res K w0 F0 w) (hl:p6 C res t p=some (q,r)) (hq:aN q) (hp:ok K p):
  (Instr.loadAt t (den J p)).run C.P w= .ok (den J r) w/\ok K r/\aP r=false:=by
 unfold p6 at hl;split at hl
 ·rename_i a n ha hn
  have run:∀b off,(Instr.loadAt t (.pointer (some ⟨b,off,none⟩))).run C.P w=(loadVar t ⟨b,off,none⟩).run C.P w:=fun b off=>by
   simp[Instr.loadAt,Instr.sureAddr]
  split at hl
  ·rename_i id off;split at hl
   ·rename_i ty c hc;cases hg:bV 8 c off n a with
    |none=>simp[hg]at hl
    |some r'=>
     simp only[hg,Option.map_some,JP,JQ]at hl;obtain⟨_,rfl⟩:=hl;obtain⟨fp,hh,_⟩:=h.look hc (by simp)
     obtain⟨h1,h2,h3,h4⟩:=hh;obtain⟨e1,e2,e3,e4,e5⟩:=ba J 8 c off n a r' h1 h2 hg;refine⟨?_,e4,e5⟩;simp only[den];rw[run];exact gV w e4 e5 (by rw[e3];exact ha) (by rw[e2];exact hn) h4 e1
   ·rename_i ty et n' sv D Q hc;cases hg:bV 8 (.ag [sv]) off n a with
    |none=>simp[hg]at hl
    |some r'=>
     simp only[hg,Option.map_some,JP,JQ]at hl;obtain⟨_,rfl⟩:=hl;obtain⟨fp,hh,_⟩:=h.look hc (by simp)
     obtain⟨h1,h2,h3,_,_,_,m,sl,h4,_⟩:=hh;obtain⟨⟨P,P',f1,f2⟩,e2,e3,e4,e5⟩:=ba J 8 (.ag [sv]) off n a r' ⟨⟨h1,trivial⟩,by cases sv<;>first|trivial|simp[aP]at h2,trivial⟩ rfl hg
     refine⟨?_,e4,e5⟩;simp only[den];rw[run];have e:cells J (.ag [sv])=cells J sv:=by rw[aX];simp[aq,cells]
     rw[e]at f1;refine cY w e4 e5 (by rw[e3];exact ha) (by rw[e2];exact hn) fun k hk=>?_
     have hlr:=ak J r' e4;rw[cell_of_row w _ _ _ _ _ h4];simp only[List.getElem?_toArray,f1,f2,List.append_assoc];rw[List.getElem?_append_right (by omega),Nat.add_sub_cancel_left,List.getElem?_append_left (by omega)]
   ·simp at hl
  ·rename_i id off esz m i inner;split at hl
   ·rename_i ty c hc;cases hg:sF c off esz m i inner n a with
    |none=>simp[hg]at hl
    |some r'=>
     simp only[hg,Option.map_some,JP,JQ]at hl;obtain⟨_,rfl⟩:=hl;obtain⟨fp,hh,_⟩:=h.look hc (by simp)
     obtain⟨h1,h2,h3,h4⟩:=hh;obtain⟨e1,e2,e3,e4,e5⟩:=qQ J h1 h2 hp.2 hg;refine⟨?_,e4,e5⟩;simp only[den];rw[run];exact gV w e4 e5 (by rw[e3];exact ha) (by rw[e2];exact hn) h4 e1
   ·simp at hl
  ·rename_i id esz i off;split at hl
   ·rename_i own esz' l hc;split at hl
    ·rename_i he;have he:=JT.1 he;subst he;cases hg:bV 8 (l.get i) off n a with
     |none=>simp[hg]at hl
     |some r'=>
      simp only[hg,Option.map_some,JP,JQ]at hl;obtain⟨rfl,rfl⟩:=hl;obtain⟨g1,g2,g3,g4⟩:=eU h hc hq;obtain⟨⟨P,Q,f1,f2⟩,e2,e3,e4,e5⟩:=ba J 8 (l.get i) off n a r' g1 g2 hg;have hlr:=ak J r' e4;have hlg:=ak J _ g1;refine⟨?_,ca e4,e5⟩;simp only[den];rw[run];refine cY w e4 e5 (by rw[e3];exact ha) (by rw[e2];exact hn) fun k hk=>?_
      have hk2:off+k<esz:=by
       rw[<-g3,<-hlg,f1];simp;omega
      have:=g4 (off+k) hk2;rw[show(J.adr id).off+(i*esz+off)+k=(J.adr id).off+(i*esz+(off+k)) by omega,this,f1,f2]
      exact dh P _ Q k (by omega)
    ·simp at hl
   ·rename_i ty q' L hc;split at hl
    ·rename_i hb;simp only[JR,JT]at hb;obtain⟨⟨⟨rfl,rfl⟩,rfl⟩,rfl⟩:=hb;simp only[JP,JQ]at hl;obtain⟨rfl,rfl⟩:=hl;obtain⟨f1,⟨_,f2⟩,_⟩:=As h hc hq;refine⟨?_,f2,rfl⟩;simp only[den];rw[run]
     have:=cY (P:=C.P) (J:=J) (K:=K) (t:=t) (b:=(J.adr id).block) (off:=(J.adr id).off+(i*1+0)) (r:= .op q' i) w f2 rfl ha hn (fun k hk=>by
      have hk:k<1:=hk;rw[show(J.adr id).off+(i*1+0)+k=(J.adr id).off+i by omega,f1,show k=0 by omega]
      simp[cells,den,Value.cells])
     rw[this];simp only[den]
    ·simp at hl
   ·rename_i ty n' Q hc;split at hl
    ·rename_i he;have he:=JT.1 he;subst he;cases hg:bV 8 (.ag (qL Q i 0 esz)) off n a with
     |none=>simp[hg]at hl
     |some r'=>
      simp only[hg,Option.map_some,JP,JQ]at hl;obtain⟨rfl,rfl⟩:=hl;obtain⟨hQ,g4⟩:=yY h hc hq;obtain⟨o1,o2,o3,o4⟩:=wJ (K:=fun _=>False) hQ i esz 0
      have g1:ok (fun _=>False) (.ag (qL Q i 0 esz)):=⟨o1,o2⟩
      obtain⟨⟨P,P',f1,f2⟩,e2,e3,e4,e5⟩:=ba J 8 (.ag (qL Q i 0 esz)) off n a r' g1 rfl hg;have hlr:=ak J r' e4;have hlg:(cells J (.ag (qL Q i 0 esz))).length=esz:=by rw[aX,o4];simp
      refine⟨?_,ca e4,e5⟩;simp only[den];rw[run];refine cY w e4 e5 (by rw[e3];exact ha) (by rw[e2];exact hn) fun k hk=>?_
      have hk2:off+k<esz:=by
       rw[<-hlg,f1];simp;omega
      have:=g4 (off+k) hk2;rw[show(J.adr id).off+(i*esz+off)+k=(J.adr id).off+(i*esz+(off+k)) by omega,this,f1,f2]
      exact dh P _ P' k (by omega)
    ·simp at hl
   ·simp at hl
  ·rename_i id esz k off sz m i inner;split at hl
   ·rename_i own esz' l hc;split at hl
    ·rename_i he;have he:=JT.1 he;subst he;cases hg:sF (l.get k) off sz m i inner n a with
     |none=>simp[hg]at hl
     |some r'=>
      simp only[hg,Option.map_some,JP,JQ]at hl;obtain⟨rfl,rfl⟩:=hl;obtain⟨g1,g2,g3,g4⟩:=eU h hc hq;obtain⟨⟨P,Q,f1,f2⟩,e2,e3,e4,e5⟩:=qQ J g1 g2 hp.2 hg;have hlr:=ak J r' e4;have hlg:=ak J _ g1;refine⟨?_,ca e4,e5⟩;simp only[den];rw[run];refine cY w e4 e5 (by rw[e3];exact ha) (by rw[e2];exact hn) fun x hx=>?_
      have hk2:off+i*sz+inner+x<esz:=by
       rw[<-g3,<-hlg,f1];simp;omega
      have:=g4 (off+i*sz+inner+x) hk2;rw[show(J.adr id).off+(k*esz+(off+i*sz+inner))+x=(J.adr id).off+(k*esz+(off+i*sz+inner+x)) by omega,this,f1,f2]
      exact dh P _ Q x (by omega)
    ·simp at hl
   ·simp at hl
  ·rename_i q0 i;split at hl
   ·split at hl
    ·rename_i ty q' L hc;split at hl
     ·rename_i hqq;have hqq:=JT.1 hqq;subst hqq;cases hg:bV 8 (.ob (aB L i free)) 0 n a with
      |none=>simp[hg]at hl
      |some r'=>
       simp only[hg,Option.map_some,JP,JQ]at hl;obtain⟨rfl,rfl⟩:=hl;obtain⟨_,⟨f2,_⟩,t',f3⟩:=As h hc hq;have hobk:ok (fun _=>False) (.ob (aB L i free)):=f2
       obtain⟨e1,e2,e3,e4,e5⟩:=ba J 8 (.ob (aB L i free)) 0 n a r' hobk rfl hg;refine⟨?_,ca e4,e5⟩;simp only[den];rw[run];exact gV (c:= .ob (aB L i free)) w e4 e5 (by rw[e3];exact ha) (by rw[e2];exact hn) (by rw[dO];exact f3) e1
     ·simp at hl
    ·simp at hl
   ·simp at hl
  ·simp at hl
 ·simp at hl
def HZ (P:Program) (t:Nat) (p:V) (f:Nat):Option V:=
 match P.underlying t with
 |some (.struct fs)=>match fs[f]? with
  |some fd=>match gz P fd.type with
   |some (_+1)=>match p with
    | .lp id off=>some (.lp id (off+fd.offset))
    | .lx id off esz n i inner=>some (.lx id off esz n i (inner+fd.offset))
    | .ap id esz i off=>some (.ap id esz i (off+fd.offset))
    | .ax id esz k off sz n i inner=>some (.ax id esz k off sz n i (inner+fd.offset))
    |_=>none
   |_=>none
  |none=>none
 |_=>none
theorem Bh {P:Program} {t f:Nat} {p r:V} (hl:HZ P t p f=some r) (hp:ok K p):
  (Instr.fieldAt t (den J p) f).run P w= .ok (den J r) w/\ok K r/\aP r=false:=by
 unfold HZ at hl;split at hl
 ·rename_i fs hu;split at hl
  ·rename_i fd hf;split at hl
   ·rename_i m hs
    have run:∀b off,(Instr.fieldAt t (.pointer (some ⟨b,off,none⟩)) f).run P w= .ok (.pointer (some ⟨b,off+fd.offset,none⟩)) w:=fun b off=>by
     simp[Instr.fieldAt,au w hu,hf,Instr.sureAddr,fieldPlace,bQ w hs,add_lit]
    split at hl<;>simp only[JP,reduceCtorEq]at hl<;>subst hl<;>simp only[den]<;>rw[run]
    ·exact⟨rfl,hp,rfl⟩
    ·exact⟨by simp only[Nat.add_assoc],hp,rfl⟩
    ·exact⟨by simp only[Nat.add_assoc],hp,rfl⟩
    ·exact⟨by simp only[Nat.add_assoc],hp,rfl⟩
   ·simp at hl
  ·simp at hl
 ·simp at hl
def inside (j:Int) (n:Nat):Bool:=decide (0<=j)&&decide (j<(n:Int))
def H9 (P:Program) (res:List ae) (t:Nat) (p i:V):Option (Option Prop×V):=
 match toInt i with
 |none=>none
 |some (_,j)=>match P.underlying t with
  |some (.array len e)=>match gz P e with
   |none=>none
   |some sz=>match p with
    | .lp id off=>if nX i then(if inside j len then some (none,.lp id (off+j.toNat*sz))else none)
      else some (some (EB j len),.lx id off sz len (fU j) 0)
    | .ap id esz k off=>if nX i then(if inside j len then some (none,.ap id esz k (off+j.toNat*sz))else none)
      else some (some (EB j len),.ax id esz k off sz len (fU j) 0)
    | .lx id off esz n k inner=>if nX i&&inside j len then some (none,.lx id off esz n k (inner+j.toNat*sz))else none
    |_=>none
  |some (.slice e)=>match gz P e with
   |none=>none
   |some sz=>match p with
    | .sa id=>match aW res id with
      | .arr _ esz l=>if esz==sz then some (some (EB j l.len),.ap id esz (fU j) 0)else none
      | .obs _ _ L=>if 1==sz then some (some (EB j (ar L)),.ap id 1 (fU j) 0)else none
      | .que _ n Q=>if n==sz then some (some (EB j (ar Q)),.ap id n (fU j) 0)else none
      |_=>none
    | .sc id len _=>if nX i then(if inside j len then some (none,.lp id (j.toNat*sz))else none)
      else some (some (EB j len),.lx id 0 sz len (fU j) 0)
    | .ks x z n lo hi=>match x with
      | .lp id off=>if nX i&&inside j (hi-lo)&&z==sz then some (none,.lp id (off+(lo+j.toNat)*sz))else none
      |_=>none
    |_=>none
  |_=>none
theorem eM {P:Program} {t e len sz b off:Nat} {k:IntKind} {j:Int} (w:World) (hu:P.underlying t=some (.array len e)) (hs:gz P e=some sz) (h0:0<=j) (h1:j<(len:Int)):
  (Instr.indexAt t (.pointer (some ⟨b,off,none⟩)) (.int k j)).run P w= .ok (.pointer (some ⟨b,off+j.toNat*sz,none⟩)) w:=by
 simp[Instr.indexAt,asIntOf,au w hu,Instr.sureAddr,h0,h1,bQ w hs,add_lit]
theorem dV {P:Program} {t e len cap sz:Nat} {a:Addr} {k:IntKind} {j:Int} (w:World) (hu:P.underlying t=some (.slice e)) (hs:gz P e=some sz) (ha:a.spot=none) (h0:0<=j) (h1:j<(len:Int)):
  (Instr.indexAt t (.slice (some a) len cap) (.int k j)).run P w= .ok (.pointer (some ⟨a.block,a.off+j.toNat*sz,none⟩)) w:=by
 obtain⟨b,o,s⟩:=a;simp only at ha;subst ha;simp[Instr.indexAt,asIntOf,au w hu,h0,h1,bQ w hs,add_lit]
theorem Aw {t:Nat} {p i r:V} {q:Option Prop} (h:an J fps res K w0 F0 w) (hl:H9 C.P res t p i=some (q,r)) (hq:aN q) (hp:ok K p) (hi:ok K i):
  (Instr.indexAt t (den J p) (den J i)).run C.P w= .ok (den J r) w/\ok K r/\aP r=false:=by
 unfold H9 at hl;split at hl
 ·simp at hl
 ·rename_i k j hj;rw[(aT (J:=J) hj hi).1];have hin:∀n,inside j n=true->0<=j/\j<(n:Int):=fun n hn=>by simpa[inside]using hn
  split at hl
  ·rename_i len e hu;split at hl
   ·simp at hl
   ·rename_i sz hs;split at hl
    ·split at hl
     ·split at hl<;>simp only[JP,JQ,reduceCtorEq]at hl
      rename_i hb;obtain⟨_,rfl⟩:=hl;exact⟨by simp only[den];exact eM w hu hs (hin _ hb).1 (hin _ hb).2,hp,rfl⟩
     ·simp only[JP,JQ]at hl;obtain⟨rfl,rfl⟩:=hl;exact⟨by simp only[den,Nat.add_zero];exact eM w hu hs hq.1 hq.2,⟨hp,by have:=hq.1;have:=hq.2;unfold fU;omega⟩,rfl⟩
    ·split at hl
     ·split at hl<;>simp only[JP,JQ,reduceCtorEq]at hl
      rename_i hb;obtain⟨_,rfl⟩:=hl;have hb:=hin _ hb;exact⟨by simp only[den];rw[eM w hu hs hb.1 hb.2];simp only[Nat.add_assoc],hp,rfl⟩
     ·simp only[JP,JQ]at hl;obtain⟨rfl,rfl⟩:=hl;exact⟨by simp only[den,Nat.add_zero];rw[eM w hu hs hq.1 hq.2];simp only[Nat.add_assoc,fU],⟨hp,by have:=hq.1;have:=hq.2;unfold fU;omega⟩,rfl⟩
    ·split at hl<;>simp only[JP,JQ,reduceCtorEq]at hl
     rename_i hb;obtain⟨_,rfl⟩:=hl;have hb:=hin _ (by simp only[JR]at hb;exact hb.2)
     exact⟨by simp only[den];rw[eM w hu hs hb.1 hb.2];simp only[Nat.add_assoc],hp,rfl⟩
    ·simp at hl
  ·rename_i e hu;split at hl
   ·simp at hl
   ·rename_i sz hs;split at hl
    ·rename_i id;split at hl
     ·rename_i own esz l hc;split at hl<;>simp only[JP,JQ,reduceCtorEq]at hl
      rename_i he;have he:=JT.1 he;obtain⟨rfl,rfl⟩:=hl;subst he;obtain⟨fp,hh,_⟩:=h.look hc (by simp)
      obtain⟨h1,h2,_,h3,h4,h5,h7⟩:=hh;have h5:=h5 (by have:=hq.1;have:=hq.2;omega)
      obtain⟨hq1,hq2⟩:=hq;have hn:=h4 (by omega)
      cases ha:J.sa id with
      |none=>rw[ha]at hn;simp at hn
      |some a=>
       have:=h3 a ha;refine⟨?_,hp,rfl⟩;simp only[den,ha,h2];subst this;rw[dV w hu hs h5 hq1 hq2];simp[fU]
     ·rename_i ty q' L hc;split at hl<;>simp only[JP,JQ,reduceCtorEq]at hl
      rename_i he;have he:=JT.1 he;obtain⟨rfl,rfl⟩:=hl;subst he;obtain⟨fp,hh,_⟩:=h.look hc (by simp)
      obtain⟨_,h1,h2,h3,h4,h5,h6,h7⟩:=hh;obtain⟨hq1,hq2⟩:=hq;have hq2:j<(L.length:Int):=hq2;obtain⟨g,f1,f2,f3,f4⟩:=eC h6 (by omega)
      have hadr:=(h4 _ f1).1;refine⟨?_,hp,rfl⟩;simp only[den,f1,h2];rw[dV w hu hs rfl hq1 hq2,<-hadr];simp[fU]
     ·rename_i ty esz l hc;split at hl<;>simp only[JP,JQ,reduceCtorEq]at hl
      rename_i he;have he:=JT.1 he;obtain⟨rfl,rfl⟩:=hl;subst he;obtain⟨fp,hh,_⟩:=h.look hc (by simp)
      obtain⟨h1,h2,_,h3,h4,h5⟩:=hh;obtain⟨hq1,hq2⟩:=hq;have hq2:j<(l.length:Int):=hq2;have hn:=h4 (by omega)
      cases ha:J.sa id with
      |none=>rw[ha]at hn;simp at hn
      |some a=>
       obtain⟨e1,e2,_⟩:=h3 a ha;refine⟨?_,hp,rfl⟩;simp only[den,ha,h2];subst e1;rw[dV w hu hs e2 hq1 hq2];simp[fU]
     ·simp at hl
    ·split at hl
     ·split at hl<;>simp only[JP,JQ,reduceCtorEq]at hl
      rename_i hb;obtain⟨_,rfl⟩:=hl;refine⟨?_,hp,rfl⟩;simp only[den];rw[dV w hu hs rfl (hin _ hb).1 (hin _ hb).2];simp
     ·simp only[JP,JQ]at hl;obtain⟨rfl,rfl⟩:=hl;refine⟨?_,⟨hp,by have:=hq.1;have:=hq.2;unfold fU;omega⟩,rfl⟩
      simp only[den];rw[dV w hu hs rfl hq.1 hq.2];simp[fU]
    ·rename_i p z n lo hi;split at hl
     case h_2=>simp at hl
     rename_i id off;split at hl<;>simp only[JP,JQ,reduceCtorEq]at hl
     rename_i hc;simp only[JR,JT]at hc;obtain⟨⟨_,hin'⟩,rfl⟩:=hc;obtain⟨_,rfl⟩:=hl;obtain⟨j0,j1⟩:=hin _ hin';obtain⟨hp1,hp2,hp3⟩:=hp;refine⟨?_,hp1,rfl⟩;simp only[den,oG];rw[JX (by omega),add_lit,dV w hu hs rfl j0 j1]
     simp only[Nat.add_mul,Nat.add_assoc]
    ·simp at hl
  ·simp at hl
theorem ke {P:Program} {t off:Nat} {cs:List Value} {r:V} (hr:ok K r) (ht:aP r=false) (ha:fg P t=some (dE r)) (hs:gz P t=some (bg r))
  (hp:∃p q,cs=p++cells J r++q/\off=p.length):(part t cs.toArray off).run P w= .ok (den J r) w:=by
 obtain⟨p,q,rfl,rfl⟩:=hp;have hl:=ak J r hr;unfold part;rw[Sem.run_bind,kq w ha,fM J hr ht];cases hag:Sx.dE r with
 |true=>
  simp only[Result.andThen_ok,if_true,Sem.run_bind,bQ w hs,Sem.run_pure,dD];congr 2
  apply Array.ext'
  rw[<-hl];simp[List.extract_eq_take_drop]
 |false=>
  have h1:bg r=1:=by
   grind[gI,cells,a8]
  have hlt:0<(cells J r).length:=by omega
  have:=dh p (cells J r) q 0 hlt;simp only[Nat.add_zero]at this;simp only[Result.andThen_ok,Bool.false_eq_true,if_false,List.getElem?_toArray,this,List.getElem?_eq_getElem hlt,Sem.run_pure,dD];congr 1
  simp[JW,List.getElem?_eq_getElem hlt]
theorem pn {x:V} (hx:ok K x) (ha:dE x=true):den J x= .agg (cells J x).toArray:=by
 have ht:aP x=false:=by cases x<;>simp_all[dE,aP]
 rw[fM J hx ht,ha];rfl
def H8 (P:Program) (t:Nat) (x:V) (f:Nat):Option V:=
 match P.underlying t with
 |some (.struct fs)=>match fs[f]? with
  |some fd=>match fg P fd.type,gz P fd.type with
   |some a,some n=>if dE x then bV 8 x fd.offset n a else none
   |_,_=>none
  |none=>none
 |_=>none
theorem AU {P:Program} {t f:Nat} {x r:V} (hl:H8 P t x f=some r) (hx:ok K x):
  (Instr.field t (den J x) f).run P w= .ok (den J r) w/\ok K r/\aP r=false:=by
 unfold H8 at hl;split at hl
 ·rename_i fs hu;split at hl
  ·rename_i fd hf;split at hl
   ·rename_i a n ha hn;split at hl
    ·rename_i hag;have ht:aP x=false:=by cases x<;>simp_all[dE,aP]
     obtain⟨e1,e2,e3,e4,e5⟩:=ba J 8 x fd.offset n a r hx ht hl;refine⟨?_,e4,e5⟩;rw[pn hx hag];simp only[Instr.field,Sem.run_bind,au w hu,Result.andThen_ok,hf,asAgg,Sem.run_pure];exact ke e4 e5 (by rw[e3];exact ha) (by rw[e2];exact hn) e1
    ·simp at hl
   ·simp at hl
  ·simp at hl
 ·simp at hl
def Ia (P:Program) (t:Nat) (x i:V):Option (Option Prop×V):=
 match toInt i with
 |none=>none
 |some (_,j)=>match P.underlying t with
  |some (.array len e)=>match fg P e,gz P e with
   |some a,some sz=>if dE x then
    if nX i then(if inside j len then(bV 8 x (j.toNat*sz) sz a).map fun r=>(none,r)else none)
    else(Ai x sz len (fU j) 0 sz a).map fun r=>(some (EB j len),r)
    else none
   |_,_=>none
  |_=>none
theorem Ce {P:Program} {t:Nat} {x i r:V} {q:Option Prop} (hl:Ia P t x i=some (q,r)) (hq:aN q) (hx:ok K x) (hi:ok K i):
  (Instr.index t (den J x) (den J i)).run P w= .ok (den J r) w/\ok K r/\aP r=false:=by
 unfold Ia at hl;split at hl
 ·simp at hl
 ·rename_i k j hj;rw[(aT (J:=J) hj hi).1];split at hl
  ·rename_i len e hu;split at hl
   ·rename_i a sz ha hs;split at hl
    ·rename_i hag;have ht:aP x=false:=by cases x<;>simp_all[dE,aP]
     have run:0<=j->j<(len:Int)->(Instr.index t (den J x) (.int k j)).run P w=(part e (cells J x).toArray (j.toNat*sz)).run P w:=fun h0 h1=>by
      rw[pn hx hag];simp[Instr.index,asIntOf,au w hu,h0,h1,bQ w hs]
     split at hl
     ·split at hl
      ·rename_i hb;have hb:0<=j/\j<(len:Int):=by simpa[inside]using hb
       cases hg:bV 8 x (j.toNat*sz) sz a with
       |none=>simp[hg]at hl
       |some r'=>
        simp only[hg,Option.map_some,JP,JQ]at hl;obtain⟨_,rfl⟩:=hl;obtain⟨e1,e2,e3,e4,e5⟩:=ba J 8 x _ sz a r' hx ht hg;refine⟨?_,e4,e5⟩;rw[run hb.1 hb.2];exact ke e4 e5 (by rw[e3];exact ha) (by rw[e2];exact hs) e1
      ·simp at hl
     ·cases hg:Ai x sz len (fU j) 0 sz a with
      |none=>simp[hg]at hl
      |some r'=>
       simp only[hg,Option.map_some,JP,JQ]at hl;obtain⟨rfl,rfl⟩:=hl;have h0:=hq.1;have h1:=hq.2;obtain⟨e1,e2,e3,e4,e5⟩:=rC J hx (by unfold fU;omega) hg
       refine⟨?_,e4,e5⟩;rw[run h0 h1];simp only[Nat.add_zero]at e1;exact ke e4 e5 (by rw[e3];exact ha) (by rw[e2];exact hs) e1
    ·simp at hl
   ·simp at hl
  ·simp at hl
def Iu (n:Int):UInt8:=UInt8.ofNat n.toNat
theorem DC {n:Int} (h:br .u8 n):((Iu n).toNat:Int)=n:=by
 obtain⟨h0,h1⟩:=h;unfold Iu;rw[UInt8.toNat_ofNat'];omega
def Ih (P:Program) (s d:Nat) (x:V):Option (Option Prop×V):=
 match P.underlying s,P.underlying d with
 |some _,some (.int k')=>match toInt x with
  |some (k,n)=>if k==k' then some (none,x)else if nX x then(if br k' n then some (none,.ci k' n)else none)else if k'== .u8 then some (some (fy .u8 n),.bt (Iu n))else some (some (fy k' n),.it k' n)
  |none=>none
 |some .string,some .string=>match x with
  | .st b=>some (none,.st b)
  |_=>none
 |_,_=>none
theorem Bd {P:Program} {s d:Nat} {x r:V} {q:Option Prop} (hl:Ih P s d x=some (q,r)) (hq:aN q) (hx:ok K x):
  (convert s d (den J x)).run P w= .ok (den J r) w/\ok K r/\aP r=false:=by
 unfold Ih at hl;split at hl
 ·rename_i u k' h1 h2;split at hl
  ·rename_i k n hx';obtain⟨e1,e2⟩:=aT (J:=J) hx' hx;split at hl
   ·rename_i hk;have hk:=JT.1 hk;subst hk;simp only[JP,JQ]at hl;obtain⟨_,rfl⟩:=hl;refine⟨?_,hx,by cases x<;>first|rfl| (simp[toInt]at hx')⟩
    rw[e1];simp[convert,au w h1,au w h2,Conv.intToInt,eG e2]
   ·split at hl
    ·split at hl<;>simp only[JP,JQ,reduceCtorEq]at hl
     rename_i hin;obtain⟨_,rfl⟩:=hl;refine⟨?_,hin,rfl⟩;rw[e1];simp[convert,au w h1,au w h2,Conv.intToInt,eG hin,den]
    ·split at hl
     ·rename_i hk8;have hk8:=JT.1 hk8;subst hk8;simp only[JP,JQ]at hl;obtain⟨rfl,rfl⟩:=hl;refine⟨?_,trivial,rfl⟩;rw[e1];simp[convert,au w h1,au w h2,Conv.intToInt,eG (show br .u8 n from hq),den,DC (show br .u8 n from hq)]
     ·simp only[JP,JQ]at hl;obtain⟨rfl,rfl⟩:=hl;refine⟨?_,hq,rfl⟩;rw[e1];simp[convert,au w h1,au w h2,Conv.intToInt,eG (show br k' n from hq),den]
  ·simp at hl
 ·rename_i h1 h2;split at hl<;>simp only[JP,JQ,reduceCtorEq]at hl
  obtain⟨_,rfl⟩:=hl;refine⟨?_,trivial,rfl⟩;simp[den,convert,au w h1,au w h2]
 ·simp at hl
end
end Go.Sx
namespace Go.Sx
open Go.RowKit (Below)
theorem n0 (off:Nat):∀(l:List Value) (k:Nat) (cur:Array Value),off+k+l.length<=cur.size->
  ((l.zipIdx k).foldl (fun(cs:Array Value) (x:Value×Nat)=>cs.setIfInBounds (off+x.2) x.1) cur).toList=cur.toList.take (off+k)++l++cur.toList.drop (off+k+l.length)
 | [],k,cur,_=>by simp
 |v::l,k,cur,h=>by
  simp only[List.length_cons]at h;simp only[List.zipIdx_cons,List.foldl_cons];rw[n0 off l (k+1) _ (by simp;omega)]
  have e:=list_seg_step cur.toList (off+k) v l (by simp;omega)
  simpa[Array.toList_setIfInBounds,Nat.add_assoc,Nat.add_comm 1]using e
def gg (place:Nat->Option (Nat×Nat)):V->List (Nat×V)->Option V
 |z,[]=>some z
 |z,(i,y)::l=>match place i with
  |none=>none
  |some (off,size)=>if bg y==size&& !aP y then
   match setAt 8 z off y with
   |none=>none
   |some z'=>gg place z' l
   else none
theorem fi {J:Env} {K:Nat->Prop} (place:Nat->Option (Nat×Nat)):∀(l:List (Nat×V)) (z r:V),gg place z l=some r->ok K z->aP z=false->(∀p∈l,ok K p.2)->
  Instr.fill place (cells J z).toArray (l.map fun p=>(p.1,den J p.2))=some (cells J r).toArray/\ok K r/\aP r=false/\dE r=dE z/\(cells J r).length=(cells J z).length
 | [],z,r,h,hz,ht,_=>by
   simp only[gg,JP]at h;subst h;exact⟨rfl,hz,ht,rfl,rfl⟩
 | (i,y)::l,z,r,h,hz,ht,hl=>by
   simp only[gg]at h;split at h
   ·simp at h
   ·rename_i off size hp;split at h
    ·rename_i hc;simp only[JR,JT,Bool.not_eq_true']at hc;obtain⟨hs,hty⟩:=hc;split at h
     ·simp at h
     ·rename_i z' hz';have hy:ok K y:=hl (i,y) (by simp)
      have hput:=cP J y hy hty 8 z off z' hz ht hz';have hsz:=hput.size hy;obtain⟨⟨p,m,q,e1,e2,e3,e4⟩,e5,e6,e7⟩:=hput;obtain⟨f1,f2,f3,f4,f5⟩:=fi place l z' r h e6 e7 fun p hp=>hl p (by simp[hp])
      have hly:=ak J y hy;have hcs:(den J y).cells.size=size:=by rw[<-hs,<-hly];simp[cells]
      refine⟨?_,f2,f3,f4.trans e5,f5.trans hsz⟩;simp only[List.map_cons,Instr.fill,hp]
      have hbound:¬((den J y).cells.size≠size||off+(den J y).cells.size>(cells J z).toArray.size)=true:=by
       simp[hcs,e1];omega
      rw[JX hbound,<-f1];congr 1
      apply Array.ext'
      have hsp:=n0 off (den J y).cells.toList 0 (cells J z).toArray (by simp[hcs,e1];omega)
      simp only[Nat.add_zero]at hsp;rw[<-Array.foldl_toList,Array.toList_zipIdx];refine hsp.trans ?_;simp only[Array.length_toList,hcs];rw[show(den J y).cells.toList=cells J y from rfl,e2,e1];subst e3
      rw[show List.take p.length (p++m++q)=p by simp,show List.drop (p.length+size) (p++m++q)=q by
       rw[<-hs,<-e4,<-List.length_append,List.drop_left]]
    ·simp at h
def tn (P:Program) (fs:Array Field) (i:Nat):Option (Nat×Nat):=
 match fs[i]? with
 |none=>none
 |some f=>match gz P f.type with
  |none=>none
  |some n=>some (f.offset,n)
def Ba (P:Program) (fs:Array Field):Bool:=fs.toList.all fun f=>(gz P f.type).isSome
def td (C:Ctx) (t:Nat) (parts:List (Nat×V)):Option V:=
 match C.Z t with
 |none=>none
 |some z=>if dE z then
  match C.P.underlying t with
  |some (.struct fs)=>if Ba C.P fs then gg (tn C.P fs) z parts else none
  |some (.array _ e)=>match gz C.P e with
   |none=>none
   |some n=>gg (fun i=>some (i*n,n)) z parts
  |_=>none
  else none
section
variable {C:Ctx} {J:Env} {K:Nat->Prop} {w:World}
theorem fY {t:Nat} {z:V} (hC:C.tO) (h:C.Z t=some z):(zeroValue t).run C.P w= .ok (den J z) w:=by
 obtain⟨i,h1,h2,_⟩:=hC t z h;simp[zeroValue,typeInfo,h1,h2 J]
theorem uk {P:Program} {α β:Type} (g:α->Sem β) (f:α->β) (w:World):∀(l:List α),(∀x∈l,(g x).run P w= .ok (f x) w)->(l.mapM g).run P w= .ok (l.map f) w
 | [],_=>by simp
 |x::l,h=>by
  simp_all[uk]
theorem u3 {t:Nat} {parts:List (Nat×V)} {r:V} (hC:C.tO) (h:td C t parts=some r) (hp:∀p∈parts,ok K p.2):
  (Instr.build t (parts.map fun p=>(p.1,den J p.2)).toArray).run C.P w= .ok (den J r) w/\ok K r/\aP r=false:=by
 unfold td at h;split at h
 ·simp at h
 ·rename_i z hz;obtain⟨i,h1,h2,h3,h4,h5⟩:=hC t z hz;split at h
  ·rename_i hag;have hz0:=fY (C:=C) (J:=J) (w:=w) hC hz;split at h
   ·rename_i fs hu;split at h
    ·rename_i hfs;obtain⟨f1,f2,f3,f4,_⟩:=fi (J:=J) (K:=K) _ parts z r h (ca h3) h4 hp;refine⟨?_,f2,f3⟩;simp only[Instr.build,Sem.run_bind,hz0,Result.andThen_ok,au w hu]
     have hm:(fs.mapM fun f=>do pure (f.offset,<-sizeOf f.type):Sem (Array (Nat×Nat))).run C.P w= .ok (fs.map fun f=>(f.offset,C.P.cellsOf f.type)) w:=by
      rw[Array.mapM_eq_mapM_toList];simp only[Sem.run_map]
      rw[uk _ (fun f:Field=>(f.offset,C.P.cellsOf f.type)) w fs.toList fun f hf=>by
       have:=List.all_eq_true.1 hfs f hf;cases hs:gz C.P f.type with
       |none=>simp[hs]at this
       |some n=>
        have e:C.P.cellsOf f.type=n:=by
         unfold gz at hs;simp[Program.cellsOf,hs]
        simp[bQ w hs,e]]
      simp only[Result.andThen_ok];congr 1
      apply Array.ext'
      simp
     rw[hm];simp only[Result.andThen_ok]
     have hpl:(fun i=>(fs.map fun f=>(f.offset,C.P.cellsOf f.type))[i]?)=tn C.P fs:=by
      funext i
      unfold tn;rw[Array.getElem?_map];cases hi:fs[i]? with
      |none=>simp
      |some f=>
       have hmem:f∈fs.toList:=by
        grind
       have:=List.all_eq_true.1 hfs f hmem;cases hs:gz C.P f.type with
       |none=>simp[hs]at this
       |some n=>
        have e:C.P.cellsOf f.type=n:=by
         unfold gz at hs;simp[Program.cellsOf,hs]
        simp[hs,e]
     rw[hpl];have hcz:(den J z).cells=(cells J z).toArray:=by simp[cells]
     rw[hcz,f1];simp only[Sem.run_pure];rw[pn f2 (f4.trans hag)]
    ·simp at h
   ·rename_i e hu;split at h
    ·simp at h
    ·rename_i m hm;obtain⟨f1,f2,f3,f4,_⟩:=fi (J:=J) (K:=K) _ parts z r h (ca h3) h4 hp;refine⟨?_,f2,f3⟩;simp only[Instr.build,Sem.run_bind,hz0,Result.andThen_ok,au w hu,bQ w hm];have hcz:(den J z).cells=(cells J z).toArray:=by simp[cells]
     rw[hcz,f1];simp only[Sem.run_pure];rw[pn f2 (f4.trans hag)]
   ·simp at h
  ·simp at h
def G9 (C:Ctx) (t n:Nat) (parts:List (Nat×V)) (nid:Nat):Option (V×List ae):=
 match C.P.underlying t with
 |some (.slice e)=>match C.Z e with
  |none=>none
  |some z=>if decide (n*bg z<=16777216)then
   match gg (fun i=>some (i*bg z,bg z)) (.ag (List.replicate n z)) parts with
   |none=>none
   |some c=>some (.sc nid n n,[.blk e c])
   else none
 |_=>none
theorem iu (z:V):∀n,aq J (List.replicate n z)=(List.replicate n (cells J z)).flatten
 |0=>rfl
 |n+1=>by simp only[List.replicate_succ,aq,List.flatten_cons,iu z n];rfl
theorem dQ {α:Type} (l:List α) (hl:0<l.length):∀(n i:Nat),i<n*l.length->(List.replicate n l).flatten[i]? =l[i%l.length]?
 |0,i,h=>by omega
 |n+1,i,h=>by
  rw[List.replicate_succ,List.flatten_cons];rw[Nat.succ_mul]at h;by_cases hi:i<l.length
  ·rw[List.getElem?_append_left hi,Nat.mod_eq_of_lt hi]
  ·rw[List.getElem?_append_right (by omega),dQ l hl n _ (by omega),<-Nat.mod_eq_sub_mod (by omega)]
theorem nu (z:Array Value) (n:Nat):((Array.range (n*z.size)).map fun i=>z[i%z.size]!)=((List.replicate n z.toList).flatten).toArray:=by
 apply Array.ext'
 apply List.ext_getElem?
 intro i;by_cases hz:z.size=0
 ·simp_all
 ·by_cases hi:i<n*z.size
  ·have:=dQ z.toList (by simpa using Nat.pos_of_ne_zero hz) n i (by simpa using hi)
   rw[show((List.replicate n z.toList).flatten).toArray.toList=(List.replicate n z.toList).flatten from rfl,this];have hm:i%z.size<z.size:=Nat.mod_lt _ (Nat.pos_of_ne_zero hz);simp[hi,hm]
  ·simp_all
theorem Bt {t n nid:Nat} {parts:List (Nat×V)} {r:V} {new:List ae} {w0:World} {F0:Nat->Prop} (hC:C.tO) (h:G9 C t n parts nid=some (r,new)) (hp:∀p∈parts,ok K p.2) (hn:¬K nid):
  ∃w' ρ',(Instr.buildSlice t n (parts.map fun p=>(p.1,den J p.2)).toArray).run C.P w= .ok (den ρ' r) w'/\fc K J ρ' nid new w0 F0 w w'/\ok (fun i=>K i\/fresh nid new.length i) r/\(∀k,k<new.length->aa new k≠ .yet):=by
 unfold G9 at h;split at h
 ·rename_i e hu;split at h
  ·simp at h
  ·rename_i z hz;obtain⟨i,h1,h2,h3,h4,h5⟩:=hC e z hz;split at h
   ·rename_i hle;have hle:n*bg z<=16777216:=by simpa using hle
    split at h
    ·simp at h
    ·rename_i c hc;simp only[JP,JQ]at h;obtain⟨rfl,rfl⟩:=h;have hzok:ok K (.ag (List.replicate n z)):=⟨(de _).2 fun x hx=>by rw[List.eq_of_mem_replicate hx];exact ca h3,(bm _).2 fun x hx=>by rw[List.eq_of_mem_replicate hx];exact h4⟩
     obtain⟨f1,f2,f3,f4,_⟩:=fi (J:=J) (K:=K) _ parts _ c hc hzok rfl hp;refine⟨w.alloc (.cells (cells J c).toArray e),J.aD nid w.heap.size,?_,fc.alloc f2 f3 hn,?_,?_⟩
     ·have hs:gz C.P e=some (bg z):=by simp[gz,h1,h5]
      have hz0:=fY (C:=C) (J:=J) (w:=w) hC hz;have hzc:(den J z).cells.size=bg z:=by rw[<-ak J z h3];simp[cells]
      simp only[Instr.buildSlice,Sem.run_bind,au w hu,Result.andThen_ok,bQ w hs,Sem.run_ite];rw[JX (by omega)]
      simp only[Sem.run_pure,Result.andThen_ok]
      have key:∀zz:Array Value,(n*bg z=0\/zz=(den J z).cells)->((Array.range (n*bg z)).map fun x=>zz[x%zz.size]!)=(cells J (.ag (List.replicate n z))).toArray:=by
       grind[aX,iu,cells,ak,nu]
      by_cases h0:n*bg z=0
      ·rw[JY h0];rw[key #[] (.inl h0),f1];simp only[Sem.run_bind,newRow,run_newObj_alloc,Result.andThen_ok,Sem.run_pure];simp[den,Env.aD]
      ·rw[JX h0];simp only[hz0,Result.andThen_ok];rw[key _ (.inr rfl),f1];simp only[Sem.run_bind,newRow,run_newObj_alloc,Result.andThen_ok,Sem.run_pure];simp[den,Env.aD]
     ·exact .inr ⟨Nat.le_refl _,by simp⟩
     ·simp_all[aa]
   ·simp at h
 ·simp at h
end
end Go.Sx
