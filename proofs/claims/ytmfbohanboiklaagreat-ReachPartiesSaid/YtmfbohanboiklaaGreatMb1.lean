import Derived.Test.YtmfbohanboiklaaGreatMb0
set_option linter.unusedSimpArgs false
set_option linter.unusedVariables false
namespace Go.Sx
inductive Kd where
 |b
 |s
 |i (k:IntKind)
 deriving DecidableEq
def Kd.of:Kd->Value->Prop
 | .b,v=>∃x,v= .bool x
 | .s,v=>∃x,v= .string x
 | .i k,v=>∃n,v= .int k n
def mh:List Kd->List Value->Prop
 | [],[]=>True
 |k::ks,v::vs=>k.of v/\mh ks vs
 |_,_=>False
theorem mh.length:∀{ks:List Kd} {vs:List Value},mh ks vs->vs.length=ks.length
 | [],[],_=>rfl
 |_::_,_::_,h=>by simp[mh.length h.2]
 | [],_::_,h=>h.elim
 |_::_,[],h=>h.elim
theorem mh.split:∀{a b:List Kd} {vs:List Value},mh (a++b) vs->mh a (vs.take a.length)/\mh b (vs.drop a.length)
 | [],b,vs,h=>by simpa[mh]using h
 |k::a,b,[],h=>h.elim
 |k::a,b,v::vs,h=>by
  obtain⟨h1,h2⟩:=mh.split (a:=a) h.2;exact⟨by simpa[mh]using⟨h.1,h1⟩,by simpa using h2⟩
theorem mh.join:∀{a b:List Kd} {vs us:List Value},mh a vs->mh b us->mh (a++b) (vs++us)
 | [],_,[],_,_,h=>by simpa using h
 |k::a,_,v::vs,_,h,h'=>⟨h.1,mh.join h.2 h'⟩
 | [],_,_::_,_,h,_=>h.elim
 |_::_,_,[],_,h,_=>h.elim
def lj(g:Nat->Option (List Kd)):Nat->List Field->Option (List Kd)
 |_,[]=>some []
 |off,f::fs=>if f.name != "_" &&f.offset==off then
  match g f.type with
  |none=>none
  |some ks=>(lj g (off+ks.length) fs).map (ks++ ·)
  else none
def flatK(P:Program):Nat->Nat->Option (List Kd)
 |0,_=>none
 |f+1,t=>match P.underlying t with
  |some .bool=>some [.b]
  |some .string=>some [.s]
  |some (.int k)=>some [.i k]
  |some (.struct fs)=>if P.stoodInHeld t then none else
   match lj (flatK P f) 0 fs.toList with
   |none=>none
   |some ks=>if nP P t==some ks.length then some ks else none
  |some (.array n e)=>match flatK P f e with
   |none=>none
   |some ks=>if nP P e==some ks.length&&nP P t==some (n*ks.length)then some (List.replicate n ks).flatten else none
  |_=>none
theorem A0(x y:ByteArray):(x==y)=decide (x=y):=by
 rw[beq_toListBytes,ByteArray.toList_eq,ByteArray.toList_eq];obtain⟨⟨x⟩⟩:=x;obtain⟨⟨y⟩⟩:=y;rw[Bool.eq_iff_iff];simp
section
variable {P:Program}
theorem sF{f t:Nat}{ks:List Kd}{a:Bool}(h:flatK P f t=some ks)(ha:lA P t=some a):(a=true->nP P t=some ks.length)/\(a=false->ks.length=1):=by
 cases f with
 |zero=>simp[flatK]at h
 |succ f=>
  unfold flatK at h;unfold lA at ha;split at h
  ·rename_i hu;rw[hu]at ha;simp at ha h;subst ha;subst h;simp
  ·rename_i hu;rw[hu]at ha;simp at ha h;subst ha;subst h;simp
  ·rename_i hu;rw[hu]at ha;simp at ha h;subst ha;subst h;simp
  ·grind
  ·rename_i hu;rw[hu]at ha;simp at ha;subst ha;split at h
   ·simp at h
   ·split at h
    ·rename_i hs;simp at h;subst h;simp only[af,ai]at hs;simp[hs.2]
    ·simp at h
  ·simp at h
theorem rD{f t:Nat}{ks:List Kd}(h:flatK P f t=some ks):∃a,lA P t=some a:=by
 cases f with
 |zero=>simp[flatK]at h
 |succ f=>
  unfold flatK at h;unfold lA;split at h<;>first| (rename_i hu;rw[hu];exact⟨_,rfl⟩)| (simp at h)
theorem jW{f t off:Nat}{ks:List Kd}{a:Bool}{xs:List Value}(w:World)(h:flatK P f t=some ks)(ha:lA P t=some a)
  (hl:off+ks.length<=xs.length):(part t xs.toArray off).run P w= .ok (jl a ((xs.drop off).take ks.length)) w:=by
 obtain⟨h1,h2⟩:=sF h ha;unfold part;rw[Sem.run_bind,rJ w ha];cases a with
 |true=>
  simp only[Result.andThen_ok,if_true,Sem.run_bind,fG w (h1 rfl),Sem.run_pure,jl];congr 2
  apply Array.ext'
  simp[List.extract_eq_take_drop]
 |false=>
  have h2:=h2 rfl;have hlt:off<xs.length:=by omega
  simp only[Result.andThen_ok,Bool.false_eq_true,if_false,List.getElem?_toArray,List.getElem?_eq_getElem hlt,Sem.run_pure,jl,h2];congr 1
  rw[an,List.getElem?_take_of_lt (by omega),List.getElem?_drop]
  simp[List.getElem?_eq_getElem hlt]
def Eqs(P:Program)(d t:Nat)(a:Bool)(xs ys:List Value):Prop:=
 ∀w,∃b,(Op.equalIn d t (jl a xs) (jl a ys)).run P w= .ok b w/\(b=true↔xs=ys)
theorem uK{α:Type}(n:Nat)(xs ys:List α):xs=ys↔xs.take n=ys.take n/\xs.drop n=ys.drop n:=
 ⟨fun h=>by subst h;exact⟨rfl,rfl⟩,fun⟨h1,h2⟩=>by rw[<-List.take_append_drop n xs,<-List.take_append_drop n ys,h1,h2]⟩
theorem tA(f d:Nat)(hd:∀t ks a xs ys,flatK P f t=some ks->lA P t=some a->mh ks xs->mh ks ys->Eqs P d t a xs ys)(X Y:List Value)(hXY:X.length=Y.length)(w:World):
  ∀(fs:List Field) (off:Nat) (ks:List Kd),lj (flatK P f) off fs=some ks->off+ks.length=X.length->mh ks (X.drop off)->mh ks (Y.drop off)->
  ∃b,(Op.eqFields d X.toArray Y.toArray fs).run P w= .ok b w/\(b=true↔X.drop off=Y.drop off)
 | [],off,ks,h,hl,hx,hy=>by
   simp only[lj,aa]at h;subst h;refine⟨true,rfl,?_⟩;simp only[List.length_nil,Nat.add_zero]at hl;simp[List.drop_eq_nil_of_le (show X.length<=off by omega),List.drop_eq_nil_of_le (show Y.length<=off by omega)]
 |g::fs,off,ks,h,hl,hx,hy=>by
  simp only[lj]at h;split at h
  ·rename_i hc;simp only[af,bne_iff_ne,ne_eq,ai]at hc;obtain⟨hn,ho⟩:=hc;cases hg:flatK P f g.type with
   |none=>simp[hg]at h
   |some k1=>
    simp only[hg]at h;cases hr:lj (flatK P f) (off+k1.length) fs with
    |none=>simp[hr]at h
    |some k2=>
     simp only[hr,Option.map_some,aa]at h;subst h;simp only[List.length_append]at hl;obtain⟨a,ha⟩:=rD hg;obtain⟨x1,x2⟩:=mh.split hx;obtain⟨y1,y2⟩:=mh.split hy;obtain⟨b,hb,hbi⟩:=hd _ _ _ _ _ hg ha x1 y1 w;simp only[List.drop_drop]at x2 y2;obtain⟨b',hb',hbi'⟩:=tA f d hd X Y hXY w fs (off+k1.length) k2 hr (by omega) x2 y2
     have e1:=jW (xs:=X) (off:=off) w hg ha (by omega)
     have e2:=jW (xs:=Y) (off:=off) w hg ha (by omega)
     simp only[Op.eqFields,ar hn,ho,Sem.run_bind,e1,e2,hb,Result.andThen_ok,Sem.run_ite];rw[uK k1.length (X.drop off) (Y.drop off)];simp only[List.drop_drop];cases b with
     |false=>exact⟨false,by simp,by simp;exact fun h=>absurd (hbi.2 h) (by simp)⟩
     |true=>exact⟨b',by simpa using hb',by rw[hbi'];exact⟨fun h=>⟨hbi.1 rfl,h⟩,fun h=>h.2⟩⟩
  ·simp at h
theorem wF(n:Nat)(ks:List Kd):(List.replicate n ks).flatten.length=n*ks.length:=by simp
def Au(d e n:Nat)(X Y:Array Value):List Nat->Sem Bool
 | []=>pure true
 |i::is=>do
  let a<-part e X (i*n)
  let b<-part e Y (i*n)
  let r<-Op.equalIn d e a b
  if(!r)=true then pure false else Au d e n X Y is
theorem Bf(f d:Nat)(hd:∀t ks a xs ys,flatK P f t=some ks->lA P t=some a->mh ks xs->mh ks ys->Eqs P d t a xs ys){e:Nat}{ks:List Kd}{a:Bool}(he:flatK P f e=some ks)(ha:lA P e=some a)
  (X Y:List Value) (hXY:X.length=Y.length) (w:World):∀(m j:Nat),j*ks.length+m*ks.length=X.length->mh (List.replicate m ks).flatten (X.drop (j*ks.length))->mh (List.replicate m ks).flatten (Y.drop (j*ks.length))->
  ∃b,(Au d e ks.length X.toArray Y.toArray (List.range' j m)).run P w= .ok b w/\(b=true↔X.drop (j*ks.length)=Y.drop (j*ks.length))
 |0,j,hl,hx,hy=>by
  refine⟨true,rfl,?_⟩;simp only[Nat.zero_mul,Nat.add_zero]at hl;simp[List.drop_eq_nil_of_le (show X.length<=j*ks.length by omega),List.drop_eq_nil_of_le (show Y.length<=j*ks.length by omega)]
 |m+1,j,hl,hx,hy=>by
  rw[List.replicate_succ,List.flatten_cons]at hx hy;obtain⟨x1,x2⟩:=mh.split hx;obtain⟨y1,y2⟩:=mh.split hy;rw[Nat.succ_mul]at hl;obtain⟨b,hb,hbi⟩:=hd _ _ _ _ _ he ha x1 y1 w;simp only[List.drop_drop,show j*ks.length+ks.length=(j+1)*ks.length by rw[Nat.succ_mul]]at x2 y2
  obtain⟨b',hb',hbi'⟩:=Bf f d hd he ha X Y hXY w m (j+1) (by rw[Nat.succ_mul];omega) x2 y2
  have e1:=jW (xs:=X) (off:=j*ks.length) w he ha (by omega)
  have e2:=jW (xs:=Y) (off:=j*ks.length) w he ha (by omega)
  simp only[List.range'_succ,Au,Sem.run_bind,e1,e2,hb,Result.andThen_ok,Sem.run_ite];rw[uK ks.length (X.drop (j*ks.length)) (Y.drop (j*ks.length))];simp only[List.drop_drop,show j*ks.length+ks.length=(j+1)*ks.length by rw[Nat.succ_mul]]
  cases b with
  |false=>exact⟨false,by simp,by simp;exact fun h=>absurd (hbi.2 h) (by simp)⟩
  |true=>exact⟨b',by simpa using hb',by rw[hbi'];exact⟨fun h=>⟨hbi.1 rfl,h⟩,fun h=>h.2⟩⟩
theorem run_equalIn_array(d t len e n:Nat)(X Y:Array Value)(w:World)(hu:P.underlying t=some (.array len e))(hn:nP P e=some n):
  (Op.equalIn (d+1) t (.agg X) (.agg Y)).run P w=(Au d e n X Y (List.range' 0 len)).run P w:=by
 simp only[Op.equalIn,Sem.run_bind,bD w hu,Result.andThen_ok,fG w hn];rw[Std.Legacy.Range.forIn_eq_forIn_range'];simp only[Std.Legacy.Range.size,Nat.sub_zero,Nat.add_sub_cancel,Nat.div_one];generalize List.range' 0 len=is
 induction is generalizing w with
 |nil=>simp[Au]
 |cons i is ih=>
  simp only[List.forIn_cons,Au,Sem.run_bind,Sem.run_ite];generalize (part e X (i*n)).run P w=r1
  cases r1 with
  |ok a w1=>
   simp only[Result.andThen_ok];generalize (part e Y (i*n)).run P w1=r2
   cases r2 with
   |ok b w2=>
    simp only[Result.andThen_ok];generalize (Op.equalIn d e a b).run P w2=r3
    cases r3 with
    |ok r w3=>
     cases r
     ·simp only[Result.andThen_ok,Bool.not_false,if_true,Sem.run_pure]
     ·simp_all
    |halt x w3=>simp[Result.andThen]
   |halt x w2=>simp[Result.andThen]
  |halt x w1=>simp[Result.andThen]
theorem qN:∀(f d:Nat),f<=d->∀t ks a xs ys,flatK P f t=some ks->lA P t=some a->mh ks xs->mh ks ys->Eqs P d t a xs ys
 |0,_,_,_,_,_,_,_,h,_,_,_=>by simp[flatK]at h
 |f+1,0,hfd,_,_,_,_,_,_,_,_,_=>by omega
 |f+1,d+1,hfd,t,ks,a,xs,ys,h,ha,hx,hy=>by
  intro w;have ih:=fun t ks a xs ys=>qN f d (by omega) t ks a xs ys
  unfold flatK at h;split at h
  ·rename_i hu;simp only[lA,hu,aa]at ha h;subst ha;subst h;match xs,ys,hx,hy with
   | [_],[_],⟨⟨x,rfl⟩,_⟩,⟨⟨y,rfl⟩,_⟩=>
     exact⟨x==y,by simp[jl,Op.equalIn,bD w hu],by simp⟩
  ·rename_i hu;simp only[lA,hu,aa]at ha h;subst ha;subst h;match xs,ys,hx,hy with
   | [_],[_],⟨⟨x,rfl⟩,_⟩,⟨⟨y,rfl⟩,_⟩=>
     refine⟨x==y,by simp[jl,Op.equalIn,bD w hu],?_⟩
     rw[A0];simp
  ·rename_i k hu;simp only[lA,hu,aa]at ha h;subst ha;subst h;match xs,ys,hx,hy with
   | [_],[_],⟨⟨x,rfl⟩,_⟩,⟨⟨y,rfl⟩,_⟩=>
     exact⟨x==y,by simp[jl,Op.equalIn,bD w hu],by simp⟩
  ·rename_i fs hu;simp only[lA,hu,aa]at ha;subst ha;split at h
   ·simp at h
   ·rename_i hst;split at h
    ·simp at h
    ·rename_i k hk;split at h<;>simp only[aa,reduceCtorEq]at h
     subst h;have hlx:=hx.length;have hly:=hy.length;obtain⟨b,hb,hbi⟩:=tA f d ih xs ys (by omega) w fs.toList 0 k hk (by omega) (by simpa using hx) (by simpa using hy)
     have hff:P.fieldsOf t=fs:=by simp[Program.fieldsOf,hu]
     refine⟨b,?_,by simpa using hbi⟩
     rw[<-hb];have:=run_equalIn_struct (P:=P) w d t xs.toArray ys.toArray (by rw[hu,hff]) (by simpa using hst)
     rw[hff]at this;simpa[jl]using this
  ·rename_i n e hu;simp only[lA,hu,aa]at ha;subst ha;split at h
   ·simp at h
   ·rename_i k hk;split at h<;>simp only[aa,reduceCtorEq]at h
    rename_i hs;simp only[af,ai]at hs;subst h;have hlx:=hx.length;have hly:=hy.length;rw[wF]at hlx hly;obtain⟨a,ha⟩:=rD hk;obtain⟨b,hb,hbi⟩:=Bf f d ih hk ha xs ys (by omega) w n 0 (by omega) (by simpa using hx) (by simpa using hy)
    refine⟨b,?_,by simpa using hbi⟩
    rw[<-hb];simpa[jl]using run_equalIn_array (P:=P) d t n e k.length xs.toArray ys.toArray w hu hs.1
  ·simp at h
end
open Go.RowKit (Below)
structure Ctx where
 P:Program
 Z:Nat->Option V
 Γ:Nat->Option (List aQ->Nat->List V->Option (Option Prop×V×List aQ))
 D:Nat->Option (Nat×Nat):=fun _=>none
theorem kM{k:IntKind}{n:Int}(h:ck k n):k.wrap n=n:=by
 cases k<;>simp only[ck]at h<;>simp[IntKind.wrap,IntKind.bits,IntKind.signed]<;>omega
theorem tC(k:IntKind)(n:Int):ck k (k.wrap n):=by
 cases k<;>simp[IntKind.wrap,IntKind.bits,IntKind.signed,ck]<;>omega
def toInt:V->Option (IntKind×Int)
 | .ci k n=>some (k,n)
 | .it k n=>some (k,n)
 | .bt b=>some (.u8,QZ b)
 |_=>none
def vq:V->Bool
 | .ci _ _=>true
 |_=>false
theorem cS{J:Env}{K:Nat->Prop}{v:V}{k:IntKind}{n:Int}(h:toInt v=some (k,n))(hv:ok K v):den J v= .int k n/\ck k n:=by
 cases v<;>simp[toInt]at h
 ·obtain⟨rfl,rfl⟩:=h;exact⟨rfl,hv⟩
 ·obtain⟨rfl,rfl⟩:=h;exact⟨rfl,hv⟩
 ·obtain⟨rfl,rfl⟩:=h;rename_i b;have:=b.toNat_lt;exact⟨rfl,by simp only[ck,QZ];omega⟩
def toBool:V->Option Bool
 | .cb b=>some b
 | .bo b=>some b
 |_=>none
theorem dX{J:Env}{v:V}{b:Bool}(h:toBool v=some b):den J v= .bool b:=by
 cases v<;>simp[toBool]at h<;>subst h<;>rfl
def Tt:V->Bool
 | .cb _=>true
 |_=>false
def U0(c:Bool)(b:Bool):V:=if c then .cb b else .bo b
theorem S5(J:Env)(c:Bool)(b:Bool):den J (U0 c b)= .bool b:=by unfold U0;split<;>rfl
theorem Xe{K:Nat->Prop}{c:Bool}{b:Bool}:ok K (U0 c b):=by unfold U0;split<;>trivial
def RT(op:BinOp)(a b:Int):Option Bool:=
 match op with
 | .lss=>some (ilt a b)
 | .leq=>some (ile a b)
 | .gtr=>some (ilt b a)
 | .geq=>some (ile b a)
 | .eql=>some (CH a b)
 | .neq=>some (Qh (CH a b))
 |_=>none
def bw(op:BinOp)(k:IntKind)(x y:Int):Int:=
 let a:=BitVec.ofInt k.bits x
 let b:=BitVec.ofInt k.bits y
 match op with
 | .and=>k.wrap (a &&& b).toNat
 | .or=>k.wrap (a ||| b).toNat
 | .xor=>k.wrap (a ^^^ b).toNat
 |_=>k.wrap (a &&& ~~~b).toNat
def arith(op:BinOp)(k:IntKind)(a b:Int):Option (Option Prop×Int):=
 match op with
 | .add=>some (some (bg k (Ea a b)),Ea a b)
 | .sub=>some (some (bg k (tQ a b)),tQ a b)
 | .mul=>some (some (bg k (WT a b)),WT a b)
 | .quo=>some (some (Gg b/\bg k (WK a b)),WK a b)
 | .rem=>some (some (Gg b/\bg k (XD a b)),XD a b)
 | .and=>some (none,bw .and k a b)
 | .or=>some (none,bw .or k a b)
 | .xor=>some (none,bw .xor k a b)
 | .andNot=>some (none,bw .andNot k a b)
 |_=>none
def Z3(op:BinOp)(a b:Int):Option Bool:=
 match op with
 | .lss=>some (decide (a<b))
 | .leq=>some (decide (a<=b))
 | .gtr=>some (decide (b<a))
 | .geq=>some (decide (b<=a))
 | .eql=>some (decide (a=b))
 | .neq=>some (!decide (a=b))
 |_=>none
def Fg(op:BinOp)(a b:Int):Option Int:=
 match op with
 | .add=>some (a+b)
 | .sub=>some (a-b)
 | .mul=>some (a*b)
 |_=>none
theorem Sz(op:BinOp)(a b:Int):Z3 op a b=RT op a b:=by cases op<;>rfl
section
variable {P:Program}
theorem E5{op:BinOp}{k:IntKind}{a b n:Int}(t:Nat)(w:World)(h:Fg op a b=some n)(hp:ck k n):
  (binOp op t (.int k a) (.int k b)).run P w= .ok (.int k n) w:=by
 cases op<;>simp only[Fg,aa,reduceCtorEq]at h<;>subst h<;>simp[binOp,Op.intArith,kM hp]
theorem GK{op:BinOp}{k:IntKind}{a b:Int}{r:Bool}(t:Nat)(w:World)(h:RT op a b=some r):(binOp op t (.int k a) (.int k b)).run P w= .ok (.bool r) w:=by
 cases op<;>simp only[RT,aa,reduceCtorEq]at h<;>subst h<;>simp[binOp,Op.intCmp,ilt,ile,CH,Qh]<;>rw[Bool.eq_iff_iff]<;>simp
theorem IG{op:BinOp}{k:IntKind}{a b n:Int}{p:Option Prop}(t:Nat)(w:World)(h:arith op k a b=some (p,n))(hp:cK p):
  (binOp op t (.int k a) (.int k b)).run P w= .ok (.int k n) w/\ck k n:=by
 cases op<;>simp only[arith,aa,ae,reduceCtorEq]at h<;>obtain⟨rfl,rfl⟩:=h
 ·exact⟨by simp[binOp,Op.intArith,Ea,kM (show ck k (a+b)from hp)],hp⟩
 ·exact⟨by simp[binOp,Op.intArith,tQ,kM (show ck k (a-b)from hp)],hp⟩
 ·exact⟨by simp[binOp,Op.intArith,WT,kM (show ck k (a*b)from hp)],hp⟩
 ·exact⟨by simp[binOp,Op.intDiv,WK,kM (show ck k (a.tdiv b)from hp.2),show b≠0 from hp.1],hp.2⟩
 ·exact⟨by simp[binOp,Op.intDiv,XD,show b≠0 from hp.1],hp.2⟩
 ·exact⟨by simp[binOp,Op.intBits,bw],tC _ _⟩
 ·exact⟨by simp[binOp,Op.intBits,bw],tC _ _⟩
 ·exact⟨by simp[binOp,Op.intBits,bw],tC _ _⟩
 ·exact⟨by simp[binOp,Op.intBits,bw],tC _ _⟩
end
def Rb:List Kd:=List.replicate 6 (.i .i64)
def Yd:List Kd:=List.replicate 96 (.i .i64)
def X8:List Kd:=List.replicate 64 (.i .u8)
def Qm:List Kd:=List.replicate 99 (.i .i64)++List.replicate 64 (.i .u8)
theorem xk(k:Kd):∀(l:List Value),(∀v∈l,k.of v)->mh (List.replicate l.length k) l
 | [],_=>trivial
 |v::l,h=>⟨h v (by simp),xk k l fun u hu=>h u (by simp[hu])⟩
theorem wP(k:Key):mh Rb (c8 k):=by
 refine xk (.i .i64) (c8 k) fun v hv=>?_
 simp only[c8,List.mem_cons,List.not_mem_nil,or_false,i64]at hv;rcases hv with rfl|rfl|rfl|rfl|rfl|rfl<;>exact⟨_,rfl⟩
theorem yO(s:cC):mh Yd (fM s):=by
 have:=xk (.i .i64) (fM s) fun v hv=>by
  simp only[fM,List.mem_flatMap,c8,List.mem_cons,List.not_mem_nil,or_false,i64]at hv;obtain⟨i,_,hx⟩:=hv;rcases hx with rfl|rfl|rfl|rfl|rfl|rfl<;>exact⟨_,rfl⟩
 rwa [ia]at this
theorem xH(s:Bytes):mh X8 (cQ s):=by
 have:=xk (.i .u8) (cQ s) fun v hv=>by
  simp only[cQ,List.mem_map]at hv;obtain⟨i,_,rfl⟩:=hv;exact⟨_,rfl⟩
 rwa [eZ]at this
theorem BW(o:Obj):mh Qm (eg o):=by
 have h1:mh (List.replicate 3 (.i .i64)) [i64 o.kind,i64 o.count,i64 o.calls]:=⟨⟨_,rfl⟩,⟨_,rfl⟩,⟨_,rfl⟩,trivial⟩;have h2:=mh.join h1 (mh.join (yO o.slots) (xH o.bytes));have e:Qm=List.replicate 3 (.i .i64)++(Yd++X8):=rfl;rw[e];simpa[eg]using h2
theorem pN{a b:Key}:c8 a=c8 b↔a=b:=by
 refine⟨fun h=>?_,fun h=>by rw[h]⟩
 simp only[c8,i64,List.cons.injEq,Value.int.injEq,true_and,and_true]at h;cases a;cases b;simp_all
theorem rm{a b:cC}:fM a=fM b↔a=b:=by
 refine⟨fun h=>?_,fun h=>by rw[h]⟩
 have key:∀i,i<16->a.at i=b.at i:=fun i hi=>by
  obtain⟨p,q,e1,e2,_⟩:=nb a i hi;obtain⟨p',q',e1',e2',_⟩:=nb b i hi;rw[e1,e1']at h;exact pN.1 (kR h (by omega) rfl).2.1
 ext i hi
 have:=key i hi;simp only[cC.at,Array.getD_eq_getD_getElem?,Vector.getElem?_toArray,Vector.getElem?_eq_getElem hi,Option.getD_some]at this;all_goals(first| (rw[this])| (simp[this]))
theorem qA{a b:Bytes}:cQ a=cQ b↔a=b:=by
 refine⟨fun h=>?_,fun h=>by rw[h]⟩
 have key:∀i,i<64->a.at i=b.at i:=fun i hi=>by
  obtain⟨p,q,e1,e2,_⟩:=mR a i hi;obtain⟨p',q',e1',e2',_⟩:=mR b i hi;rw[e1,e1']at h;have:=(kR h (by omega) rfl).2.1
  simp only[List.cons.injEq,Value.int.injEq,true_and,and_true]at this;exact UInt8.toNat_inj.1 (by omega)
 ext i hi
 have:=key i hi;simp only[Bytes.at,Array.getD_eq_getD_getElem?,Vector.getElem?_toArray,Vector.getElem?_eq_getElem hi,Option.getD_some]at this;rw[this]
theorem wy{a b:Obj}:eg a=eg b↔a=b:=by
 refine⟨fun h=>?_,fun h=>by rw[h]⟩
 simp only[eg,i64,List.cons.injEq,Value.int.injEq,true_and]at h;obtain⟨h1,h2,h3,h4⟩:=h;obtain⟨h5,h6⟩:=List.append_inj h4 (by rw[ia,ia])
 cases a;cases b;simp_all[rm,qA]
def pG(P:Program)(t:Nat):Bool:= !(P.eqGuardType P.depth t)
mutual
def kdS:V->Option (List Kd)
 | .cb _| .bo _=>some [.b]
 | .ci k _| .it k _=>some [.i k]
 | .st _=>some [.s]
 | .key _=>some Rb
 | .sl _=>some Yd
 | .by _=>some X8
 | .ob _=>some Qm
 | .ag l=>Og l
 |_=>none
def Og:List V->Option (List Kd)
 | []=>some []
 |x::l=>match kdS x with
  |some a=>match Og l with
   |some b=>some (a++b)
   |none=>none
  |none=>none
end
mutual
def eqS:V->V->Option Bool
 | .ag l,.ag m=>CI l m
 | .key a,.key b=>some (ER a b)
 | .sl a,.sl b=>some (Dv a b)
 | .by a,.by b=>some (CO a b)
 | .ob a,.ob b=>some (Cv a b)
 | .st a,.st b=>some (Di a b)
 |x,y=>match toBool x,toBool y with
  |some a,some b=>some (FD a b)
  |_,_=>match x with
   | .bt _=>none
   |_=>match y with
    | .bt _=>none
    |_=>match toInt x,toInt y with
     |some (k,a),some (k',b)=>if k==k' then some (CH a b)else none
     |_,_=>none
def CI:List V->List V->Option Bool
 | [],[]=>some true
 |x::l,y::m=>match eqS x y with
  |some a=>match CI l m with
   |some b=>some (UO a b)
   |none=>none
  |none=>none
 |_,_=>none
end
theorem Sd{ks:List Kd}:∀{a b c d:List Value},mh ks a->mh ks b->(a++c=b++d↔a=b/\c=d):=fun ha hb=>
 ⟨fun h=>List.append_inj h (by rw[ha.length,hb.length]),fun h=>by rw[h.1,h.2]⟩
mutual
theorem MJ(J:Env):∀(x y:V) (b:Bool),eqS x y=some b->∃ks,kdS x=some ks/\mh ks (cells J x)/\mh ks (cells J y)/\(b=true↔cells J x=cells J y)
 |x,y,b,h=>by
  unfold eqS at h;split at h
  ·rename_i l m;obtain⟨ks,h1,h2,h3,h4⟩:=vf J l m b h;refine⟨ks,by rw[kdS];exact h1,?_⟩
   simp only[cells,den];exact⟨by simpa[Value.cells]using h2,by simpa[Value.cells]using h3,by simpa[Value.cells]using h4⟩
  ·rename_i u v;simp only[aa]at h;subst h;exact⟨Rb,rfl,wP u,wP v,by show ER u v=true↔c8 u=c8 v;rw[pN];simp[ER]⟩
  ·rename_i u v;simp only[aa]at h;subst h;exact⟨Yd,rfl,yO u,yO v,by show Dv u v=true↔fM u=fM v;rw[rm];simp[Dv]⟩
  ·rename_i u v;simp only[aa]at h;subst h;exact⟨X8,rfl,xH u,xH v,by show CO u v=true↔cQ u=cQ v;rw[qA];simp[CO]⟩
  ·rename_i u v;simp only[aa]at h;subst h;exact⟨Qm,rfl,BW u,BW v,by show Cv u v=true↔eg u=eg v;rw[wy];simp[Cv]⟩
  ·rename_i u v;simp only[aa]at h;subst h;exact⟨[.s],rfl,⟨⟨_,rfl⟩,trivial⟩,⟨⟨_,rfl⟩,trivial⟩,by show Di u v=true↔ [Value.string u]= [Value.string v];simp[Di]⟩
  ·split at h
   ·rename_i u v hu hv;simp only[aa]at h;subst h;refine⟨[.b],?_,?_,?_,?_⟩
    ·cases x<;>simp[toBool]at hu<;>rfl
    ·rw[cells,dX hu];exact⟨⟨_,rfl⟩,trivial⟩
    ·rw[cells,dX hv];exact⟨⟨_,rfl⟩,trivial⟩
    ·rw[cells,cells,dX hu,dX hv];show FD u v=true↔ [Value.bool u]= [Value.bool v]
     simp[FD]
   ·split at h
    ·simp at h
    ·rename_i hx;split at h
     ·simp at h
     ·rename_i hy;split at h
      ·rename_i k u k' v hu hv;split at h<;>simp only[aa,reduceCtorEq]at h
       rename_i hk;have hk:=ai.1 hk;subst hk;subst h
       have e1:den J x= .int k u:=by
        cases x<;>simp[toInt]at hu
        ·obtain⟨rfl,rfl⟩:=hu;rfl
        ·obtain⟨rfl,rfl⟩:=hu;rfl
        ·exact absurd rfl (hx _)
       have e2:den J y= .int k v:=by
        cases y<;>simp[toInt]at hv
        ·obtain⟨rfl,rfl⟩:=hv;rfl
        ·obtain⟨rfl,rfl⟩:=hv;rfl
        ·exact absurd rfl (hy _)
       refine⟨[.i k],?_,?_,?_,?_⟩
       ·cases x<;>simp[toInt]at hu
        ·obtain⟨rfl,rfl⟩:=hu;rfl
        ·obtain⟨rfl,rfl⟩:=hu;rfl
        ·exact absurd rfl (hx _)
       ·rw[cells,e1];exact⟨⟨_,rfl⟩,trivial⟩
       ·rw[cells,e2];exact⟨⟨_,rfl⟩,trivial⟩
       ·rw[cells,cells,e1,e2];show CH u v=true↔ [Value.int k u]= [Value.int k v]
        simp[CH]
      ·simp at h
theorem vf(J:Env):∀(l m:List V) (b:Bool),CI l m=some b->∃ks,Og l=some ks/\mh ks (bp J l)/\mh ks (bp J m)/\(b=true↔bp J l=bp J m)
 | [],[],b,h=>by
   simp only[CI,aa]at h;subst h;exact⟨[],rfl,trivial,trivial,by simp[bp]⟩
 |x::l,y::m,b,h=>by
  simp only[CI]at h;split at h
  case h_2=>simp at h
  rename_i a ha;split at h<;>simp only[aa,reduceCtorEq]at h
  rename_i c hc;subst h;obtain⟨k1,h1,h2,h3,h4⟩:=MJ J x y a ha;obtain⟨k2,i1,i2,i3,i4⟩:=vf J l m c hc;refine⟨k1++k2,by simp only[Og,h1,i1],?_,?_,?_⟩
  ·simp only[bp];exact mh.join h2 i2
  ·simp only[bp];exact mh.join h3 i3
  ·grind[bp,Sd,cells,UO]
 | [],_::_,_,h=>by simp[CI]at h
 |_::_,[],_,h=>by simp[CI]at h
end
def XP(P:Program)(t:Nat):V->V->Option V
 | .key a,.key b=>if pG P t&&flatK P 8 t==some Rb then some (.bo (ER a b))else none
 | .sl a,.sl b=>if pG P t&&flatK P 8 t==some Yd then some (.bo (Dv a b))else none
 | .by a,.by b=>if pG P t&&flatK P 8 t==some X8 then some (.bo (CO a b))else none
 | .ob a,.ob b=>if pG P t&&flatK P 8 t==some Qm then some (.bo (Cv a b))else none
 | .st a,.st b=>some (.bo (Di a b))
 | .ag l,.ag m=>match Og l with
   |some ks=>if pG P t&&flatK P 8 t==some ks&&Nat.ble 2 ks.length then match CI l m with
    |some b=>some (.bo b)
    |none=>none
    else none
   |none=>none
 | .nl (.pointer none),.nl (.pointer none)=>match P.underlying t with
   |some (.pointer _)=>some (.cb true)
   |_=>none
 | .lp _ _,.nl (.pointer none)=>match P.underlying t with
   |some (.pointer _)=>some (.cb false)
   |_=>none
 | .fn _ _,.nl .nilFunc=>match P.underlying t with
   |some (.func _ _ _)=>some (.cb false)
   |_=>none
 | .nl .nilFunc,.nl .nilFunc=>match P.underlying t with
   |some (.func _ _ _)=>some (.cb true)
   |_=>none
 |x,y=>match toBool x,toBool y with
  |some a,some b=>match P.underlying t with
   |some .bool=>some (U0 (Tt x&&Tt y) (FD a b))
   |_=>none
  |_,_=>none
section
variable {P:Program}
theorem ny{t:Nat}{ks:List Kd}{xs ys:List Value}(w:World)(o1 o2:Operand)(hk:flatK P 8 t=some ks)(hg:pG P t=true)(ha:lA P t=some true)(hx:mh ks xs)(hy:mh ks ys):
  ∃b,(do eqGuard .eql t o1 o2 (.agg xs.toArray) (.agg ys.toArray);binOp .eql t (.agg xs.toArray) (.agg ys.toArray)).run P w= .ok (.bool b) w/\
   (do eqGuard .neq t o1 o2 (.agg xs.toArray) (.agg ys.toArray);binOp .neq t (.agg xs.toArray) (.agg ys.toArray)).run P w= .ok (.bool !b) w/\(b=true↔xs=ys):=by
 obtain⟨b,hb,hbi⟩:=qN (P:=P) 8 10000 (by omega) t ks true xs ys hk ha hx hy w
 have hg':P.eqGuardType P.depth t=false:=by simpa[pG]using hg
 simp only[jl,if_true]at hb;refine⟨b,?_,?_,hbi⟩
 ·simp only[Sem.run_bind,run_eqGuard_agg w .eql t o1 o2 _ _ hg',Result.andThen_ok,run_eql_struct,hb]
 ·simp only[Sem.run_bind,run_eqGuard_agg w .neq t o1 o2 _ _ hg',Result.andThen_ok,run_neq_struct,hb]
theorem k9{t:Nat}{ks:List Kd}(hk:flatK P 8 t=some ks)(h:2<=ks.length):lA P t=some true:=by
 obtain⟨a,ha⟩:=rD hk;cases a with
 |true=>exact ha
 |false=>have:=(sF hk ha).2 rfl;omega
def sY(P:Program)(t:Nat)(x y:Value)(b:Bool):Prop:=
 ∀w o1 o2,(do eqGuard .eql t o1 o2 x y;binOp .eql t x y).run P w= .ok (.bool b) w/\(do eqGuard .neq t o1 o2 x y;binOp .neq t x y).run P w= .ok (.bool !b) w
theorem rY{t:Nat}{x y:Value}{b:Bool}(h1:binOp .eql t x y=(do pure (.bool (<-Op.equal t x y))))(h2:binOp .neq t x y=(do pure (.bool (!(<-Op.equal t x y)))))
  (hg:∀op w o1 o2,(eqGuard op t o1 o2 x y).run P w= .ok () w) (he:∀d w,(Op.equalIn (d+1) t x y).run P w= .ok b w):sY P t x y b:=by
 intro w o1 o2;have he':(Op.equal t x y).run P w= .ok b w:=he 9999 w;constructor
 ·simp_all
 ·simp_all
theorem D1{t:Nat}(a b:Bool)(hu:P.underlying t=some .bool):sY P t (.bool a) (.bool b) (FD a b):=
 rY rfl rfl (fun op w o1 o2=>by cases op<;>simp[eqGuard]) (fun d w=>by simp[Op.equalIn,bD w hu,FD])
theorem sG{t e:Nat}(b:Option Addr)(hu:P.underlying t=some (.pointer e)):sY P t (.pointer b) (.pointer none) b.isNone:=
 rY rfl rfl (fun op w o1 o2=>by cases op<;>simp[eqGuard]) (fun d w=>by cases b<;>simp[Op.equalIn,bD w hu])
theorem yv{t:Nat}{p r:Array Nat}{v:Bool}(hu:P.underlying t=some (.func p r v)):sY P t .nilFunc .nilFunc true:=
 rY rfl rfl (fun op w o1 o2=>by cases op<;>simp[eqGuard]) (fun d w=>by simp[Op.equalIn,bD w hu])
theorem EL{t:Nat}{p r:Array Nat}{v:Bool}(f:Fn)(a c:Array Value)(hu:P.underlying t=some (.func p r v)):sY P t (.func f a c) .nilFunc false:=
 rY rfl rfl (fun op w o1 o2=>by cases op<;>simp[eqGuard]) (fun d w=>by simp[Op.equalIn,bD w hu])
theorem zq{t:Nat}(a b:ByteArray):sY P t (.string a) (.string b) (Di a b):=by
 intro w o1 o2;unfold Di;rw[<-A0,beq_toListBytes];constructor<;>simp[eqGuard,binOp,Op.stringOp]
theorem xz{J:Env}{t:Nat}{x y r:V}(h:XP P t x y=some r):∃b,toBool r=some b/\sY P t (den J x) (den J y) b:=by
 unfold XP at h;split at h
 ·rename_i u v;split at h<;>simp only[aa,reduceCtorEq]at h
  rename_i hc;subst h;simp only[af,ai]at hc;refine⟨_,rfl,fun w o1 o2=>?_⟩
  obtain⟨b,h1,h2,h3⟩:=ny w o1 o2 hc.2 hc.1 (k9 hc.2 (by decide)) (wP u) (wP v)
  rw[pN]at h3;have:b=ER u v:=Bool.eq_iff_iff.2 (by rw[h3];simp[ER])
  subst this;exact⟨h1,h2⟩
 ·rename_i u v;split at h<;>simp only[aa,reduceCtorEq]at h
  rename_i hc;subst h;simp only[af,ai]at hc;refine⟨_,rfl,fun w o1 o2=>?_⟩
  obtain⟨b,h1,h2,h3⟩:=ny w o1 o2 hc.2 hc.1 (k9 hc.2 (by simp[Yd])) (yO u) (yO v)
  rw[rm]at h3;have:b=Dv u v:=Bool.eq_iff_iff.2 (by rw[h3];simp[Dv])
  subst this;exact⟨h1,h2⟩
 ·rename_i u v;split at h<;>simp only[aa,reduceCtorEq]at h
  rename_i hc;subst h;simp only[af,ai]at hc;refine⟨_,rfl,fun w o1 o2=>?_⟩
  obtain⟨b,h1,h2,h3⟩:=ny w o1 o2 hc.2 hc.1 (k9 hc.2 (by simp[X8])) (xH u) (xH v)
  rw[qA]at h3;have:b=CO u v:=Bool.eq_iff_iff.2 (by rw[h3];simp[CO])
  subst this;exact⟨h1,h2⟩
 ·rename_i u v;split at h<;>simp only[aa,reduceCtorEq]at h
  rename_i hc;subst h;simp only[af,ai]at hc;refine⟨_,rfl,fun w o1 o2=>?_⟩
  obtain⟨b,h1,h2,h3⟩:=ny w o1 o2 hc.2 hc.1 (k9 hc.2 (by simp[Qm])) (BW u) (BW v)
  rw[wy]at h3;have:b=Cv u v:=Bool.eq_iff_iff.2 (by rw[h3];simp[Cv])
  subst this;exact⟨h1,h2⟩
 ·rename_i a b;simp only[aa]at h;subst h;exact⟨_,rfl,zq _ _⟩
 ·rename_i l m;split at h
  case h_2=>simp at h
  rename_i ks hks;split at h
  case isFalse=>simp at h
  rename_i hc;simp only[af,ai]at hc;split at h<;>simp only[aa,reduceCtorEq]at h
  rename_i b hb;subst h;obtain⟨ks',g1,g2,g3,g4⟩:=vf J l m b hb;rw[hks]at g1;simp only[aa]at g1;subst g1;refine⟨_,rfl,fun w o1 o2=>?_⟩
  obtain⟨b',h1,h2,h3⟩:=ny w o1 o2 hc.1.2 hc.1.1 (k9 hc.1.2 (Nat.le_of_ble_eq_true hc.2)) g2 g3;have:b'=b:=Bool.eq_iff_iff.2 (by rw[h3,g4])
  subst this;exact⟨h1,h2⟩
 ·split at h<;>simp only[aa,reduceCtorEq]at h
  rename_i hu;subst h;exact⟨_,rfl,sG none hu⟩
 ·split at h<;>simp only[aa,reduceCtorEq]at h
  rename_i hu;subst h;exact⟨_,rfl,sG (some _) hu⟩
 ·split at h<;>simp only[aa,reduceCtorEq]at h
  rename_i hu;subst h;exact⟨_,rfl,by simp only[den];unfold EP;split<;>exact EL _ _ _ hu⟩
 ·split at h<;>simp only[aa,reduceCtorEq]at h
  rename_i hu;subst h;exact⟨_,rfl,yv hu⟩
 ·split at h
  ·rename_i a b ha hb;split at h<;>simp only[aa,reduceCtorEq]at h
   rename_i hu;subst h;refine⟨FD a b,by unfold U0;split<;>rfl,?_⟩
   rw[dX ha,dX hb];exact D1 _ _ hu
  ·simp at h
theorem Xz{t:Nat}{x y r:V}{K:Nat->Prop}(h:XP P t x y=some r):ok K r/\cz r=false:=by
 obtain⟨b,hb,_⟩:=xz (J:=Env.zero) h;cases r<;>simp[toBool]at hb<;>exact⟨trivial,rfl⟩
end
def RG(P:Program)(op:BinOp)(t:Nat)(x y:V):Option (Option Prop×V):=
 match toInt x,toInt y with
 |some (k,a),some (k',b)=>
  if k==k' then
   if vq x&&vq y then
    match Z3 op a b with
    |some r=>some (none,.cb r)
    |none=>match Fg op a b with
     |some n=>if ck k n then some (none,.ci k n)else none
     |none=>none
   else match RT op a b with
   |some r=>some (none,.bo r)
   |none=>match arith op k a b with
    |some (p,n)=>some (p,.it k n)
    |none=>none
  else none
 |_,_=>match op with
  | .eql=>(XP P t x y).map fun r=>(none,r)
  | .neq=>match XP P t x y with
    |some r=>match toBool r with
     |some b=>some (none,U0 (Tt r) (Qh b))
     |none=>none
    |none=>none
  |_=>none
theorem Jg{P:Program}{J:Env}{K:Nat->Prop}{op:BinOp}{t:Nat}{x y r:V}{p:Option Prop}(w:World)(o1 o2:Operand)(h:RG P op t x y=some (p,r))(hp:cK p)(hx:ok K x)(hy:ok K y):
  (do eqGuard op t o1 o2 (den J x) (den J y);binOp op t (den J x) (den J y)).run P w= .ok (den J r) w/\ok K r:=by
 unfold RG at h;split at h
 ·rename_i k a k' b ha hb;obtain⟨e1,r1⟩:=cS (J:=J) ha hx;obtain⟨e2,r2⟩:=cS (J:=J) hb hy;split at h
  ·rename_i hk;have hk:=ai.1 hk;subst hk;have hgd:∀w,(eqGuard op t o1 o2 (.int k a) (.int k b)).run P w= .ok () w:=fun w=>by cases op<;>simp[eqGuard]
   rw[e1,e2];split at h
   ·split at h
    ·rename_i r hr;simp only[aa,ae]at h;obtain⟨_,rfl⟩:=h;rw[Sz]at hr;exact⟨by rw[Sem.run_bind,hgd,Result.andThen_ok,GK t w hr];rfl,trivial⟩
    ·split at h
     ·rename_i n hn;split at h<;>simp only[aa,ae,reduceCtorEq]at h
      rename_i hin;obtain⟨_,rfl⟩:=h;exact⟨by rw[Sem.run_bind,hgd,Result.andThen_ok,E5 t w hn hin];rfl,hin⟩
     ·simp at h
   ·split at h
    ·rename_i r hr;simp only[aa,ae]at h;obtain⟨_,rfl⟩:=h;exact⟨by rw[Sem.run_bind,hgd,Result.andThen_ok,GK t w hr];rfl,trivial⟩
    ·split at h<;>simp only[aa,ae,reduceCtorEq]at h
     rename_i p n hn;obtain⟨rfl,rfl⟩:=h;obtain⟨h1,h2⟩:=IG (P:=P) t w hn hp;exact⟨by rw[Sem.run_bind,hgd,Result.andThen_ok,h1];rfl,h2⟩
  ·simp at h
 ·split at h
  ·cases he:XP P t x y with
   |none=>simp[he]at h
   |some r'=>
    simp only[he,Option.map_some,aa,ae]at h;obtain⟨_,rfl⟩:=h;obtain⟨b,hb,hr⟩:=xz (J:=J) he;rw[dX hb];exact⟨(hr w o1 o2).1,(Xz he).1⟩
  ·cases he:XP P t x y with
   |none=>simp[he]at h
   |some r'=>
    simp only[he]at h;obtain⟨b,hb,hr⟩:=xz (J:=J) he;simp only[hb,aa,ae]at h;obtain⟨_,rfl⟩:=h;rw[S5];exact⟨(hr w o1 o2).2,Xe⟩
  ·simp at h
def allM{α β:Type}(g:α->Option β):List α->Option (List β)
 | []=>some []
 |x::l=>match g x,allM g l with
  |some y,some ys=>some (y::ys)
  |_,_=>none
theorem qz{α β:Type}{g:α->Option β}:∀{l:List α} {r:List β},allM g l=some r->r.length=l.length
 | [],r,h=>by simp only[allM,aa]at h;subst h;rfl
 |x::l,r,h=>by
  simp only[allM]at h;split at h
  ·rename_i y ys _ hys;simp only[aa]at h;subst h;simp[qz hys]
  ·simp at h
theorem oN{α β:Type}{g:α->Option β}:∀{l:List α} {r:List β},allM g l=some r->∀(i:Nat) (x:α),l[i]? =some x->∃y,r[i]? =some y/\g x=some y
 | [],r,h,i,x,hx=>by simp at hx
 |a::l,r,h,i,x,hx=>by
  simp only[allM]at h;split at h
  ·rename_i y ys hy hys;simp only[aa]at h;subst h;cases i with
   |zero=>simp only[List.getElem?_cons_zero,aa]at hx;subst hx;exact⟨y,rfl,hy⟩
   |succ i=>simp only[List.getElem?_cons_succ]at hx⊢;exact oN hys i x hx
  ·simp at h
def asI(k:IntKind):V->Option Int
 | .ci k' n=>if k'==k then some n else none
 | .it k' n=>if k'==k then some n else none
 |_=>none
def Up:V->Option ByteArray
 | .st s=>some s
 |_=>none
def asKey:V->Option Key
 | .key k=>some k
 |_=>none
def VX:V->Option (List V)
 | .ag l=>some l
 |_=>none
def vO(g:List V->Option V)(rows:List (List V)):Nat->Nat->Option (List V)
 |_,0=>some []
 |j,n+1=>match allM (fun m:List V=>m[j]?) rows with
  |none=>none
  |some c=>match g c,vO g rows (j+1) n with
   |some x,some xs=>some (x::xs)
   |_,_=>none
def FT:Nat->List V->Nat->Option V
 |0,_,_=>none
 |f+1,l,i=>match l with
  | []=>none
  |x::_=>match x with
   | .ci k _=>(allM (asI k) l).map fun ns=> .it k (aM ns i 0)
   | .it k _=>(allM (asI k) l).map fun ns=> .it k (aM ns i 0)
   | .cb _=>(allM toBool l).map fun bs=> .bo (aM bs i false)
   | .bo _=>(allM toBool l).map fun bs=> .bo (aM bs i false)
   | .st _=>(allM Up l).map fun bs=> .st (aM bs i ByteArray.empty)
   | .key _=>(allM asKey l).map fun bs=> .key (aM bs i void)
   | .ag m=>match allM VX l with
     |none=>none
     |some rows=>if rows.all fun r=>r.length==m.length then(vO (fun c=>FT f c i) rows 0 m.length).map .ag else none
   |_=>none
def Km(J:Env)(K:Nat->Prop)(r x:V):Prop:=cells J r=cells J x/\ji r=ji x/\ok K r/\cz r=false
theorem Qz{α:Type}{l:List α}{i:Nat}{a d:α}(h:l[i]? =some a):l.getD i d=a:=by simp[an,h]
theorem v7{J:Env}{K:Nat->Prop}{g:List V->Option V}{i:Nat}{rows:List (List V)}{row:List V}(hrow:rows[i]? =some row)
  (hg:∀c r x,g c=some r->c[i]? =some x->(∀y∈c,ok K y/\cz y=false)->Km J K r x) (hok:∀m∈rows,∀y∈m,ok K y/\cz y=false):
  ∀(n j:Nat) (rs:List V),vO g rows j n=some rs->rs.length=n/\(∀k,k<n->∃r x,rs[k]? =some r/\row[j+k]? =some x/\Km J K r x)
 |0,j,rs,h=>by simp only[vO,aa]at h;subst h;exact⟨rfl,fun k hk=>absurd hk (by omega)⟩
 |n+1,j,rs,h=>by
  simp only[vO]at h;split at h
  ·simp at h
  ·rename_i c hc;split at h
   ·rename_i x xs hx hxs;simp only[aa]at h;subst h;obtain⟨h1,h2⟩:=v7 hrow hg hok n (j+1) xs hxs;refine⟨by simp[h1],fun k hk=>?_⟩
    cases k with
    |zero=>
     obtain⟨y,hy1,hy2⟩:=oN hc i row hrow;refine⟨x,y,rfl,hy2,hg c x y hx hy1 fun z hz=>?_⟩
     obtain⟨q,hq⟩:=List.getElem?_of_mem hz
     have hql:q<rows.length:=by
      grind[qz]
     obtain⟨z',hz1,hz2⟩:=oN hc q rows[q] (List.getElem?_eq_getElem hql);rw[hz1]at hq;simp only[aa]at hq;subst hq;exact hok rows[q] (List.getElem_mem hql) _ (List.mem_of_getElem? hz2)
    |succ k=>
     obtain⟨r,y,e1,e2,e3⟩:=h2 k (by omega)
     exact⟨r,y,by simpa using e1,by rw[<-e2];congr 1;omega,e3⟩
   ·simp at h
theorem Eu{J:Env}{K:Nat->Prop}{k:IntKind}{v:V}{n:Int}(h:asI k v=some n):cells J v= [.int k n]/\ji v=false/\(ok K v->ck k n):=by
 cases v<;>simp[asI]at h
 ·obtain⟨rfl,rfl⟩:=h;exact⟨rfl,rfl,id⟩
 ·obtain⟨rfl,rfl⟩:=h;exact⟨rfl,rfl,id⟩
theorem sf{α:Type}{J:Env}{K:Nat->Prop}{g:V->Option α}{mk:α->V}{d:α}{l:List V}{i:Nat}{r x:V}(h:(allM g l).map (fun ns=>mk (aM ns i d))=some r)(hx:l[i]? =some x)
  (H:∀a,g x=some a->Km J K (mk a) x):Km J K r x:=by
 cases hm:allM g l with
 |none=>simp[hm]at h
 |some ns=>
  simp only[hm,Option.map_some,aa]at h;subst h;obtain⟨n,hn1,hn2⟩:=oN hm i x hx;rw[aM,Qz hn1];exact H n hn2
theorem AO{J:Env}{K:Nat->Prop}:∀(a b:List V),a.length=b.length->(∀k,k<a.length->∃r x,a[k]? =some r/\b[k]? =some x/\Km J K r x)->bp J a=bp J b/\fc K a/\qg a
 | [],[],_,_=>⟨rfl,trivial,trivial⟩
 | [],_::_,h,_=>by simp at h
 |_::_,[],h,_=>by simp at h
 |a0::a,b0::b,hb,hh=>by
  obtain⟨r,x,e1,e2,e3⟩:=hh 0 (by simp)
  simp only[List.getElem?_cons_zero,aa]at e1 e2;subst e1;subst e2
  obtain⟨i1,i2,i3⟩:=AO a b (by simpa using hb) fun k hk=>by
   obtain⟨r,x,e1,e2,e3⟩:=hh (k+1) (by simp;omega)
   exact⟨r,x,by simpa using e1,by simpa using e2,e3⟩
  refine⟨?_,⟨e3.2.2.1,i2⟩,(eh _).2 fun z hz=>?_⟩
  ·simp only[bp,i1];rw[show(den J a0).cells.toList=cells J a0 from rfl,e3.1];rfl
  ·rcases List.mem_cons.1 hz with rfl|hz
   ·exact e3.2.2.2
   ·exact(eh _).1 i3 z hz
theorem Av{J:Env}{K:Nat->Prop}{i:Nat}:∀(f:Nat) (l:List V) (r x:V),FT f l i=some r->l[i]? =some x->(∀y∈l,ok K y/\cz y=false)->Km J K r x
 |0,_,_,_,h,_,_=>by simp[FT]at h
 |f+1,[],_,_,h,_,_=>by simp[FT]at h
 |f+1,y::l,r,x,h,hx,hok=>by
  have hxm:ok K x/\cz x=false:=hok x (List.mem_of_getElem? hx);simp only[FT]at h;split at h
  ·exact sf h hx fun a ha=>by
    obtain⟨e1,e2,e3⟩:=Eu (J:=J) (K:=K) ha;exact⟨by rw[e1];rfl,e2.symm,e3 hxm.1,rfl⟩
  ·exact sf h hx fun a ha=>by
    obtain⟨e1,e2,e3⟩:=Eu (J:=J) (K:=K) ha;exact⟨by rw[e1];rfl,e2.symm,e3 hxm.1,rfl⟩
  ·exact sf h hx fun a ha=>⟨by unfold cells;rw[dX ha];rfl,by cases x<;>simp[toBool]at ha<;>rfl,trivial,rfl⟩
  ·exact sf h hx fun a ha=>⟨by unfold cells;rw[dX ha];rfl,by cases x<;>simp[toBool]at ha<;>rfl,trivial,rfl⟩
  ·exact sf h hx fun a ha=>by
    cases x<;>simp[Up]at ha
    subst ha;exact⟨rfl,rfl,trivial,rfl⟩
  ·exact sf h hx fun a ha=>by
    cases x<;>simp[asKey]at ha
    subst ha;exact⟨rfl,rfl,hxm.1,rfl⟩
  ·rename_i m;generalize V.ag m::l=L at h hx hok
   split at h
   ·simp at h
   ·rename_i rows hm;split at h
    ·rename_i hlen;cases hc:vO (fun c=>FT f c i) rows 0 m.length with
     |none=>simp[hc]at h
     |some rs=>
      simp only[hc,Option.map_some,aa]at h;subst h;obtain⟨row,hr1,hr2⟩:=oN hm i x hx;cases x<;>simp[VX]at hr2
      subst hr2;rename_i row
      have hrl:row.length=m.length:=by
       grind
      obtain⟨h1,h2⟩:=v7 (J:=J) (K:=K) hr1 (fun c r x hg hc hok=>Av f c r x hg hc hok) (fun q hq z hz=>by
       obtain⟨p,hp⟩:=List.getElem?_of_mem hq
       have hpl:p<L.length:=by
        grind[qz]
       obtain⟨q',hq1,hq2⟩:=oN hm p _ (List.getElem?_eq_getElem hpl);rw[hq1]at hp;simp only[aa]at hp;subst hp;have hk:=hok _ (List.getElem_mem hpl);generalize L[p]=t at hk hq2
       cases t<;>simp[VX]at hq2
       subst hq2;exact⟨(iH _).1 hk.1.1 z hz,(eh _).1 hk.1.2 z hz⟩) m.length 0 rs hc
      obtain⟨c1,c2,c3⟩:=AO (J:=J) (K:=K) rs row (by omega) fun k hk=>by
       simp_all
      exact⟨by rw[di,di,c1],rfl,⟨c2,c3⟩,rfl⟩
    ·simp at h
  ·simp at h
def Px(v:V)(esz n i inner sz:Nat)(a:Bool):Option V:=
 match v with
 | .ag l=>if l.length==n&&l.all (fun x=>eH x==esz)then
   match FT 4 l i with
   |none=>none
   |some x=>fQ 8 x inner sz a
   else none
 |_=>Wc v esz n i inner sz a
theorem Bl(J:Env){K:Nat->Prop}:∀(l:List V) (esz i:Nat) (x:V),fc K l->(∀y∈l,eH y=esz)->l[i]? =some x->∃p q,bp J l=p++cells J x++q/\p.length=i*esz
 | [],_,_,_,_,_,h=>by simp at h
 |y::l,esz,0,x,hk,hs,h=>by
  simp_all[bp,cells]
 |y::l,esz,i+1,x,hk,hs,h=>by
  simp only[List.getElem?_cons_succ]at h;obtain⟨p,q,h1,h2⟩:=Bl J l esz i x hk.2 (fun z hz=>hs z (by simp[hz])) h
  have hl:=bx J y hk.1;have:=hs y (by simp)
  exact⟨cells J y++p,q,by simp[bp,h1,cells],by simp;rw[Nat.succ_mul];omega⟩
theorem AQ(J:Env){N:Nat->Prop}{v:V}{esz n i inner sz:Nat}{a:Bool}{r:V}(hv:ok N v)(hi:i<n)(h:Px v esz n i inner sz a=some r):
  (∃p q,cells J v=p++cells J r++q/\i*esz+inner=p.length)/\eH r=sz/\ji r=a/\ok N r/\cz r=false:=by
 unfold Px at h;split at h
 ·rename_i l;split at h
  ·rename_i hc;simp only[af,ai,List.all_eq_true]at hc;obtain⟨rfl,hs⟩:=hc;split at h
   ·simp at h
   ·rename_i x hx;have hxl:l[i]? =some l[i]:=List.getElem?_eq_getElem hi;obtain⟨e1,e2,e3,e4⟩:=Av (J:=J) (K:=N) 4 l x _ hx hxl fun y hy=>⟨(iH _).1 hv.1 y hy,(eh _).1 hv.2 y hy⟩
    obtain⟨⟨p,q,h1,h2⟩,h3⟩:=dN J 8 x inner sz a r e3 e4 h;obtain⟨P,Q,f1,f2⟩:=Bl J l esz i _ hv.1 hs hxl;exact⟨⟨P++p,q++Q,by rw[di,f1,<-e1,h1];simp,by simp;omega⟩,h3⟩
  ·simp at h
 ·exact Iu J hv hi h
def AH(c:V)(off esz n i inner sz:Nat)(a:Bool):Option V:=
 match fQ 8 c off (n*esz) true with
 |none=>none
 |some x=>Px x esz n i inner sz a
theorem yD(J:Env){N:Nat->Prop}{c:V}{off esz n i inner sz:Nat}{a:Bool}{r:V}(hc:ok N c)(ht:cz c=false)(hi:i<n)(h:AH c off esz n i inner sz a=some r):
  (∃p q,cells J c=p++cells J r++q/\off+i*esz+inner=p.length)/\eH r=sz/\ji r=a/\ok N r/\cz r=false:=by
 unfold AH at h;cases hx:fQ 8 c off (n*esz) true with
 |none=>simp[hx]at h
 |some x=>
  simp only[hx]at h;obtain⟨⟨p,q,h1,h2⟩,_,_,h5,h6⟩:=dN J _ _ _ _ _ _ hc ht hx;obtain⟨⟨p',q',h1',h2'⟩,h3⟩:=AQ J h5 hi h;exact⟨⟨p++p',q'++q,by rw[h1,h1'];simp,by simp;omega⟩,h3⟩
def Ctx.CG(C:Ctx):Prop:=∀t z,C.Z t=some z->∃i,C.P.info? t=some i/\(∀J,i.zero=some (den J z))/\ok (fun _=>False) z/\cz z=false/\i.size=eH z
theorem fu{K:Nat->Prop}{v:V}(h:ok (fun _=>False) v):ok K v:=cZ (fun _ h=>h.elim) v h
section
variable {C:Ctx} {J:Env} {fps:Nat->Nat->Prop} {res:List aQ} {K:Nat->Prop} {w0 w:World} {F0:Nat->Prop}
def yB(C:Ctx)(res:List aQ)(t:Nat)(p:V):Option (Option Prop×V):=
 match lA C.P t,nP C.P t with
 |some a,some n=>match p with
  | .lp id off=>match cP res id with
    | .blk _ c=>(fQ 8 c off n a).map fun r=>(none,r)
    | .cset _ _ _ sv _ _=>(fQ 8 (.ag [sv]) off n a).map fun r=>(none,r)
    |_=>none
  | .lx id off esz m i inner=>match cP res id with
    | .blk _ c=>(AH c off esz m i inner n a).map fun r=>(none,r)
    |_=>none
  | .ap id esz i off=>match cP res id with
    | .arr _ esz' l=>if esz==esz' then(fQ 8 (l.get i) off n a).map fun r=>(some (PU i l.len),r)else none
    | .obs _ q L=>if esz==1&&off==0&&n==1&&a==false then some (some (PU i (aJ L)),.op q i)else none
    | .que _ n' Q=>if esz==n' then(fQ 8 (.ag (qL Q i 0 n')) off n a).map fun r=>(some (PU i (aJ Q)),r)else none
    |_=>none
  | .ax id esz k off sz m i inner=>match cP res id with
    | .arr _ esz' l=>if esz==esz' then(AH (l.get k) off sz m i inner n a).map fun r=>(some (PU k l.len),r)else none
    |_=>none
  | .op q i=>match cP res q with
    | .gen id=>match cP res id with
      | .obs _ q' L=>if q==q' then(fQ 8 (.ob (aM L i free)) 0 n a).map fun r=>(some (PU i (aJ L)),r)else none
      |_=>none
    |_=>none
  |_=>none
 |_,_=>none
theorem tX{α:Type}{f:Nat->List α}{esz:Nat}:∀{n:Nat},(∀j,j<n->(f j).length=esz)->∀{i k:Nat},i<n->k<esz->((List.range n).flatMap f)[i*esz+k]? =(f i)[k]?
 |0,_,i,k,hi,_=>by omega
 |n+1,h,i,k,hi,hk=>by
  rw[List.range_succ,List.flatMap_append]
  have hlen:((List.range n).flatMap f).length=n*esz:=by
   clear hi hk;induction n with
   |zero=>simp
   |succ n ih=>
    rw[List.range_succ,List.flatMap_append,List.length_append,ih fun j hj=>h j (by omega)]
    simp[h n (by omega),Nat.succ_mul]
  by_cases e:i<n
  ·rw[List.getElem?_append_left (by rw[hlen];have:(i+1)*esz<=n*esz:=Nat.mul_le_mul_right _ e;rw[Nat.succ_mul]at this;omega)]
   exact tX (fun j hj=>h j (by omega)) e hk
  ·have:i=n:=by omega
   subst this;rw[List.getElem?_append_right (by rw[hlen];omega),hlen]
   simp
theorem mF{w:World}{e size n:Nat}{J:Env}{i:Nat}{xs:List Value}(h:w.ownsRow 0 e size (J.sl i) n xs)(hn:0<n):∃g,J.sa i=some ⟨g,0,none⟩/\J.sn i=n/\g<w.heap.size/\∀j,j<n*size->w.cell? ⟨g,j,none⟩=xs[j]? :=by
 have h':=h;rcases h.2 with⟨_,h0⟩|⟨g,cap,cur,h1,h2,h3,h4⟩
 ·omega
 ·have hh:=h1;simp only[Env.sl,Value.slice.injEq]at h1;rw[hh]at h';exact⟨g,h1.1,h1.2.1,(Array.getElem?_eq_some_iff.1 h3).1,fun j hj=>h'.cellAt j hj⟩
theorem lq{id esz:Nat}{own:Option Nat}{l:TL}(h:bn J fps res K w0 F0 w)(hr:cP res id= .arr own esz l){i:Nat}(hi:i<l.len):
  ok (fun _=>False) (l.get i)/\cz (l.get i)=false/\eH (l.get i)=esz/\∀k,k<esz->w.cell? ⟨(J.adr id).block,(J.adr id).off+(i*esz+k),none⟩=(cells J (l.get i))[k]? :=by
 obtain⟨fp,hh,_⟩:=h.look hr (by simp)
 obtain⟨h1,h2,h3,h4,h5,h6,h7⟩:=hh;obtain⟨g1,g2,g3⟩:=h1 i hi;refine⟨g1,g2,g3,fun k hk=>?_⟩
 have hl:=bx J (l.get i) g1;rcases h7 with⟨_,h7,h8⟩|⟨e,_,e2,e3⟩
 ·have e:=h8 i hi k hk
  have hlt:(J.adr id).block<w0.heap.size:=by
   omega
  rw[<-e];exact World.cell?_of_block (w:=w0) (h.same _ hlt (h7 (by omega)).1)
 ·obtain⟨g,f1,f2,f3,f4⟩:=mF e2 (by omega)
  have ha:=h4 _ f1;rw[<-ha];simp only[Nat.zero_add]
  have hlt:i*esz+k<l.len*esz:=by
   have:(i+1)*esz<=l.len*esz:=Nat.mul_le_mul_right _ hi;rw[Nat.succ_mul]at this;omega
  rw[f4 _ hlt];unfold TL.cells;rw[tX (esz:=esz) (fun j hj=>by rw[bx Env.zero _ (h1 j hj).1];exact(h1 j hj).2.2) hi hk]
  rw[dL (N:=fun _=>False) (J:=J) (ρ':=Env.zero) (fun _ h=>h.elim) _ g1]
theorem J1{id ty n:Nat}{Q:List (List Int)}(h:bn J fps res K w0 F0 w)(hr:cP res id= .que ty n Q){i:Nat}(hi:i<Q.length):
  Kn n Q/\∀k,k<n->w.cell? ⟨(J.adr id).block,(J.adr id).off+(i*n+k),none⟩=(cells J (.ag (qL Q i 0 n)))[k]? :=by
 obtain⟨fp,hh,_⟩:=h.look hr (by simp)
 obtain⟨h1,h2,h3,h4,h5,h6,h7⟩:=hh;refine⟨h1,fun k hk=>?_⟩
 rcases h7 with⟨_,h0⟩|⟨g,off,cap,cur,f1,f2,f3,f4,f5,f6⟩
 ·omega
 simp only[Env.sl,Value.slice.injEq]at f1;obtain⟨f1,_,_⟩:=f1;have ha:=(h4 _ f1).1;rw[<-ha]
 have hlt:i*n+k<Q.length*n:=by
  have:(i+1)*n<=Q.length*n:=Nat.mul_le_mul_right _ hi;rw[Nat.succ_mul]at this;omega
 rw[cell_of_row w g _ cur ty (0,0) f2,di,O1 h1 hi,<-Ak h1 hi hk,<-f6,List.getElem?_take_of_lt hlt,List.getElem?_drop,Array.getElem?_toList]
theorem ND{id ty q:Nat}{L:List Obj}(h:bn J fps res K w0 F0 w)(hr:cP res id= .obs ty q L){i:Nat}(hi:i<aJ L):
  w.cell? ⟨(J.adr id).block,(J.adr id).off+i,none⟩=some (.pointer (some ⟨J.ob q i,0,none⟩))/\((L.getD i free).wf/\K q)/\∃t,w.heap[J.ob q i]? =some (.cells (eg (L.getD i free)).toArray t (0,0)):=by
 obtain⟨fp,hh,_⟩:=h.look hr (by simp)
 obtain⟨h0,h1,h2,h3,h4,h5,h6,h7⟩:=hh;have hi:i<L.length:=hi;obtain⟨g,f1,f2,f3,f4⟩:=mF h6 (by omega)
 have ha:=(h4 _ f1).1;refine⟨?_,?_,(h7 i hi).2⟩
 ·grind
 ·simp_all
theorem sR{t:Nat}{p r:V}{q:Option Prop}(h:bn J fps res K w0 F0 w)(hl:yB C res t p=some (q,r))(hq:cK q)(hp:ok K p):
  (Instr.loadAt t (den J p)).run C.P w= .ok (den J r) w/\ok K r/\cz r=false:=by
 unfold yB at hl;split at hl
 ·rename_i a n ha hn
  have run:∀b off,(Instr.loadAt t (.pointer (some ⟨b,off,none⟩))).run C.P w=(loadVar t ⟨b,off,none⟩).run C.P w:=fun b off=>by
   simp[Instr.loadAt,Instr.sureAddr]
  split at hl
  ·rename_i id off;split at hl
   ·rename_i ty c hc;cases hg:fQ 8 c off n a with
    |none=>simp[hg]at hl
    |some r'=>
     simp only[hg,Option.map_some,aa,ae]at hl;obtain⟨_,rfl⟩:=hl;obtain⟨fp,hh,_⟩:=h.look hc (by simp)
     obtain⟨h1,h2,h3,h4⟩:=hh;obtain⟨e1,e2,e3,e4,e5⟩:=dN J 8 c off n a r' h1 h2 hg;refine⟨?_,e4,e5⟩;simp only[den];rw[run];exact om w e4 e5 (by rw[e3];exact ha) (by rw[e2];exact hn) h4 e1
   ·rename_i ty et n' sv D Q hc;cases hg:fQ 8 (.ag [sv]) off n a with
    |none=>simp[hg]at hl
    |some r'=>
     simp only[hg,Option.map_some,aa,ae]at hl;obtain⟨_,rfl⟩:=hl;obtain⟨fp,hh,_⟩:=h.look hc (by simp)
     obtain⟨h1,h2,h3,_,_,_,m,sl,h4,_⟩:=hh;obtain⟨⟨P,P',f1,f2⟩,e2,e3,e4,e5⟩:=dN J 8 (.ag [sv]) off n a r' ⟨⟨h1,trivial⟩,by cases sv<;>first|trivial|simp[cz]at h2,trivial⟩ rfl hg
     refine⟨?_,e4,e5⟩;simp only[den];rw[run];have e:cells J (.ag [sv])=cells J sv:=by rw[di];simp[bp,cells]
     rw[e]at f1;refine h9 w e4 e5 (by rw[e3];exact ha) (by rw[e2];exact hn) fun k hk=>?_
     have hlr:=bx J r' e4;rw[cell_of_row w _ _ _ _ _ h4];simp only[List.getElem?_toArray,f1,f2,List.append_assoc];rw[List.getElem?_append_right (by omega),Nat.add_sub_cancel_left,List.getElem?_append_left (by omega)]
   ·simp at hl
  ·rename_i id off esz m i inner;split at hl
   ·rename_i ty c hc;cases hg:AH c off esz m i inner n a with
    |none=>simp[hg]at hl
    |some r'=>
     simp only[hg,Option.map_some,aa,ae]at hl;obtain⟨_,rfl⟩:=hl;obtain⟨fp,hh,_⟩:=h.look hc (by simp)
     obtain⟨h1,h2,h3,h4⟩:=hh;obtain⟨e1,e2,e3,e4,e5⟩:=yD J h1 h2 hp.2 hg;refine⟨?_,e4,e5⟩;simp only[den];rw[run];exact om w e4 e5 (by rw[e3];exact ha) (by rw[e2];exact hn) h4 e1
   ·simp at hl
  ·rename_i id esz i off;split at hl
   ·rename_i own esz' l hc;split at hl
    ·rename_i he;have he:=ai.1 he;subst he;cases hg:fQ 8 (l.get i) off n a with
     |none=>simp[hg]at hl
     |some r'=>
      simp only[hg,Option.map_some,aa,ae]at hl;obtain⟨rfl,rfl⟩:=hl;obtain⟨g1,g2,g3,g4⟩:=lq h hc hq;obtain⟨⟨P,Q,f1,f2⟩,e2,e3,e4,e5⟩:=dN J 8 (l.get i) off n a r' g1 g2 hg;have hlr:=bx J r' e4;have hlg:=bx J _ g1;refine⟨?_,fu e4,e5⟩;simp only[den];rw[run];refine h9 w e4 e5 (by rw[e3];exact ha) (by rw[e2];exact hn) fun k hk=>?_
      have hk2:off+k<esz:=by
       rw[<-g3,<-hlg,f1];simp;omega
      have:=g4 (off+k) hk2;rw[show(J.adr id).off+(i*esz+off)+k=(J.adr id).off+(i*esz+(off+k)) by omega,this,f1,f2]
      exact iJ P _ Q k (by omega)
    ·simp at hl
   ·rename_i ty q' L hc;split at hl
    ·rename_i hb;simp only[af,ai]at hb;obtain⟨⟨⟨rfl,rfl⟩,rfl⟩,rfl⟩:=hb;simp only[aa,ae]at hl;obtain⟨rfl,rfl⟩:=hl;obtain⟨f1,⟨_,f2⟩,_⟩:=ND h hc hq;refine⟨?_,f2,rfl⟩;simp only[den];rw[run]
     have:=h9 (P:=C.P) (J:=J) (K:=K) (t:=t) (b:=(J.adr id).block) (off:=(J.adr id).off+(i*1+0)) (r:= .op q' i) w f2 rfl ha hn (fun k hk=>by
      have hk:k<1:=hk;rw[show(J.adr id).off+(i*1+0)+k=(J.adr id).off+i by omega,f1,show k=0 by omega]
      simp[cells,den,Value.cells])
     rw[this];simp only[den]
    ·simp at hl
   ·rename_i ty n' Q hc;split at hl
    ·rename_i he;have he:=ai.1 he;subst he;cases hg:fQ 8 (.ag (qL Q i 0 esz)) off n a with
     |none=>simp[hg]at hl
     |some r'=>
      simp only[hg,Option.map_some,aa,ae]at hl;obtain⟨rfl,rfl⟩:=hl;obtain⟨hQ,g4⟩:=J1 h hc hq;obtain⟨o1,o2,o3,o4⟩:=E0 (K:=fun _=>False) hQ i esz 0
      have g1:ok (fun _=>False) (.ag (qL Q i 0 esz)):=⟨o1,o2⟩
      obtain⟨⟨P,P',f1,f2⟩,e2,e3,e4,e5⟩:=dN J 8 (.ag (qL Q i 0 esz)) off n a r' g1 rfl hg;have hlr:=bx J r' e4;have hlg:(cells J (.ag (qL Q i 0 esz))).length=esz:=by rw[di,o4];simp
      refine⟨?_,fu e4,e5⟩;simp only[den];rw[run];refine h9 w e4 e5 (by rw[e3];exact ha) (by rw[e2];exact hn) fun k hk=>?_
      have hk2:off+k<esz:=by
       rw[<-hlg,f1];simp;omega
      have:=g4 (off+k) hk2;rw[show(J.adr id).off+(i*esz+off)+k=(J.adr id).off+(i*esz+(off+k)) by omega,this,f1,f2]
      exact iJ P _ P' k (by omega)
    ·simp at hl
   ·simp at hl
  ·rename_i id esz k off sz m i inner;split at hl
   ·rename_i own esz' l hc;split at hl
    ·rename_i he;have he:=ai.1 he;subst he;cases hg:AH (l.get k) off sz m i inner n a with
     |none=>simp[hg]at hl
     |some r'=>
      simp only[hg,Option.map_some,aa,ae]at hl;obtain⟨rfl,rfl⟩:=hl;obtain⟨g1,g2,g3,g4⟩:=lq h hc hq;obtain⟨⟨P,Q,f1,f2⟩,e2,e3,e4,e5⟩:=yD J g1 g2 hp.2 hg;have hlr:=bx J r' e4;have hlg:=bx J _ g1;refine⟨?_,fu e4,e5⟩;simp only[den];rw[run];refine h9 w e4 e5 (by rw[e3];exact ha) (by rw[e2];exact hn) fun x hx=>?_
      have hk2:off+i*sz+inner+x<esz:=by
       rw[<-g3,<-hlg,f1];simp;omega
      have:=g4 (off+i*sz+inner+x) hk2;rw[show(J.adr id).off+(k*esz+(off+i*sz+inner))+x=(J.adr id).off+(k*esz+(off+i*sz+inner+x)) by omega,this,f1,f2]
      exact iJ P _ Q x (by omega)
    ·simp at hl
   ·simp at hl
  ·rename_i q0 i;split at hl
   ·split at hl
    ·rename_i ty q' L hc;split at hl
     ·rename_i hqq;have hqq:=ai.1 hqq;subst hqq;cases hg:fQ 8 (.ob (aM L i free)) 0 n a with
      |none=>simp[hg]at hl
      |some r'=>
       simp only[hg,Option.map_some,aa,ae]at hl;obtain⟨rfl,rfl⟩:=hl;obtain⟨_,⟨f2,_⟩,t',f3⟩:=ND h hc hq;have hobk:ok (fun _=>False) (.ob (aM L i free)):=f2
       obtain⟨e1,e2,e3,e4,e5⟩:=dN J 8 (.ob (aM L i free)) 0 n a r' hobk rfl hg;refine⟨?_,fu e4,e5⟩;simp only[den];rw[run];exact om (c:= .ob (aM L i free)) w e4 e5 (by rw[e3];exact ha) (by rw[e2];exact hn) (by rw[jk];exact f3) e1
     ·simp at hl
    ·simp at hl
   ·simp at hl
  ·simp at hl
 ·simp at hl
def faV(P:Program)(t:Nat)(p:V)(f:Nat):Option V:=
 match P.underlying t with
 |some (.struct fs)=>match fs[f]? with
  |some fd=>match nP P fd.type with
   |some (_+1)=>match p with
    | .lp id off=>some (.lp id (off+fd.offset))
    | .lx id off esz n i inner=>some (.lx id off esz n i (inner+fd.offset))
    | .ap id esz i off=>some (.ap id esz i (off+fd.offset))
    | .ax id esz k off sz n i inner=>some (.ax id esz k off sz n i (inner+fd.offset))
    |_=>none
   |_=>none
  |none=>none
 |_=>none
theorem NK{P:Program}{t f:Nat}{p r:V}(hl:faV P t p f=some r)(hp:ok K p):
  (Instr.fieldAt t (den J p) f).run P w= .ok (den J r) w/\ok K r/\cz r=false:=by
 unfold faV at hl;split at hl
 ·rename_i fs hu;split at hl
  ·rename_i fd hf;split at hl
   ·rename_i m hs
    have run:∀b off,(Instr.fieldAt t (.pointer (some ⟨b,off,none⟩)) f).run P w= .ok (.pointer (some ⟨b,off+fd.offset,none⟩)) w:=fun b off=>by
     simp[Instr.fieldAt,bD w hu,hf,Instr.sureAddr,fieldPlace,fG w hs,add_lit]
    split at hl<;>simp only[aa,reduceCtorEq]at hl<;>subst hl<;>simp only[den]<;>rw[run]
    ·exact⟨rfl,hp,rfl⟩
    ·exact⟨by simp only[Nat.add_assoc],hp,rfl⟩
    ·exact⟨by simp only[Nat.add_assoc],hp,rfl⟩
    ·exact⟨by simp only[Nat.add_assoc],hp,rfl⟩
   ·simp at hl
  ·simp at hl
 ·simp at hl
def inside(j:Int)(n:Nat):Bool:=decide (0<=j)&&decide (j<(n:Int))
def iaV(P:Program)(res:List aQ)(t:Nat)(p i:V):Option (Option Prop×V):=
 match toInt i with
 |none=>none
 |some (_,j)=>match P.underlying t with
  |some (.array len e)=>match nP P e with
   |none=>none
   |some sz=>match p with
    | .lp id off=>if vq i then(if inside j len then some (none,.lp id (off+j.toNat*sz))else none)
      else some (some (US j len),.lx id off sz len (mI j) 0)
    | .ap id esz k off=>if vq i then(if inside j len then some (none,.ap id esz k (off+j.toNat*sz))else none)
      else some (some (US j len),.ax id esz k off sz len (mI j) 0)
    | .lx id off esz n k inner=>if vq i&&inside j len then some (none,.lx id off esz n k (inner+j.toNat*sz))else none
    |_=>none
  |some (.slice e)=>match nP P e with
   |none=>none
   |some sz=>match p with
    | .sa id=>match cP res id with
      | .arr _ esz l=>if esz==sz then some (some (US j l.len),.ap id esz (mI j) 0)else none
      | .obs _ _ L=>if 1==sz then some (some (US j (aJ L)),.ap id 1 (mI j) 0)else none
      | .que _ n Q=>if n==sz then some (some (US j (aJ Q)),.ap id n (mI j) 0)else none
      |_=>none
    | .sc id len _=>if vq i then(if inside j len then some (none,.lp id (j.toNat*sz))else none)
      else some (some (US j len),.lx id 0 sz len (mI j) 0)
    | .ks x z n lo hi=>match x with
      | .lp id off=>if vq i&&inside j (hi-lo)&&z==sz then some (none,.lp id (off+(lo+j.toNat)*sz))else none
      |_=>none
    |_=>none
  |_=>none
theorem kC{P:Program}{t e len sz b off:Nat}{k:IntKind}{j:Int}(w:World)(hu:P.underlying t=some (.array len e))(hs:nP P e=some sz)(h0:0<=j)(h1:j<(len:Int)):
  (Instr.indexAt t (.pointer (some ⟨b,off,none⟩)) (.int k j)).run P w= .ok (.pointer (some ⟨b,off+j.toNat*sz,none⟩)) w:=by
 simp[Instr.indexAt,asIntOf,bD w hu,Instr.sureAddr,h0,h1,fG w hs,add_lit]
theorem jH{P:Program}{t e len cap sz:Nat}{a:Addr}{k:IntKind}{j:Int}(w:World)(hu:P.underlying t=some (.slice e))(hs:nP P e=some sz)(ha:a.spot=none)(h0:0<=j)(h1:j<(len:Int)):
  (Instr.indexAt t (.slice (some a) len cap) (.int k j)).run P w= .ok (.pointer (some ⟨a.block,a.off+j.toNat*sz,none⟩)) w:=by
 obtain⟨b,o,s⟩:=a;simp only at ha;subst ha;simp[Instr.indexAt,asIntOf,bD w hu,h0,h1,fG w hs,add_lit]
theorem PV{t:Nat}{p i r:V}{q:Option Prop}(h:bn J fps res K w0 F0 w)(hl:iaV C.P res t p i=some (q,r))(hq:cK q)(hp:ok K p)(hi:ok K i):
  (Instr.indexAt t (den J p) (den J i)).run C.P w= .ok (den J r) w/\ok K r/\cz r=false:=by
 unfold iaV at hl;split at hl
 ·simp at hl
 ·rename_i k j hj;rw[(cS (J:=J) hj hi).1];have hin:∀n,inside j n=true->0<=j/\j<(n:Int):=fun n hn=>by simpa[inside]using hn
  split at hl
  ·rename_i len e hu;split at hl
   ·simp at hl
   ·rename_i sz hs;split at hl
    ·split at hl
     ·split at hl<;>simp only[aa,ae,reduceCtorEq]at hl
      rename_i hb;obtain⟨_,rfl⟩:=hl;exact⟨by simp only[den];exact kC w hu hs (hin _ hb).1 (hin _ hb).2,hp,rfl⟩
     ·simp only[aa,ae]at hl;obtain⟨rfl,rfl⟩:=hl;exact⟨by simp only[den,Nat.add_zero];exact kC w hu hs hq.1 hq.2,⟨hp,by have:=hq.1;have:=hq.2;unfold mI;omega⟩,rfl⟩
    ·split at hl
     ·split at hl<;>simp only[aa,ae,reduceCtorEq]at hl
      rename_i hb;obtain⟨_,rfl⟩:=hl;have hb:=hin _ hb;exact⟨by simp only[den];rw[kC w hu hs hb.1 hb.2];simp only[Nat.add_assoc],hp,rfl⟩
     ·simp only[aa,ae]at hl;obtain⟨rfl,rfl⟩:=hl;exact⟨by simp only[den,Nat.add_zero];rw[kC w hu hs hq.1 hq.2];simp only[Nat.add_assoc,mI],⟨hp,by have:=hq.1;have:=hq.2;unfold mI;omega⟩,rfl⟩
    ·split at hl<;>simp only[aa,ae,reduceCtorEq]at hl
     rename_i hb;obtain⟨_,rfl⟩:=hl;have hb:=hin _ (by simp only[af]at hb;exact hb.2)
     exact⟨by simp only[den];rw[kC w hu hs hb.1 hb.2];simp only[Nat.add_assoc],hp,rfl⟩
    ·simp at hl
  ·rename_i e hu;split at hl
   ·simp at hl
   ·rename_i sz hs;split at hl
    ·rename_i id;split at hl
     ·rename_i own esz l hc;split at hl<;>simp only[aa,ae,reduceCtorEq]at hl
      rename_i he;have he:=ai.1 he;obtain⟨rfl,rfl⟩:=hl;subst he;obtain⟨fp,hh,_⟩:=h.look hc (by simp)
      obtain⟨h1,h2,_,h3,h4,h5,h7⟩:=hh;have h5:=h5 (by have:=hq.1;have:=hq.2;omega)
      obtain⟨hq1,hq2⟩:=hq;have hn:=h4 (by omega)
      cases ha:J.sa id with
      |none=>rw[ha]at hn;simp at hn
      |some a=>
       have:=h3 a ha;refine⟨?_,hp,rfl⟩;simp only[den,ha,h2];subst this;rw[jH w hu hs h5 hq1 hq2];simp[mI]
     ·rename_i ty q' L hc;split at hl<;>simp only[aa,ae,reduceCtorEq]at hl
      rename_i he;have he:=ai.1 he;obtain⟨rfl,rfl⟩:=hl;subst he;obtain⟨fp,hh,_⟩:=h.look hc (by simp)
      obtain⟨_,h1,h2,h3,h4,h5,h6,h7⟩:=hh;obtain⟨hq1,hq2⟩:=hq;have hq2:j<(L.length:Int):=hq2;obtain⟨g,f1,f2,f3,f4⟩:=mF h6 (by omega)
      have hadr:=(h4 _ f1).1;refine⟨?_,hp,rfl⟩;simp only[den,f1,h2];rw[jH w hu hs rfl hq1 hq2,<-hadr];simp[mI]
     ·rename_i ty esz l hc;split at hl<;>simp only[aa,ae,reduceCtorEq]at hl
      rename_i he;have he:=ai.1 he;obtain⟨rfl,rfl⟩:=hl;subst he;obtain⟨fp,hh,_⟩:=h.look hc (by simp)
      obtain⟨h1,h2,_,h3,h4,h5⟩:=hh;obtain⟨hq1,hq2⟩:=hq;have hq2:j<(l.length:Int):=hq2;have hn:=h4 (by omega)
      cases ha:J.sa id with
      |none=>rw[ha]at hn;simp at hn
      |some a=>
       obtain⟨e1,e2,_⟩:=h3 a ha;refine⟨?_,hp,rfl⟩;simp only[den,ha,h2];subst e1;rw[jH w hu hs e2 hq1 hq2];simp[mI]
     ·simp at hl
    ·split at hl
     ·split at hl<;>simp only[aa,ae,reduceCtorEq]at hl
      rename_i hb;obtain⟨_,rfl⟩:=hl;refine⟨?_,hp,rfl⟩;simp only[den];rw[jH w hu hs rfl (hin _ hb).1 (hin _ hb).2];simp
     ·simp only[aa,ae]at hl;obtain⟨rfl,rfl⟩:=hl;refine⟨?_,⟨hp,by have:=hq.1;have:=hq.2;unfold mI;omega⟩,rfl⟩
      simp only[den];rw[jH w hu hs rfl hq.1 hq.2];simp[mI]
    ·rename_i p z n lo hi;split at hl
     case h_2=>simp at hl
     rename_i id off;split at hl<;>simp only[aa,ae,reduceCtorEq]at hl
     rename_i hc;simp only[af,ai]at hc;obtain⟨⟨_,hin'⟩,rfl⟩:=hc;obtain⟨_,rfl⟩:=hl;obtain⟨j0,j1⟩:=hin _ hin';obtain⟨hp1,hp2,hp3⟩:=hp;refine⟨?_,hp1,rfl⟩;simp only[den,wa];rw[aq (by omega),add_lit,jH w hu hs rfl j0 j1]
     simp only[Nat.add_mul,Nat.add_assoc]
    ·simp at hl
  ·simp at hl
theorem rf{P:Program}{t off:Nat}{cs:List Value}{r:V}(hr:ok K r)(ht:cz r=false)(ha:lA P t=some (ji r))(hs:nP P t=some (eH r))
  (hp:∃p q,cs=p++cells J r++q/\off=p.length):(part t cs.toArray off).run P w= .ok (den J r) w:=by
 obtain⟨p,q,rfl,rfl⟩:=hp;have hl:=bx J r hr;unfold part;rw[Sem.run_bind,rJ w ha,pz J hr ht];cases hag:Sx.ji r with
 |true=>
  simp only[Result.andThen_ok,if_true,Sem.run_bind,fG w hs,Sem.run_pure,jl];congr 2
  apply Array.ext'
  rw[<-hl];simp[List.extract_eq_take_drop]
 |false=>
  have h1:eH r=1:=by
   grind[nG,cells,dK]
  have hlt:0<(cells J r).length:=by omega
  have:=iJ p (cells J r) q 0 hlt;simp only[Nat.add_zero]at this;simp only[Result.andThen_ok,Bool.false_eq_true,if_false,List.getElem?_toArray,this,List.getElem?_eq_getElem hlt,Sem.run_pure,jl];congr 1
  simp[an,List.getElem?_eq_getElem hlt]
theorem w9{x:V}(hx:ok K x)(ha:ji x=true):den J x= .agg (cells J x).toArray:=by
 have ht:cz x=false:=by cases x<;>simp_all[ji,cz]
 rw[pz J hx ht,ha];rfl
def fdV(P:Program)(t:Nat)(x:V)(f:Nat):Option V:=
 match P.underlying t with
 |some (.struct fs)=>match fs[f]? with
  |some fd=>match lA P fd.type,nP P fd.type with
   |some a,some n=>if ji x then fQ 8 x fd.offset n a else none
   |_,_=>none
  |none=>none
 |_=>none
theorem MS{P:Program}{t f:Nat}{x r:V}(hl:fdV P t x f=some r)(hx:ok K x):
  (Instr.field t (den J x) f).run P w= .ok (den J r) w/\ok K r/\cz r=false:=by
 unfold fdV at hl;split at hl
 ·rename_i fs hu;split at hl
  ·rename_i fd hf;split at hl
   ·rename_i a n ha hn;split at hl
    ·rename_i hag;have ht:cz x=false:=by cases x<;>simp_all[ji,cz]
     obtain⟨e1,e2,e3,e4,e5⟩:=dN J 8 x fd.offset n a r hx ht hl;refine⟨?_,e4,e5⟩;rw[w9 hx hag];simp only[Instr.field,Sem.run_bind,bD w hu,Result.andThen_ok,hf,asAgg,Sem.run_pure];exact rf e4 e5 (by rw[e3];exact ha) (by rw[e2];exact hn) e1
    ·simp at hl
   ·simp at hl
  ·simp at hl
 ·simp at hl
def ixV(P:Program)(t:Nat)(x i:V):Option (Option Prop×V):=
 match toInt i with
 |none=>none
 |some (_,j)=>match P.underlying t with
  |some (.array len e)=>match lA P e,nP P e with
   |some a,some sz=>if ji x then
    if vq i then(if inside j len then(fQ 8 x (j.toNat*sz) sz a).map fun r=>(none,r)else none)
    else(Px x sz len (mI j) 0 sz a).map fun r=>(some (US j len),r)
    else none
   |_,_=>none
  |_=>none
theorem KN{P:Program}{t:Nat}{x i r:V}{q:Option Prop}(hl:ixV P t x i=some (q,r))(hq:cK q)(hx:ok K x)(hi:ok K i):
  (Instr.index t (den J x) (den J i)).run P w= .ok (den J r) w/\ok K r/\cz r=false:=by
 unfold ixV at hl;split at hl
 ·simp at hl
 ·rename_i k j hj;rw[(cS (J:=J) hj hi).1];split at hl
  ·rename_i len e hu;split at hl
   ·rename_i a sz ha hs;split at hl
    ·rename_i hag;have ht:cz x=false:=by cases x<;>simp_all[ji,cz]
     have run:0<=j->j<(len:Int)->(Instr.index t (den J x) (.int k j)).run P w=(part e (cells J x).toArray (j.toNat*sz)).run P w:=fun h0 h1=>by
      rw[w9 hx hag];simp[Instr.index,asIntOf,bD w hu,h0,h1,fG w hs]
     split at hl
     ·split at hl
      ·rename_i hb;have hb:0<=j/\j<(len:Int):=by simpa[inside]using hb
       cases hg:fQ 8 x (j.toNat*sz) sz a with
       |none=>simp[hg]at hl
       |some r'=>
        simp only[hg,Option.map_some,aa,ae]at hl;obtain⟨_,rfl⟩:=hl;obtain⟨e1,e2,e3,e4,e5⟩:=dN J 8 x _ sz a r' hx ht hg;refine⟨?_,e4,e5⟩;rw[run hb.1 hb.2];exact rf e4 e5 (by rw[e3];exact ha) (by rw[e2];exact hs) e1
      ·simp at hl
     ·cases hg:Px x sz len (mI j) 0 sz a with
      |none=>simp[hg]at hl
      |some r'=>
       simp only[hg,Option.map_some,aa,ae]at hl;obtain⟨rfl,rfl⟩:=hl;have h0:=hq.1;have h1:=hq.2;obtain⟨e1,e2,e3,e4,e5⟩:=AQ J hx (by unfold mI;omega) hg
       refine⟨?_,e4,e5⟩;rw[run h0 h1];simp only[Nat.add_zero]at e1;exact rf e4 e5 (by rw[e3];exact ha) (by rw[e2];exact hs) e1
    ·simp at hl
   ·simp at hl
  ·simp at hl
def WM(n:Int):UInt8:=UInt8.ofNat n.toNat
theorem Rk{n:Int}(h:ck .u8 n):((WM n).toNat:Int)=n:=by
 obtain⟨h0,h1⟩:=h;unfold WM;rw[UInt8.toNat_ofNat'];omega
def cvV(P:Program)(s d:Nat)(x:V):Option (Option Prop×V):=
 match P.underlying s,P.underlying d with
 |some _,some (.int k')=>match toInt x with
  |some (k,n)=>if k==k' then some (none,x)else if vq x then(if ck k' n then some (none,.ci k' n)else none)else if k'== .u8 then some (some (bg .u8 n),.bt (WM n))else some (some (bg k' n),.it k' n)
  |none=>none
 |some .string,some .string=>match x with
  | .st b=>some (none,.st b)
  |_=>none
 |_,_=>none
theorem MT{P:Program}{s d:Nat}{x r:V}{q:Option Prop}(hl:cvV P s d x=some (q,r))(hq:cK q)(hx:ok K x):
  (convert s d (den J x)).run P w= .ok (den J r) w/\ok K r/\cz r=false:=by
 unfold cvV at hl;split at hl
 ·rename_i u k' h1 h2;split at hl
  ·rename_i k n hx';obtain⟨e1,e2⟩:=cS (J:=J) hx' hx;split at hl
   ·rename_i hk;have hk:=ai.1 hk;subst hk;simp only[aa,ae]at hl;obtain⟨_,rfl⟩:=hl;refine⟨?_,hx,by cases x<;>first|rfl| (simp[toInt]at hx')⟩
    rw[e1];simp[convert,bD w h1,bD w h2,Conv.intToInt,kM e2]
   ·split at hl
    ·split at hl<;>simp only[aa,ae,reduceCtorEq]at hl
     rename_i hin;obtain⟨_,rfl⟩:=hl;refine⟨?_,hin,rfl⟩;rw[e1];simp[convert,bD w h1,bD w h2,Conv.intToInt,kM hin,den]
    ·split at hl
     ·rename_i hk8;have hk8:=ai.1 hk8;subst hk8;simp only[aa,ae]at hl;obtain⟨rfl,rfl⟩:=hl;refine⟨?_,trivial,rfl⟩;rw[e1];simp[convert,bD w h1,bD w h2,Conv.intToInt,kM (show ck .u8 n from hq),den,Rk (show ck .u8 n from hq)]
     ·simp only[aa,ae]at hl;obtain⟨rfl,rfl⟩:=hl;refine⟨?_,hq,rfl⟩;rw[e1];simp[convert,bD w h1,bD w h2,Conv.intToInt,kM (show ck k' n from hq),den]
  ·simp at hl
 ·rename_i h1 h2;split at hl<;>simp only[aa,ae,reduceCtorEq]at hl
  obtain⟨_,rfl⟩:=hl;refine⟨?_,trivial,rfl⟩;simp[den,convert,bD w h1,bD w h2]
 ·simp at hl
end
theorem vX(off:Nat):∀(l:List Value) (k:Nat) (cur:Array Value),off+k+l.length<=cur.size->
  ((l.zipIdx k).foldl (fun(cs:Array Value) (x:Value×Nat)=>cs.setIfInBounds (off+x.2) x.1) cur).toList=cur.toList.take (off+k)++l++cur.toList.drop (off+k+l.length)
 | [],k,cur,_=>by simp
 |v::l,k,cur,h=>by
  simp only[List.length_cons]at h;simp only[List.zipIdx_cons,List.foldl_cons];rw[vX off l (k+1) _ (by simp;omega)]
  have e:=list_seg_step cur.toList (off+k) v l (by simp;omega)
  simpa[Array.toList_setIfInBounds,Nat.add_assoc,Nat.add_comm 1]using e
def nw(place:Nat->Option (Nat×Nat)):V->List (Nat×V)->Option V
 |z,[]=>some z
 |z,(i,y)::l=>match place i with
  |none=>none
  |some (off,size)=>if eH y==size&& !cz y then
   match setAt 8 z off y with
   |none=>none
   |some z'=>nw place z' l
   else none
theorem lF{J:Env}{K:Nat->Prop}(place:Nat->Option (Nat×Nat)):∀(l:List (Nat×V)) (z r:V),nw place z l=some r->ok K z->cz z=false->(∀p∈l,ok K p.2)->
  Instr.fill place (cells J z).toArray (l.map fun p=>(p.1,den J p.2))=some (cells J r).toArray/\ok K r/\cz r=false/\ji r=ji z/\(cells J r).length=(cells J z).length
 | [],z,r,h,hz,ht,_=>by
   simp only[nw,aa]at h;subst h;exact⟨rfl,hz,ht,rfl,rfl⟩
 | (i,y)::l,z,r,h,hz,ht,hl=>by
   simp only[nw]at h;split at h
   ·simp at h
   ·rename_i off size hp;split at h
    ·rename_i hc;simp only[af,ai,Bool.not_eq_true']at hc;obtain⟨hs,hty⟩:=hc;split at h
     ·simp at h
     ·rename_i z' hz';have hy:ok K y:=hl (i,y) (by simp)
      have hput:=iy J y hy hty 8 z off z' hz ht hz';have hsz:=hput.size hy;obtain⟨⟨p,m,q,e1,e2,e3,e4⟩,e5,e6,e7⟩:=hput;obtain⟨f1,f2,f3,f4,f5⟩:=lF place l z' r h e6 e7 fun p hp=>hl p (by simp[hp])
      have hly:=bx J y hy;have hcs:(den J y).cells.size=size:=by rw[<-hs,<-hly];simp[cells]
      refine⟨?_,f2,f3,f4.trans e5,f5.trans hsz⟩;simp only[List.map_cons,Instr.fill,hp]
      have hbound:¬((den J y).cells.size≠size||off+(den J y).cells.size>(cells J z).toArray.size)=true:=by
       simp[hcs,e1];omega
      rw[aq hbound,<-f1];congr 1
      apply Array.ext'
      have hsp:=vX off (den J y).cells.toList 0 (cells J z).toArray (by simp[hcs,e1];omega)
      simp only[Nat.add_zero]at hsp;rw[<-Array.foldl_toList,Array.toList_zipIdx];refine hsp.trans ?_;simp only[Array.length_toList,hcs];rw[show(den J y).cells.toList=cells J y from rfl,e2,e1];subst e3
      rw[show List.take p.length (p++m++q)=p by simp,show List.drop (p.length+size) (p++m++q)=q by
       rw[<-hs,<-e4,<-List.length_append,List.drop_left]]
    ·simp at h
def Cd(P:Program)(fs:Array Field)(i:Nat):Option (Nat×Nat):=
 match fs[i]? with
 |none=>none
 |some f=>match nP P f.type with
  |none=>none
  |some n=>some (f.offset,n)
def KK(P:Program)(fs:Array Field):Bool:=fs.toList.all fun f=>(nP P f.type).isSome
def Ci(C:Ctx)(t:Nat)(parts:List (Nat×V)):Option V:=
 match C.Z t with
 |none=>none
 |some z=>if ji z then
  match C.P.underlying t with
  |some (.struct fs)=>if KK C.P fs then nw (Cd C.P fs) z parts else none
  |some (.array _ e)=>match nP C.P e with
   |none=>none
   |some n=>nw (fun i=>some (i*n,n)) z parts
  |_=>none
  else none
section
variable {C:Ctx} {J:Env} {K:Nat->Prop} {w:World}
theorem ni{t:Nat}{z:V}(hC:C.CG)(h:C.Z t=some z):(zeroValue t).run C.P w= .ok (den J z) w:=by
 obtain⟨i,h1,h2,_⟩:=hC t z h;simp[zeroValue,typeInfo,h1,h2 J]
theorem DA{P:Program}{α β:Type}(g:α->Sem β)(f:α->β)(w:World):∀(l:List α),(∀x∈l,(g x).run P w= .ok (f x) w)->(l.mapM g).run P w= .ok (l.map f) w
 | [],_=>by simp
 |x::l,h=>by
  simp_all[DA]
theorem rB{t:Nat}{parts:List (Nat×V)}{r:V}(hC:C.CG)(h:Ci C t parts=some r)(hp:∀p∈parts,ok K p.2):
  (Instr.build t (parts.map fun p=>(p.1,den J p.2)).toArray).run C.P w= .ok (den J r) w/\ok K r/\cz r=false:=by
 unfold Ci at h;split at h
 ·simp at h
 ·rename_i z hz;obtain⟨i,h1,h2,h3,h4,h5⟩:=hC t z hz;split at h
  ·rename_i hag;have hz0:=ni (C:=C) (J:=J) (w:=w) hC hz;split at h
   ·rename_i fs hu;split at h
    ·rename_i hfs;obtain⟨f1,f2,f3,f4,_⟩:=lF (J:=J) (K:=K) _ parts z r h (fu h3) h4 hp;refine⟨?_,f2,f3⟩;simp only[Instr.build,Sem.run_bind,hz0,Result.andThen_ok,bD w hu]
     have hm:(fs.mapM fun f=>do pure (f.offset,<-sizeOf f.type):Sem (Array (Nat×Nat))).run C.P w= .ok (fs.map fun f=>(f.offset,C.P.cellsOf f.type)) w:=by
      rw[Array.mapM_eq_mapM_toList];simp only[Sem.run_map]
      rw[DA _ (fun f:Field=>(f.offset,C.P.cellsOf f.type)) w fs.toList fun f hf=>by
       have:=List.all_eq_true.1 hfs f hf;cases hs:nP C.P f.type with
       |none=>simp[hs]at this
       |some n=>
        have e:C.P.cellsOf f.type=n:=by
         unfold nP at hs;simp[Program.cellsOf,hs]
        simp[fG w hs,e]]
      simp only[Result.andThen_ok];congr 1
      apply Array.ext'
      simp
     rw[hm];simp only[Result.andThen_ok]
     have hpl:(fun i=>(fs.map fun f=>(f.offset,C.P.cellsOf f.type))[i]?)=Cd C.P fs:=by
      funext i
      unfold Cd;rw[Array.getElem?_map];cases hi:fs[i]? with
      |none=>simp
      |some f=>
       have hmem:f∈fs.toList:=by
        grind
       have:=List.all_eq_true.1 hfs f hmem;cases hs:nP C.P f.type with
       |none=>simp[hs]at this
       |some n=>
        have e:C.P.cellsOf f.type=n:=by
         unfold nP at hs;simp[Program.cellsOf,hs]
        simp[hs,e]
     rw[hpl];have hcz:(den J z).cells=(cells J z).toArray:=by simp[cells]
     rw[hcz,f1];simp only[Sem.run_pure];rw[w9 f2 (f4.trans hag)]
    ·simp at h
   ·rename_i e hu;split at h
    ·simp at h
    ·rename_i m hm;obtain⟨f1,f2,f3,f4,_⟩:=lF (J:=J) (K:=K) _ parts z r h (fu h3) h4 hp;refine⟨?_,f2,f3⟩;simp only[Instr.build,Sem.run_bind,hz0,Result.andThen_ok,bD w hu,fG w hm];have hcz:(den J z).cells=(cells J z).toArray:=by simp[cells]
     rw[hcz,f1];simp only[Sem.run_pure];rw[w9 f2 (f4.trans hag)]
   ·simp at h
  ·simp at h
def Zs(C:Ctx)(t n:Nat)(parts:List (Nat×V))(nid:Nat):Option (V×List aQ):=
 match C.P.underlying t with
 |some (.slice e)=>match C.Z e with
  |none=>none
  |some z=>if decide (n*eH z<=16777216)then
   match nw (fun i=>some (i*eH z,eH z)) (.ag (List.replicate n z)) parts with
   |none=>none
   |some c=>some (.sc nid n n,[.blk e c])
   else none
 |_=>none
theorem oJ(z:V):∀n,bp J (List.replicate n z)=(List.replicate n (cells J z)).flatten
 |0=>rfl
 |n+1=>by simp only[List.replicate_succ,bp,List.flatten_cons,oJ z n];rfl
theorem jm{α:Type}(l:List α)(hl:0<l.length):∀(n i:Nat),i<n*l.length->(List.replicate n l).flatten[i]? =l[i%l.length]?
 |0,i,h=>by omega
 |n+1,i,h=>by
  rw[List.replicate_succ,List.flatten_cons];rw[Nat.succ_mul]at h;by_cases hi:i<l.length
  ·rw[List.getElem?_append_left hi,Nat.mod_eq_of_lt hi]
  ·rw[List.getElem?_append_right (by omega),jm l hl n _ (by omega),<-Nat.mod_eq_sub_mod (by omega)]
theorem vG(z:Array Value)(n:Nat):((Array.range (n*z.size)).map fun i=>z[i%z.size]!)=((List.replicate n z.toList).flatten).toArray:=by
 apply Array.ext'
 apply List.ext_getElem?
 intro i;by_cases hz:z.size=0
 ·simp_all
 ·by_cases hi:i<n*z.size
  ·have:=jm z.toList (by simpa using Nat.pos_of_ne_zero hz) n i (by simpa using hi)
   rw[show((List.replicate n z.toList).flatten).toArray.toList=(List.replicate n z.toList).flatten from rfl,this];have hm:i%z.size<z.size:=Nat.mod_lt _ (Nat.pos_of_ne_zero hz);simp[hi,hm]
  ·simp_all
theorem Qb{t n nid:Nat}{parts:List (Nat×V)}{r:V}{new:List aQ}{w0:World}{F0:Nat->Prop}(hC:C.CG)(h:Zs C t n parts nid=some (r,new))(hp:∀p∈parts,ok K p.2)(hn:¬K nid):
  ∃w' ρ',(Instr.buildSlice t n (parts.map fun p=>(p.1,den J p.2)).toArray).run C.P w= .ok (den ρ' r) w'/\kW K J ρ' nid new w0 F0 w w'/\ok (fun i=>K i\/fresh nid new.length i) r/\(∀k,k<new.length->aN new k≠ .yet):=by
 unfold Zs at h;split at h
 ·rename_i e hu;split at h
  ·simp at h
  ·rename_i z hz;obtain⟨i,h1,h2,h3,h4,h5⟩:=hC e z hz;split at h
   ·rename_i hle;have hle:n*eH z<=16777216:=by simpa using hle
    split at h
    ·simp at h
    ·rename_i c hc;simp only[aa,ae]at h;obtain⟨rfl,rfl⟩:=h;have hzok:ok K (.ag (List.replicate n z)):=⟨(iH _).2 fun x hx=>by rw[List.eq_of_mem_replicate hx];exact fu h3,(eh _).2 fun x hx=>by rw[List.eq_of_mem_replicate hx];exact h4⟩
     obtain⟨f1,f2,f3,f4,_⟩:=lF (J:=J) (K:=K) _ parts _ c hc hzok rfl hp;refine⟨w.alloc (.cells (cells J c).toArray e),J.bC nid w.heap.size,?_,kW.alloc f2 f3 hn,?_,?_⟩
     ·have hs:nP C.P e=some (eH z):=by simp[nP,h1,h5]
      have hz0:=ni (C:=C) (J:=J) (w:=w) hC hz;have hzc:(den J z).cells.size=eH z:=by rw[<-bx J z h3];simp[cells]
      simp only[Instr.buildSlice,Sem.run_bind,bD w hu,Result.andThen_ok,fG w hs,Sem.run_ite];rw[aq (by omega)]
      simp only[Sem.run_pure,Result.andThen_ok]
      have key:∀zz:Array Value,(n*eH z=0\/zz=(den J z).cells)->((Array.range (n*eH z)).map fun x=>zz[x%zz.size]!)=(cells J (.ag (List.replicate n z))).toArray:=by
       grind[di,oJ,cells,bx,vG]
      by_cases h0:n*eH z=0
      ·rw[ar h0];rw[key #[] (.inl h0),f1];simp only[Sem.run_bind,newRow,run_newObj_alloc,Result.andThen_ok,Sem.run_pure];simp[den,Env.bC]
      ·rw[aq h0];simp only[hz0,Result.andThen_ok];rw[key _ (.inr rfl),f1];simp only[Sem.run_bind,newRow,run_newObj_alloc,Result.andThen_ok,Sem.run_pure];simp[den,Env.bC]
     ·exact .inr ⟨Nat.le_refl _,by simp⟩
     ·simp_all[aN]
   ·simp at h
 ·simp at h
end
end Go.Sx
