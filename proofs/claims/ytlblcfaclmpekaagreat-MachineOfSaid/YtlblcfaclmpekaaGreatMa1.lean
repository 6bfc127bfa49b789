import Derived.Test.YtlblcfaclmpekaaGreatMa0
set_option linter.unusedSimpArgs false
set_option linter.unusedVariables false
namespace Go.Sx
inductive Kd where
 |b
 |s
 |i (k:IntKind)
 deriving DecidableEq
def Kd.of:Kd->Value->Prop
 | .b,v=>∃x,v= .bool x
 | .s,v=>∃x,v= .string x
 | .i k,v=>∃n,v= .int k n
def mX:List Kd->List Value->Prop
 | [],[]=>True
 |k::ks,v::vs=>k.of v/\mX ks vs
 |_,_=>False
theorem mX.length:∀{ks:List Kd} {vs:List Value},mX ks vs->vs.length=ks.length
 | [],[],_=>rfl
 |_::_,_::_,h=>by simp[mX.length h.2]
 | [],_::_,h=>h.elim
 |_::_,[],h=>h.elim
theorem mX.split:∀{a b:List Kd} {vs:List Value},mX (a++b) vs->mX a (vs.take a.length)/\mX b (vs.drop a.length)
 | [],b,vs,h=>by simpa[mX]using h
 |k::a,b,[],h=>h.elim
 |k::a,b,v::vs,h=>by
  obtain⟨h1,h2⟩:=mX.split (a:=a) h.2;exact⟨by simpa[mX]using⟨h.1,h1⟩,by simpa using h2⟩
theorem mX.join:∀{a b:List Kd} {vs us:List Value},mX a vs->mX b us->mX (a++b) (vs++us)
 | [],_,[],_,_,h=>by simpa using h
 |k::a,_,v::vs,_,h,h'=>⟨h.1,mX.join h.2 h'⟩
 | [],_,_::_,_,h,_=>h.elim
 |_::_,_,[],_,h,_=>h.elim
def ma (g:Nat->Option (List Kd)):Nat->List Field->Option (List Kd)
 |_,[]=>some []
 |off,f::fs=>if f.name != "_" &&f.offset==off then
  match g f.type with
  |none=>none
  |some ks=>(ma g (off+ks.length) fs).map (ks++ ·)
  else none
def fw (P:Program):Nat->Nat->Option (List Kd)
 |0,_=>none
 |f+1,t=>match P.underlying t with
  |some .bool=>some [.b]
  |some .string=>some [.s]
  |some (.int k)=>some [.i k]
  |some (.struct fs)=>if P.stoodInHeld t then none else
   match ma (fw P f) 0 fs.toList with
   |none=>none
   |some ks=>if oZ P t==some ks.length then some ks else none
  |some (.array n e)=>match fw P f e with
   |none=>none
   |some ks=>if oZ P e==some ks.length&&oZ P t==some (n*ks.length)then some (List.replicate n ks).flatten else none
  |_=>none
theorem AK (x y:ByteArray):(x==y)=decide (x=y):=by
 rw[beq_toListBytes,ByteArray.toList_eq,ByteArray.toList_eq];obtain⟨⟨x⟩⟩:=x;obtain⟨⟨y⟩⟩:=y;rw[Bool.eq_iff_iff];simp
section
variable {P:Program}
theorem sZ {f t:Nat} {ks:List Kd} {a:Bool} (h:fw P f t=some ks) (ha:mb P t=some a):(a=true->oZ P t=some ks.length)/\(a=false->ks.length=1):=by
 cases f with
 |zero=>simp[fw]at h
 |succ f=>
  unfold fw at h;unfold mb at ha;split at h
  ·rename_i hu;rw[hu]at ha;simp at ha h;subst ha;subst h;simp
  ·rename_i hu;rw[hu]at ha;simp at ha h;subst ha;subst h;simp
  ·rename_i hu;rw[hu]at ha;simp at ha h;subst ha;subst h;simp
  ·grind
  ·rename_i hu;rw[hu]at ha;simp at ha;subst ha;split at h
   ·simp at h
   ·split at h
    ·rename_i hs;simp at h;subst h;simp only[aa2,aa4]at hs;simp[hs.2]
    ·simp at h
  ·simp at h
theorem sM {f t:Nat} {ks:List Kd} (h:fw P f t=some ks):∃a,mb P t=some a:=by
 cases f with
 |zero=>simp[fw]at h
 |succ f=>
  unfold fw at h;unfold mb;split at h<;>first| (rename_i hu;rw[hu];exact⟨_,rfl⟩)| (simp at h)
theorem kC {f t off:Nat} {ks:List Kd} {a:Bool} {xs:List Value} (w:World) (h:fw P f t=some ks) (ha:mb P t=some a)
  (hl:off+ks.length<=xs.length):(part t xs.toArray off).run P w= .ok (jV a ((xs.drop off).take ks.length)) w:=by
 obtain⟨h1,h2⟩:=sZ h ha;unfold part;rw[Sem.run_bind,sj w ha];cases a with
 |true=>
  simp only[Result.andThen_ok,if_true,Sem.run_bind,gF w (h1 rfl),Sem.run_pure,jV];congr 2
  apply Array.ext'
  simp[List.extract_eq_take_drop]
 |false=>
  have h2:=h2 rfl;have hlt:off<xs.length:=by omega
  simp only[Result.andThen_ok,Bool.false_eq_true,if_false,List.getElem?_toArray,List.getElem?_eq_getElem hlt,Sem.run_pure,jV,h2];congr 1
  rw[aa7,List.getElem?_take_of_lt (by omega),List.getElem?_drop]
  simp[List.getElem?_eq_getElem hlt]
def Eqs (P:Program) (d t:Nat) (a:Bool) (xs ys:List Value):Prop:=
 ∀w,∃b,(Op.equalIn d t (jV a xs) (jV a ys)).run P w= .ok b w/\(b=true↔xs=ys)
theorem vy {α:Type} (n:Nat) (xs ys:List α):xs=ys↔xs.take n=ys.take n/\xs.drop n=ys.drop n:=
 ⟨fun h=>by subst h;exact⟨rfl,rfl⟩,fun⟨h1,h2⟩=>by rw[<-List.take_append_drop n xs,<-List.take_append_drop n ys,h1,h2]⟩
theorem vz (f d:Nat) (hd:∀t ks a xs ys,fw P f t=some ks->mb P t=some a->mX ks xs->mX ks ys->Eqs P d t a xs ys) (X Y:List Value) (hXY:X.length=Y.length) (w:World):
  ∀(fs:List Field) (off:Nat) (ks:List Kd),ma (fw P f) off fs=some ks->off+ks.length=X.length->mX ks (X.drop off)->mX ks (Y.drop off)->
  ∃b,(Op.eqFields d X.toArray Y.toArray fs).run P w= .ok b w/\(b=true↔X.drop off=Y.drop off)
 | [],off,ks,h,hl,hx,hy=>by
   simp only[ma,aa0]at h;subst h;refine⟨true,rfl,?_⟩;simp only[List.length_nil,Nat.add_zero]at hl;simp[List.drop_eq_nil_of_le (show X.length<=off by omega),List.drop_eq_nil_of_le (show Y.length<=off by omega)]
 |g::fs,off,ks,h,hl,hx,hy=>by
  simp only[ma]at h;split at h
  ·rename_i hc;simp only[aa2,bne_iff_ne,ne_eq,aa4]at hc;obtain⟨hn,ho⟩:=hc;cases hg:fw P f g.type with
   |none=>simp[hg]at h
   |some k1=>
    simp only[hg]at h;cases hr:ma (fw P f) (off+k1.length) fs with
    |none=>simp[hr]at h
    |some k2=>
     simp only[hr,Option.map_some,aa0]at h;subst h;simp only[List.length_append]at hl;obtain⟨a,ha⟩:=sM hg;obtain⟨x1,x2⟩:=mX.split hx;obtain⟨y1,y2⟩:=mX.split hy;obtain⟨b,hb,hbi⟩:=hd _ _ _ _ _ hg ha x1 y1 w;simp only[List.drop_drop]at x2 y2;obtain⟨b',hb',hbi'⟩:=vz f d hd X Y hXY w fs (off+k1.length) k2 hr (by omega) x2 y2
     have e1:=kC (xs:=X) (off:=off) w hg ha (by omega)
     have e2:=kC (xs:=Y) (off:=off) w hg ha (by omega)
     simp only[Op.eqFields,aa9 hn,ho,Sem.run_bind,e1,e2,hb,Result.andThen_ok,Sem.run_ite];rw[vy k1.length (X.drop off) (Y.drop off)];simp only[List.drop_drop];cases b with
     |false=>exact⟨false,by simp,by simp;exact fun h=>absurd (hbi.2 h) (by simp)⟩
     |true=>exact⟨b',by simpa using hb',by rw[hbi'];exact⟨fun h=>⟨hbi.1 rfl,h⟩,fun h=>h.2⟩⟩
  ·simp at h
theorem xy (n:Nat) (ks:List Kd):(List.replicate n ks).flatten.length=n*ks.length:=by simp
def AJ (d e n:Nat) (X Y:Array Value):List Nat->Sem Bool
 | []=>pure true
 |i::is=>do
  let a<-part e X (i*n)
  let b<-part e Y (i*n)
  let r<-Op.equalIn d e a b
  if(!r)=true then pure false else AJ d e n X Y is
theorem BZ (f d:Nat) (hd:∀t ks a xs ys,fw P f t=some ks->mb P t=some a->mX ks xs->mX ks ys->Eqs P d t a xs ys) {e:Nat} {ks:List Kd} {a:Bool} (he:fw P f e=some ks) (ha:mb P e=some a)
  (X Y:List Value) (hXY:X.length=Y.length) (w:World):∀(m j:Nat),j*ks.length+m*ks.length=X.length->mX (List.replicate m ks).flatten (X.drop (j*ks.length))->mX (List.replicate m ks).flatten (Y.drop (j*ks.length))->
  ∃b,(AJ d e ks.length X.toArray Y.toArray (List.range' j m)).run P w= .ok b w/\(b=true↔X.drop (j*ks.length)=Y.drop (j*ks.length))
 |0,j,hl,hx,hy=>by
  refine⟨true,rfl,?_⟩;simp only[Nat.zero_mul,Nat.add_zero]at hl;simp[List.drop_eq_nil_of_le (show X.length<=j*ks.length by omega),List.drop_eq_nil_of_le (show Y.length<=j*ks.length by omega)]
 |m+1,j,hl,hx,hy=>by
  rw[List.replicate_succ,List.flatten_cons]at hx hy;obtain⟨x1,x2⟩:=mX.split hx;obtain⟨y1,y2⟩:=mX.split hy;rw[Nat.succ_mul]at hl;obtain⟨b,hb,hbi⟩:=hd _ _ _ _ _ he ha x1 y1 w;simp only[List.drop_drop,show j*ks.length+ks.length=(j+1)*ks.length by rw[Nat.succ_mul]]at x2 y2
  obtain⟨b',hb',hbi'⟩:=BZ f d hd he ha X Y hXY w m (j+1) (by rw[Nat.succ_mul];omega) x2 y2
  have e1:=kC (xs:=X) (off:=j*ks.length) w he ha (by omega)
  have e2:=kC (xs:=Y) (off:=j*ks.length) w he ha (by omega)
  simp only[List.range'_succ,AJ,Sem.run_bind,e1,e2,hb,Result.andThen_ok,Sem.run_ite];rw[vy ks.length (X.drop (j*ks.length)) (Y.drop (j*ks.length))];simp only[List.drop_drop,show j*ks.length+ks.length=(j+1)*ks.length by rw[Nat.succ_mul]]
  cases b with
  |false=>exact⟨false,by simp,by simp;exact fun h=>absurd (hbi.2 h) (by simp)⟩
  |true=>exact⟨b',by simpa using hb',by rw[hbi'];exact⟨fun h=>⟨hbi.1 rfl,h⟩,fun h=>h.2⟩⟩
theorem run_equalIn_array (d t len e n:Nat) (X Y:Array Value) (w:World) (hu:P.underlying t=some (.array len e)) (hn:oZ P e=some n):
  (Op.equalIn (d+1) t (.agg X) (.agg Y)).run P w=(AJ d e n X Y (List.range' 0 len)).run P w:=by
 simp only[Op.equalIn,Sem.run_bind,bG w hu,Result.andThen_ok,gF w hn];rw[Std.Legacy.Range.forIn_eq_forIn_range'];simp only[Std.Legacy.Range.size,Nat.sub_zero,Nat.add_sub_cancel,Nat.div_one];generalize List.range' 0 len=is
 induction is generalizing w with
 |nil=>simp[AJ]
 |cons i is ih=>
  simp only[List.forIn_cons,AJ,Sem.run_bind,Sem.run_ite];generalize (part e X (i*n)).run P w=r1
  cases r1 with
  |ok a w1=>
   simp only[Result.andThen_ok];generalize (part e Y (i*n)).run P w1=r2
   cases r2 with
   |ok b w2=>
    simp only[Result.andThen_ok];generalize (Op.equalIn d e a b).run P w2=r3
    cases r3 with
    |ok r w3=>
     cases r
     ·simp only[Result.andThen_ok,Bool.not_false,if_true,Sem.run_pure]
     ·simp_all
    |halt x w3=>simp[Result.andThen]
   |halt x w2=>simp[Result.andThen]
  |halt x w1=>simp[Result.andThen]
theorem rU:∀(f d:Nat),f<=d->∀t ks a xs ys,fw P f t=some ks->mb P t=some a->mX ks xs->mX ks ys->Eqs P d t a xs ys
 |0,_,_,_,_,_,_,_,h,_,_,_=>by simp[fw]at h
 |f+1,0,hfd,_,_,_,_,_,_,_,_,_=>by omega
 |f+1,d+1,hfd,t,ks,a,xs,ys,h,ha,hx,hy=>by
  intro w;have ih:=fun t ks a xs ys=>rU f d (by omega) t ks a xs ys
  unfold fw at h;split at h
  ·rename_i hu;simp only[mb,hu,aa0]at ha h;subst ha;subst h;match xs,ys,hx,hy with
   | [_],[_],⟨⟨x,rfl⟩,_⟩,⟨⟨y,rfl⟩,_⟩=>
     exact⟨x==y,by simp[jV,Op.equalIn,bG w hu],by simp⟩
  ·rename_i hu;simp only[mb,hu,aa0]at ha h;subst ha;subst h;match xs,ys,hx,hy with
   | [_],[_],⟨⟨x,rfl⟩,_⟩,⟨⟨y,rfl⟩,_⟩=>
     refine⟨x==y,by simp[jV,Op.equalIn,bG w hu],?_⟩
     rw[AK];simp
  ·rename_i k hu;simp only[mb,hu,aa0]at ha h;subst ha;subst h;match xs,ys,hx,hy with
   | [_],[_],⟨⟨x,rfl⟩,_⟩,⟨⟨y,rfl⟩,_⟩=>
     exact⟨x==y,by simp[jV,Op.equalIn,bG w hu],by simp⟩
  ·rename_i fs hu;simp only[mb,hu,aa0]at ha;subst ha;split at h
   ·simp at h
   ·rename_i hst;split at h
    ·simp at h
    ·rename_i k hk;split at h<;>simp only[aa0,reduceCtorEq]at h
     subst h;have hlx:=hx.length;have hly:=hy.length;obtain⟨b,hb,hbi⟩:=vz f d ih xs ys (by omega) w fs.toList 0 k hk (by omega) (by simpa using hx) (by simpa using hy)
     have hff:P.fieldsOf t=fs:=by simp[Program.fieldsOf,hu]
     refine⟨b,?_,by simpa using hbi⟩
     rw[<-hb];have:=run_equalIn_struct (P:=P) w d t xs.toArray ys.toArray (by rw[hu,hff]) (by simpa using hst)
     rw[hff]at this;simpa[jV]using this
  ·rename_i n e hu;simp only[mb,hu,aa0]at ha;subst ha;split at h
   ·simp at h
   ·rename_i k hk;split at h<;>simp only[aa0,reduceCtorEq]at h
    rename_i hs;simp only[aa2,aa4]at hs;subst h;have hlx:=hx.length;have hly:=hy.length;rw[xy]at hlx hly;obtain⟨a,ha⟩:=sM hk;obtain⟨b,hb,hbi⟩:=BZ f d ih hk ha xs ys (by omega) w n 0 (by omega) (by simpa using hx) (by simpa using hy)
    refine⟨b,?_,by simpa using hbi⟩
    rw[<-hb];simpa[jV]using run_equalIn_array (P:=P) d t n e k.length xs.toArray ys.toArray w hu hs.1
  ·simp at h
end
open Go.RowKit (Below)
structure Ctx where
 P:Program
 Z:Nat->Option V
 Γ:Nat->Option (List aK->Nat->List V->Option (Option Prop×V×List aK))
 D:Nat->Option (Nat×Nat):=fun _=>none
theorem lJ {k:IntKind} {n:Int} (h:bY k n):k.wrap n=n:=by
 cases k<;>simp only[bY]at h<;>simp[IntKind.wrap,IntKind.bits,IntKind.signed]<;>omega
theorem vf (k:IntKind) (n:Int):bY k (k.wrap n):=by
 cases k<;>simp[IntKind.wrap,IntKind.bits,IntKind.signed,bY]<;>omega
def toInt:V->Option (IntKind×Int)
 | .ci k n=>some (k,n)
 | .it k n=>some (k,n)
 | .bt b=>some (.u8,Ux b)
 |_=>none
def xF:V->Bool
 | .ci _ _=>true
 |_=>false
theorem en {J:Env} {K:Nat->Prop} {v:V} {k:IntKind} {n:Int} (h:toInt v=some (k,n)) (hv:ok K v):den J v= .int k n/\bY k n:=by
 cases v<;>simp[toInt]at h
 ·obtain⟨rfl,rfl⟩:=h;exact⟨rfl,hv⟩
 ·obtain⟨rfl,rfl⟩:=h;exact⟨rfl,hv⟩
 ·obtain⟨rfl,rfl⟩:=h;rename_i b;have:=b.toNat_lt;exact⟨rfl,by simp only[bY,Ux];omega⟩
def toBool:V->Option Bool
 | .cb b=>some b
 | .bo b=>some b
 |_=>none
theorem ej {J:Env} {v:V} {b:Bool} (h:toBool v=some b):den J v= .bool b:=by
 cases v<;>simp[toBool]at h<;>subst h<;>rfl
def S5:V->Bool
 | .cb _=>true
 |_=>false
def Wa (c:Bool) (b:Bool):V:=if c then .cb b else .bo b
theorem Ut (J:Env) (c:Bool) (b:Bool):den J (Wa c b)= .bool b:=by unfold Wa;split<;>rfl
theorem Ym {K:Nat->Prop} {c:Bool} {b:Bool}:ok K (Wa c b):=by unfold Wa;split<;>trivial
def QL (op:BinOp) (a b:Int):Option Bool:=
 match op with
 | .lss=>some (ilt a b)
 | .leq=>some (ile a b)
 | .gtr=>some (ilt b a)
 | .geq=>some (ile b a)
 | .eql=>some (Dv a b)
 | .neq=>some (QF (Dv a b))
 |_=>none
def bm (op:BinOp) (k:IntKind) (x y:Int):Int:=
 let a:=BitVec.ofInt k.bits x
 let b:=BitVec.ofInt k.bits y
 match op with
 | .and=>k.wrap (a &&& b).toNat
 | .or=>k.wrap (a ||| b).toNat
 | .xor=>k.wrap (a ^^^ b).toNat
 |_=>k.wrap (a &&& ~~~b).toNat
def arith (op:BinOp) (k:IntKind) (a b:Int):Option (Option Prop×Int):=
 match op with
 | .add=>some (some (aF k (zc a b)),zc a b)
 | .sub=>some (some (aF k (sU a b)),sU a b)
 | .mul=>some (some (aF k (Yh a b)),Yh a b)
 | .quo=>some (some (nU b/\aF k (Wq a b)),Wq a b)
 | .rem=>some (some (nU b/\aF k (XR a b)),XR a b)
 | .and=>some (none,bm .and k a b)
 | .or=>some (none,bm .or k a b)
 | .xor=>some (none,bm .xor k a b)
 | .andNot=>some (none,bm .andNot k a b)
 |_=>none
def Zz (op:BinOp) (a b:Int):Option Bool:=
 match op with
 | .lss=>some (decide (a<b))
 | .leq=>some (decide (a<=b))
 | .gtr=>some (decide (b<a))
 | .geq=>some (decide (b<=a))
 | .eql=>some (decide (a=b))
 | .neq=>some (!decide (a=b))
 |_=>none
def GZ (op:BinOp) (a b:Int):Option Int:=
 match op with
 | .add=>some (a+b)
 | .sub=>some (a-b)
 | .mul=>some (a*b)
 |_=>none
theorem Tc (op:BinOp) (a b:Int):Zz op a b=QL op a b:=by cases op<;>rfl
section
variable {P:Program}
theorem F7 {op:BinOp} {k:IntKind} {a b n:Int} (t:Nat) (w:World) (h:GZ op a b=some n) (hp:bY k n):
  (binOp op t (.int k a) (.int k b)).run P w= .ok (.int k n) w:=by
 cases op<;>simp only[GZ,aa0,reduceCtorEq]at h<;>subst h<;>simp[binOp,Op.intArith,lJ hp]
theorem HP {op:BinOp} {k:IntKind} {a b:Int} {r:Bool} (t:Nat) (w:World) (h:QL op a b=some r):(binOp op t (.int k a) (.int k b)).run P w= .ok (.bool r) w:=by
 cases op<;>simp only[QL,aa0,reduceCtorEq]at h<;>subst h<;>simp[binOp,Op.intCmp,ilt,ile,Dv,QF]<;>rw[Bool.eq_iff_iff]<;>simp
theorem JJ {op:BinOp} {k:IntKind} {a b n:Int} {p:Option Prop} (t:Nat) (w:World) (h:arith op k a b=some (p,n)) (hp:dX p):
  (binOp op t (.int k a) (.int k b)).run P w= .ok (.int k n) w/\bY k n:=by
 cases op<;>simp only[arith,aa0,aa1,reduceCtorEq]at h<;>obtain⟨rfl,rfl⟩:=h
 ·exact⟨by simp[binOp,Op.intArith,zc,lJ (show bY k (a+b)from hp)],hp⟩
 ·exact⟨by simp[binOp,Op.intArith,sU,lJ (show bY k (a-b)from hp)],hp⟩
 ·exact⟨by simp[binOp,Op.intArith,Yh,lJ (show bY k (a*b)from hp)],hp⟩
 ·exact⟨by simp[binOp,Op.intDiv,Wq,lJ (show bY k (a.tdiv b)from hp.2),show b≠0 from hp.1],hp.2⟩
 ·exact⟨by simp[binOp,Op.intDiv,XR,show b≠0 from hp.1],hp.2⟩
 ·exact⟨by simp[binOp,Op.intBits,bm],vf _ _⟩
 ·exact⟨by simp[binOp,Op.intBits,bm],vf _ _⟩
 ·exact⟨by simp[binOp,Op.intBits,bm],vf _ _⟩
 ·exact⟨by simp[binOp,Op.intBits,bm],vf _ _⟩
end
def Tb:List Kd:=List.replicate 6 (.i .i64)
def YA:List Kd:=List.replicate 96 (.i .i64)
def YL:List Kd:=List.replicate 64 (.i .u8)
def QH:List Kd:=List.replicate 99 (.i .i64)++List.replicate 64 (.i .u8)
theorem xU (k:Kd):∀(l:List Value),(∀v∈l,k.of v)->mX (List.replicate l.length k) l
 | [],_=>trivial
 |v::l,h=>⟨h v (by simp),xU k l fun u hu=>h u (by simp[hu])⟩
theorem x9 (k:Key):mX Tb (dZ k):=by
 refine xU (.i .i64) (dZ k) fun v hv=>?_
 simp only[dZ,List.mem_cons,List.not_mem_nil,or_false,i64]at hv;rcases hv with rfl|rfl|rfl|rfl|rfl|rfl<;>exact⟨_,rfl⟩
theorem zg (s:cL):mX YA (gg s):=by
 have:=xU (.i .i64) (gg s) fun v hv=>by
  simp only[gg,List.mem_flatMap,dZ,List.mem_cons,List.not_mem_nil,or_false,i64]at hv;obtain⟨i,_,hx⟩:=hv;rcases hx with rfl|rfl|rfl|rfl|rfl|rfl<;>exact⟨_,rfl⟩
 rwa [iN]at this
theorem zK (s:Bytes):mX YL (cZ s):=by
 have:=xU (.i .u8) (cZ s) fun v hv=>by
  simp only[cZ,List.mem_map]at hv;obtain⟨i,_,rfl⟩:=hv;exact⟨_,rfl⟩
 rwa [fy]at this
theorem C3 (o:Obj):mX QH (eE o):=by
 have h1:mX (List.replicate 3 (.i .i64)) [i64 o.kind,i64 o.count,i64 o.calls]:=⟨⟨_,rfl⟩,⟨_,rfl⟩,⟨_,rfl⟩,trivial⟩;have h2:=mX.join h1 (mX.join (zg o.slots) (zK o.bytes));have e:QH=List.replicate 3 (.i .i64)++(YA++YL):=rfl;rw[e];simpa[eE]using h2
theorem qe {a b:Key}:dZ a=dZ b↔a=b:=by
 refine⟨fun h=>?_,fun h=>by rw[h]⟩
 simp only[dZ,i64,List.cons.injEq,Value.int.injEq,true_and,and_true]at h;cases a;cases b;simp_all
theorem rp {a b:cL}:gg a=gg b↔a=b:=by
 refine⟨fun h=>?_,fun h=>by rw[h]⟩
 have key:∀i,i<16->a.at i=b.at i:=fun i hi=>by
  obtain⟨p,q,e1,e2,_⟩:=nA a i hi;obtain⟨p',q',e1',e2',_⟩:=nA b i hi;rw[e1,e1']at h;exact qe.1 (lC h (by omega) rfl).2.1
 ext i hi
 have:=key i hi;simp only[cL.at,Array.getD_eq_getD_getElem?,Vector.getElem?_toArray,Vector.getElem?_eq_getElem hi,Option.getD_some]at this;all_goals(first| (rw[this])| (simp[this]))
theorem qQ {a b:Bytes}:cZ a=cZ b↔a=b:=by
 refine⟨fun h=>?_,fun h=>by rw[h]⟩
 have key:∀i,i<64->a.at i=b.at i:=fun i hi=>by
  obtain⟨p,q,e1,e2,_⟩:=nq a i hi;obtain⟨p',q',e1',e2',_⟩:=nq b i hi;rw[e1,e1']at h;have:=(lC h (by omega) rfl).2.1
  simp only[List.cons.injEq,Value.int.injEq,true_and,and_true]at this;exact UInt8.toNat_inj.1 (by omega)
 ext i hi
 have:=key i hi;simp only[Bytes.at,Array.getD_eq_getD_getElem?,Vector.getElem?_toArray,Vector.getElem?_eq_getElem hi,Option.getD_some]at this;rw[this]
theorem w9 {a b:Obj}:eE a=eE b↔a=b:=by
 refine⟨fun h=>?_,fun h=>by rw[h]⟩
 simp only[eE,i64,List.cons.injEq,Value.int.injEq,true_and]at h;obtain⟨h1,h2,h3,h4⟩:=h;obtain⟨h5,h6⟩:=List.append_inj h4 (by rw[iN,iN])
 cases a;cases b;simp_all[rp,qQ]
def pM (P:Program) (t:Nat):Bool:= !(P.eqGuardType P.depth t)
mutual
def kdS:V->Option (List Kd)
 | .cb _| .bo _=>some [.b]
 | .ci k _| .it k _=>some [.i k]
 | .st _=>some [.s]
 | .key _=>some Tb
 | .sl _=>some YA
 | .by _=>some YL
 | .ob _=>some QH
 | .ag l=>OB l
 |_=>none
def OB:List V->Option (List Kd)
 | []=>some []
 |x::l=>match kdS x with
  |some a=>match OB l with
   |some b=>some (a++b)
   |none=>none
  |none=>none
end
mutual
def eqS:V->V->Option Bool
 | .ag l,.ag m=>Em l m
 | .key a,.key b=>some (yf a b)
 | .sl a,.sl b=>some (D4 a b)
 | .by a,.by b=>some (Fg a b)
 | .ob a,.ob b=>some (CR a b)
 | .st a,.st b=>some (Ax a b)
 |x,y=>match toBool x,toBool y with
  |some a,some b=>some (FE a b)
  |_,_=>match x with
   | .bt _=>none
   |_=>match y with
    | .bt _=>none
    |_=>match toInt x,toInt y with
     |some (k,a),some (k',b)=>if k==k' then some (Dv a b)else none
     |_,_=>none
def Em:List V->List V->Option Bool
 | [],[]=>some true
 |x::l,y::m=>match eqS x y with
  |some a=>match Em l m with
   |some b=>some (Ve a b)
   |none=>none
  |none=>none
 |_,_=>none
end
theorem Tq {ks:List Kd}:∀{a b c d:List Value},mX ks a->mX ks b->(a++c=b++d↔a=b/\c=d):=fun ha hb=>
 ⟨fun h=>List.append_inj h (by rw[ha.length,hb.length]),fun h=>by rw[h.1,h.2]⟩
mutual
theorem KO (J:Env):∀(x y:V) (b:Bool),eqS x y=some b->∃ks,kdS x=some ks/\mX ks (cells J x)/\mX ks (cells J y)/\(b=true↔cells J x=cells J y)
 |x,y,b,h=>by
  unfold eqS at h;split at h
  ·rename_i l m;obtain⟨ks,h1,h2,h3,h4⟩:=vR J l m b h;refine⟨ks,by rw[kdS];exact h1,?_⟩
   simp only[cells,den];exact⟨by simpa[Value.cells]using h2,by simpa[Value.cells]using h3,by simpa[Value.cells]using h4⟩
  ·rename_i u v;simp only[aa0]at h;subst h;exact⟨Tb,rfl,x9 u,x9 v,by show yf u v=true↔dZ u=dZ v;rw[qe];simp[yf]⟩
  ·rename_i u v;simp only[aa0]at h;subst h;exact⟨YA,rfl,zg u,zg v,by show D4 u v=true↔gg u=gg v;rw[rp];simp[D4]⟩
  ·rename_i u v;simp only[aa0]at h;subst h;exact⟨YL,rfl,zK u,zK v,by show Fg u v=true↔cZ u=cZ v;rw[qQ];simp[Fg]⟩
  ·rename_i u v;simp only[aa0]at h;subst h;exact⟨QH,rfl,C3 u,C3 v,by show CR u v=true↔eE u=eE v;rw[w9];simp[CR]⟩
  ·rename_i u v;simp only[aa0]at h;subst h;exact⟨[.s],rfl,⟨⟨_,rfl⟩,trivial⟩,⟨⟨_,rfl⟩,trivial⟩,by show Ax u v=true↔ [Value.string u]= [Value.string v];simp[Ax]⟩
  ·split at h
   ·rename_i u v hu hv;simp only[aa0]at h;subst h;refine⟨[.b],?_,?_,?_,?_⟩
    ·cases x<;>simp[toBool]at hu<;>rfl
    ·rw[cells,ej hu];exact⟨⟨_,rfl⟩,trivial⟩
    ·rw[cells,ej hv];exact⟨⟨_,rfl⟩,trivial⟩
    ·rw[cells,cells,ej hu,ej hv];show FE u v=true↔ [Value.bool u]= [Value.bool v]
     simp[FE]
   ·split at h
    ·simp at h
    ·rename_i hx;split at h
     ·simp at h
     ·rename_i hy;split at h
      ·rename_i k u k' v hu hv;split at h<;>simp only[aa0,reduceCtorEq]at h
       rename_i hk;have hk:=aa4.1 hk;subst hk;subst h
       have e1:den J x= .int k u:=by
        cases x<;>simp[toInt]at hu
        ·obtain⟨rfl,rfl⟩:=hu;rfl
        ·obtain⟨rfl,rfl⟩:=hu;rfl
        ·exact absurd rfl (hx _)
       have e2:den J y= .int k v:=by
        cases y<;>simp[toInt]at hv
        ·obtain⟨rfl,rfl⟩:=hv;rfl
        ·obtain⟨rfl,rfl⟩:=hv;rfl
        ·exact absurd rfl (hy _)
       refine⟨[.i k],?_,?_,?_,?_⟩
       ·cases x<;>simp[toInt]at hu
        ·obtain⟨rfl,rfl⟩:=hu;rfl
        ·obtain⟨rfl,rfl⟩:=hu;rfl
        ·exact absurd rfl (hx _)
       ·rw[cells,e1];exact⟨⟨_,rfl⟩,trivial⟩
       ·rw[cells,e2];exact⟨⟨_,rfl⟩,trivial⟩
       ·rw[cells,cells,e1,e2];show Dv u v=true↔ [Value.int k u]= [Value.int k v]
        simp[Dv]
      ·simp at h
theorem vR (J:Env):∀(l m:List V) (b:Bool),Em l m=some b->∃ks,OB l=some ks/\mX ks (bp J l)/\mX ks (bp J m)/\(b=true↔bp J l=bp J m)
 | [],[],b,h=>by
   simp only[Em,aa0]at h;subst h;exact⟨[],rfl,trivial,trivial,by simp[bp]⟩
 |x::l,y::m,b,h=>by
  simp only[Em]at h;split at h
  case h_2=>simp at h
  rename_i a ha;split at h<;>simp only[aa0,reduceCtorEq]at h
  rename_i c hc;subst h;obtain⟨k1,h1,h2,h3,h4⟩:=KO J x y a ha;obtain⟨k2,i1,i2,i3,i4⟩:=vR J l m c hc;refine⟨k1++k2,by simp only[OB,h1,i1],?_,?_,?_⟩
  ·simp only[bp];exact mX.join h2 i2
  ·simp only[bp];exact mX.join h3 i3
  ·grind[bp,Tq,cells,Ve]
 | [],_::_,_,h=>by simp[Em]at h
 |_::_,[],_,h=>by simp[Em]at h
end
def XU (P:Program) (t:Nat):V->V->Option V
 | .key a,.key b=>if pM P t&&fw P 8 t==some Tb then some (.bo (yf a b))else none
 | .sl a,.sl b=>if pM P t&&fw P 8 t==some YA then some (.bo (D4 a b))else none
 | .by a,.by b=>if pM P t&&fw P 8 t==some YL then some (.bo (Fg a b))else none
 | .ob a,.ob b=>if pM P t&&fw P 8 t==some QH then some (.bo (CR a b))else none
 | .st a,.st b=>some (.bo (Ax a b))
 | .ag l,.ag m=>match OB l with
   |some ks=>if pM P t&&fw P 8 t==some ks&&Nat.ble 2 ks.length then match Em l m with
    |some b=>some (.bo b)
    |none=>none
    else none
   |none=>none
 | .nl (.pointer none),.nl (.pointer none)=>match P.underlying t with
   |some (.pointer _)=>some (.cb true)
   |_=>none
 | .lp _ _,.nl (.pointer none)=>match P.underlying t with
   |some (.pointer _)=>some (.cb false)
   |_=>none
 | .fn _ _,.nl .nilFunc=>match P.underlying t with
   |some (.func _ _ _)=>some (.cb false)
   |_=>none
 | .nl .nilFunc,.nl .nilFunc=>match P.underlying t with
   |some (.func _ _ _)=>some (.cb true)
   |_=>none
 |x,y=>match toBool x,toBool y with
  |some a,some b=>match P.underlying t with
   |some .bool=>some (Wa (S5 x&&S5 y) (FE a b))
   |_=>none
  |_,_=>none
section
variable {P:Program}
theorem nC {t:Nat} {ks:List Kd} {xs ys:List Value} (w:World) (o1 o2:Operand) (hk:fw P 8 t=some ks) (hg:pM P t=true) (ha:mb P t=some true) (hx:mX ks xs) (hy:mX ks ys):
  ∃b,(do eqGuard .eql t o1 o2 (.agg xs.toArray) (.agg ys.toArray);binOp .eql t (.agg xs.toArray) (.agg ys.toArray)).run P w= .ok (.bool b) w/\
   (do eqGuard .neq t o1 o2 (.agg xs.toArray) (.agg ys.toArray);binOp .neq t (.agg xs.toArray) (.agg ys.toArray)).run P w= .ok (.bool !b) w/\(b=true↔xs=ys):=by
 obtain⟨b,hb,hbi⟩:=rU (P:=P) 8 10000 (by omega) t ks true xs ys hk ha hx hy w
 have hg':P.eqGuardType P.depth t=false:=by simpa[pM]using hg
 simp only[jV,if_true]at hb;refine⟨b,?_,?_,hbi⟩
 ·simp only[Sem.run_bind,run_eqGuard_agg w .eql t o1 o2 _ _ hg',Result.andThen_ok,run_eql_struct,hb]
 ·simp only[Sem.run_bind,run_eqGuard_agg w .neq t o1 o2 _ _ hg',Result.andThen_ok,run_neq_struct,hb]
theorem lX {t:Nat} {ks:List Kd} (hk:fw P 8 t=some ks) (h:2<=ks.length):mb P t=some true:=by
 obtain⟨a,ha⟩:=sM hk;cases a with
 |true=>exact ha
 |false=>have:=(sZ hk ha).2 rfl;omega
def tH (P:Program) (t:Nat) (x y:Value) (b:Bool):Prop:=
 ∀w o1 o2,(do eqGuard .eql t o1 o2 x y;binOp .eql t x y).run P w= .ok (.bool b) w/\(do eqGuard .neq t o1 o2 x y;binOp .neq t x y).run P w= .ok (.bool !b) w
theorem sO {t:Nat} {x y:Value} {b:Bool} (h1:binOp .eql t x y=(do pure (.bool (<-Op.equal t x y)))) (h2:binOp .neq t x y=(do pure (.bool (!(<-Op.equal t x y)))))
  (hg:∀op w o1 o2,(eqGuard op t o1 o2 x y).run P w= .ok () w) (he:∀d w,(Op.equalIn (d+1) t x y).run P w= .ok b w):tH P t x y b:=by
 intro w o1 o2;have he':(Op.equal t x y).run P w= .ok b w:=he 9999 w;constructor
 ·simp_all
 ·simp_all
theorem Fk {t:Nat} (a b:Bool) (hu:P.underlying t=some .bool):tH P t (.bool a) (.bool b) (FE a b):=
 sO rfl rfl (fun op w o1 o2=>by cases op<;>simp[eqGuard]) (fun d w=>by simp[Op.equalIn,bG w hu,FE])
theorem tf {t e:Nat} (b:Option Addr) (hu:P.underlying t=some (.pointer e)):tH P t (.pointer b) (.pointer none) b.isNone:=
 sO rfl rfl (fun op w o1 o2=>by cases op<;>simp[eqGuard]) (fun d w=>by cases b<;>simp[Op.equalIn,bG w hu])
theorem zn {t:Nat} {p r:Array Nat} {v:Bool} (hu:P.underlying t=some (.func p r v)):tH P t .nilFunc .nilFunc true:=
 sO rfl rfl (fun op w o1 o2=>by cases op<;>simp[eqGuard]) (fun d w=>by simp[Op.equalIn,bG w hu])
theorem DP {t:Nat} {p r:Array Nat} {v:Bool} (f:Fn) (a c:Array Value) (hu:P.underlying t=some (.func p r v)):tH P t (.func f a c) .nilFunc false:=
 sO rfl rfl (fun op w o1 o2=>by cases op<;>simp[eqGuard]) (fun d w=>by simp[Op.equalIn,bG w hu])
theorem Az {t:Nat} (a b:ByteArray):tH P t (.string a) (.string b) (Ax a b):=by
 intro w o1 o2;unfold Ax;rw[<-AK,beq_toListBytes];constructor<;>simp[eqGuard,binOp,Op.stringOp]
theorem yQ {J:Env} {t:Nat} {x y r:V} (h:XU P t x y=some r):∃b,toBool r=some b/\tH P t (den J x) (den J y) b:=by
 unfold XU at h;split at h
 ·rename_i u v;split at h<;>simp only[aa0,reduceCtorEq]at h
  rename_i hc;subst h;simp only[aa2,aa4]at hc;refine⟨_,rfl,fun w o1 o2=>?_⟩
  obtain⟨b,h1,h2,h3⟩:=nC w o1 o2 hc.2 hc.1 (lX hc.2 (by decide)) (x9 u) (x9 v)
  rw[qe]at h3;have:b=yf u v:=Bool.eq_iff_iff.2 (by rw[h3];simp[yf])
  subst this;exact⟨h1,h2⟩
 ·rename_i u v;split at h<;>simp only[aa0,reduceCtorEq]at h
  rename_i hc;subst h;simp only[aa2,aa4]at hc;refine⟨_,rfl,fun w o1 o2=>?_⟩
  obtain⟨b,h1,h2,h3⟩:=nC w o1 o2 hc.2 hc.1 (lX hc.2 (by simp[YA])) (zg u) (zg v)
  rw[rp]at h3;have:b=D4 u v:=Bool.eq_iff_iff.2 (by rw[h3];simp[D4])
  subst this;exact⟨h1,h2⟩
 ·rename_i u v;split at h<;>simp only[aa0,reduceCtorEq]at h
  rename_i hc;subst h;simp only[aa2,aa4]at hc;refine⟨_,rfl,fun w o1 o2=>?_⟩
  obtain⟨b,h1,h2,h3⟩:=nC w o1 o2 hc.2 hc.1 (lX hc.2 (by simp[YL])) (zK u) (zK v)
  rw[qQ]at h3;have:b=Fg u v:=Bool.eq_iff_iff.2 (by rw[h3];simp[Fg])
  subst this;exact⟨h1,h2⟩
 ·rename_i u v;split at h<;>simp only[aa0,reduceCtorEq]at h
  rename_i hc;subst h;simp only[aa2,aa4]at hc;refine⟨_,rfl,fun w o1 o2=>?_⟩
  obtain⟨b,h1,h2,h3⟩:=nC w o1 o2 hc.2 hc.1 (lX hc.2 (by simp[QH])) (C3 u) (C3 v)
  rw[w9]at h3;have:b=CR u v:=Bool.eq_iff_iff.2 (by rw[h3];simp[CR])
  subst this;exact⟨h1,h2⟩
 ·rename_i a b;simp only[aa0]at h;subst h;exact⟨_,rfl,Az _ _⟩
 ·rename_i l m;split at h
  case h_2=>simp at h
  rename_i ks hks;split at h
  case isFalse=>simp at h
  rename_i hc;simp only[aa2,aa4]at hc;split at h<;>simp only[aa0,reduceCtorEq]at h
  rename_i b hb;subst h;obtain⟨ks',g1,g2,g3,g4⟩:=vR J l m b hb;rw[hks]at g1;simp only[aa0]at g1;subst g1;refine⟨_,rfl,fun w o1 o2=>?_⟩
  obtain⟨b',h1,h2,h3⟩:=nC w o1 o2 hc.1.2 hc.1.1 (lX hc.1.2 (Nat.le_of_ble_eq_true hc.2)) g2 g3;have:b'=b:=Bool.eq_iff_iff.2 (by rw[h3,g4])
  subst this;exact⟨h1,h2⟩
 ·split at h<;>simp only[aa0,reduceCtorEq]at h
  rename_i hu;subst h;exact⟨_,rfl,tf none hu⟩
 ·split at h<;>simp only[aa0,reduceCtorEq]at h
  rename_i hu;subst h;exact⟨_,rfl,tf (some _) hu⟩
 ·split at h<;>simp only[aa0,reduceCtorEq]at h
  rename_i hu;subst h;exact⟨_,rfl,by simp only[den];unfold FA;split<;>exact DP _ _ _ hu⟩
 ·split at h<;>simp only[aa0,reduceCtorEq]at h
  rename_i hu;subst h;exact⟨_,rfl,zn hu⟩
 ·split at h
  ·rename_i a b ha hb;split at h<;>simp only[aa0,reduceCtorEq]at h
   rename_i hu;subst h;refine⟨FE a b,by unfold Wa;split<;>rfl,?_⟩
   rw[ej ha,ej hb];exact Fk _ _ hu
  ·simp at h
theorem XG {t:Nat} {x y r:V} {K:Nat->Prop} (h:XU P t x y=some r):ok K r/\cS r=false:=by
 obtain⟨b,hb,_⟩:=yQ (J:=Env.zero) h;cases r<;>simp[toBool]at hb<;>exact⟨trivial,rfl⟩
end
def RM (P:Program) (op:BinOp) (t:Nat) (x y:V):Option (Option Prop×V):=
 match toInt x,toInt y with
 |some (k,a),some (k',b)=>
  if k==k' then
   if xF x&&xF y then
    match Zz op a b with
    |some r=>some (none,.cb r)
    |none=>match GZ op a b with
     |some n=>if bY k n then some (none,.ci k n)else none
     |none=>none
   else match QL op a b with
   |some r=>some (none,.bo r)
   |none=>match arith op k a b with
    |some (p,n)=>some (p,.it k n)
    |none=>none
  else none
 |_,_=>match op with
  | .eql=>(XU P t x y).map fun r=>(none,r)
  | .neq=>match XU P t x y with
    |some r=>match toBool r with
     |some b=>some (none,Wa (S5 r) (QF b))
     |none=>none
    |none=>none
  |_=>none
theorem Kg {P:Program} {J:Env} {K:Nat->Prop} {op:BinOp} {t:Nat} {x y r:V} {p:Option Prop} (w:World) (o1 o2:Operand) (h:RM P op t x y=some (p,r)) (hp:dX p) (hx:ok K x) (hy:ok K y):
  (do eqGuard op t o1 o2 (den J x) (den J y);binOp op t (den J x) (den J y)).run P w= .ok (den J r) w/\ok K r:=by
 unfold RM at h;split at h
 ·rename_i k a k' b ha hb;obtain⟨e1,r1⟩:=en (J:=J) ha hx;obtain⟨e2,r2⟩:=en (J:=J) hb hy;split at h
  ·rename_i hk;have hk:=aa4.1 hk;subst hk;have hgd:∀w,(eqGuard op t o1 o2 (.int k a) (.int k b)).run P w= .ok () w:=fun w=>by cases op<;>simp[eqGuard]
   rw[e1,e2];split at h
   ·split at h
    ·rename_i r hr;simp only[aa0,aa1]at h;obtain⟨_,rfl⟩:=h;rw[Tc]at hr;exact⟨by rw[Sem.run_bind,hgd,Result.andThen_ok,HP t w hr];rfl,trivial⟩
    ·split at h
     ·rename_i n hn;split at h<;>simp only[aa0,aa1,reduceCtorEq]at h
      rename_i hin;obtain⟨_,rfl⟩:=h;exact⟨by rw[Sem.run_bind,hgd,Result.andThen_ok,F7 t w hn hin];rfl,hin⟩
     ·simp at h
   ·split at h
    ·rename_i r hr;simp only[aa0,aa1]at h;obtain⟨_,rfl⟩:=h;exact⟨by rw[Sem.run_bind,hgd,Result.andThen_ok,HP t w hr];rfl,trivial⟩
    ·split at h<;>simp only[aa0,aa1,reduceCtorEq]at h
     rename_i p n hn;obtain⟨rfl,rfl⟩:=h;obtain⟨h1,h2⟩:=JJ (P:=P) t w hn hp;exact⟨by rw[Sem.run_bind,hgd,Result.andThen_ok,h1];rfl,h2⟩
  ·simp at h
 ·split at h
  ·cases he:XU P t x y with
   |none=>simp[he]at h
   |some r'=>
    simp only[he,Option.map_some,aa0,aa1]at h;obtain⟨_,rfl⟩:=h;obtain⟨b,hb,hr⟩:=yQ (J:=J) he;rw[ej hb];exact⟨(hr w o1 o2).1,(XG he).1⟩
  ·cases he:XU P t x y with
   |none=>simp[he]at h
   |some r'=>
    simp only[he]at h;obtain⟨b,hb,hr⟩:=yQ (J:=J) he;simp only[hb,aa0,aa1]at h;obtain⟨_,rfl⟩:=h;rw[Ut];exact⟨(hr w o1 o2).2,Ym⟩
  ·simp at h
def allM {α β:Type} (g:α->Option β):List α->Option (List β)
 | []=>some []
 |x::l=>match g x,allM g l with
  |some y,some ys=>some (y::ys)
  |_,_=>none
theorem qD {α β:Type} {g:α->Option β}:∀{l:List α} {r:List β},allM g l=some r->r.length=l.length
 | [],r,h=>by simp only[allM,aa0]at h;subst h;rfl
 |x::l,r,h=>by
  simp only[allM]at h;split at h
  ·rename_i y ys _ hys;simp only[aa0]at h;subst h;simp[qD hys]
  ·simp at h
theorem py {α β:Type} {g:α->Option β}:∀{l:List α} {r:List β},allM g l=some r->∀(i:Nat) (x:α),l[i]? =some x->∃y,r[i]? =some y/\g x=some y
 | [],r,h,i,x,hx=>by simp at hx
 |a::l,r,h,i,x,hx=>by
  simp only[allM]at h;split at h
  ·rename_i y ys hy hys;simp only[aa0]at h;subst h;cases i with
   |zero=>simp only[List.getElem?_cons_zero,aa0]at hx;subst hx;exact⟨y,rfl,hy⟩
   |succ i=>simp only[List.getElem?_cons_succ]at hx⊢;exact py hys i x hx
  ·simp at h
def asI (k:IntKind):V->Option Int
 | .ci k' n=>if k'==k then some n else none
 | .it k' n=>if k'==k then some n else none
 |_=>none
def U4:V->Option ByteArray
 | .st s=>some s
 |_=>none
def asKey:V->Option Key
 | .key k=>some k
 |_=>none
def VD:V->Option (List V)
 | .ag l=>some l
 |_=>none
def wI (g:List V->Option V) (rows:List (List V)):Nat->Nat->Option (List V)
 |_,0=>some []
 |j,n+1=>match allM (fun m:List V=>m[j]?) rows with
  |none=>none
  |some c=>match g c,wI g rows (j+1) n with
   |some x,some xs=>some (x::xs)
   |_,_=>none
def FZ:Nat->List V->Nat->Option V
 |0,_,_=>none
 |f+1,l,i=>match l with
  | []=>none
  |x::_=>match x with
   | .ci k _=>(allM (asI k) l).map fun ns=> .it k (aj ns i 0)
   | .it k _=>(allM (asI k) l).map fun ns=> .it k (aj ns i 0)
   | .cb _=>(allM toBool l).map fun bs=> .bo (aj bs i false)
   | .bo _=>(allM toBool l).map fun bs=> .bo (aj bs i false)
   | .st _=>(allM U4 l).map fun bs=> .st (aj bs i ByteArray.empty)
   | .key _=>(allM asKey l).map fun bs=> .key (aj bs i void)
   | .ag m=>match allM VD l with
     |none=>none
     |some rows=>if rows.all fun r=>r.length==m.length then(wI (fun c=>FZ f c i) rows 0 m.length).map .ag else none
   |_=>none
def IV (J:Env) (K:Nat->Prop) (r x:V):Prop:=cells J r=cells J x/\jP r=jP x/\ok K r/\cS r=false
theorem QR {α:Type} {l:List α} {i:Nat} {a d:α} (h:l[i]? =some a):l.getD i d=a:=by simp[aa7,h]
theorem xb {J:Env} {K:Nat->Prop} {g:List V->Option V} {i:Nat} {rows:List (List V)} {row:List V} (hrow:rows[i]? =some row)
  (hg:∀c r x,g c=some r->c[i]? =some x->(∀y∈c,ok K y/\cS y=false)->IV J K r x) (hok:∀m∈rows,∀y∈m,ok K y/\cS y=false):
  ∀(n j:Nat) (rs:List V),wI g rows j n=some rs->rs.length=n/\(∀k,k<n->∃r x,rs[k]? =some r/\row[j+k]? =some x/\IV J K r x)
 |0,j,rs,h=>by simp only[wI,aa0]at h;subst h;exact⟨rfl,fun k hk=>absurd hk (by omega)⟩
 |n+1,j,rs,h=>by
  simp only[wI]at h;split at h
  ·simp at h
  ·rename_i c hc;split at h
   ·rename_i x xs hx hxs;simp only[aa0]at h;subst h;obtain⟨h1,h2⟩:=xb hrow hg hok n (j+1) xs hxs;refine⟨by simp[h1],fun k hk=>?_⟩
    cases k with
    |zero=>
     obtain⟨y,hy1,hy2⟩:=py hc i row hrow;refine⟨x,y,rfl,hy2,hg c x y hx hy1 fun z hz=>?_⟩
     obtain⟨q,hq⟩:=List.getElem?_of_mem hz
     have hql:q<rows.length:=by
      grind[qD]
     obtain⟨z',hz1,hz2⟩:=py hc q rows[q] (List.getElem?_eq_getElem hql);rw[hz1]at hq;simp only[aa0]at hq;subst hq;exact hok rows[q] (List.getElem_mem hql) _ (List.mem_of_getElem? hz2)
    |succ k=>
     obtain⟨r,y,e1,e2,e3⟩:=h2 k (by omega)
     exact⟨r,y,by simpa using e1,by rw[<-e2];congr 1;omega,e3⟩
   ·simp at h
theorem Fb {J:Env} {K:Nat->Prop} {k:IntKind} {v:V} {n:Int} (h:asI k v=some n):cells J v= [.int k n]/\jP v=false/\(ok K v->bY k n):=by
 cases v<;>simp[asI]at h
 ·obtain⟨rfl,rfl⟩:=h;exact⟨rfl,rfl,id⟩
 ·obtain⟨rfl,rfl⟩:=h;exact⟨rfl,rfl,id⟩
theorem sB {α:Type} {J:Env} {K:Nat->Prop} {g:V->Option α} {mk:α->V} {d:α} {l:List V} {i:Nat} {r x:V} (h:(allM g l).map (fun ns=>mk (aj ns i d))=some r) (hx:l[i]? =some x)
  (H:∀a,g x=some a->IV J K (mk a) x):IV J K r x:=by
 cases hm:allM g l with
 |none=>simp[hm]at h
 |some ns=>
  simp only[hm,Option.map_some,aa0]at h;subst h;obtain⟨n,hn1,hn2⟩:=py hm i x hx;rw[aj,QR hn1];exact H n hn2
theorem BF {J:Env} {K:Nat->Prop}:∀(a b:List V),a.length=b.length->(∀k,k<a.length->∃r x,a[k]? =some r/\b[k]? =some x/\IV J K r x)->bp J a=bp J b/\fM K a/\tg a
 | [],[],_,_=>⟨rfl,trivial,trivial⟩
 | [],_::_,h,_=>by simp at h
 |_::_,[],h,_=>by simp at h
 |a0::a,b0::b,hb,hh=>by
  obtain⟨r,x,e1,e2,e3⟩:=hh 0 (by simp)
  simp only[List.getElem?_cons_zero,aa0]at e1 e2;subst e1;subst e2
  obtain⟨i1,i2,i3⟩:=BF a b (by simpa using hb) fun k hk=>by
   obtain⟨r,x,e1,e2,e3⟩:=hh (k+1) (by simp;omega)
   exact⟨r,x,by simpa using e1,by simpa using e2,e3⟩
  refine⟨?_,⟨e3.2.2.1,i2⟩,(eF _).2 fun z hz=>?_⟩
  ·simp only[bp,i1];rw[show(den J a0).cells.toList=cells J a0 from rfl,e3.1];rfl
  ·rcases List.mem_cons.1 hz with rfl|hz
   ·exact e3.2.2.2
   ·exact(eF _).1 i3 z hz
theorem AX {J:Env} {K:Nat->Prop} {i:Nat}:∀(f:Nat) (l:List V) (r x:V),FZ f l i=some r->l[i]? =some x->(∀y∈l,ok K y/\cS y=false)->IV J K r x
 |0,_,_,_,h,_,_=>by simp[FZ]at h
 |f+1,[],_,_,h,_,_=>by simp[FZ]at h
 |f+1,y::l,r,x,h,hx,hok=>by
  have hxm:ok K x/\cS x=false:=hok x (List.mem_of_getElem? hx);simp only[FZ]at h;split at h
  ·exact sB h hx fun a ha=>by
    obtain⟨e1,e2,e3⟩:=Fb (J:=J) (K:=K) ha;exact⟨by rw[e1];rfl,e2.symm,e3 hxm.1,rfl⟩
  ·exact sB h hx fun a ha=>by
    obtain⟨e1,e2,e3⟩:=Fb (J:=J) (K:=K) ha;exact⟨by rw[e1];rfl,e2.symm,e3 hxm.1,rfl⟩
  ·exact sB h hx fun a ha=>⟨by unfold cells;rw[ej ha];rfl,by cases x<;>simp[toBool]at ha<;>rfl,trivial,rfl⟩
  ·exact sB h hx fun a ha=>⟨by unfold cells;rw[ej ha];rfl,by cases x<;>simp[toBool]at ha<;>rfl,trivial,rfl⟩
  ·exact sB h hx fun a ha=>by
    cases x<;>simp[U4]at ha
    subst ha;exact⟨rfl,rfl,trivial,rfl⟩
  ·exact sB h hx fun a ha=>by
    cases x<;>simp[asKey]at ha
    subst ha;exact⟨rfl,rfl,hxm.1,rfl⟩
  ·rename_i m;generalize V.ag m::l=L at h hx hok
   split at h
   ·simp at h
   ·rename_i rows hm;split at h
    ·rename_i hlen;cases hc:wI (fun c=>FZ f c i) rows 0 m.length with
     |none=>simp[hc]at h
     |some rs=>
      simp only[hc,Option.map_some,aa0]at h;subst h;obtain⟨row,hr1,hr2⟩:=py hm i x hx;cases x<;>simp[VD]at hr2
      subst hr2;rename_i row
      have hrl:row.length=m.length:=by
       grind
      obtain⟨h1,h2⟩:=xb (J:=J) (K:=K) hr1 (fun c r x hg hc hok=>AX f c r x hg hc hok) (fun q hq z hz=>by
       obtain⟨p,hp⟩:=List.getElem?_of_mem hq
       have hpl:p<L.length:=by
        grind[qD]
       obtain⟨q',hq1,hq2⟩:=py hm p _ (List.getElem?_eq_getElem hpl);rw[hq1]at hp;simp only[aa0]at hp;subst hp;have hk:=hok _ (List.getElem_mem hpl);generalize L[p]=t at hk hq2
       cases t<;>simp[VD]at hq2
       subst hq2;exact⟨(jg _).1 hk.1.1 z hz,(eF _).1 hk.1.2 z hz⟩) m.length 0 rs hc
      obtain⟨c1,c2,c3⟩:=BF (J:=J) (K:=K) rs row (by omega) fun k hk=>by
       simp_all
      exact⟨by rw[fB,fB,c1],rfl,⟨c2,c3⟩,rfl⟩
    ·simp at h
  ·simp at h
def Mh (v:V) (esz n i inner sz:Nat) (a:Bool):Option V:=
 match v with
 | .ag l=>if l.length==n&&l.all (fun x=>fi x==esz)then
   match FZ 4 l i with
   |none=>none
   |some x=>iP 8 x inner sz a
   else none
 |_=>Yp v esz n i inner sz a
theorem BQ (J:Env) {K:Nat->Prop}:∀(l:List V) (esz i:Nat) (x:V),fM K l->(∀y∈l,fi y=esz)->l[i]? =some x->∃p q,bp J l=p++cells J x++q/\p.length=i*esz
 | [],_,_,_,_,_,h=>by simp at h
 |y::l,esz,0,x,hk,hs,h=>by
  simp_all[bp,cells]
 |y::l,esz,i+1,x,hk,hs,h=>by
  simp only[List.getElem?_cons_succ]at h;obtain⟨p,q,h1,h2⟩:=BQ J l esz i x hk.2 (fun z hz=>hs z (by simp[hz])) h
  have hl:=bg J y hk.1;have:=hs y (by simp)
  exact⟨cells J y++p,q,by simp[bp,h1,cells],by simp;rw[Nat.succ_mul];omega⟩
theorem Bz (J:Env) {N:Nat->Prop} {v:V} {esz n i inner sz:Nat} {a:Bool} {r:V} (hv:ok N v) (hi:i<n) (h:Mh v esz n i inner sz a=some r):
  (∃p q,cells J v=p++cells J r++q/\i*esz+inner=p.length)/\fi r=sz/\jP r=a/\ok N r/\cS r=false:=by
 unfold Mh at h;split at h
 ·rename_i l;split at h
  ·rename_i hc;simp only[aa2,aa4,List.all_eq_true]at hc;obtain⟨rfl,hs⟩:=hc;split at h
   ·simp at h
   ·rename_i x hx;have hxl:l[i]? =some l[i]:=List.getElem?_eq_getElem hi;obtain⟨e1,e2,e3,e4⟩:=AX (J:=J) (K:=N) 4 l x _ hx hxl fun y hy=>⟨(jg _).1 hv.1 y hy,(eF _).1 hv.2 y hy⟩
    obtain⟨⟨p,q,h1,h2⟩,h3⟩:=ff J 8 x inner sz a r e3 e4 h;obtain⟨P,Q,f1,f2⟩:=BQ J l esz i _ hv.1 hs hxl;exact⟨⟨P++p,q++Q,by rw[fB,f1,<-e1,h1];simp,by simp;omega⟩,h3⟩
  ·simp at h
 ·exact Jk J hv hi h
def AY (c:V) (off esz n i inner sz:Nat) (a:Bool):Option V:=
 match iP 8 c off (n*esz) true with
 |none=>none
 |some x=>Mh x esz n i inner sz a
theorem Ad (J:Env) {N:Nat->Prop} {c:V} {off esz n i inner sz:Nat} {a:Bool} {r:V} (hc:ok N c) (ht:cS c=false) (hi:i<n) (h:AY c off esz n i inner sz a=some r):
  (∃p q,cells J c=p++cells J r++q/\off+i*esz+inner=p.length)/\fi r=sz/\jP r=a/\ok N r/\cS r=false:=by
 unfold AY at h;cases hx:iP 8 c off (n*esz) true with
 |none=>simp[hx]at h
 |some x=>
  simp only[hx]at h;obtain⟨⟨p,q,h1,h2⟩,_,_,h5,h6⟩:=ff J _ _ _ _ _ _ hc ht hx;obtain⟨⟨p',q',h1',h2'⟩,h3⟩:=Bz J h5 hi h;exact⟨⟨p++p',q'++q,by rw[h1,h1'];simp,by simp;omega⟩,h3⟩
def Ctx.Ko (C:Ctx):Prop:=∀t z,C.Z t=some z->∃i,C.P.info? t=some i/\(∀J,i.zero=some (den J z))/\ok (fun _=>False) z/\cS z=false/\i.size=fi z
theorem fP {K:Nat->Prop} {v:V} (h:ok (fun _=>False) v):ok K v:=dY (fun _ h=>h.elim) v h
section
variable {C:Ctx} {J:Env} {fps:Nat->Nat->Prop} {res:List aK} {K:Nat->Prop} {w0 w:World} {F0:Nat->Prop}
def Af (C:Ctx) (res:List aK) (t:Nat) (p:V):Option (Option Prop×V):=
 match mb C.P t,oZ C.P t with
 |some a,some n=>match p with
  | .lp id off=>match cH res id with
    | .blk _ c=>(iP 8 c off n a).map fun r=>(none,r)
    |_=>none
  | .lx id off esz m i inner=>match cH res id with
    | .blk _ c=>(AY c off esz m i inner n a).map fun r=>(none,r)
    |_=>none
  | .ap id esz i off=>match cH res id with
    | .arr _ esz' l=>if esz==esz' then(iP 8 (l.get i) off n a).map fun r=>(some (Kq i l.len),r)else none
    | .obs _ q L=>if esz==1&&off==0&&n==1&&a==false then some (some (Kq i (ai L)),.op q i)else none
    |_=>none
  | .ax id esz k off sz m i inner=>match cH res id with
    | .arr _ esz' l=>if esz==esz' then(AY (l.get k) off sz m i inner n a).map fun r=>(some (Kq k l.len),r)else none
    |_=>none
  | .op q i=>match cH res q with
    | .gen id=>match cH res id with
      | .obs _ q' L=>if q==q' then(iP 8 (.ob (aj L i free)) 0 n a).map fun r=>(some (Kq i (ai L)),r)else none
      |_=>none
    |_=>none
  |_=>none
 |_,_=>none
theorem vQ {α:Type} {f:Nat->List α} {esz:Nat}:∀{n:Nat},(∀j,j<n->(f j).length=esz)->∀{i k:Nat},i<n->k<esz->((List.range n).flatMap f)[i*esz+k]? =(f i)[k]?
 |0,_,i,k,hi,_=>by omega
 |n+1,h,i,k,hi,hk=>by
  rw[List.range_succ,List.flatMap_append]
  have hlen:((List.range n).flatMap f).length=n*esz:=by
   clear hi hk;induction n with
   |zero=>simp
   |succ n ih=>
    rw[List.range_succ,List.flatMap_append,List.length_append,ih fun j hj=>h j (by omega)]
    simp[h n (by omega),Nat.succ_mul]
  by_cases e:i<n
  ·rw[List.getElem?_append_left (by rw[hlen];have:(i+1)*esz<=n*esz:=Nat.mul_le_mul_right _ e;rw[Nat.succ_mul]at this;omega)]
   exact vQ (fun j hj=>h j (by omega)) e hk
  ·have:i=n:=by omega
   subst this;rw[List.getElem?_append_right (by rw[hlen];omega),hlen]
   simp
theorem la {w:World} {e size n:Nat} {J:Env} {i:Nat} {xs:List Value} (h:w.ownsRow 0 e size (J.sl i) n xs) (hn:0<n):∃g,J.sa i=some ⟨g,0,none⟩/\J.sn i=n/\g<w.heap.size/\∀j,j<n*size->w.cell? ⟨g,j,none⟩=xs[j]? :=by
 have h':=h;rcases h.2 with⟨_,h0⟩|⟨g,cap,cur,h1,h2,h3,h4⟩
 ·omega
 ·have hh:=h1;simp only[Env.sl,Value.slice.injEq]at h1;rw[hh]at h';exact⟨g,h1.1,h1.2.1,(Array.getElem?_eq_some_iff.1 h3).1,fun j hj=>h'.cellAt j hj⟩
theorem ni {id esz:Nat} {own:Option Nat} {l:TL} (h:bq J fps res K w0 F0 w) (hr:cH res id= .arr own esz l) {i:Nat} (hi:i<l.len):
  ok (fun _=>False) (l.get i)/\cS (l.get i)=false/\fi (l.get i)=esz/\∀k,k<esz->w.cell? ⟨(J.adr id).block,(J.adr id).off+(i*esz+k),none⟩=(cells J (l.get i))[k]? :=by
 obtain⟨fp,hh,_⟩:=h.look hr (by simp)
 obtain⟨h1,h2,h3,h4,h5,h6,h7⟩:=hh;obtain⟨g1,g2,g3⟩:=h1 i hi;refine⟨g1,g2,g3,fun k hk=>?_⟩
 have hl:=bg J (l.get i) g1;rcases h7 with⟨_,h7,h8⟩|⟨e,_,e2,e3⟩
 ·have e:=h8 i hi k hk
  have hlt:(J.adr id).block<w0.heap.size:=by
   omega
  rw[<-e];exact World.cell?_of_block (w:=w0) (h.same _ hlt (h7 (by omega)).1)
 ·obtain⟨g,f1,f2,f3,f4⟩:=la e2 (by omega)
  have ha:=h4 _ f1;rw[<-ha];simp only[Nat.zero_add]
  have hlt:i*esz+k<l.len*esz:=by
   have:(i+1)*esz<=l.len*esz:=Nat.mul_le_mul_right _ hi;rw[Nat.succ_mul]at this;omega
  rw[f4 _ hlt];unfold TL.cells;rw[vQ (esz:=esz) (fun j hj=>by rw[bg Env.zero _ (h1 j hj).1];exact(h1 j hj).2.2) hi hk]
  rw[dW (N:=fun _=>False) (J:=J) (ρ':=Env.zero) (fun _ h=>h.elim) _ g1]
theorem OH {id ty q:Nat} {L:List Obj} (h:bq J fps res K w0 F0 w) (hr:cH res id= .obs ty q L) {i:Nat} (hi:i<ai L):
  w.cell? ⟨(J.adr id).block,(J.adr id).off+i,none⟩=some (.pointer (some ⟨J.ob q i,0,none⟩))/\((L.getD i free).wf/\K q)/\∃t,w.heap[J.ob q i]? =some (.cells (eE (L.getD i free)).toArray t (0,0)):=by
 obtain⟨fp,hh,_⟩:=h.look hr (by simp)
 obtain⟨h0,h1,h2,h3,h4,h5,h6,h7⟩:=hh;have hi:i<L.length:=hi;obtain⟨g,f1,f2,f3,f4⟩:=la h6 (by omega)
 have ha:=(h4 _ f1).1;refine⟨?_,?_,(h7 i hi).2⟩
 ·grind
 ·simp_all
theorem ug {t:Nat} {p r:V} {q:Option Prop} (h:bq J fps res K w0 F0 w) (hl:Af C res t p=some (q,r)) (hq:dX q) (hp:ok K p):
  (Instr.loadAt t (den J p)).run C.P w= .ok (den J r) w/\ok K r/\cS r=false:=by
 unfold Af at hl;split at hl
 ·rename_i a n ha hn
  have run:∀b off,(Instr.loadAt t (.pointer (some ⟨b,off,none⟩))).run C.P w=(loadVar t ⟨b,off,none⟩).run C.P w:=fun b off=>by
   simp[Instr.loadAt,Instr.sureAddr]
  split at hl
  ·rename_i id off;split at hl
   ·rename_i ty c hc;cases hg:iP 8 c off n a with
    |none=>simp[hg]at hl
    |some r'=>
     simp only[hg,Option.map_some,aa0,aa1]at hl;obtain⟨_,rfl⟩:=hl;obtain⟨fp,hh,_⟩:=h.look hc (by simp)
     obtain⟨h1,h2,h3,h4⟩:=hh;obtain⟨e1,e2,e3,e4,e5⟩:=ff J 8 c off n a r' h1 h2 hg;refine⟨?_,e4,e5⟩;simp only[den];rw[run];exact oX w e4 e5 (by rw[e3];exact ha) (by rw[e2];exact hn) h4 e1
   ·simp at hl
  ·rename_i id off esz m i inner;split at hl
   ·rename_i ty c hc;cases hg:AY c off esz m i inner n a with
    |none=>simp[hg]at hl
    |some r'=>
     simp only[hg,Option.map_some,aa0,aa1]at hl;obtain⟨_,rfl⟩:=hl;obtain⟨fp,hh,_⟩:=h.look hc (by simp)
     obtain⟨h1,h2,h3,h4⟩:=hh;obtain⟨e1,e2,e3,e4,e5⟩:=Ad J h1 h2 hp.2 hg;refine⟨?_,e4,e5⟩;simp only[den];rw[run];exact oX w e4 e5 (by rw[e3];exact ha) (by rw[e2];exact hn) h4 e1
   ·simp at hl
  ·rename_i id esz i off;split at hl
   ·rename_i own esz' l hc;split at hl
    ·rename_i he;have he:=aa4.1 he;subst he;cases hg:iP 8 (l.get i) off n a with
     |none=>simp[hg]at hl
     |some r'=>
      simp only[hg,Option.map_some,aa0,aa1]at hl;obtain⟨rfl,rfl⟩:=hl;obtain⟨g1,g2,g3,g4⟩:=ni h hc hq;obtain⟨⟨P,Q,f1,f2⟩,e2,e3,e4,e5⟩:=ff J 8 (l.get i) off n a r' g1 g2 hg;have hlr:=bg J r' e4;have hlg:=bg J _ g1;refine⟨?_,fP e4,e5⟩;simp only[den];rw[run];refine lA w e4 e5 (by rw[e3];exact ha) (by rw[e2];exact hn) fun k hk=>?_
      have hk2:off+k<esz:=by
       rw[<-g3,<-hlg,f1];simp;omega
      have:=g4 (off+k) hk2;rw[show(J.adr id).off+(i*esz+off)+k=(J.adr id).off+(i*esz+(off+k)) by omega,this,f1,f2]
      exact j7 P _ Q k (by omega)
    ·simp at hl
   ·rename_i ty q' L hc;split at hl
    ·rename_i hb;simp only[aa2,aa4]at hb;obtain⟨⟨⟨rfl,rfl⟩,rfl⟩,rfl⟩:=hb;simp only[aa0,aa1]at hl;obtain⟨rfl,rfl⟩:=hl;obtain⟨f1,⟨_,f2⟩,_⟩:=OH h hc hq;refine⟨?_,f2,rfl⟩;simp only[den];rw[run]
     have:=lA (P:=C.P) (J:=J) (K:=K) (t:=t) (b:=(J.adr id).block) (off:=(J.adr id).off+(i*1+0)) (r:= .op q' i) w f2 rfl ha hn (fun k hk=>by
      have hk:k<1:=hk;rw[show(J.adr id).off+(i*1+0)+k=(J.adr id).off+i by omega,f1,show k=0 by omega]
      simp[cells,den,Value.cells])
     rw[this];simp only[den]
    ·simp at hl
   ·simp at hl
  ·rename_i id esz k off sz m i inner;split at hl
   ·rename_i own esz' l hc;split at hl
    ·rename_i he;have he:=aa4.1 he;subst he;cases hg:AY (l.get k) off sz m i inner n a with
     |none=>simp[hg]at hl
     |some r'=>
      simp only[hg,Option.map_some,aa0,aa1]at hl;obtain⟨rfl,rfl⟩:=hl;obtain⟨g1,g2,g3,g4⟩:=ni h hc hq;obtain⟨⟨P,Q,f1,f2⟩,e2,e3,e4,e5⟩:=Ad J g1 g2 hp.2 hg;have hlr:=bg J r' e4;have hlg:=bg J _ g1;refine⟨?_,fP e4,e5⟩;simp only[den];rw[run];refine lA w e4 e5 (by rw[e3];exact ha) (by rw[e2];exact hn) fun x hx=>?_
      have hk2:off+i*sz+inner+x<esz:=by
       rw[<-g3,<-hlg,f1];simp;omega
      have:=g4 (off+i*sz+inner+x) hk2;rw[show(J.adr id).off+(k*esz+(off+i*sz+inner))+x=(J.adr id).off+(k*esz+(off+i*sz+inner+x)) by omega,this,f1,f2]
      exact j7 P _ Q x (by omega)
    ·simp at hl
   ·simp at hl
  ·rename_i q0 i;split at hl
   ·split at hl
    ·rename_i ty q' L hc;split at hl
     ·rename_i hqq;have hqq:=aa4.1 hqq;subst hqq;cases hg:iP 8 (.ob (aj L i free)) 0 n a with
      |none=>simp[hg]at hl
      |some r'=>
       simp only[hg,Option.map_some,aa0,aa1]at hl;obtain⟨rfl,rfl⟩:=hl;obtain⟨_,⟨f2,_⟩,t',f3⟩:=OH h hc hq;have hobk:ok (fun _=>False) (.ob (aj L i free)):=f2
       obtain⟨e1,e2,e3,e4,e5⟩:=ff J 8 (.ob (aj L i free)) 0 n a r' hobk rfl hg;refine⟨?_,fP e4,e5⟩;simp only[den];rw[run];exact oX (c:= .ob (aj L i free)) w e4 e5 (by rw[e3];exact ha) (by rw[e2];exact hn) (by rw[jQ];exact f3) e1
     ·simp at hl
    ·simp at hl
   ·simp at hl
  ·simp at hl
 ·simp at hl
def faV (P:Program) (t:Nat) (p:V) (f:Nat):Option V:=
 match P.underlying t with
 |some (.struct fs)=>match fs[f]? with
  |some fd=>match oZ P fd.type with
   |some (_+1)=>match p with
    | .lp id off=>some (.lp id (off+fd.offset))
    | .lx id off esz n i inner=>some (.lx id off esz n i (inner+fd.offset))
    | .ap id esz i off=>some (.ap id esz i (off+fd.offset))
    | .ax id esz k off sz n i inner=>some (.ax id esz k off sz n i (inner+fd.offset))
    |_=>none
   |_=>none
  |none=>none
 |_=>none
theorem PJ {P:Program} {t f:Nat} {p r:V} (hl:faV P t p f=some r) (hp:ok K p):
  (Instr.fieldAt t (den J p) f).run P w= .ok (den J r) w/\ok K r/\cS r=false:=by
 unfold faV at hl;split at hl
 ·rename_i fs hu;split at hl
  ·rename_i fd hf;split at hl
   ·rename_i m hs
    have run:∀b off,(Instr.fieldAt t (.pointer (some ⟨b,off,none⟩)) f).run P w= .ok (.pointer (some ⟨b,off+fd.offset,none⟩)) w:=fun b off=>by
     simp[Instr.fieldAt,bG w hu,hf,Instr.sureAddr,fieldPlace,gF w hs,add_lit]
    split at hl<;>simp only[aa0,reduceCtorEq]at hl<;>subst hl<;>simp only[den]<;>rw[run]
    ·exact⟨rfl,hp,rfl⟩
    ·exact⟨by simp only[Nat.add_assoc],hp,rfl⟩
    ·exact⟨by simp only[Nat.add_assoc],hp,rfl⟩
    ·exact⟨by simp only[Nat.add_assoc],hp,rfl⟩
   ·simp at hl
  ·simp at hl
 ·simp at hl
def inside (j:Int) (n:Nat):Bool:=decide (0<=j)&&decide (j<(n:Int))
def iaV (P:Program) (res:List aK) (t:Nat) (p i:V):Option (Option Prop×V):=
 match toInt i with
 |none=>none
 |some (_,j)=>match P.underlying t with
  |some (.array len e)=>match oZ P e with
   |none=>none
   |some sz=>match p with
    | .lp id off=>if xF i then(if inside j len then some (none,.lp id (off+j.toNat*sz))else none)
      else some (some (YI j len),.lx id off sz len (pH j) 0)
    | .ap id esz k off=>if xF i then(if inside j len then some (none,.ap id esz k (off+j.toNat*sz))else none)
      else some (some (YI j len),.ax id esz k off sz len (pH j) 0)
    | .lx id off esz n k inner=>if xF i&&inside j len then some (none,.lx id off esz n k (inner+j.toNat*sz))else none
    |_=>none
  |some (.slice e)=>match oZ P e with
   |none=>none
   |some sz=>match p with
    | .sa id=>match cH res id with
      | .arr _ esz l=>if esz==sz then some (some (YI j l.len),.ap id esz (pH j) 0)else none
      | .obs _ _ L=>if 1==sz then some (some (YI j (ai L)),.ap id 1 (pH j) 0)else none
      |_=>none
    | .sc id len _=>if xF i then(if inside j len then some (none,.lp id (j.toNat*sz))else none)
      else some (some (YI j len),.lx id 0 sz len (pH j) 0)
    | .ks x z n lo hi=>match x with
      | .lp id off=>if xF i&&inside j (hi-lo)&&z==sz then some (none,.lp id (off+(lo+j.toNat)*sz))else none
      |_=>none
    |_=>none
  |_=>none
theorem lg {P:Program} {t e len sz b off:Nat} {k:IntKind} {j:Int} (w:World) (hu:P.underlying t=some (.array len e)) (hs:oZ P e=some sz) (h0:0<=j) (h1:j<(len:Int)):
  (Instr.indexAt t (.pointer (some ⟨b,off,none⟩)) (.int k j)).run P w= .ok (.pointer (some ⟨b,off+j.toNat*sz,none⟩)) w:=by
 simp[Instr.indexAt,asIntOf,bG w hu,Instr.sureAddr,h0,h1,gF w hs,add_lit]
theorem lF {P:Program} {t e len cap sz:Nat} {a:Addr} {k:IntKind} {j:Int} (w:World) (hu:P.underlying t=some (.slice e)) (hs:oZ P e=some sz) (ha:a.spot=none) (h0:0<=j) (h1:j<(len:Int)):
  (Instr.indexAt t (.slice (some a) len cap) (.int k j)).run P w= .ok (.pointer (some ⟨a.block,a.off+j.toNat*sz,none⟩)) w:=by
 obtain⟨b,o,s⟩:=a;simp only at ha;subst ha;simp[Instr.indexAt,asIntOf,bG w hu,h0,h1,gF w hs,add_lit]
theorem MM {t:Nat} {p i r:V} {q:Option Prop} (h:bq J fps res K w0 F0 w) (hl:iaV C.P res t p i=some (q,r)) (hq:dX q) (hp:ok K p) (hi:ok K i):
  (Instr.indexAt t (den J p) (den J i)).run C.P w= .ok (den J r) w/\ok K r/\cS r=false:=by
 unfold iaV at hl;split at hl
 ·simp at hl
 ·rename_i k j hj;rw[(en (J:=J) hj hi).1];have hin:∀n,inside j n=true->0<=j/\j<(n:Int):=fun n hn=>by simpa[inside]using hn
  split at hl
  ·rename_i len e hu;split at hl
   ·simp at hl
   ·rename_i sz hs;split at hl
    ·split at hl
     ·split at hl<;>simp only[aa0,aa1,reduceCtorEq]at hl
      rename_i hb;obtain⟨_,rfl⟩:=hl;exact⟨by simp only[den];exact lg w hu hs (hin _ hb).1 (hin _ hb).2,hp,rfl⟩
     ·simp only[aa0,aa1]at hl;obtain⟨rfl,rfl⟩:=hl;exact⟨by simp only[den,Nat.add_zero];exact lg w hu hs hq.1 hq.2,⟨hp,by have:=hq.1;have:=hq.2;unfold pH;omega⟩,rfl⟩
    ·split at hl
     ·split at hl<;>simp only[aa0,aa1,reduceCtorEq]at hl
      rename_i hb;obtain⟨_,rfl⟩:=hl;have hb:=hin _ hb;exact⟨by simp only[den];rw[lg w hu hs hb.1 hb.2];simp only[Nat.add_assoc],hp,rfl⟩
     ·simp only[aa0,aa1]at hl;obtain⟨rfl,rfl⟩:=hl;exact⟨by simp only[den,Nat.add_zero];rw[lg w hu hs hq.1 hq.2];simp only[Nat.add_assoc,pH],⟨hp,by have:=hq.1;have:=hq.2;unfold pH;omega⟩,rfl⟩
    ·split at hl<;>simp only[aa0,aa1,reduceCtorEq]at hl
     rename_i hb;obtain⟨_,rfl⟩:=hl;have hb:=hin _ (by simp only[aa2]at hb;exact hb.2)
     exact⟨by simp only[den];rw[lg w hu hs hb.1 hb.2];simp only[Nat.add_assoc],hp,rfl⟩
    ·simp at hl
  ·rename_i e hu;split at hl
   ·simp at hl
   ·rename_i sz hs;split at hl
    ·rename_i id;split at hl
     ·rename_i own esz l hc;split at hl<;>simp only[aa0,aa1,reduceCtorEq]at hl
      rename_i he;have he:=aa4.1 he;obtain⟨rfl,rfl⟩:=hl;subst he;obtain⟨fp,hh,_⟩:=h.look hc (by simp)
      obtain⟨h1,h2,_,h3,h4,h5,h7⟩:=hh;have h5:=h5 (by have:=hq.1;have:=hq.2;omega)
      obtain⟨hq1,hq2⟩:=hq;have hn:=h4 (by omega)
      cases ha:J.sa id with
      |none=>rw[ha]at hn;simp at hn
      |some a=>
       have:=h3 a ha;refine⟨?_,hp,rfl⟩;simp only[den,ha,h2];subst this;rw[lF w hu hs h5 hq1 hq2];simp[pH]
     ·rename_i ty q' L hc;split at hl<;>simp only[aa0,aa1,reduceCtorEq]at hl
      rename_i he;have he:=aa4.1 he;obtain⟨rfl,rfl⟩:=hl;subst he;obtain⟨fp,hh,_⟩:=h.look hc (by simp)
      obtain⟨_,h1,h2,h3,h4,h5,h6,h7⟩:=hh;obtain⟨hq1,hq2⟩:=hq;have hq2:j<(L.length:Int):=hq2;obtain⟨g,f1,f2,f3,f4⟩:=la h6 (by omega)
      have hadr:=(h4 _ f1).1;refine⟨?_,hp,rfl⟩;simp only[den,f1,h2];rw[lF w hu hs rfl hq1 hq2,<-hadr];simp[pH]
     ·simp at hl
    ·split at hl
     ·split at hl<;>simp only[aa0,aa1,reduceCtorEq]at hl
      rename_i hb;obtain⟨_,rfl⟩:=hl;refine⟨?_,hp,rfl⟩;simp only[den];rw[lF w hu hs rfl (hin _ hb).1 (hin _ hb).2];simp
     ·simp only[aa0,aa1]at hl;obtain⟨rfl,rfl⟩:=hl;refine⟨?_,⟨hp,by have:=hq.1;have:=hq.2;unfold pH;omega⟩,rfl⟩
      simp only[den];rw[lF w hu hs rfl hq.1 hq.2];simp[pH]
    ·rename_i p z n lo hi;split at hl
     case h_2=>simp at hl
     rename_i id off;split at hl<;>simp only[aa0,aa1,reduceCtorEq]at hl
     rename_i hc;simp only[aa2,aa4]at hc;obtain⟨⟨_,hin'⟩,rfl⟩:=hc;obtain⟨_,rfl⟩:=hl;obtain⟨j0,j1⟩:=hin _ hin';obtain⟨hp1,hp2,hp3⟩:=hp;refine⟨?_,hp1,rfl⟩;simp only[den,xc];rw[aa8 (by omega),add_lit,lF w hu hs rfl j0 j1]
     simp only[Nat.add_mul,Nat.add_assoc]
    ·simp at hl
  ·simp at hl
theorem rD {P:Program} {t off:Nat} {cs:List Value} {r:V} (hr:ok K r) (ht:cS r=false) (ha:mb P t=some (jP r)) (hs:oZ P t=some (fi r))
  (hp:∃p q,cs=p++cells J r++q/\off=p.length):(part t cs.toArray off).run P w= .ok (den J r) w:=by
 obtain⟨p,q,rfl,rfl⟩:=hp;have hl:=bg J r hr;unfold part;rw[Sem.run_bind,sj w ha,pT J hr ht];cases hag:Sx.jP r with
 |true=>
  simp only[Result.andThen_ok,if_true,Sem.run_bind,gF w hs,Sem.run_pure,jV];congr 2
  apply Array.ext'
  rw[<-hl];simp[List.extract_eq_take_drop]
 |false=>
  have h1:fi r=1:=by
   grind[ou,cells,dT]
  have hlt:0<(cells J r).length:=by omega
  have:=j7 p (cells J r) q 0 hlt;simp only[Nat.add_zero]at this;simp only[Result.andThen_ok,Bool.false_eq_true,if_false,List.getElem?_toArray,this,List.getElem?_eq_getElem hlt,Sem.run_pure,jV];congr 1
  simp[aa7,List.getElem?_eq_getElem hlt]
theorem ym {x:V} (hx:ok K x) (ha:jP x=true):den J x= .agg (cells J x).toArray:=by
 have ht:cS x=false:=by cases x<;>simp_all[jP,cS]
 rw[pT J hx ht,ha];rfl
def fdV (P:Program) (t:Nat) (x:V) (f:Nat):Option V:=
 match P.underlying t with
 |some (.struct fs)=>match fs[f]? with
  |some fd=>match mb P fd.type,oZ P fd.type with
   |some a,some n=>if jP x then iP 8 x fd.offset n a else none
   |_,_=>none
  |none=>none
 |_=>none
theorem L2 {P:Program} {t f:Nat} {x r:V} (hl:fdV P t x f=some r) (hx:ok K x):
  (Instr.field t (den J x) f).run P w= .ok (den J r) w/\ok K r/\cS r=false:=by
 unfold fdV at hl;split at hl
 ·rename_i fs hu;split at hl
  ·rename_i fd hf;split at hl
   ·rename_i a n ha hn;split at hl
    ·rename_i hag;have ht:cS x=false:=by cases x<;>simp_all[jP,cS]
     obtain⟨e1,e2,e3,e4,e5⟩:=ff J 8 x fd.offset n a r hx ht hl;refine⟨?_,e4,e5⟩;rw[ym hx hag];simp only[Instr.field,Sem.run_bind,bG w hu,Result.andThen_ok,hf,asAgg,Sem.run_pure];exact rD e4 e5 (by rw[e3];exact ha) (by rw[e2];exact hn) e1
    ·simp at hl
   ·simp at hl
  ·simp at hl
 ·simp at hl
def ixV (P:Program) (t:Nat) (x i:V):Option (Option Prop×V):=
 match toInt i with
 |none=>none
 |some (_,j)=>match P.underlying t with
  |some (.array len e)=>match mb P e,oZ P e with
   |some a,some sz=>if jP x then
    if xF i then(if inside j len then(iP 8 x (j.toNat*sz) sz a).map fun r=>(none,r)else none)
    else(Mh x sz len (pH j) 0 sz a).map fun r=>(some (YI j len),r)
    else none
   |_,_=>none
  |_=>none
theorem L0 {P:Program} {t:Nat} {x i r:V} {q:Option Prop} (hl:ixV P t x i=some (q,r)) (hq:dX q) (hx:ok K x) (hi:ok K i):
  (Instr.index t (den J x) (den J i)).run P w= .ok (den J r) w/\ok K r/\cS r=false:=by
 unfold ixV at hl;split at hl
 ·simp at hl
 ·rename_i k j hj;rw[(en (J:=J) hj hi).1];split at hl
  ·rename_i len e hu;split at hl
   ·rename_i a sz ha hs;split at hl
    ·rename_i hag;have ht:cS x=false:=by cases x<;>simp_all[jP,cS]
     have run:0<=j->j<(len:Int)->(Instr.index t (den J x) (.int k j)).run P w=(part e (cells J x).toArray (j.toNat*sz)).run P w:=fun h0 h1=>by
      rw[ym hx hag];simp[Instr.index,asIntOf,bG w hu,h0,h1,gF w hs]
     split at hl
     ·split at hl
      ·rename_i hb;have hb:0<=j/\j<(len:Int):=by simpa[inside]using hb
       cases hg:iP 8 x (j.toNat*sz) sz a with
       |none=>simp[hg]at hl
       |some r'=>
        simp only[hg,Option.map_some,aa0,aa1]at hl;obtain⟨_,rfl⟩:=hl;obtain⟨e1,e2,e3,e4,e5⟩:=ff J 8 x _ sz a r' hx ht hg;refine⟨?_,e4,e5⟩;rw[run hb.1 hb.2];exact rD e4 e5 (by rw[e3];exact ha) (by rw[e2];exact hs) e1
      ·simp at hl
     ·cases hg:Mh x sz len (pH j) 0 sz a with
      |none=>simp[hg]at hl
      |some r'=>
       simp only[hg,Option.map_some,aa0,aa1]at hl;obtain⟨rfl,rfl⟩:=hl;have h0:=hq.1;have h1:=hq.2;obtain⟨e1,e2,e3,e4,e5⟩:=Bz J hx (by unfold pH;omega) hg
       refine⟨?_,e4,e5⟩;rw[run h0 h1];simp only[Nat.add_zero]at e1;exact rD e4 e5 (by rw[e3];exact ha) (by rw[e2];exact hs) e1
    ·simp at hl
   ·simp at hl
  ·simp at hl
def UX (n:Int):UInt8:=UInt8.ofNat n.toNat
theorem Rt {n:Int} (h:bY .u8 n):((UX n).toNat:Int)=n:=by
 obtain⟨h0,h1⟩:=h;unfold UX;rw[UInt8.toNat_ofNat'];omega
def cvV (P:Program) (s d:Nat) (x:V):Option (Option Prop×V):=
 match P.underlying s,P.underlying d with
 |some _,some (.int k')=>match toInt x with
  |some (k,n)=>if k==k' then some (none,x)else if xF x then(if bY k' n then some (none,.ci k' n)else none)else if k'== .u8 then some (some (aF .u8 n),.bt (UX n))else some (some (aF k' n),.it k' n)
  |none=>none
 |some .string,some .string=>match x with
  | .st b=>some (none,.st b)
  |_=>none
 |_,_=>none
theorem Qn {P:Program} {s d:Nat} {x r:V} {q:Option Prop} (hl:cvV P s d x=some (q,r)) (hq:dX q) (hx:ok K x):
  (convert s d (den J x)).run P w= .ok (den J r) w/\ok K r/\cS r=false:=by
 unfold cvV at hl;split at hl
 ·rename_i u k' h1 h2;split at hl
  ·rename_i k n hx';obtain⟨e1,e2⟩:=en (J:=J) hx' hx;split at hl
   ·rename_i hk;have hk:=aa4.1 hk;subst hk;simp only[aa0,aa1]at hl;obtain⟨_,rfl⟩:=hl;refine⟨?_,hx,by cases x<;>first|rfl| (simp[toInt]at hx')⟩
    rw[e1];simp[convert,bG w h1,bG w h2,Conv.intToInt,lJ e2]
   ·split at hl
    ·split at hl<;>simp only[aa0,aa1,reduceCtorEq]at hl
     rename_i hin;obtain⟨_,rfl⟩:=hl;refine⟨?_,hin,rfl⟩;rw[e1];simp[convert,bG w h1,bG w h2,Conv.intToInt,lJ hin,den]
    ·split at hl
     ·rename_i hk8;have hk8:=aa4.1 hk8;subst hk8;simp only[aa0,aa1]at hl;obtain⟨rfl,rfl⟩:=hl;refine⟨?_,trivial,rfl⟩;rw[e1];simp[convert,bG w h1,bG w h2,Conv.intToInt,lJ (show bY .u8 n from hq),den,Rt (show bY .u8 n from hq)]
     ·simp only[aa0,aa1]at hl;obtain⟨rfl,rfl⟩:=hl;refine⟨?_,hq,rfl⟩;rw[e1];simp[convert,bG w h1,bG w h2,Conv.intToInt,lJ (show bY k' n from hq),den]
  ·simp at hl
 ·rename_i h1 h2;split at hl<;>simp only[aa0,aa1,reduceCtorEq]at hl
  obtain⟨_,rfl⟩:=hl;refine⟨?_,trivial,rfl⟩;simp[den,convert,bG w h1,bG w h2]
 ·simp at hl
end
theorem wZ (off:Nat):∀(l:List Value) (k:Nat) (cur:Array Value),off+k+l.length<=cur.size->
  ((l.zipIdx k).foldl (fun(cs:Array Value) (x:Value×Nat)=>cs.setIfInBounds (off+x.2) x.1) cur).toList=cur.toList.take (off+k)++l++cur.toList.drop (off+k+l.length)
 | [],k,cur,_=>by simp
 |v::l,k,cur,h=>by
  simp only[List.length_cons]at h;simp only[List.zipIdx_cons,List.foldl_cons];rw[wZ off l (k+1) _ (by simp;omega)]
  have e:=list_seg_step cur.toList (off+k) v l (by simp;omega)
  simpa[Array.toList_setIfInBounds,Nat.add_assoc,Nat.add_comm 1]using e
def nS (place:Nat->Option (Nat×Nat)):V->List (Nat×V)->Option V
 |z,[]=>some z
 |z,(i,y)::l=>match place i with
  |none=>none
  |some (off,size)=>if fi y==size&& !cS y then
   match setAt 8 z off y with
   |none=>none
   |some z'=>nS place z' l
   else none
theorem mi {J:Env} {K:Nat->Prop} (place:Nat->Option (Nat×Nat)):∀(l:List (Nat×V)) (z r:V),nS place z l=some r->ok K z->cS z=false->(∀p∈l,ok K p.2)->
  Instr.fill place (cells J z).toArray (l.map fun p=>(p.1,den J p.2))=some (cells J r).toArray/\ok K r/\cS r=false/\jP r=jP z/\(cells J r).length=(cells J z).length
 | [],z,r,h,hz,ht,_=>by
   simp only[nS,aa0]at h;subst h;exact⟨rfl,hz,ht,rfl,rfl⟩
 | (i,y)::l,z,r,h,hz,ht,hl=>by
   simp only[nS]at h;split at h
   ·simp at h
   ·rename_i off size hp;split at h
    ·rename_i hc;simp only[aa2,aa4,Bool.not_eq_true']at hc;obtain⟨hs,hty⟩:=hc;split at h
     ·simp at h
     ·rename_i z' hz';have hy:ok K y:=hl (i,y) (by simp)
      have hput:=iy J y hy hty 8 z off z' hz ht hz';have hsz:=hput.size hy;obtain⟨⟨p,m,q,e1,e2,e3,e4⟩,e5,e6,e7⟩:=hput;obtain⟨f1,f2,f3,f4,f5⟩:=mi place l z' r h e6 e7 fun p hp=>hl p (by simp[hp])
      have hly:=bg J y hy;have hcs:(den J y).cells.size=size:=by rw[<-hs,<-hly];simp[cells]
      refine⟨?_,f2,f3,f4.trans e5,f5.trans hsz⟩;simp only[List.map_cons,Instr.fill,hp]
      have hbound:¬((den J y).cells.size≠size||off+(den J y).cells.size>(cells J z).toArray.size)=true:=by
       simp[hcs,e1];omega
      rw[aa8 hbound,<-f1];congr 1
      apply Array.ext'
      have hsp:=wZ off (den J y).cells.toList 0 (cells J z).toArray (by simp[hcs,e1];omega)
      simp only[Nat.add_zero]at hsp;rw[<-Array.foldl_toList,Array.toList_zipIdx];refine hsp.trans ?_;simp only[Array.length_toList,hcs];rw[show(den J y).cells.toList=cells J y from rfl,e2,e1];subst e3
      rw[show List.take p.length (p++m++q)=p by simp,show List.drop (p.length+size) (p++m++q)=q by
       rw[<-hs,<-e4,<-List.length_append,List.drop_left]]
    ·simp at h
def Dm (P:Program) (fs:Array Field) (i:Nat):Option (Nat×Nat):=
 match fs[i]? with
 |none=>none
 |some f=>match oZ P f.type with
  |none=>none
  |some n=>some (f.offset,n)
def LX (P:Program) (fs:Array Field):Bool:=fs.toList.all fun f=>(oZ P f.type).isSome
def Dp (C:Ctx) (t:Nat) (parts:List (Nat×V)):Option V:=
 match C.Z t with
 |none=>none
 |some z=>if jP z then
  match C.P.underlying t with
  |some (.struct fs)=>if LX C.P fs then nS (Dm C.P fs) z parts else none
  |some (.array _ e)=>match oZ C.P e with
   |none=>none
   |some n=>nS (fun i=>some (i*n,n)) z parts
  |_=>none
  else none
section
variable {C:Ctx} {J:Env} {K:Nat->Prop} {w:World}
theorem rB {t:Nat} {z:V} (hC:C.Ko) (h:C.Z t=some z):(zeroValue t).run C.P w= .ok (den J z) w:=by
 obtain⟨i,h1,h2,_⟩:=hC t z h;simp[zeroValue,typeInfo,h1,h2 J]
theorem D0 {P:Program} {α β:Type} (g:α->Sem β) (f:α->β) (w:World):∀(l:List α),(∀x∈l,(g x).run P w= .ok (f x) w)->(l.mapM g).run P w= .ok (l.map f) w
 | [],_=>by simp
 |x::l,h=>by
  simp_all[D0]
theorem rF {t:Nat} {parts:List (Nat×V)} {r:V} (hC:C.Ko) (h:Dp C t parts=some r) (hp:∀p∈parts,ok K p.2):
  (Instr.build t (parts.map fun p=>(p.1,den J p.2)).toArray).run C.P w= .ok (den J r) w/\ok K r/\cS r=false:=by
 unfold Dp at h;split at h
 ·simp at h
 ·rename_i z hz;obtain⟨i,h1,h2,h3,h4,h5⟩:=hC t z hz;split at h
  ·rename_i hag;have hz0:=rB (C:=C) (J:=J) (w:=w) hC hz;split at h
   ·rename_i fs hu;split at h
    ·rename_i hfs;obtain⟨f1,f2,f3,f4,_⟩:=mi (J:=J) (K:=K) _ parts z r h (fP h3) h4 hp;refine⟨?_,f2,f3⟩;simp only[Instr.build,Sem.run_bind,hz0,Result.andThen_ok,bG w hu]
     have hm:(fs.mapM fun f=>do pure (f.offset,<-sizeOf f.type):Sem (Array (Nat×Nat))).run C.P w= .ok (fs.map fun f=>(f.offset,C.P.cellsOf f.type)) w:=by
      rw[Array.mapM_eq_mapM_toList];simp only[Sem.run_map]
      rw[D0 _ (fun f:Field=>(f.offset,C.P.cellsOf f.type)) w fs.toList fun f hf=>by
       have:=List.all_eq_true.1 hfs f hf;cases hs:oZ C.P f.type with
       |none=>simp[hs]at this
       |some n=>
        have e:C.P.cellsOf f.type=n:=by
         unfold oZ at hs;simp[Program.cellsOf,hs]
        simp[gF w hs,e]]
      simp only[Result.andThen_ok];congr 1
      apply Array.ext'
      simp
     rw[hm];simp only[Result.andThen_ok]
     have hpl:(fun i=>(fs.map fun f=>(f.offset,C.P.cellsOf f.type))[i]?)=Dm C.P fs:=by
      funext i
      unfold Dm;rw[Array.getElem?_map];cases hi:fs[i]? with
      |none=>simp
      |some f=>
       have hmem:f∈fs.toList:=by
        grind
       have:=List.all_eq_true.1 hfs f hmem;cases hs:oZ C.P f.type with
       |none=>simp[hs]at this
       |some n=>
        have e:C.P.cellsOf f.type=n:=by
         unfold oZ at hs;simp[Program.cellsOf,hs]
        simp[hs,e]
     rw[hpl];have hcz:(den J z).cells=(cells J z).toArray:=by simp[cells]
     rw[hcz,f1];simp only[Sem.run_pure];rw[ym f2 (f4.trans hag)]
    ·simp at h
   ·rename_i e hu;split at h
    ·simp at h
    ·rename_i m hm;obtain⟨f1,f2,f3,f4,_⟩:=mi (J:=J) (K:=K) _ parts z r h (fP h3) h4 hp;refine⟨?_,f2,f3⟩;simp only[Instr.build,Sem.run_bind,hz0,Result.andThen_ok,bG w hu,gF w hm];have hcz:(den J z).cells=(cells J z).toArray:=by simp[cells]
     rw[hcz,f1];simp only[Sem.run_pure];rw[ym f2 (f4.trans hag)]
   ·simp at h
  ·simp at h
def Ze (C:Ctx) (t n:Nat) (parts:List (Nat×V)) (nid:Nat):Option (V×List aK):=
 match C.P.underlying t with
 |some (.slice e)=>match C.Z e with
  |none=>none
  |some z=>if decide (n*fi z<=16777216)then
   match nS (fun i=>some (i*fi z,fi z)) (.ag (List.replicate n z)) parts with
   |none=>none
   |some c=>some (.sc nid n n,[.blk e c])
   else none
 |_=>none
theorem o8 (z:V):∀n,bp J (List.replicate n z)=(List.replicate n (cells J z)).flatten
 |0=>rfl
 |n+1=>by simp only[List.replicate_succ,bp,List.flatten_cons,o8 z n];rfl
theorem jW {α:Type} (l:List α) (hl:0<l.length):∀(n i:Nat),i<n*l.length->(List.replicate n l).flatten[i]? =l[i%l.length]?
 |0,i,h=>by omega
 |n+1,i,h=>by
  rw[List.replicate_succ,List.flatten_cons];rw[Nat.succ_mul]at h;by_cases hi:i<l.length
  ·rw[List.getElem?_append_left hi,Nat.mod_eq_of_lt hi]
  ·rw[List.getElem?_append_right (by omega),jW l hl n _ (by omega),<-Nat.mod_eq_sub_mod (by omega)]
theorem wQ (z:Array Value) (n:Nat):((Array.range (n*z.size)).map fun i=>z[i%z.size]!)=((List.replicate n z.toList).flatten).toArray:=by
 apply Array.ext'
 apply List.ext_getElem?
 intro i;by_cases hz:z.size=0
 ·simp_all
 ·by_cases hi:i<n*z.size
  ·have:=jW z.toList (by simpa using Nat.pos_of_ne_zero hz) n i (by simpa using hi)
   rw[show((List.replicate n z.toList).flatten).toArray.toList=(List.replicate n z.toList).flatten from rfl,this];have hm:i%z.size<z.size:=Nat.mod_lt _ (Nat.pos_of_ne_zero hz);simp[hi,hm]
  ·simp_all
theorem Ps {t n nid:Nat} {parts:List (Nat×V)} {r:V} {new:List aK} {w0:World} {F0:Nat->Prop} (hC:C.Ko) (h:Ze C t n parts nid=some (r,new)) (hp:∀p∈parts,ok K p.2) (hn:¬K nid):
  ∃w' ρ',(Instr.buildSlice t n (parts.map fun p=>(p.1,den J p.2)).toArray).run C.P w= .ok (den ρ' r) w'/\n9 K J ρ' nid new w0 F0 w w'/\ok (fun i=>K i\/fresh nid new.length i) r/\(∀k,k<new.length->ay new k≠ .yet):=by
 unfold Ze at h;split at h
 ·rename_i e hu;split at h
  ·simp at h
  ·rename_i z hz;obtain⟨i,h1,h2,h3,h4,h5⟩:=hC e z hz;split at h
   ·rename_i hle;have hle:n*fi z<=16777216:=by simpa using hle
    split at h
    ·simp at h
    ·rename_i c hc;simp only[aa0,aa1]at h;obtain⟨rfl,rfl⟩:=h;have hzok:ok K (.ag (List.replicate n z)):=⟨(jg _).2 fun x hx=>by rw[List.eq_of_mem_replicate hx];exact fP h3,(eF _).2 fun x hx=>by rw[List.eq_of_mem_replicate hx];exact h4⟩
     obtain⟨f1,f2,f3,f4,_⟩:=mi (J:=J) (K:=K) _ parts _ c hc hzok rfl hp;refine⟨w.alloc (.cells (cells J c).toArray e),J.bT nid w.heap.size,?_,n9.alloc f2 f3 hn,?_,?_⟩
     ·have hs:oZ C.P e=some (fi z):=by simp[oZ,h1,h5]
      have hz0:=rB (C:=C) (J:=J) (w:=w) hC hz;have hzc:(den J z).cells.size=fi z:=by rw[<-bg J z h3];simp[cells]
      simp only[Instr.buildSlice,Sem.run_bind,bG w hu,Result.andThen_ok,gF w hs,Sem.run_ite];rw[aa8 (by omega)]
      simp only[Sem.run_pure,Result.andThen_ok]
      have key:∀zz:Array Value,(n*fi z=0\/zz=(den J z).cells)->((Array.range (n*fi z)).map fun x=>zz[x%zz.size]!)=(cells J (.ag (List.replicate n z))).toArray:=by
       grind[fB,o8,cells,bg,wQ]
      by_cases h0:n*fi z=0
      ·rw[aa9 h0];rw[key #[] (.inl h0),f1];simp only[Sem.run_bind,newRow,run_newObj_alloc,Result.andThen_ok,Sem.run_pure];simp[den,Env.bT]
      ·rw[aa8 h0];simp only[hz0,Result.andThen_ok];rw[key _ (.inr rfl),f1];simp only[Sem.run_bind,newRow,run_newObj_alloc,Result.andThen_ok,Sem.run_pure];simp[den,Env.bT]
     ·exact .inr ⟨Nat.le_refl _,by simp⟩
     ·simp_all[ay]
   ·simp at h
 ·simp at h
end
end Go.Sx
