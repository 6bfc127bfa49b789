import Derived.Test.YtlblcfaclmpekaaGreatMa1
import Derived.MapKept
import Derived.Carry
import Derived.Laws.AppendOwn
import Derived.Laws.BytesString
import Derived.Laws.CopyRow
import Derived.DefersIn
import Derived.ArgAppend
set_option linter.unusedSimpArgs false
set_option linter.unusedVariables false
namespace Go.Sx
open Go.RowKit (Below)
theorem oD {K:Nat->Prop} {v:V} {k:IntKind} {n:Int} (h:toInt v=some (k,n)):(∀J,cells J (.it k n)=cells J v)/\(ok K v->ok (fun _=>False) (.it k n))/\fi (V.it k n)=fi v:=by
 cases v<;>simp only[toInt,aa0,aa1,reduceCtorEq]at h<;>obtain⟨rfl,rfl⟩:=h
 ·exact⟨fun _=>rfl,fun h=>h,rfl⟩
 ·exact⟨fun _=>rfl,fun h=>h,rfl⟩
 ·rename_i b;refine⟨fun _=>rfl,fun _=>?_,rfl⟩
  have:=b.toNat_lt;simp only[ok,bY,Ux];omega
theorem m7 {v:V} {b:Bool} (h:toBool v=some b):(∀J,cells J (.bo b)=cells J v)/\fi (V.bo b)=fi v:=by
 cases v<;>simp only[toBool,aa0,reduceCtorEq]at h<;>subst h<;>exact⟨fun _=>rfl,rfl⟩
def ur {α:Type} (n:Nat) (x:α):List α:=List.replicate n x
def Vn (n m:Int) (b:Nat):Prop:=m=n/\0<=n/\n<=9223372036854775807/\n*b<=281474976710656
def KK (n:Nat) (v:V):Option TL:=
 match v with
 | .ob o=>some (.ob (ur n o))
 | .key k=>some (.key (ur n k))
 | .st s=>some (.st (ur n s))
 |_=>match toInt v with
  |some (k,i)=>some (.it k (ur n i))
  |none=>match toBool v with
   |some b=>some (.bo (ur n b))
   |none=>none
theorem rq {α:Type} {n i:Nat} (x d:α) (h:i<n):aj (ur n x) i d=x:=by
 simp[aj,ur,aa7,h]
theorem qZ {α:Type} (n:Nat) (x:α):ai (ur n x)=n:=by simp[ai,ur]
theorem F6 {K:Nat->Prop} {n:Nat} {v:V} {l:TL} (h:KK n v=some l):
  l.len=n/\∀i,i<n->(∀J,cells J (l.get i)=cells J v)/\(ok K v->ok (fun _=>False) (l.get i))/\cS (l.get i)=false/\fi (l.get i)=fi v:=by
 unfold KK at h;split at h
 ·rename_i x;simp only[aa0]at h;subst h;exact⟨qZ _ _,fun i hi=>by rw[show(TL.ob (ur n x)).get i=V.ob x from congrArg V.ob (rq x free hi)];exact⟨fun _=>rfl,fun h=>h,rfl,rfl⟩⟩
 ·rename_i x;simp only[aa0]at h;subst h;exact⟨qZ _ _,fun i hi=>by rw[show(TL.key (ur n x)).get i=V.key x from congrArg V.key (rq x void hi)];exact⟨fun _=>rfl,fun h=>h,rfl,rfl⟩⟩
 ·rename_i x;simp only[aa0]at h;subst h;exact⟨qZ _ _,fun i hi=>by rw[show(TL.st (ur n x)).get i=V.st x from congrArg V.st (rq x ByteArray.empty hi)];exact⟨fun _=>rfl,fun h=>h,rfl,rfl⟩⟩
 ·split at h
  ·rename_i k i hki;simp only[aa0]at h;subst h;obtain⟨c1,c2,c3⟩:=oD (K:=K) hki;exact⟨qZ _ _,fun j hj=>by rw[show(TL.it k (ur n i)).get j=V.it k i from congrArg (V.it k) (rq i 0 hj)];exact⟨c1,c2,rfl,c3⟩⟩
  ·split at h
   ·rename_i b hb;simp only[aa0]at h;subst h;obtain⟨c1,c2⟩:=m7 hb;exact⟨qZ _ _,fun j hj=>by rw[show(TL.bo (ur n b)).get j=V.bo b from congrArg V.bo (rq b false hj)];exact⟨c1,fun _=>trivial,rfl,c2⟩⟩
   ·simp at h
theorem BA (z:Array Value):∀n:Nat,(madeCells z (n*z.size)).toList=(List.range n).flatMap fun _=>z.toList
 |0=>by simp[madeCells]
 |n+1=>by
  rw[List.range_succ,List.flatMap_append,<-BA z n];simp only[List.flatMap_cons,List.flatMap_nil,List.append_nil];apply List.ext_getElem?
  intro j;rw[List.getElem?_append];simp only[Array.length_toList,size_madeCells];by_cases h1:j<n*z.size
  ·rw[aa9 h1];have h2:j<(n+1)*z.size:=Nat.lt_of_lt_of_le h1 (Nat.mul_le_mul_right _ (Nat.le_succ n));simp[madeCells,h1,h2]
  ·rw[aa8 h1];have e:(n+1)*z.size=n*z.size+z.size:=Nat.succ_mul _ _;by_cases h2:j<(n+1)*z.size
   ·have hk:j-n*z.size<z.size:=by omega
    have hm:j%z.size=j-n*z.size:=by
     have:j=(j-n*z.size)+z.size*n:=by rw[Nat.mul_comm z.size n];omega
     conv=>lhs;rw[this]
     rw[Nat.add_mul_mod_self_left,Nat.mod_eq_of_lt hk]
    simp[madeCells,h2,hk,hm]
   ·simp[madeCells,h2];omega
def E6 (C:Ctx) (nid t:Nat) (a b:V):Option (Option Prop×V×List aK):=
 match C.P.underlying t with
 |some (.slice e)=>match C.Z e,C.P.info? e with
  |some z,some inf=>match toInt a,toInt b with
   |some (_,n),some (_,m)=>match KK (pH n) z with
    |some l=>some (some (Vn n m inf.bytes),.sa nid,[.arr (some e) (fi z) l])
    |none=>none
   |_,_=>none
  |_,_=>none
 |_=>none
def Env.setRow (J:Env) (i:Nat) (a:Addr) (n:Nat):Env:=
 {num:=J.num,cap:=fun j=>if j=i then n else J.cap j,adr:=fun j=>if j=i then a else J.adr j,sa:=fun j=>if j=i then some a else J.sa j,sn:=fun j=>if j=i then n else J.sn j,ob:=J.ob}
theorem Cy {N:Nat->Prop} (J:Env) {i:Nat} {a:Addr} {n:Nat} (h:¬N i):Env.bE N J (J.setRow i a n):=fun j hj=>by
 have e1:j≠i:=fun e=>h (e▸hj)
 simp[Env.setRow,e1]
theorem AW {J:Env} {v:V} {k:IntKind} {n:Int} (h:toInt v=some (k,n)):den J v= .int k n:=by
 cases v<;>simp only[toInt,aa0,aa1,reduceCtorEq]at h<;>obtain⟨rfl,rfl⟩:=h<;>rfl
theorem Kl {C:Ctx} {nid t:Nat} {a b x:V} {q:Option Prop} {new:List aK} (h:E6 C nid t a b=some (q,x,new)):x= .sa nid/\∃o e l,new= [.arr o e l]:=by
 unfold E6 at h;split at h
 ·grind
 ·simp at h
theorem Gm {C:Ctx} {J:Env} {K:Nat->Prop} {w0 w:World} {F0:Nat->Prop} {nid t:Nat} {a b x:V} {q:Option Prop} {new:List aK} (hC:C.Ko) (h:E6 C nid t a b=some (q,x,new)) (hq:dX q) (hn:¬K nid):
  ∃w' ρ',(Instr.makeSlice t (den J a) (den J b)).run C.P w= .ok (den ρ' x) w'/\n9 K J ρ' nid new w0 F0 w w':=by
 unfold E6 at h;split at h
 ·rename_i e ht;split at h
  ·rename_i z inf hZ hi;split at h
   ·rename_i k n k' m ha hb;split at h
    ·rename_i l hl;simp only[aa0,aa1]at h;obtain⟨rfl,rfl,rfl⟩:=h;obtain⟨rfl,h0,h1,h2⟩:=(show Vn n m inf.bytes from hq);obtain⟨l1,l2⟩:=F6 (K:=fun _=>False) hl
     obtain⟨i',g1,g2,g3,g4,g5⟩:=hC e z hZ;have:inf=i':=by rw[hi]at g1;exact Option.some.inj g1
     subst this;obtain⟨N,rfl⟩:∃N:Nat,m=(N:Int):=⟨m.toNat,by omega⟩
     have hN:pH (N:Int)=N:=by simp[pH]
     rw[hN]at l1 l2
     have hb2:inf.bytes*N<=281474976710656:=by
      grind
     have hzs:(den Env.zero z).cells.size=fi z:=by rw[<-bg Env.zero z g3];simp[cells]
     obtain⟨w',r1,r2,r3⟩:=run_make_full (P:=C.P) (w:=w) 0 t e inf (den Env.zero z) (fi z) ht hi (g2 Env.zero) g5 k k' N hb2 (by simp only[maxLen];omega) (Nat.zero_le _)
     have hcells:(madeCells (den Env.zero z).cells (N*fi z)).toList=l.cells:=by
      rw[<-hzs,BA,TL.cells,l1];exact ny _ _ _ fun j hj=>((l2 j (List.mem_range.1 hj)).1 Env.zero).symm
     rw[hcells]at r2
     have hblt:w.heap.size<w'.heap.size:=by
      rcases r2.2 with⟨hh,_⟩|⟨g,cap,cur,hh,_,hg,_⟩
      ·simp at hh
      ·grind
     refine⟨w',J.setRow nid ⟨w.heap.size,0,none⟩ N,?_,?_⟩
     ·grind[AW,den,Env.setRow]
     ·refine⟨(Below.refl _ _).grown r3 (Nat.le_refl _) (fun k hk=>by simp at hk),Cy J (fun hf=>hf ⟨Nat.le_refl _,by simp⟩),fun _ b=>b=w.heap.size,fun k hk=>?_,fun k l b hk hl hne=>?_⟩
      ·simp only[List.length_singleton,Nat.lt_one_iff]at hk;subst hk;refine⟨⟨fun j hj=>?_,by simp[Env.setRow,l1],by rw[l1];omega,fun a ha=>by simp[Env.setRow]at ha⊢;exact ha.symm,fun _=>by simp[Env.setRow],fun _=>by simp[Env.setRow],.inr ⟨e,fun e' he=>by simpa using he.symm,?_,fun a ha=>by simp[Env.setRow]at ha;rw[<-ha]⟩⟩,fun b hb=>by subst hb;exact⟨Nat.le_refl _,hblt⟩⟩
       ·simp_all
       ·simp_all[Env.sl,Env.setRow]
      ·simp_all
    ·simp at h
   ·simp at h
  ·simp at h
 ·simp at h
def zG (b:Bool) (x y:Int):Int:=match b with
 |true=>x
 |false=>y
def S3 (n:Int):List Int->Bool
 | []=>false
 |k::ks=>match ks with
  | []=>Dv n k
  |_=>Yv (Dv n k) (S3 n ks)
theorem EP (n k:Int) (ks:List Int):S3 n (k::ks)=(decide (n=k)||S3 n ks):=by
 cases ks<;>simp[S3,Dv,Yv]
def AA (n:Int) (z:V):List Int->List V->Option V
 | [],[]=>some z
 |k::ks,v::vs=>match v with
  | .fn f l=>match AA n z ks vs with
    |some y=>some (.ch (Dv n k) f l y)
    |none=>none
  |_=>none
 |_,_=>none
def FI (kd:IntKind) (n z:Int):List Int->List V->Option Int
 | [],[]=>some z
 |k::ks,v::vs=>match toInt v with
  |some (kd',a)=>if kd==kd' then match FI kd n z ks vs with
   |some y=>some (zG (Dv n k) a y)
   |none=>none
   else none
  |none=>none
 |_,_=>none
def VZ (n:Int) (z:V) (ks:List Int) (vs:List V):Option V:=
 match z with
 | .nl v=>match v with
   | .nilFunc=>AA n (.nl .nilFunc) ks vs
   |_=>none
 | .ci kd a=>match FI kd n a ks vs with
   |some y=>some (.it kd y)
   |none=>none
 |_=>none
def Ld (C:Ctx) (res:List aK) (t:Nat) (m x:V) (two:Bool):Option V:=
 match m with
 | .mp i=>match toInt x with
   |some (kd,n)=>match cH res i with
    | .mp kd' ks vs=>match C.P.underlying t with
      |some (.map kt et)=>match C.P.underlying kt with
       |some (.int kd'')=>if kd==kd'&&kd==kd'' then match C.Z et with
        |some z=>match VZ n z ks vs with
         |some y=>if two then some (.tp [y,.bo (S3 n ks)])else some y
         |none=>none
        |none=>none
        else none
       |_=>none
      |_=>none
    |_=>none
   |none=>none
 |_=>none
def TD (P:Program) (res:List aK) (t:Nat) (m x v:V):Option (List aK):=
 match m with
 | .mp i=>match x with
   | .ci kd n=>match ay res i with
     | .mp kd' ks vs=>match P.underlying t with
       |some (.map kt et)=>match P.underlying kt with
        |some (.int kd'')=>if kd==kd'&&kd==kd''&&decide (bY kd n)&& !ks.contains n&& !cS v then some (bO res i (.mp kd (ks++ [n]) (vs++ [v])))else none
        |_=>none
       |_=>none
     |_=>none
   |_=>none
 |_=>none
section
variable {J:Env} {fps:Nat->Nat->Prop} {res:List aK} {K:Nat->Prop} {w0 w:World} {F0:Nat->Prop}
theorem qS {kd:IntKind} {n:Int}:∀(ks:List Int) (xs:List Value) (l:List MapEntry) (i:Nat),l.map (·.key)=ks.map (Value.int kd)->l.map (·.val)=xs->
  ∃r,Instr.findNow (.int kd) (.int kd n) l i=some r/\r.isSome=S3 n ks/\
   ((r=none/\n∉ks)\/∃j x,r=some (i+j,x)/\ks[j]? =some n/\xs[j]? =some x/\∀q<j,ks[q]? ≠some n)
 | [],xs,l,i,h,h'=>by
   cases l with
   |nil=>exact⟨none,rfl,rfl,.inl ⟨rfl,by simp⟩⟩
   |cons e l=>simp at h
 |k::ks,xs,l,i,h,h'=>by
  cases l with
  |nil=>simp at h
  |cons e l=>
   simp only[List.map_cons,List.cons.injEq]at h;obtain⟨hk,hl⟩:=h;subst h';by_cases e1:n=k
   ·subst e1;refine⟨some (i,e.val),by simp[Instr.findNow,hk,Instr.sameNow],by rw[EP];simp,.inr ⟨0,e.val,rfl,by simp,by simp,by simp⟩⟩
   ·obtain⟨r,r1,r2,r3⟩:=qS (n:=n) ks _ l (i+1) hl rfl;refine⟨r,by simp[Instr.findNow,hk,Instr.sameNow,beq_eq_false_iff_ne.2 e1,r1],by rw[EP,r2];simp[e1],?_⟩
    rcases r3 with⟨a,b⟩|⟨j,x,a,b,c,d⟩
    ·exact .inl ⟨a,by simp[e1,b]⟩
    ·refine .inr ⟨j+1,x,by rw[a];congr 2;omega,by simpa using b,by simpa using c,fun q hq=>?_⟩
     cases q with
     |zero=>simp;exact fun e=>e1 e.symm
     |succ q=>simpa using d q (by omega)
theorem Ei {n:Int} {z:V} (hz:ok K z) (hz1:∀J:Env,(den J z).oneCell'=true):∀(ks:List Int) (vs:List V) (y:V),AA n z ks vs=some y->fM K vs->
  ok K y/\(∀J:Env,(den J y).oneCell'=true)/\∀J:Env,(n∉ks->den J y=den J z)/\∀(j:Nat) x,ks[j]? =some n->(bB J vs)[j]? =some x->(∀q<j,ks[q]? ≠some n)->den J y=x
 | [],[],y,h,hv=>by
   simp_all[AA]
 | [],_::_,y,h,hv=>by simp[AA]at h
 |_::_,[],y,h,hv=>by simp[AA]at h
 |k::ks,v::vs,y,h,hv=>by
  simp only[AA]at h;split at h
  ·rename_i f l;split at h<;>simp only[aa0,reduceCtorEq]at h
   rename_i y' hy;subst h;obtain⟨a,b,c⟩:=Ei hz hz1 ks vs y' hy hv.2;refine⟨⟨hv.1,a,b⟩,fun J=>?_,fun J=>⟨fun hn=>?_,fun j x hj hx hq=>?_⟩⟩
   ·simp only[den];split
    ·exact oC _ _
    ·exact b J
   ·simp_all[den,Dv]
   ·simp only[den,Dv];cases j with
    |zero=>
     simp at hj;subst hj;simp[bB,den]at hx;simp[<-hx]
    |succ j=>
     have h0:=hq 0 (by omega)
     simp at h0;rw[decide_eq_false (fun e=>h0 e.symm)]
     refine(c J).2 j x (by simpa using hj) (by simpa[bB]using hx) fun q hq'=>?_
     have:=hq (q+1) (by omega)
     simpa using this
  ·simp at h
theorem EG {kd:IntKind} {n z:Int} (hz:bY kd z):∀(ks:List Int) (vs:List V) (y:Int),FI kd n z ks vs=some y->fM K vs->
  bY kd y/\∀J:Env,(n∉ks->y=z)/\∀(j:Nat) x,ks[j]? =some n->(bB J vs)[j]? =some x->(∀q<j,ks[q]? ≠some n)-> .int kd y=x
 | [],[],y,h,hv=>by
   simp_all[FI]
 | [],_::_,y,h,hv=>by simp[FI]at h
 |_::_,[],y,h,hv=>by simp[FI]at h
 |k::ks,v::vs,y,h,hv=>by
  simp only[FI]at h;split at h
  ·rename_i kd' a ha;split at h
   ·rename_i hk;have hk:=aa4.1 hk;subst hk;split at h<;>simp only[aa0,reduceCtorEq]at h
    rename_i y' hy;subst h;obtain⟨b,c⟩:=EG hz ks vs y' hy hv.2;refine⟨?_,fun J=>⟨fun hn=>?_,fun j x hj hx hq=>?_⟩⟩
    ·cases Dv n k
     ·exact b
     ·exact(en (J:=⟨fun _=>0,fun _=>0,fun _=>default,fun _=>none,fun _=>0,fun _ _=>0⟩) ha hv.1).2
    ·simp only[List.mem_cons,not_or]at hn;simp only[Dv];rw[decide_eq_false hn.1];exact(c J).1 hn.2
    ·simp only[Dv];cases j with
     |zero=>
      simp at hj;subst hj;simp[bB]at hx;simp[zG,<-hx,(en (J:=J) ha hv.1).1]
     |succ j=>
      have h0:=hq 0 (by omega)
      simp at h0;rw[decide_eq_false (fun e=>h0 e.symm)]
      refine(c J).2 j x (by simpa using hj) (by simpa[bB]using hx) fun q hq'=>?_
      have:=hq (q+1) (by omega)
      simpa using this
   ·simp at h
  ·simp at h
theorem Mm {n:Int} {z y:V} {ks:List Int} {vs:List V} (hz:ok (fun _=>False) z) (h:VZ n z ks vs=some y) (hv:fM K vs):
  ok K y/\cS y=false/\∀J:Env,(n∉ks->den J y=den J z)/\∀(j:Nat) x,ks[j]? =some n->(bB J vs)[j]? =some x->(∀q<j,ks[q]? ≠some n)->den J y=x:=by
 unfold VZ at h;split at h
 ·split at h
  ·obtain⟨a,b,c⟩:=Ei (K:=K) (z:= .nl .nilFunc) rfl (fun _=>rfl) ks vs y h hv
   refine⟨a,?_,c⟩;cases ks with
   |nil=>cases vs<;>simp[AA]at h;subst h;rfl
   |cons k ks=>
    cases vs with
    |nil=>simp[AA]at h
    |cons v vs=>
     simp only[AA]at h;split at h
     ·split at h<;>simp only[aa0,reduceCtorEq]at h
      subst h;rfl
     ·simp at h
  ·simp at h
 ·rename_i kd a;split at h<;>simp only[aa0,reduceCtorEq]at h
  rename_i y' hy;subst h;obtain⟨b,c⟩:=EG (K:=K) (show bY kd a from hz) ks vs y' hy hv;exact⟨b,rfl,fun J=>⟨fun hn=>by simp only[den];rw[(c J).1 hn],fun j x h1 h2 h3=>by simp only[den];exact(c J).2 j x h1 h2 h3⟩⟩
 ·simp at h
theorem Gv {C:Ctx} {t:Nat} {m x r:V} {two:Bool} (hC:C.Ko) (h:bq J fps res K w0 F0 w) (hl:Ld C res t m x two=some r) (hx:ok K x):
  (Instr.lookup t (den J m) (den J x) two).run C.P w= .ok (den J r) w/\ok K r:=by
 unfold Ld at hl;split at hl
 case h_2=>simp at hl
 rename_i i;split at hl
 case h_2=>simp at hl
 rename_i kd n hn;split at hl
 case h_2=>simp at hl
 rename_i kd' ks vs hr;split at hl
 case h_2=>simp at hl
 rename_i kt et hu;split at hl
 case h_2=>simp at hl
 rename_i kd'' hku;split at hl
 case isFalse=>simp at hl
 rename_i hkd;simp only[aa2,aa4]at hkd;obtain⟨rfl,rfl⟩:=hkd;split at hl
 case h_2=>simp at hl
 rename_i z hz;split at hl
 case h_2=>simp at hl
 rename_i y hy;obtain⟨hx1,hx2⟩:=en (J:=J) hn hx;obtain⟨fp,hh,_⟩:=h.look hr (by simp)
 obtain⟨_,a2,a3,a4,a5,es,cl,b1,b2,b3⟩:=hh;obtain⟨_,_,_,hz3,hz4,_⟩:=hC et z hz;obtain⟨y1,y2,y3⟩:=Mm hz3 hy a2;obtain⟨q,q1,q2,q3⟩:=qS (n:=n) ks _ es.toList 0 b2 b3;have hck:=MapKept.run_checkKey (P:=C.P) (w:=w) (k:= .int kd n) hku rfl es.isEmpty 9999;have hfk:=MapKept.run_findKey (w:=w) hku q1;have hzr:=rB (J:=J) (w:=w) hC hz
 have main:(Instr.lookup t (den J (.mp i)) (den J x) two).run C.P w= .ok (if two then .tuple #[den J y,.bool (S3 n ks)]else den J y) w:=by
  rw[hx1];simp only[Instr.lookup,den,Sem.run_bind,bG w hu,Result.andThen_ok,MapKept.run_getObj_map b1,Sem.run_pure,hck,hfk];rcases q3 with⟨rfl,hnk⟩|⟨j,v,rfl,c1,c2,c3⟩
  ·simp_all
  ·simp only[Sem.run_pure,Result.andThen_ok];rw[(y3 J).2 j v c1 c2 c3,<-q2];rfl
 rw[main];cases two
 ·simp only[Bool.false_eq_true,if_false,aa0]at hl;subst hl;exact⟨by simp,y1⟩
 ·simp only[if_true,aa0]at hl;subst hl;exact⟨by simp[den,bB],y1,trivial,trivial⟩
theorem n9.XT {nid:Nat} {kd:IntKind} (hn:¬K nid):
  n9 K J (J.bT nid w.heap.size) nid [.mp kd [] []] w0 F0 w (w.alloc (.map #[] 0)):=by
 refine⟨(Below.refl _ _).alloc (Nat.le_refl _) _,nf J nid _,fun _ b=>b=w.heap.size,fun k hk=>?_,fun k l b hk hl hne=>?_⟩
 ·simp only[List.length_singleton,Nat.lt_one_iff]at hk;subst hk;refine⟨⟨by simp[Env.bT],trivial,trivial,by simp,rfl, #[],0,?_,rfl,rfl⟩,fun b hb=>by subst hb;simp⟩
  rw[show(J.bT nid w.heap.size).num (nid+0)=w.heap.size by simp[Env.bT]]
  exact heap_alloc_new w _
 ·simp only[List.length_singleton,Nat.lt_one_iff]at hk hl;omega
theorem bq.N9 {w':World} {i:Nat} {r r':aK} {b:Nat}
  (h:bq J fps res K w0 F0 w) (hi:ay res i=r) (hne:r≠ .yet) (hne':r'≠ .yet) (hfp:fps i b) (hnew:r'.holds K J i (fps i) w0 F0 w')
  (hos:w'.os=w.os) (htape:w'.tape=w.tape) (hout:w'.output=w.output) (hsize:w'.heap.size=w.heap.size) (hold:∀b',b'≠b->w'.heap[b']? =w.heap[b']?):
  bq J fps (bO res i r') K w0 F0 w'/\∀j,known (bO res i r') j↔known res j:=by
 have hk:known res i:=by unfold known;rw[hi];exact hne
 have hlt:=aO hk
 have hkn:∀j,known (bO res i r') j↔known res j:=fun j=>by
  grind[known,bK]
 refine⟨⟨fun j hj=>h.sub j ((hkn j).1 hj),by rw[hsize];exact h.old,hos.trans h.os,htape.trans h.tape,hout.trans h.output,fun j hj=>?_,fun j b hj hb=>by rw[hsize];exact h.lt j b ((hkn j).1 hj) hb,
  fun j l b hj hl=>h.disj j l b ((hkn j).1 hj) ((hkn l).1 hl),fun j b hj=>h.inF j b ((hkn j).1 hj),fun c hc hF=>?_⟩,hkn⟩
 ·rw[bK _ _ _ _ hlt];by_cases e:j=i
  ·subst e;simp only[if_true];exact hnew
  ·simp only[aa8 e];have hj':=(hkn j).1 hj;refine aK.gm _ (h.holds j hj') fun c hc=>hold c fun eb=>?_
   subst eb;exact h.disj j i _ hj' hk e hc hfp
 ·rw[hold c fun e=>hF (e▸h.inF i b hk hfp (e▸hc))]
  exact h.same c hc hF
theorem A2 (J:Env) (l:List V) (v:V):bB J (l++ [v])=bB J l++ [den J v]:=by simp[jD]
theorem I9 {P:Program} {res':List aK} {t:Nat} {m x v:V} (h:bq J fps res K w0 F0 w) (hs:TD P res t m x v=some res') (hv:ok K v):
  ∃w',(Instr.mapUpdate t (den J m) (den J x) (den J v)).run P w= .ok () w'/\bq J fps res' K w0 F0 w'/\∀i,known res' i↔known res i:=by
 unfold TD at hs;split at hs
 case h_2=>simp at hs
 rename_i i;split at hs
 case h_2=>simp at hs
 rename_i kd n;split at hs
 case h_2=>simp at hs
 rename_i kd' ks vs hr;split at hs
 case h_2=>simp at hs
 rename_i kt et hu;split at hs
 case h_2=>simp at hs
 rename_i kd'' hku;split at hs
 case isFalse=>simp at hs
 rename_i hc;simp only[aa2,aa4,aa3,Bool.not_eq_true',List.contains_eq_mem,decide_eq_false_iff_not]at hc;obtain⟨⟨⟨⟨rfl,rfl⟩,hin⟩,hnk⟩,htp⟩:=hc;simp only[aa0]at hs;subst hs;have hk:known res i:=by unfold known;rw[hr];simp
 have hh:=h.holds i hk;rw[hr]at hh;obtain⟨a1,a2,a3,a4,a5,es,cl,b1,b2,b3⟩:=hh;obtain⟨q,q1,q2,q3⟩:=qS (n:=n) ks _ es.toList 0 b2 b3
 have hq:q=none:=by
  grind
 subst hq;have hck:=MapKept.run_checkKey (P:=P) (w:=w) (k:= .int kd n) hku rfl false 9999;have hfk:=MapKept.run_findKey (w:=w) hku q1;have hset:=MapKept.heap_set (w:=w) (r:=J.num i) (o':= .map (es.push {key:= .int kd n,val:=den J v,born:=cl}) (cl+1)) b1;refine⟨{w with heap:=w.heap.setIfInBounds (J.num i) (.map (es.push {key:= .int kd n,val:=den J v,born:=cl}) (cl+1))},?_,?_⟩
 ·simp only[Instr.mapUpdate,den,Sem.run_bind,bG w hu,Result.andThen_ok,MapKept.run_getObj_map b1,hck,hfk,MapKept.run_setObj_map _ b1]
 ·refine h.N9 (b:=J.num i) hr (by simp) (by simp) a1 ⟨a1,?_,?_,?_,by simp[a5],_,_,hset.1,by simp[b2],by simp[b3,A2]⟩ rfl rfl rfl (by simp) hset.2
  ·grind[jg]
  ·grind[eF]
  ·grind
end
def yR:List V->Option (List (Bool×Int))
 | []=>some []
 |x::l=>match toInt x with
  |some (k,n)=>if k== .i64 then match yR l with
   |some m=>some ((xF x,n)::m)
   |none=>none
   else none
  |none=>none
def Zi:List (Bool×Int)->Bool
 | []=>true
 | (c,_)::l=>c&&Zi l
def ki:List (Bool×Int)->List Int
 | []=> []
 | (_,n)::l=>n::ki l
def ZQ:V->V->V
 | .cb true,y=>y
 | .cb false,_=> .cb false
 |x,.cb true=>x
 |_,.cb false=> .cb false
 | .bo a,.bo b=> .bo (Ve a b)
 |_,_=> .nl undef
def orV:V->V->V
 | .cb false,y=>y
 | .cb true,_=> .cb true
 |x,.cb false=>x
 |_,.cb true=> .cb true
 | .bo a,.bo b=> .bo (Yv a b)
 |_,_=> .nl undef
theorem JM {x y:V} {a b:Bool} (h1:toBool x=some a) (h2:toBool y=some b):toBool (ZQ x y)=some (a&&b):=by
 cases x<;>simp[toBool]at h1<;>cases y<;>simp[toBool]at h2<;>subst h1<;>subst h2
 all_goals(rename_i p q;cases p<;>cases q<;>rfl)
theorem Oj {x y:V} {a b:Bool} (h1:toBool x=some a) (h2:toBool y=some b):toBool (orV x y)=some (a||b):=by
 cases x<;>simp[toBool]at h1<;>cases y<;>simp[toBool]at h2<;>subst h1<;>subst h2
 all_goals(rename_i p q;cases p<;>cases q<;>rfl)
def eq1 (c:Bool) (n k:Int):V:=if c then .cb (decide (n=k))else .bo (Dv n k)
theorem LL (c:Bool) (n k:Int):toBool (eq1 c n k)=some (decide (n=k)):=by cases c<;>simp[eq1,toBool,Dv]
def G2:List (Bool×Int)->List Int->V
 | [],[]=> .cb true
 | (c,n)::l,k::m=>ZQ (eq1 c n k) (G2 l m)
 |_,_=> .cb false
theorem wK:∀(l:List (Bool×Int)) (m:List Int),toBool (G2 l m)=some (decide (ki l=m))
 | [],[]=>rfl
 | [],_::_=>by simp[G2,ki,toBool]
 |_::_,[]=>by simp[G2,ki,toBool]
 | (c,n)::l,k::m=>by
   simp_all[G2,ki,JM,LL,wK]
def CD (x:List (Bool×Int)) (z:V):List (List Int)->List V->Option V
 | [],[]=>some z
 |k::ks,v::vs=>match v with
  | .fn f l=>match G2 x k with
    | .cb true=>some (.fn f l)
    | .cb false=>CD x z ks vs
    | .bo b=>match CD x z ks vs with
      |some y=>some (.ch b f l y)
      |none=>none
    |_=>none
  |_=>none
 |_,_=>none
def RX (x:List (Bool×Int)):List (List Int)->V
 | []=> .cb false
 |k::ks=>orV (G2 x k) (RX x ks)
theorem A9 (x:List (Bool×Int)):∀ks,toBool (RX x ks)=some (decide (ki x∈ks))
 | []=>rfl
 |k::ks=>by
  simp_all[RX,Oj,wK,A9]
def s7 (P:Program) (kt n:Nat):Bool:=
 Nat.ble 2 n&&fw P 8 kt==some (List.replicate n (.i .i64))&&match P.underlying kt with
  |some (.struct fs)=>fs.toList.all fun f=>match P.underlying f.type with
   |some (.int _)=>true
   |_=>false
  |_=>false
def EE (n:Nat):List (List Int)->Bool
 | []=>true
 |k::ks=>k.length==n&&EE n ks
theorem uj {n:Nat}:∀{ks:List (List Int)},EE n ks=true->∀k∈ks,k.length=n
 | [],_,_,h=>by simp at h
 |k::ks,h,c,hc=>by
  simp only[EE,aa2,aa4]at h;rcases List.mem_cons.1 hc with rfl|hc
  ·exact h.1
  ·exact uj h.2 c hc
def MS (C:Ctx) (res:List aK) (t:Nat) (m x:V) (two:Bool):Option V:=
 match m with
 | .mp i=>match x with
   | .ag xl=>match yR xl with
     |some l=>match cH res i with
      | .mq ks vs=>match C.P.underlying t with
        |some (.map kt et)=>if s7 C.P kt l.length&&EE l.length ks then match C.Z et with
         |some z=>match z with
          | .nl v=>match v with
            | .nilFunc=>match CD l (.nl .nilFunc) ks vs with
              |some y=>if two then some (.tp [y,RX l ks])else some y
              |none=>none
            |_=>none
          |_=>none
         |none=>none
         else none
        |_=>none
      |_=>none
     |none=>none
   |_=>none
 |_=>none
def TE (P:Program) (res:List aK) (t:Nat) (m x v:V):Option (List aK):=
 match m with
 | .mp i=>match x with
   | .ag xl=>match yR xl with
     |some l=>match ay res i with
      | .mq ks vs=>match P.underlying t with
        |some (.map kt et)=>if s7 P kt l.length&&EE l.length ks&&Zi l&& !ks.contains (ki l)&& !cS v then some (bO res i (.mq (ks++ [ki l]) (vs++ [v])))else none
        |_=>none
      |_=>none
     |none=>none
   |_=>none
 |_=>none
section
variable {J:Env} {fps:Nat->Nat->Prop} {res:List aK} {K:Nat->Prop} {w0 w:World} {F0:Nat->Prop} {P:Program}
theorem Ba {xl:List V} {l:List (Bool×Int)} (h:yR xl=some l) (hk:fM K xl):den J (.ag xl)=jZ (ki l)/\(ki l).length=l.length:=by
 have:∀(xl:List V) (l:List (Bool×Int)),yR xl=some l->fM K xl->bp J xl=(ki l).map i64/\(ki l).length=l.length:=by
  intro xl;induction xl with
  |nil=>intro l h _;simp only[yR,aa0]at h;subst h;exact⟨rfl,rfl⟩
  |cons x xl ih=>
   intro l h hk;simp only[yR]at h;split at h
   case h_2=>simp at h
   rename_i k n hn;split at h
   case isFalse=>simp at h
   rename_i hki;have hki:=aa4.1 hki;subst hki;split at h<;>simp only[aa0,reduceCtorEq]at h
   rename_i m hm;subst h;obtain⟨a,b⟩:=ih m hm hk.2;refine⟨?_,by simp[ki,b]⟩
   simp only[bp,ki,List.map_cons,a,(en (J:=J) hn hk.1).1];rfl
 obtain⟨a,b⟩:=this xl l h hk;exact⟨by simp only[den,jZ,a],b⟩
theorem vG:∀{a b:List Int},a.map i64=b.map i64↔a=b
 | [],[]=>by simp
 | [],_::_=>by simp
 |_::_,[]=>by simp
 |x::a,y::b=>by simp[vG (a:=a) (b:=b),i64]
theorem Ab:∀(l:List Int),mX (List.replicate l.length (.i .i64)) (l.map i64)
 | []=>trivial
 |n::l=>⟨⟨n,rfl⟩,Ab l⟩
theorem Rx {kt n:Nat} (hk:s7 P kt n=true) {a b:List Int} (ha:a.length=n) (hb:b.length=n) (w:World):
  ∃r,(Op.equal kt (jZ a) (jZ b)).run P w= .ok r w/\(r=true↔a=b):=by
 unfold s7 at hk;simp only[aa2,aa4]at hk;obtain⟨⟨h2,hf⟩,_⟩:=hk;have h2:=Nat.le_of_ble_eq_true h2;have hagg:mb P kt=some true:=lX hf (by simpa using h2)
 obtain⟨r,h1,h3⟩:=rU (P:=P) 8 10000 (by omega) kt _ true (a.map i64) (b.map i64) hf hagg (by rw[<-ha];exact Ab a) (by rw[<-hb];exact Ab b) w
 exact⟨r,h1,by rw[h3,vG]⟩
theorem tL {kt n:Nat} (hk:s7 P kt n=true) {a:List Int} (ha:a.length=n) (em:Bool) (w:World):(Instr.checkKey em 10000 kt (jZ a)).run P w= .ok () w:=by
 unfold s7 at hk;simp only[aa2,aa4]at hk;obtain⟨⟨h2,hf⟩,hs⟩:=hk;split at hs
 case h_2=>simp at hs
 rename_i fs hu;unfold fw at hf;simp only[hu]at hf;split at hf
 ·simp at hf
 split at hf
 ·simp at hf
 rename_i ks hks;split at hf<;>simp only[aa0,reduceCtorEq]at hf
 have hl:ks.length=(a.map i64).length:=by rw[hf];simp[ha]
 clear hf;rw[show(10000:Nat)=9998+1+1 from rfl,Instr.checkKey];simp only[Sem.run_bind,bG w hu,Result.andThen_ok,jZ];rw[<-Array.forIn_toList];generalize a.map i64=X at hl⊢
 have key:∀(L:List Field) (off:Nat) (ks:List Kd),ma (fw P 7) off L=some ks->off+ks.length<=X.length->(∀f∈L,(match P.underlying f.type with|some (.int _)=>true|_=>false)=true)->
   (forIn L PUnit.unit fun f (_:PUnit)=>if f.name≠ "_" then(do
    let v<-part f.type X.toArray f.offset
    Instr.checkKey em (9998+1) f.type v
    pure (ForInStep.yield PUnit.unit):Sem (ForInStep PUnit))else pure (ForInStep.yield PUnit.unit)).run P w= .ok () w:=by
  intro L;induction L with
  |nil=>intro off ks _ _ _;simp
  |cons f L ih=>
   intro off ks h hle hi;simp only[ma]at h;split at h
   case isFalse=>simp at h
   rename_i hc;simp only[aa2,bne_iff_ne,ne_eq,aa4]at hc;obtain⟨hn,ho⟩:=hc;cases hg:fw P 7 f.type with
   |none=>simp[hg]at h
   |some k1=>
    simp only[hg]at h;cases hr:ma (fw P 7) (off+k1.length) L with
    |none=>simp[hr]at h
    |some k2=>
     simp only[hr,Option.map_some,aa0]at h;subst h;simp only[List.length_append]at hle;obtain⟨b,hb⟩:=sM hg;have e1:=kC (xs:=X) (off:=off) w hg hb (by omega)
     have hif:=hi f (by simp)
     split at hif
     case h_2=>simp at hif
     rename_i ik hik
     have e2:∀v,(Instr.checkKey em (9998+1) f.type v).run P w= .ok () w:=fun v=>by
      rw[Instr.checkKey];simp only[Sem.run_bind,bG w hik,Result.andThen_ok];rfl
     have e3:=ih (off+k1.length) k2 hr (by omega) fun g hg=>hi g (by simp[hg])
     simp only[List.forIn_cons,Sem.run_bind,hn,ne_eq,not_false_eq_true,if_true,ho,e1,Result.andThen_ok,e2,Sem.run_pure];exact e3
 have:=key fs.toList 0 ks hks (by omega) fun f hf=>by simpa using List.all_eq_true.1 hs f hf
 rw[this];rfl
theorem qx {kt n:Nat} (hk:s7 P kt n=true) {x:List Int} (hx:x.length=n) (w:World):∀(l:List MapEntry) (i:Nat),(∀e∈l,∃k:List Int,k.length=n/\e.key=jZ k)->
  ∃r,(Instr.findAsking kt (jZ x) l i).run P w= .ok r w/\
   ((r=none/\∀e∈l,e.key≠jZ x)\/∃j e,r=some (i+j,e.val)/\l[j]? =some e/\e.key=jZ x)
 | [],i,h=>⟨none,rfl,.inl ⟨rfl,by simp⟩⟩
 |e::l,i,h=>by
  obtain⟨k,hkl,hke⟩:=h e (by simp)
  obtain⟨b,hb,hbi⟩:=Rx hk hx hkl w;cases b with
  |true=>
   have:=hbi.1 rfl;subst this;exact⟨some (i,e.val),by simp[Instr.findAsking,hke,hb],.inr ⟨0,e,rfl,rfl,hke⟩⟩
  |false=>
   have hne:e.key≠jZ x:=fun e'=>by
    rw[hke]at e';have:x=k:=(vG.1 (by simpa[jZ]using e')).symm
    have:=hbi.2 this;simp at this
   obtain⟨r,r1,r3⟩:=qx hk hx w l (i+1) fun e he=>h e (by simp[he])
   refine⟨r,by simp[Instr.findAsking,hke,hb,r1],?_⟩
   rcases r3 with⟨a,b⟩|⟨j,e',a,b,c⟩
   ·simp_all
   ·exact .inr ⟨j+1,e',by rw[a];congr 2;omega,by simpa using b,c⟩
theorem pW {kt n:Nat} (hk:s7 P kt n=true) {x:List Int} (hx:x.length=n) (w:World) (l:List MapEntry) (h:∀e∈l,∃k:List Int,k.length=n/\e.key=jZ k):
  ∃r,(Instr.findKey kt (jZ x) l).run P w= .ok r w/\
   ((r=none/\∀e∈l,e.key≠jZ x)\/∃j e,r=some (j,e.val)/\l[j]? =some e/\e.key=jZ x):=by
 obtain⟨r,h1,h2⟩:=qx hk hx w l 0 h;simp only[Nat.zero_add]at h2;refine⟨r,?_,h2⟩;unfold s7 at hk;simp only[aa2,aa4]at hk;obtain⟨_,hs⟩:=hk;split at hs
 case h_2=>simp at hs
 rename_i fs hu;cases l with
 |nil=>
  simp only[Instr.findAsking,Sem.run_pure,Result.ok.injEq,and_true]at h1;subst h1;simp[Instr.findKey,bG w hu,Instr.findNow]
 |cons e l=>
  have:Instr.findNow (.struct fs) (jZ x) (e::l) 0=none:=by
   simp only[Instr.findNow,jZ,Instr.sameNow]
  simp[Instr.findKey,bG w hu,this,h1]
theorem R2 {a b:List Int} (h:jZ a=jZ b):a=b:=vG.1 (by simpa[jZ]using h)
theorem BN {ks:List (List Int)} {xs:List Value} {l:List MapEntry} {x:List Int} {r:Option (Nat×Value)} (hp:(l.map fun e=>(e.key,e.val)).Perm ((ks.map jZ).zip xs)) (hl:ks.length=xs.length) (hn:ks.Nodup)
  (h:(r=none/\∀e∈l,e.key≠jZ x)\/∃j e,r=some (j,e.val)/\l[j]? =some e/\e.key=jZ x):
  (r=none/\x∉ks)\/∃(i j:Nat) (v:Value),r=some (i,v)/\ks[j]? =some x/\xs[j]? =some v/\∀q<j,ks[q]? ≠some x:=by
 rcases h with⟨rfl,h⟩|⟨j,e,rfl,h1,h2⟩
 ·refine .inl ⟨rfl,fun hm=>?_⟩
  obtain⟨q,hq,rfl⟩:=List.getElem_of_mem hm
  have:(jZ ks[q],xs[q]'(by omega))∈(ks.map jZ).zip xs:=by
   rw[List.mem_iff_getElem];exact⟨q,by simp;omega,by simp⟩
  obtain⟨e,he,hee⟩:=List.mem_map.1 (hp.mem_iff.2 this);simp only[aa1]at hee;exact h e he hee.1
 ·have:(e.key,e.val)∈(ks.map jZ).zip xs:=hp.mem_iff.1 (List.mem_map.2 ⟨e,List.mem_of_getElem? h1,rfl⟩);rw[List.mem_iff_getElem]at this;obtain⟨q,hq,hqe⟩:=this;simp only[List.length_zip,List.length_map]at hq;simp only[List.getElem_zip,List.getElem_map,aa1]at hqe;have hk:ks[q]'(by omega)=x:=R2 (hqe.1.trans h2)
  refine .inr ⟨j,q,e.val,rfl,by rw[List.getElem?_eq_getElem (by omega),hk],by rw[List.getElem?_eq_getElem (by omega),hqe.2],fun p hp' he=>?_⟩
  rw[List.getElem?_eq_getElem (by omega)]at he
  simp only[aa0]at he;exact List.pairwise_iff_getElem.1 hn p q (by omega) (by omega) hp' (he.trans hk.symm)
theorem perm_keys {ks:List (List Int)} {xs:List Value} {l:List MapEntry} {n:Nat} (hp:(l.map fun e=>(e.key,e.val)).Perm ((ks.map jZ).zip xs)) (hl:∀k∈ks,k.length=n):∀e∈l,∃k:List Int,k.length=n/\e.key=jZ k:=fun e he=>by
 have:=List.of_mem_zip (hp.mem_iff.1 (List.mem_map.2 ⟨e,he,rfl⟩));obtain⟨k,hk,hke⟩:=List.mem_map.1 this.1;exact⟨k,hl k hk,hke.symm⟩
theorem vC {x:List (Bool×Int)} {z:V} (hz:ok K z) (hz1:∀J:Env,(den J z).oneCell'=true):∀(ks:List (List Int)) (vs:List V) (y:V),CD x z ks vs=some y->fM K vs->
  ok K y/\(∀J:Env,(den J y).oneCell'=true)/\∀J:Env,(ki x∉ks->den J y=den J z)/\∀(j:Nat) v,ks[j]? =some (ki x)->(bB J vs)[j]? =some v->(∀q<j,ks[q]? ≠some (ki x))->den J y=v
 | [],[],y,h,hv=>by
   simp_all[CD]
 | [],_::_,y,h,hv=>by simp[CD]at h
 |_::_,[],y,h,hv=>by simp[CD]at h
 |k::ks,v::vs,y,h,hv=>by
  simp only[CD]at h;split at h
  case h_2=>simp at h
  rename_i f l;have hke:=wK x k
  have tail:∀y',CD x z ks vs=some y'->ki x≠k->∀J:Env,(ki x∉k::ks->den J y'=den J z)/\∀(j:Nat) v,(k::ks)[j]? =some (ki x)->(bB J (.fn f l::vs))[j]? =some v->(∀q<j,(k::ks)[q]? ≠some (ki x))->den J y'=v:=by
   intro y' hy' hne J;obtain⟨_,_,c⟩:=vC hz hz1 ks vs y' hy' hv.2;refine⟨fun hn=>(c J).1 fun h=>hn (by simp[h]),fun j v hj hx hq=>?_⟩
   cases j with
   |zero=>simp at hj;exact absurd hj.symm hne
   |succ j=>
    refine(c J).2 j v (by simpa using hj) (by simpa[bB]using hx) fun q hq'=>?_
    have:=hq (q+1) (by omega)
    simpa using this
  have head:ki x=k->∀J:Env,(ki x∉k::ks->den J (.fn f l)=den J z)/\∀(j:Nat) v,(k::ks)[j]? =some (ki x)->(bB J (.fn f l::vs))[j]? =some v->(∀q<j,(k::ks)[q]? ≠some (ki x))->den J (.fn f l)=v:=by
   intro he J;refine⟨fun hn=>absurd (by simp[he]) hn,fun j v hj hx hq=>?_⟩
   cases j with
   |zero=>simpa[bB]using hx
   |succ j=>exact absurd (by simp[he]) (hq 0 (by omega))
  split at h
  ·rename_i hk;rw[hk]at hke;have he:ki x=k:=by simpa[toBool]using hke
   simp only[aa0]at h;subst h;exact⟨hv.1,fun J=>oC _ _,head he⟩
  ·rename_i hk;rw[hk]at hke;have hne:ki x≠k:=by simpa[toBool]using hke
   obtain⟨a,b,_⟩:=vC hz hz1 ks vs y h hv.2;exact⟨a,b,tail y h hne⟩
  ·rename_i b hk;rw[hk]at hke;have hb:b=decide (ki x=k):=by simpa[toBool]using hke
   subst hb;split at h<;>simp only[aa0,reduceCtorEq]at h
   rename_i y' hy';subst h;obtain⟨a,b,_⟩:=vC hz hz1 ks vs y' hy' hv.2;refine⟨⟨hv.1,a,b⟩,fun J=>?_,fun J=>?_⟩
   ·simp only[den];split
    ·exact oC _ _
    ·exact b J
   ·by_cases he:ki x=k
    ·grind[den]
    ·grind[den]
  ·simp at h
theorem J4 {v:V} {b:Bool} (h:toBool v=some b) (J:Env):den J v= .bool b/\ok K v/\cS v=false:=by
 cases v<;>simp[toBool]at h<;>subst h<;>exact⟨rfl,trivial,rfl⟩
theorem Gb {C:Ctx} {t:Nat} {m x r:V} {two:Bool} (hC:C.Ko) (h:bq J fps res K w0 F0 w) (hl:MS C res t m x two=some r) (hx:ok K x):
  (Instr.lookup t (den J m) (den J x) two).run C.P w= .ok (den J r) w/\ok K r:=by
 unfold MS at hl;split at hl
 case h_2=>simp at hl
 rename_i i;split at hl
 case h_2=>simp at hl
 rename_i xl;split at hl
 case h_2=>simp at hl
 rename_i l hxl;split at hl
 case h_2=>simp at hl
 rename_i ks vs hr;split at hl
 case h_2=>simp at hl
 rename_i kt et hu;split at hl
 case isFalse=>simp at hl
 rename_i hc;simp only[aa2]at hc;obtain⟨hwide,hlens⟩:=hc;have hlens:=uj hlens;split at hl
 case h_2=>simp at hl
 rename_i z hz;split at hl
 case h_2=>simp at hl
 rename_i v;split at hl
 case h_2=>simp at hl
 split at hl
 case h_2=>simp at hl
 rename_i y hy;obtain⟨hx1,hx2⟩:=Ba (J:=J) hxl hx.1;obtain⟨fp,hh,_⟩:=h.look hr (by simp)
 obtain⟨_,a2,a3,⟨a5,a6⟩,es,cl,b1,b2⟩:=hh;obtain⟨y1,y2,y3⟩:=vC (K:=K) (z:= .nl .nilFunc) rfl (fun _=>rfl) ks vs y hy a2
 obtain⟨q,q1,q3⟩:=pW hwide hx2 w es.toList (perm_keys b2 hlens);have q3:=BN b2 (by rw[a5,jD,List.length_map]) a6 q3
 have hck:=tL hwide hx2 es.isEmpty w;have hzr:=rB (J:=J) (w:=w) hC hz;obtain⟨f1,f2,_⟩:=J4 (K:=K) (A9 l ks) J
 have main:(Instr.lookup t (den J (.mp i)) (den J (.ag xl)) two).run C.P w= .ok (if two then .tuple #[den J y,.bool (decide (ki l∈ks))]else den J y) w:=by
  rw[hx1];simp only[Instr.lookup,den,Sem.run_bind,bG w hu,Result.andThen_ok,MapKept.run_getObj_map b1,Sem.run_pure,hck,q1];rcases q3 with⟨rfl,hnk⟩|⟨_,j,v,rfl,c1,c2,c3⟩
  ·simp_all
  ·have hmem:ki l∈ks:=List.mem_of_getElem? c1;simp only[Sem.run_pure,Result.andThen_ok];rw[(y3 J).2 j v c1 c2 c3];simp[hmem]
 rw[main];cases two
 ·simp only[Bool.false_eq_true,if_false,aa0]at hl;subst hl;exact⟨by simp,y1⟩
 ·simp only[if_true,aa0]at hl;subst hl;exact⟨by simp[den,bB,f1],y1,f2,trivial⟩
theorem n9.RC {nid:Nat} (hn:¬K nid):
  n9 K J (J.bT nid w.heap.size) nid [.mq [] []] w0 F0 w (w.alloc (.map #[] 0)):=by
 refine⟨(Below.refl _ _).alloc (Nat.le_refl _) _,nf J nid _,fun _ b=>b=w.heap.size,fun k hk=>?_,fun k l b hk hl hne=>?_⟩
 ·simp only[List.length_singleton,Nat.lt_one_iff]at hk;subst hk;refine⟨⟨by simp[Env.bT],trivial,trivial,⟨rfl,List.nodup_nil⟩, #[],0,?_,List.Perm.refl _⟩,fun b hb=>by subst hb;simp⟩
  rw[show(J.bT nid w.heap.size).num (nid+0)=w.heap.size by simp[Env.bT]]
  exact heap_alloc_new w _
 ·simp only[List.length_singleton,Nat.lt_one_iff]at hk hl;omega
theorem Jv {res':List aK} {t:Nat} {m x v:V} (h:bq J fps res K w0 F0 w) (hs:TE P res t m x v=some res') (hx:ok K x) (hv:ok K v):
  ∃w',(Instr.mapUpdate t (den J m) (den J x) (den J v)).run P w= .ok () w'/\bq J fps res' K w0 F0 w'/\∀i,known res' i↔known res i:=by
 unfold TE at hs;split at hs
 case h_2=>simp at hs
 rename_i i;split at hs
 case h_2=>simp at hs
 rename_i xl;split at hs
 case h_2=>simp at hs
 rename_i l hxl;split at hs
 case h_2=>simp at hs
 rename_i ks vs hr;split at hs
 case h_2=>simp at hs
 rename_i kt et hu;split at hs
 case isFalse=>simp at hs
 rename_i hc;simp only[aa2,Bool.not_eq_true',List.contains_eq_mem,decide_eq_false_iff_not]at hc;obtain⟨⟨⟨⟨hwide,hlens⟩,_⟩,hnk⟩,htp⟩:=hc;have hlens:=uj hlens;simp only[aa0]at hs;subst hs;have hk:known res i:=by unfold known;rw[hr];simp
 have hh:=h.holds i hk;rw[hr]at hh;obtain⟨a1,a2,a3,⟨a5,a6⟩,es,cl,b1,b2⟩:=hh;obtain⟨hx1,hx2⟩:=Ba (J:=J) hxl hx.1;obtain⟨q,q1,q3⟩:=pW hwide hx2 w es.toList (perm_keys b2 hlens);have q3:=BN b2 (by rw[a5,jD,List.length_map]) a6 q3
 have hq:q=none:=by
  grind
 subst hq;have hck:=tL hwide hx2 false w;have hset:=MapKept.heap_set (w:=w) (r:=J.num i) (o':= .map (es.push {key:=jZ (ki l),val:=den J v,born:=cl}) (cl+1)) b1;refine⟨{w with heap:=w.heap.setIfInBounds (J.num i) (.map (es.push {key:=jZ (ki l),val:=den J v,born:=cl}) (cl+1))},?_,?_⟩
 ·rw[hx1];simp only[Instr.mapUpdate,den,Sem.run_bind,bG w hu,Result.andThen_ok,MapKept.run_getObj_map b1,hck,q1,MapKept.run_setObj_map _ b1]
 ·refine h.N9 (b:=J.num i) hr (by simp) (by simp) a1 ⟨a1,?_,?_,⟨by simp[a5],?_⟩,_,_,hset.1,?_⟩ rfl rfl rfl (by simp) hset.2
  ·grind[jg]
  ·grind[eF]
  ·grind
  ·simp only[Array.toList_push,List.map_append,List.map_cons,List.map_nil,A2];rw[List.zip_append (by simp[a5,jD])]
   exact List.Perm.append_right _ b2
end
def Lj (n b:Nat):Prop:=n<=maxLen/\n*b<=140737488355328
def Ms (C:Ctx) (res:List aK) (nid:Nat) (ts:List Nat) (xs:List V):Option (Option Prop×V×List aK):=
 match ts,xs with
 | [t,t'],[x,y]=>match x with
   | .nl (.slice none 0 0)=>match y with
     | .sa j=>match cH res j with
       | .arr _ esz l=>match C.P.underlying t with
         |some (.slice e)=>match C.Z e,C.P.info? e with
          |some z,some inf=>if t==t'&&esz==fi z&&Nat.blt 0 (fi z)then some (some (Lj l.len inf.bytes),.sa nid,[.arr (some e) esz l])else none
          |_,_=>none
         |_=>none
       |_=>none
     |_=>none
   |_=>none
 |_,_=>none
def Env.g9 (J:Env) (i:Nat) (a:Option Addr) (n cap:Nat):Env:=
 {num:=J.num,cap:=fun j=>if j=i then cap else J.cap j,adr:=fun j=>if j=i then a.getD ⟨0,0,none⟩else J.adr j,sa:=fun j=>if j=i then a else J.sa j,sn:=fun j=>if j=i then n else J.sn j,ob:=J.ob}
theorem vv {N:Nat->Prop} (J:Env) {i:Nat} {a:Option Addr} {n cap:Nat} (h:¬N i):Env.bE N J (J.g9 i a n cap):=fun j hj=>by
 have e1:j≠i:=fun e=>h (e▸hj)
 simp[Env.g9,e1]
theorem Bv {α:Type} {f:Nat->List α} {esz:Nat}:∀{n:Nat},(∀j,j<n->(f j).length=esz)->((List.range n).flatMap f).length=n*esz
 |0,_=>by simp
 |n+1,h=>by
  rw[List.range_succ,List.flatMap_append,List.length_append,Bv fun j hj=>h j (by omega)]
  simp[h n (by omega),Nat.succ_mul]
theorem Ow {C:Ctx} {res:List aK} {nid:Nat} {ts:List Nat} {xs:List V} {r:V} {q:Option Prop} {new:List aK} (h:Ms C res nid ts xs=some (q,r,new)):r= .sa nid/\∃o e l,new= [.arr o e l]:=by
 unfold Ms at h;split at h
 ·split at h
  ·split at h
   ·grind
   ·simp at h
  ·simp at h
 ·simp at h
theorem J0 {C:Ctx} {J:Env} {fps:Nat->Nat->Prop} {res:List aK} {K:Nat->Prop} {w0 w:World} {F0:Nat->Prop} {nid ty:Nat} {ts:List Nat} {xs:List V} {r:V} {q:Option Prop} {new:List aK} (hC:C.Ko)
  (hH:bq J fps res K w0 F0 w) (h:Ms C res nid ts xs=some (q,r,new)) (hq:dX q) (hn:¬K nid):
  ∃w' ρ',(Builtin.append_ ts.toArray ty (bB J xs).toArray).run C.P w= .ok (den ρ' r) w'/\n9 K J ρ' nid new w0 F0 w w':=by
 unfold Ms at h;split at h
 case h_2=>simp at h
 rename_i t t' x y;split at h
 case h_2=>simp at h
 split at h
 case h_2=>simp at h
 rename_i j;split at h
 case h_2=>simp at h
 rename_i own esz l hr;split at h
 case h_2=>simp at h
 rename_i e ht;split at h
 case h_2=>simp at h
 rename_i z inf hZ hi;split at h
 case isFalse=>simp at h
 rename_i hc;simp only[aa2,aa4,Nat.blt_eq]at hc;obtain⟨⟨rfl,rfl⟩,hsz⟩:=hc;simp only[aa0,aa1]at h;obtain⟨rfl,rfl,rfl⟩:=h;obtain⟨q1,q2⟩:=(show Lj l.len inf.bytes from hq);obtain⟨i',g1,g2,g3,g4,g5⟩:=hC e z hZ;have:inf=i':=by rw[hi]at g1;exact Option.some.inj g1
 subst this;have hzs:(den Env.zero z).cells.size=fi z:=by rw[<-bg Env.zero z g3];simp[cells]
 have hcl:=fun(i:Nat) (hi:i<l.len)=>ni hH hr hi
 have hlen:∀i,i<l.len->(cells Env.zero (l.get i)).length=fi z:=fun i hi=>by rw[bg Env.zero _ (hcl i hi).1];exact(hcl i hi).2.2.1
 have hxl:l.cells.length=l.len*fi z:=Bv hlen
 have hcell:∀k u,l.cells[k]? =some u->w.cell? ((J.adr j).add k)=some u\/(J.adr j).spot≠none:=fun k u hu=>by
  by_cases hs:(J.adr j).spot=none
  ·left
   have hk:k<l.len*fi z:=by rw[<-hxl];exact(List.getElem?_eq_some_iff.1 hu).1
   have hdiv:k / fi z<l.len:=(Nat.div_lt_iff_lt_mul hsz).2 hk;have hmod:k%fi z<fi z:=Nat.mod_lt _ hsz;have hkk:k / fi z*fi z+k%fi z=k:=by rw[Nat.mul_comm];exact Nat.div_add_mod k (fi z)
   have hcc:=(hcl _ hdiv).2.2.2 _ hmod;rw[hkk]at hcc
   have:(J.adr j).add k=⟨(J.adr j).block,(J.adr j).off+k,none⟩:=by
    cases had:J.adr j with
    |mk b o s=>rw[had]at hs;simp only at hs;subst hs;rw[add_lit]
   rw[this,hcc,dW (N:=fun _=>False) (J:=Env.zero) (ρ':=J) (fun _ h=>h.elim) _ (hcl _ hdiv).1,<-vQ (f:=fun i=>cells Env.zero (l.get i)) hlen hdiv hmod,hkk]
   exact hu
  ·exact .inr hs
 have hone:∀u∈l.cells,u.oneCell'=true:=fun u hu=>by
  grind[TL.cells,jt,Env.zero]
 obtain⟨fp,hh,_⟩:=hH.look hr (by simp)
 obtain⟨a1,a2,a3,a4,a5,a6,_⟩:=hh
 have main:∃ao cap w',(Builtin.append_ #[t,t] ty #[.slice none 0 0,den J (.sa j)]).run C.P w= .ok (.slice ao l.len cap) w'/\w'.ownsRow w.heap.size e (fi z) (.slice ao l.len cap) l.len l.cells/\w.grownBy w' none:=by
  cases hs:J.sa j with
  |none=>
   have h0:l.len=0:=by
    simp_all
   have hxs:l.cells= []:=List.length_eq_zero_iff.1 (by rw[hxl,h0];simp)
   refine⟨none,0,w,?_,by rw[h0,hxs];exact World.ownsRow_nil w _ e _,⟨rfl,rfl,rfl,Nat.le_refl _,fun _ _ _=>rfl⟩⟩
   simp[Builtin.append_,den,Env.sl,hs,a2,h0,bG w ht,Builtin.lenOf,Builtin.firstCells,sizeOf,typeInfo,hi]
  |some a=>
   have ha:=a4 a hs;subst ha;by_cases h0:0<l.len
   ·obtain⟨v',w',r1,r2,r3,_⟩:=run_append_own (P:=C.P) w w.heap.size t ty e inf (den Env.zero z) (fi z) inf.bytes ht hi (g2 Env.zero) g5 rfl hzs hsz (.slice none 0 0) 0 [] (World.ownsRow_nil w _ e _)
     (J.adr j) l.len (J.cap j) l.cells hxl (fun k u hu=>(hcell k u hu).resolve_right (fun h=>h (a6 h0))) hone (by simpa using q1) (by simpa using q2) (Nat.le_refl _)
    simp only[Nat.zero_add,List.nil_append]at r2;have hd:den J (.sa j)= .slice (some (J.adr j)) l.len (J.cap j):=by simp[den,Env.sl,hs,a2]
    rw[hd];rcases r2.2 with⟨_,hz0⟩|⟨g,cap,cur,hv,_⟩
    ·omega
    ·subst hv;exact⟨_,_,w',r1,r2,r3⟩
   ·have h0:l.len=0:=by omega
    have hxs:l.cells= []:=List.length_eq_zero_iff.1 (by rw[hxl,h0];simp)
    obtain⟨v',w',r1,r2,r3,r4⟩:=run_append_own (P:=C.P) w w.heap.size t ty e inf (den Env.zero z) (fi z) inf.bytes ht hi (g2 Env.zero) g5 rfl hzs hsz (.slice none 0 0) 0 [] (World.ownsRow_nil w _ e _)
     (J.adr j) 0 (J.cap j) [] (by simp) (fun k u hu=>by simp at hu) (by simp) (by simp) (by simp) (Nat.le_refl _)
    have hv:=r4.2 ⟨rfl,rfl⟩;subst hv;have hd:den J (.sa j)= .slice (some (J.adr j)) 0 (J.cap j):=by simp[den,Env.sl,hs,a2,h0]
    rw[hd,h0,hxs];exact⟨none,0,w',r1,World.ownsRow_nil w' _ e _,r3⟩
 obtain⟨ao,cap,w',r1,r2,r3⟩:=main
 have hao:∀a,ao=some a->w.heap.size<=a.block/\a.block<w'.heap.size/\a.spot=none:=fun a ha=>by
  subst ha;have:=r2.lt a.block rfl;refine⟨this.1,this.2,?_⟩;rcases r2.2 with⟨hh,_⟩|⟨g,cap',cur,hh,_⟩
  ·simp at hh
  ·simp_all
 refine⟨w',J.g9 nid ao l.len cap,?_,?_⟩
 ·simp_all[bB,den,Env.sl,Env.g9]
 ·refine⟨(Below.refl _ _).grown r3 (Nat.le_refl _) (fun k hk=>by simp at hk),vv J (fun hf=>hf ⟨Nat.le_refl _,by simp⟩),fun _ b=>∃a,ao=some a/\b=a.block,fun k hk=>?_,fun k m b hk hl hne=>?_⟩
  ·simp only[List.length_singleton,Nat.lt_one_iff]at hk;subst hk;refine⟨⟨a1,by simp[Env.g9],a3,fun a ha=>by simp[Env.g9]at ha⊢;simp[ha],fun hl=>?_,fun hl=>?_,.inr ⟨e,fun e' he=>by simpa using he.symm,?_,fun a ha=>by simp[Env.g9]at ha;exact⟨a,ha,rfl⟩⟩⟩,fun b hb=>?_⟩
   ·rcases r2.2 with⟨_,hz0⟩|⟨g,cap',cur,hh,_⟩
    ·omega
    ·simp only[Value.slice.injEq]at hh;simp[Env.g9,hh.1]
   ·rcases r2.2 with⟨_,hz0⟩|⟨g,cap',cur,hh,_⟩
    ·omega
    ·simp only[Value.slice.injEq]at hh;simp[Env.g9,hh.1]
   ·have:(J.g9 nid ao l.len cap).sl (nid+0)= .slice ao l.len cap:=by simp[Env.sl,Env.g9]
    rw[this];exact⟨r2.1,r2.2.imp id fun⟨g,cp,cu,b1,b2,b3⟩=>⟨g,cp,cu,b1,Nat.zero_le _,b3⟩⟩
   ·grind
  ·simp_all
def sat (s:ByteArray) (i:Nat):UInt8:=s.data.getD i 0
def xB (b:Bytes) (lo hi:Nat):ByteArray:=⟨b.toArray.extract lo hi⟩
def sS (b:Bytes) (lo n:Nat) (s:ByteArray):Bytes:=Vector.ofFn fun(i:Fin 64)=>if lo<=i.1/\i.1<lo+n then sat s (i.1-lo)else b.at i.1
def aaa (s:ByteArray) (lo hi:Nat):ByteArray:=s.extract lo hi
def YY (a b:ByteArray):ByteArray:=a++b
def JE (s:ByteArray) (lo hi:Nat):Nat:=Nat.min s.size (hi-lo)
def Kn (b:Bytes) (lo hi:Nat) (s:ByteArray):Bytes:=sS b lo (JE s lo hi) s
def D8 (b:Bytes) (lo hi:Nat):Bytes:=sS b lo (hi-lo) ByteArray.empty
def Kc (l:List Int):ByteArray:=⟨(l.map fun i=>UInt8.ofNat i.toNat).toArray⟩
def Cr (lo hi n:Int):Prop:=0<=lo/\lo<=hi/\hi<=n
def pSz (s:ByteArray) (j:Int):Prop:=0<=j/\j<(s.size:Int)
def aaQ (a b:ByteArray):Prop:=(a.size:Int)+(b.size:Int)<=9223372036854775807
theorem yp (b:Bytes) (lo n:Nat) (s:ByteArray) (i:Nat) (h:i<64):(sS b lo n s).at i=if lo<=i/\i<lo+n then sat s (i-lo)else b.at i:=by
 unfold sS;rw[show∀v:Bytes,v.at i=v.toArray.getD i 0 from fun _=>rfl]
 simp only[Vector.toArray_ofFn,Array.getD_eq_getD_getElem?];rw[Array.getElem?_eq_getElem (by simpa using h)]
 simp[Array.getElem_ofFn]
theorem Jz (b:Bytes) (lo hi:Nat):(xB b lo hi).size=min hi 64-lo:=by simp[xB,ByteArray.size]
theorem sat_empty (k:Nat):sat ByteArray.empty k=0:=by
 rfl
def vY (o:Option V) (d:Int):Option Int:=
 match o with
 |none=>some d
 |some v=>match toInt v with
  |some (_,j)=>some j
  |none=>none
def Jp:V->Bool
 | .lp _ _=>true
 | .ap _ _ _ _=>true
 |_=>false
def ZJ (o:Option V):Bool:=
 match o with
 |none=>true
 |some v=>xF v
def U7 (P:Program) (t:Nat) (x:V) (lo hi:Option V):Option (Option Prop×V):=
 match P.underlying t with
 |some .string=>match x with
  | .st s=>match vY lo 0,vY hi (bN s)with
    |some a,some b=>some (some (Cr a b (bN s)),.st (aaa s (pH a) (pH b)))
    |_,_=>none
  |_=>none
 |some (.array n e)=>if n==64&&Jp x&&oZ P e==some 1 then match vY lo 0,vY hi 64 with
  |some a,some b=>some (some (Cr a b 64),.bs x (pH a) (pH b))
  |_,_=>none
  else if Jp x&&ZJ lo&&ZJ hi then match oZ P e with
   |some z=>match vY lo 0,vY hi (n:Int)with
    |some a,some b=>if decide (0<=a)&&decide (a<=b)&&decide (b<=(n:Int))then some (none,.ks x z n a.toNat b.toNat)else none
    |_,_=>none
   |none=>none
  else none
 |_=>none
section
variable {C:Ctx} {J:Env} {fps:Nat->Nat->Prop} {res:List aK} {K:Nat->Prop} {w0 w:World} {F0:Nat->Prop}
theorem ua {P:Program} {s:Bool} {n:Nat} {lo hi:Option V} {a b:Int} (ha:vY lo 0=some a) (hb:vY hi (n:Int)=some b) (hk:(∀v,lo=some v->ok K v)/\∀v,hi=some v->ok K v) (hp:Cr a b n):
  (Instr.sliceBounds s n n (lo.map (den J)) (hi.map (den J)) none).run P w= .ok (a.toNat,b.toNat,n) w:=by
 obtain⟨h0,h1,h2⟩:=hp
 have hlo:∀(c:BoundsCode) (y:Nat),a<=y->∀v,lo=some v->(Instr.sliceBound (den J v) y c).run P w= .ok a.toNat w:=fun c y hy v hv=>by
  subst hv;unfold vY at ha;cases ht:toInt v with
  |none=>simp[ht]at ha
  |some kj=>
   obtain⟨k,j⟩:=kj;simp only[ht,aa0]at ha;subst ha;rw[(en (J:=J) ht (hk.1 v rfl)).1];simp[Instr.sliceBound,asIntOf,h0,hy]
 have hhi:∀(c:BoundsCode),∀v,hi=some v->(Instr.sliceBound (den J v) n c).run P w= .ok b.toNat w:=fun c v hv=>by
  subst hv;unfold vY at hb;cases ht:toInt v with
  |none=>simp[ht]at hb
  |some kj=>
   obtain⟨k,j⟩:=kj;simp only[ht,aa0]at hb;subst hb;rw[(en (J:=J) ht (hk.2 v rfl)).1];simp[Instr.sliceBound,asIntOf,show 0<=j by omega,h2]
 unfold Instr.sliceBounds;cases hhe:hi with
 |none=>
  subst hhe;have hb':b=n:=by simpa[vY]using hb.symm
  subst hb';cases hle:lo with
  |none=>subst hle;have:a=0:=by simpa[vY]using ha.symm
         subst this;simp
  |some v=>simp[hlo _ n (by omega) v hle]
 |some u=>
  have e:=hhi (if s then .sliceAcap else .sliceAlen) u hhe
  cases hle:lo with
  |none=>subst hle;have:a=0:=by simpa[vY]using ha.symm
         subst this;simp[e]
  |some v=>simp[e,hlo .sliceB b.toNat (by omega) v hle]
theorem uv {x:V} (h:Jp x=true):∃b o,den J x= .pointer (some ⟨b,o,none⟩):=by
 cases x<;>simp[Jp]at h
 ·exact⟨_,_,rfl⟩
 ·exact⟨_,_,rfl⟩
theorem LV {P:Program} {t:Nat} {x r:V} {lo hi:Option V} {q:Option Prop} (h:U7 P t x lo hi=some (q,r)) (hq:dX q) (hx:ok K x) (hl:∀v,lo=some v->ok K v) (hh:∀v,hi=some v->ok K v):
  (Instr.sliceAt t (den J x) (lo.map (den J)) (hi.map (den J)) none).run P w= .ok (den J r) w/\ok K r:=by
 unfold U7 at h;split at h
 ·rename_i hu;split at h
  ·rename_i s;split at h
   ·rename_i a b ha hb;simp only[aa0,aa1]at h;obtain⟨rfl,rfl⟩:=h;have hb':=ua (J:=J) (K:=K) (w:=w) (P:=P) (s:=false) (n:=s.size) ha hb ⟨hl,hh⟩ hq;refine⟨?_,trivial⟩;simp only[Instr.sliceAt,Instr.slice,Sem.run_bind,bG w hu,Result.andThen_ok,den,Option.isSome_none,Bool.false_eq_true,if_false];simp[hb',aaa,pH]
   ·simp at h
  ·simp at h
 ·rename_i n e hu;split at h
  ·rename_i hc;simp only[aa2,aa4]at hc;obtain⟨⟨rfl,hp⟩,hs⟩:=hc;split at h
   ·rename_i a b ha hb;simp only[aa0,aa1]at h;obtain⟨rfl,rfl⟩:=h;have hb':=ua (J:=J) (K:=K) (w:=w) (P:=P) (s:=false) (n:=64) ha hb ⟨hl,hh⟩ hq;obtain⟨g,o,hd⟩:=uv (J:=J) hp;obtain⟨q1,q2,q3⟩:=(show Cr a b 64 from hq);refine⟨?_,hx,by unfold pH;omega,by unfold pH;omega⟩
    simp only[Instr.sliceAt,Sem.run_bind,bG w hu,Result.andThen_ok,den,hd,Instr.sureAddr,Sem.run_pure,hb',gF w hs,xg,Nat.mul_one];by_cases e:a.toNat=64
    ·rw[aa9 e.symm,aa9 (show pH a=64 from e)];rfl
    ·rw[aa8 (Ne.symm e),aa8 (show¬pH a=64 from e)];rfl
   ·simp at h
  ·split at h
   case isFalse=>simp at h
   rename_i hc;simp only[aa2]at hc;split at h
   case h_2=>simp at h
   rename_i z hs;split at h
   case h_2=>simp at h
   rename_i a b ha hb;split at h<;>simp only[aa0,aa1,reduceCtorEq]at h
   rename_i hd;simp only[aa2,aa3]at hd;obtain⟨⟨q1,q2⟩,q3⟩:=hd;obtain⟨_,rfl⟩:=h;have hb':=ua (J:=J) (K:=K) (w:=w) (P:=P) (s:=false) (n:=n) ha hb ⟨hl,hh⟩ ⟨q1,q2,q3⟩;obtain⟨g,o,hd⟩:=uv (J:=J) hc.1.1;refine⟨?_,hx,by omega,by omega⟩
   simp only[Instr.sliceAt,Sem.run_bind,bG w hu,Result.andThen_ok,den,hd,Instr.sureAddr,Sem.run_pure,hb',gF w hs,xc];by_cases e:a.toNat=n
   ·rw[aa9 e.symm,aa9 e]
   ·rw[aa8 (Ne.symm e),aa8 e]
 ·simp at h
def G3 (res:List aK) (p:V):Option (Option Prop×Bytes):=
 match p with
 | .lp id off=>match cH res id with
   | .blk _ c=>match iP 8 c off 64 true with
     |some r=>match r with
      | .by b=>some (none,b)
      |_=>none
     |none=>none
   |_=>none
 | .ap id esz i off=>match cH res id with
   | .arr _ esz' l=>if esz==esz' then match iP 8 (l.get i) off 64 true with
     |some r=>match r with
      | .by b=>some (some (Kq i l.len),b)
      |_=>none
     |none=>none
     else none
   |_=>none
 |_=>none
theorem Er {p:V} {q:Option Prop} {b:Bytes} (h:bq J fps res K w0 F0 w) (hb:G3 res p=some (q,b)) (hq:dX q):
  ∃g o,den J p= .pointer (some ⟨g,o,none⟩)/\∀k,k<64->w.cell? ⟨g,o+k,none⟩=(cZ b)[k]? :=by
 unfold G3 at hb;split at hb
 ·rename_i id off;split at hb
  ·rename_i ty c hc;split at hb
   ·rename_i r hg;split at hb<;>simp only[aa0,aa1,reduceCtorEq]at hb
    rename_i b';obtain⟨_,rfl⟩:=hb;obtain⟨fp,hh,_⟩:=h.look hc (by simp)
    obtain⟨h1,h2,h3,h4⟩:=hh;obtain⟨⟨P,Q,e1,rfl⟩,_⟩:=ff J 8 c off 64 true _ h1 h2 hg;refine⟨_,_,rfl,fun k hk=>?_⟩
    rw[cell_of_row w _ _ _ _ _ h4];rw[kF]at e1;simp only[List.getElem?_toArray,e1];exact j7 P _ Q k (by rw[fy];exact hk)
   ·simp at hb
  ·simp at hb
 ·rename_i id esz i off;split at hb
  ·rename_i own esz' l hc;split at hb
   ·rename_i he;have he:=aa4.1 he;subst he;split at hb
    ·rename_i r hg;split at hb<;>simp only[aa0,aa1,reduceCtorEq]at hb
     rename_i b';obtain⟨rfl,rfl⟩:=hb;obtain⟨g1,g2,g3,g4⟩:=ni h hc hq;obtain⟨⟨P,Q,e1,e2⟩,_⟩:=ff J 8 _ off 64 true _ g1 g2 hg;have hlg:=bg J _ g1;rw[kF]at e1;refine⟨_,_,rfl,fun k hk=>?_⟩
     have hk2:off+k<esz:=by
      rw[<-g3,<-hlg,e1];simp[fy];omega
     rw[show(J.adr id).off+(i*esz+off)+k=(J.adr id).off+(i*esz+(off+k)) by omega,g4 _ hk2,e1,e2]
     exact j7 P _ Q k (by rw[fy];exact hk)
    ·simp at hb
   ·simp at hb
  ·simp at hb
 ·simp at hb
theorem yF:∀(l:List Int) (s:ByteArray),(l.foldl (fun r n=>r.push (UInt8.ofNat n.toNat)) s).data=s.data++(l.map fun i=>UInt8.ofNat i.toNat).toArray
 | [],s=>by simp
 |x::l,s=>by
  rw[List.foldl_cons,yF l];simp[ByteArray.push]
theorem BI (l:List Int):l.foldl (fun r n=>r.push (UInt8.ofNat n.toNat)) ByteArray.empty=Kc l:=by
 apply ByteArray.ext
 rw[yF];simp[Kc]
def cvS (P:Program) (res:List aK) (s d:Nat) (x:V):Option (Option Prop×V):=
 match P.underlying s,P.underlying d with
 |some (.slice e),some .string=>match P.underlying e with
  |some (.int k)=>if k== .u8 then match x with
   | .bs p lo hi=>match G3 res p with
     |some r=>some (r.1,.st (xB r.2 lo hi))
     |none=>none
   | .sa id=>match cH res id with
     | .arr _ esz l=>match l with
       | .it k' m=>if esz==1&&k'== .u8 then some (none,.st (Kc m))else none
       |_=>none
     |_=>none
   |_=>none
   else none
  |_=>none
 |_,_=>none
theorem KT (b:Bytes) (lo hi:Nat) (h:hi<=64):Kc ((List.range (hi-lo)).map fun k=>((b.at (lo+k)).toNat:Int))=xB b lo hi:=by
 apply ByteArray.ext
 unfold Kc xB;apply Array.ext
 ·simp;omega
 ·intro i h1 h2;simp at h1;have:lo+i<64:=by omega
  simp[Bytes.at,Array.getD_eq_getD_getElem?,Array.getElem?_eq_getElem,this]
theorem Ky {P:Program} {s d:Nat} {x r:V} {q:Option Prop} (h:bq J fps res K w0 F0 w) (hl:cvS P res s d x=some (q,r)) (hq:dX q) (hx:ok K x):
  (convert s d (den J x)).run P w= .ok (den J r) w/\ok K r:=by
 unfold cvS at hl;split at hl
 case h_2=>simp at hl
 rename_i e hs hd;split at hl
 case h_2=>simp at hl
 rename_i k he;split at hl
 case isFalse=>simp at hl
 rename_i hk;have hk:=aa4.1 hk;subst hk;split at hl
 ·rename_i p lo hi;split at hl
  case h_2=>simp at hl
  rename_i qb hb;obtain⟨q',b⟩:=qb;simp only[aa0,aa1]at hl;obtain⟨rfl,rfl⟩:=hl;obtain⟨g,o,hg,hc⟩:=Er h hb hq;obtain⟨_,h1,h2⟩:=hx;refine⟨?_,trivial⟩;simp only[den,hg,xg];rw[run_convert_bytes_string w s d e _ _ _ hs he hd]
  have hload:(loadCells (if lo=64 then(⟨g,o,none⟩:Addr)else(⟨g,o,none⟩:Addr).add lo) (hi-lo)).run P w= .ok ((((List.range (hi-lo)).map fun k=>((b.at (lo+k)).toNat:Int)).map (Value.int .u8)).toArray) w:=by
   have:=run_loadCells_list (P:=P) w (if lo=64 then(⟨g,o,none⟩:Addr)else(⟨g,o,none⟩:Addr).add lo) (((List.range (hi-lo)).map fun k=>((b.at (lo+k)).toNat:Int)).map (Value.int .u8)) (fun j v hv=>by
    have hj:j<hi-lo:=by have:=(List.getElem?_eq_some_iff.1 hv).1;simpa using this
    rw[aa8 (by omega),add_lit,add_lit,Nat.add_assoc,hc _ (by omega),<-hv]
    simp[cZ,hj,show lo+j<64 by omega])
   simpa using this
  rw[run_bytesToString w _ _ _ _ hload,BI,KT b lo hi h2]
 ·rename_i id;split at hl
  case h_2=>simp at hl
  rename_i own esz l hr;split at hl
  case h_2=>simp at hl
  rename_i k' m;split at hl
  case isFalse=>simp at hl
  rename_i hc;simp only[aa2,aa4]at hc;obtain⟨rfl,rfl⟩:=hc;simp only[aa0,aa1]at hl;obtain⟨_,rfl⟩:=hl;refine⟨?_,trivial⟩;obtain⟨fp,hh,_⟩:=h.look hr (by simp)
  obtain⟨a1,a2,a3,a4,a5,a6,_⟩:=hh;have hlen:(TL.it .u8 m).len=m.length:=rfl;rw[hlen]at a2 a5 a6;simp only[den];rw[run_convert_bytes_string w s d e _ _ _ hs he hd];cases hsa:J.sa id with
  |none=>
   have:m= []:=by
    simp_all
   subst this;simp[Conv.bytesToString,Kc,ByteArray.empty,ByteArray.emptyWithCapacity];rfl
  |some a=>
   have ha:=a4 a hsa;subst ha
   have hload:(loadCells (J.adr id) (J.sn id)).run P w= .ok ((m.map (Value.int .u8)).toArray) w:=by
    have:=run_loadCells_list (P:=P) w (J.adr id) (m.map (Value.int .u8)) (fun j v hv=>by
     have hj:j<m.length:=by have:=(List.getElem?_eq_some_iff.1 hv).1;simpa using this
     have hsp:=a6 (by omega)
     obtain⟨_,_,_,g4⟩:=ni h hr (i:=j) hj;have g:=g4 0 (by omega)
     have:(J.adr id).add j=⟨(J.adr id).block,(J.adr id).off+j,none⟩:=by
      cases had:J.adr id with
      |mk bb oo ss=>rw[had]at hsp;simp only at hsp;subst hsp;rw[add_lit]
     rw[this,<-hv];simp only[Nat.mul_one,Nat.add_zero]at g;rw[g];simp[TL.get,cells,den,Value.cells,aj,hj])
    simpa[a2]using this
   rw[run_bytesToString w _ _ _ _ hload,BI]
 ·simp at hl
theorem Bc {P:Program} {id ty off lo n:Nat} {c c':V} {b b':Bytes} {xs:List Value} (h:bq J fps res K w0 F0 w) (hr:ay res id= .blk ty c) (hg:iP 8 c off 64 true=some (.by b)) (hs:setAt 8 c off (.by b')=some c')
  (hlo:lo+n<=64) (hx:xs.length=n) (hb:cZ b'=(cZ b).take lo++xs++(cZ b).drop (lo+n)) (h1:∀v∈xs,v.oneCell'=true):
  ∃w',(storeCells ⟨J.num id,off+lo,none⟩ xs).run P w= .ok () w'/\bq J fps (bO res id (.blk ty c')) K w0 F0 w'/\∀i,known (bO res id (.blk ty c')) i↔known res i:=by
 have hk:known res id:=by unfold known;rw[hr];simp
 have hh:=h.holds id hk;rw[hr]at hh;obtain⟨k1,k2,k3,k4⟩:=hh;obtain⟨⟨p,q,e1,e2⟩,_⟩:=ff J 8 c off 64 true _ k1 k2 hg;obtain⟨⟨p',m,q',f1,f2,f3,f4⟩,_,f6,f7⟩:=iy J (.by b') (N:=K) trivial rfl 8 c off c' k1 k2 hs
 rw[kF]at e1 f2;have hbl:=fy b;obtain⟨rfl,rfl,rfl⟩:=lC (f1.symm.trans e1) (by omega) (by rw[f4,hbl];rfl)
 have hcl:(cells J c).length=p'.length+64+q'.length:=by rw[e1];simp[hbl];omega
 have hst:=run_storeCells_at (P:=P) (J.num id) (off+lo) ty xs 0 (cells J c).toArray w k4 (by simp only[List.size_toArray];omega) h1
 have hrow:(cells J c).take (off+lo)++xs++(cells J c).drop (off+lo+xs.length)=cells J c':=by
  rw[f2,hb,e1,<-f3,hx]
  have t1:(p'++cZ b++q').take (p'.length+lo)=p'++(cZ b).take lo:=by
   rw[List.append_assoc,List.take_append,List.take_of_length_le (by omega)]
   rw[show p'.length+lo-p'.length=lo by omega,List.take_append_of_le_length (by omega)]
  have t2:(p'++cZ b++q').drop (p'.length+lo+n)=(cZ b).drop (lo+n)++q':=by
   rw[List.append_assoc,List.drop_append,List.drop_of_length_le (by omega)]
   rw[show p'.length+lo+n-p'.length=lo+n by omega,List.drop_append_of_le_length (by omega)]
   rfl
  rw[t1,t2];simp
 refine⟨w.setRow (J.num id) (cells J c').toArray,?_,?_,fun i=>?_⟩
 ·simp only[Nat.add_zero]at hst;rw[hst,hrow]
 ·exact h.write hr f6 f7 rfl rfl rfl (by simp[World.setRow]) (setRow_heap w _ _ _ _ (0,0) k4) fun b hb=>setRow_other w _ _ b hb
 ·grind[known,bK,aO]
theorem wW (b:Bytes) (lo n:Nat) (s:ByteArray) (h:lo+n<=64):cZ (sS b lo n s)=(cZ b).take lo++(List.range n).map (fun k=>Value.int .u8 ((sat s k).toNat:Int))++(cZ b).drop (lo+n):=by
 apply List.ext_getElem?
 intro i;have hbl:=fy b;by_cases hi:i<64
 ·have hl:∀b:Bytes,(cZ b)[i]? =some (.int .u8 ((b.at i).toNat:Int)):=fun b=>by simp[cZ,hi]
  rw[hl,yp _ _ _ _ _ hi,List.append_assoc];by_cases h1:i<lo
  ·grind
  ·grind
 ·grind[fy]
def cpV (C:Ctx) (res:List aK) (ts:List Nat) (xs:List V):Option (V×List aK):=
 match ts,xs with
 | [t,_],[d,s]=>match C.P.underlying t with
   |some (.slice e)=>if oZ C.P e==some 1 then match d with
    | .bs p lo hi=>match p with
      | .lp id off=>match s with
        | .st z=>match ay res id with
          | .blk ty c=>match iP 8 c off 64 true with
            |some r=>match r with
             | .by b=>match setAt 8 c off (.by (Kn b lo hi z))with
               |some c'=>some (.it .i64 (bD (JE z lo hi)),bO res id (.blk ty c'))
               |none=>none
             |_=>none
            |none=>none
          |_=>none
        |_=>none
      |_=>none
    |_=>none
    else none
   |_=>none
 |_,_=>none
theorem Mn {ts:List Nat} {xs:List V} {ty:Nat} {r:V} {res':List aK} (h:bq J fps res K w0 F0 w) (hl:cpV C res ts xs=some (r,res')) (hx:fM K xs):
  ∃w',(Builtin.copy_ ts.toArray ty (bB J xs).toArray).run C.P w= .ok (den J r) w'/\bq J fps res' K w0 F0 w'/\(∀i,known res' i↔known res i)/\ok K r:=by
 unfold cpV at hl;split at hl
 case h_2=>simp at hl
 rename_i t t' d s;split at hl
 case h_2=>simp at hl
 rename_i e ht;split at hl
 case isFalse=>simp at hl
 rename_i hs;have hs:=aa4.1 hs;split at hl
 case h_2=>simp at hl
 rename_i p lo hi;split at hl
 case h_2=>simp at hl
 rename_i id off;split at hl
 case h_2=>simp at hl
 rename_i z;split at hl
 case h_2=>simp at hl
 rename_i ty' c hr;split at hl
 case h_2=>simp at hl
 rename_i rb hg;split at hl
 case h_2=>simp at hl
 rename_i b;split at hl
 case h_2=>simp at hl
 rename_i c' hset;simp only[aa0,aa1]at hl;obtain⟨rfl,rfl⟩:=hl;obtain⟨⟨_,h1,h2⟩,_⟩:=hx;have hn:JE z lo hi<=hi-lo:=Nat.min_le_right _ _;have hnz:JE z lo hi<=z.size:=Nat.min_le_left _ _
 obtain⟨w',e1,e2,e3⟩:=Bc (P:=C.P) (n:=JE z lo hi) (xs:=(List.range (JE z lo hi)).map fun k=>Value.int .u8 ((sat z k).toNat:Int)) h hr hg hset (by omega) (by simp) (wW b lo _ z (by omega)) (fun v hv=>by
  simp only[List.mem_map]at hv;obtain⟨_,_,rfl⟩:=hv;rfl)
 refine⟨w',?_,e2,e3,by simp only[ok,bY,bD];omega⟩
 have hcells:((z.extract 0 (JE z lo hi)).data.map fun b=>Value.int .u8 (b.toNat:Int)).toList=(List.range (JE z lo hi)).map fun k=>Value.int .u8 ((sat z k).toNat:Int):=by
  apply List.ext_getElem?
  intro i;by_cases hi:i<JE z lo hi
  ·have:i<z.data.size:=Nat.lt_of_lt_of_le hi hnz;simp[sat,hi,ByteArray.data_extract,Array.getElem?_extract,this,Array.getElem?_eq_getElem this]
  ·simp_all
 have hcells2:=congrArg List.toArray hcells;simp only[Array.toArray_toList]at hcells2;have hsz:C.P.info? e=none\/∃inf,C.P.info? e=some inf:=by cases C.P.info? e<;>simp
 have hdst:∀xs:List Value,xs=(List.range (JE z lo hi)).map (fun k=>Value.int .u8 ((sat z k).toNat:Int))->(storeCells (if lo=64 then(⟨J.num id,off,none⟩:Addr)else(⟨J.num id,off,none⟩:Addr).add lo) xs).run C.P w= .ok () w':=fun xs hxs=>by
  subst hxs;by_cases e:lo=64
  ·have h0:JE z lo hi=0:=by omega
   rw[h0]at e1⊢;simp only[List.range_zero,List.map_nil,storeCells]at e1⊢;exact e1
  ·rw[aa8 e,add_lit];exact e1
 simp only[bB,den,xg,Builtin.copy_,List.size_toArray,List.getElem?_toArray];simp only[List.getElem?_cons_zero,List.getElem?_cons_succ,Sem.run_bind,bG w ht,Result.andThen_ok,Builtin.lenOf,Sem.run_pure,gF w hs,Builtin.firstCells];rw[show Nat.min z.size (hi-lo)=JE z lo hi from rfl,hcells2];simp only[Sem.run_bind,Result.andThen_ok,hdst _ rfl,Sem.run_pure,goInt,bD]
def VE (C:Ctx) (res:List aK) (ts:List Nat) (xs:List V):Option (List aK):=
 match ts,xs with
 | [t],[d]=>match C.P.underlying t with
   |some (.slice e)=>match C.Z e with
    |some z=>match toByte z with
     |some y=>if y==0 then match d with
      | .bs p lo hi=>match p with
        | .lp id off=>match ay res id with
          | .blk ty c=>match iP 8 c off 64 true with
            |some r=>match r with
             | .by b=>match setAt 8 c off (.by (D8 b lo hi))with
               |some c'=>some (bO res id (.blk ty c'))
               |none=>none
             |_=>none
            |none=>none
          |_=>none
        |_=>none
      |_=>none
      else none
     |none=>none
    |none=>none
   |_=>none
 |_,_=>none
theorem Kj {ts:List Nat} {xs:List V} {ty:Nat} {res':List aK} (hC:C.Ko) (h:bq J fps res K w0 F0 w) (hl:VE C res ts xs=some res') (hx:fM K xs):
  ∃w',(Builtin.clear_ ts.toArray ty (bB J xs).toArray).run C.P w= .ok (.tuple #[]) w'/\bq J fps res' K w0 F0 w'/\(∀i,known res' i↔known res i):=by
 unfold VE at hl;split at hl
 case h_2=>simp at hl
 rename_i t d;split at hl
 case h_2=>simp at hl
 rename_i e ht;split at hl
 case h_2=>simp at hl
 rename_i zv hz;split at hl
 case h_2=>simp at hl
 rename_i y hy;split at hl
 case isFalse=>simp at hl
 rename_i hy0;have hy0:=aa4.1 hy0;subst hy0;split at hl
 case h_2=>simp at hl
 rename_i p lo hi;split at hl
 case h_2=>simp at hl
 rename_i id off;split at hl
 case h_2=>simp at hl
 rename_i ty' c hr;split at hl
 case h_2=>simp at hl
 rename_i rb hg;split at hl
 case h_2=>simp at hl
 rename_i b;split at hl
 case h_2=>simp at hl
 rename_i c' hset;simp only[aa0]at hl;subst hl;obtain⟨⟨_,h1,h2⟩,_⟩:=hx
 obtain⟨w',e1,e2,e3⟩:=Bc (P:=C.P) (n:=hi-lo) (xs:=(List.range (hi-lo)).map fun k=>Value.int .u8 ((sat ByteArray.empty k).toNat:Int)) h hr hg hset (by omega) (by simp) (wW b lo _ _ (by omega)) (fun v hv=>by
  simp only[List.mem_map]at hv;obtain⟨_,_,rfl⟩:=hv;rfl)
 refine⟨w',?_,e2,e3⟩;have hs0:=sat_empty;obtain⟨inf,g1,g2,g3,g4,g5⟩:=hC e zv hz
 have hzc:(den J zv).cells= #[.int .u8 0]:=by
  have:=(rk J hy).1;simp only[cells]at this;apply Array.ext'
  simpa using this
 by_cases hz0:hi-lo=0
 ·rw[hz0]at e1;simp only[List.range_zero,List.map_nil,storeCells,Sem.run_pure,Result.ok.injEq,true_and]at e1;subst e1;simp[bB,den,xg,Builtin.clear_,bG w ht,hz0]
 ·have hz1:hi-lo=(hi-lo-1)+1:=by omega
  have hdst:(storeCells (if lo=64 then(⟨J.num id,off,none⟩:Addr)else(⟨J.num id,off,none⟩:Addr).add lo) (Builtin.zeroCells #[.int .u8 0] (hi-lo)).toList).run C.P w= .ok () w':=by
   rw[aa8 (by omega),add_lit,<-e1]
   congr 1
   congr 1
   unfold Builtin.zeroCells;apply List.ext_getElem?
   intro i;simp only[hs0];by_cases hi':i<hi-lo
   ·simp[hi',Nat.mod_one]
   ·simp[hi']
  rw[hz1]at hdst
  have hzero:(zeroValue e).run C.P w= .ok (den J zv) w:=by
   simp[zeroValue,typeInfo,g1,g2 J]
  simp only[bB,den,xg,Builtin.clear_,List.getElem?_toArray,List.getElem?_cons_zero,Sem.run_bind,bG w ht,Result.andThen_ok];rw[hz1];simp[hzero,hzc,hdst]
end
abbrev RR:=Option (Option Prop×V×List aK)
def iR (P:Program) (f:Nat):Bool:=
 match P.funcs[f]? with
 |some fn=>fn.name != "runtime.NumGoroutine" &&fn.body.isSome
 |none=>false
def UR (C:Ctx) (res:List aK) (nid:Nat) (fv:V) (args:List V):RR:=
 match fv with
 | .fn f caps=>match C.Γ f with
   |some g=>if Nat.blt f 2000 then(if iR C.P f then g res nid (args++caps)else none)else none
   |none=>none
 |_=>none
def V8 (P:Program) (res:List aK) (t:Nat) (x:V):Option (Option Prop×V):=
 match P.underlying t with
 |some .string=>match x with
  | .st s=>some (some (aF .i64 (bN s)),.it .i64 (bN s))
  |_=>none
 |some (.slice _)=>match x with
  | .sa id=>match cH res id with
    | .arr _ _ l=>some (none,.it .i64 (bD l.len))
    | .obs _ _ L=>some (none,.it .i64 (bD (ai L)))
    |_=>none
  | .sc _ len _=>if bY .i64 (len:Int)then some (none,.ci .i64 (len:Int))else none
  | .ks x _ _ lo hi=>if Jp x&&bY .i64 ((hi-lo:Nat):Int)then some (none,.ci .i64 ((hi-lo:Nat):Int))else none
  | .nl (.slice none 0 0)=>some (none,.ci .i64 0)
  |_=>none
 |some (.array n _)=>if bY .i64 (n:Int)then some (none,.ci .i64 (n:Int))else none
 |_=>none
def WO (x y:V):Option V:=
 match toInt x,toInt y with
 |some (k,a),some (k',b)=>if k==k' then some (.it k (lQ a b))else none
 |_,_=>none
def WY (x y:V):Option V:=
 match toInt x,toInt y with
 |some (k,a),some (k',b)=>if k==k' then some (.it k (imax a b))else none
 |_,_=>none
def zS (C:Ctx) (res:List aK) (b:Builtin) (ts:List Nat) (xs:List V):Option (Option Prop×V):=
 match b,ts,xs with
 | .len,t::_,[x]=>V8 C.P res t x
 | .min,_,[x,y]=>(WO x y).map fun r=>(none,r)
 | .max,_,[x,y]=>(WY x y).map fun r=>(none,r)
 |_,_,_=>none
def HA (c a b:V):Option V:=
 match toBool c,toBool a,toBool b with
 |some x,some y,some z=>
  if S5 c then some (if x then a else b)
  else match a,b with
   | .cb true,_=>some (.bo (Yv x z))
   | .cb false,_=>some (.bo (Ve (QF x) z))
   |_,.cb false=>some (.bo (Ve x y))
   |_,.cb true=>some (.bo (Yv (QF x) y))
   |_,_=>some (.bo (YT x y z))
 |_,_,_=>none
theorem FO {c a b r:V} (h:HA c a b=some r):∃x y z,toBool c=some x/\toBool a=some y/\toBool b=some z/\toBool r=some (if x then y else z):=by
 unfold HA at h;split at h
 ·rename_i x y z hc ha hb;refine⟨x,y,z,hc,ha,hb,?_⟩;split at h
  ·grind
  ·grind[toBool,Ve,Yv,QF,YT]
 ·simp at h
def Uv (v:V) (b:Bool):V:=
 match v with
 | .cb true=> .cb false
 | .cb false=> .cb true
 |_=> .bo (QF b)
theorem IJ {v:V} {b:Bool} (h:toBool v=some b):toBool (Uv v b)=some (!b):=by
 cases v<;>simp[toBool]at h<;>subst h
 ·rename_i b;cases b<;>rfl
 ·rfl
def isStr (P:Program) (t:Nat) (x i:V):Option (Option Prop×V):=
 match P.underlying t,x,toInt i with
 |some .string,.st s,some (_,j)=>some (some (pSz s j),.bt (sat s (pH j)))
 |_,_,_=>none
theorem GI {P:Program} {J:Env} {K:Nat->Prop} {w:World} {t:Nat} {x i r:V} {q:Option Prop} (h:isStr P t x i=some (q,r)) (hq:dX q) (hi:ok K i):(Instr.index t (den J x) (den J i)).run P w= .ok (den J r) w/\ok K r:=by
 unfold isStr at h;split at h<;>simp only[aa0,aa1,reduceCtorEq]at h
 rename_i s k j hu hj;obtain⟨rfl,rfl⟩:=h;obtain⟨h0,h1⟩:=(show pSz s j from hq);refine⟨?_,trivial⟩;rw[(en (J:=J) hj hi).1];have hlt:j.toNat<s.size:=by omega
 have hg:s[j.toNat]? =some (sat s j.toNat):=by
  have hd:j.toNat<s.data.size:=hlt;rw[getElem?_pos s j.toNat hlt];congr 1
  unfold sat;rw[Array.getD_eq_getD_getElem?,Array.getElem?_eq_getElem hd];rfl
 simp only[Instr.index,asIntOf,Sem.run_bind,Sem.run_pure,Result.andThen_ok,bG w hu,den,h0,if_true,hg,pH]
def RZ (op:BinOp) (x y:V):Option (Option Prop×V):=
 match op,x,y with
 | .add,.st a,.st b=>some (some (aaQ a b),.st (YY a b))
 |_,_,_=>none
theorem JN {P:Program} {J:Env} {K:Nat->Prop} {op:BinOp} {t:Nat} {x y r:V} {q:Option Prop} (w:World) (o1 o2:Operand) (h:RZ op x y=some (q,r)) (hq:dX q):
  (do eqGuard op t o1 o2 (den J x) (den J y);binOp op t (den J x) (den J y)).run P w= .ok (den J r) w/\ok K r:=by
 unfold RZ at h;split at h<;>simp only[aa0,aa1,reduceCtorEq]at h
 rename_i a b;obtain⟨rfl,rfl⟩:=h;have hq:(a.size:Int)+(b.size:Int)<=9223372036854775807:=hq;have hm:IntKind.i64.max=9223372036854775807:=rfl;refine⟨?_,trivial⟩;simp[eqGuard,binOp,Op.stringOp,den,YY,hm];omega
def uK (sl:List S) (ch:List (Nat×Bool)) (ps:List (Nat×Operand)):Option (List (Nat×V)):=
 allM (fun p:Nat×Operand=>(fo sl ch p.2).map fun v=>(p.1,v)) ps
def CN (C:Ctx) (sl:List S) (res:List aK) (nid:Nat) (ch:List (Nat×Bool)):Op->RR
 | .move x=>(fo sl ch x).map fun v=>(none,v,[])
 | .assign x=>(fo sl ch x).map fun v=>(none,v,[])
 | .pick c a b=>match c with
   | .tmp s=>match fo sl ch c with
     |some (.cb x)=>if x then(fo sl ch a).map fun v=>(none,v,[])else(fo sl ch b).map fun v=>(none,v,[])
     |some cv=>match fo sl ((s,true)::ch) a,fo sl ((s,false)::ch) b with
      |some av,some bv=>(HA cv av bv).map fun v=>(none,v,[])
      |_,_=>none
     |none=>none
   |_=>none
 | .box t x=>match fo sl ch x with
   |some v=>if cS v then none else some (none,.lp nid 0,[.blk t v])
   |none=>none
 | .alloc t=>match C.Z t with
   |some z=>some (none,.lp nid 0,[.blk t z])
   |none=>none
 | .makeSlice t x y=>match fo sl ch x,fo sl ch y with
   |some a,some b=>E6 C nid t a b
   |_,_=>none
 | .makeInterface t x=>match fo sl ch x,C.P.underlying t with
   |some v,some d=>match d with
    | .interface _=>none
    |_=>some (none,.ic t v,[])
   |_,_=>none
 | .makeMap t r=>match r with
   |none=>match C.P.underlying t with
    |some (.map kt _)=>match C.P.underlying kt with
     |some (.int kd)=>some (none,.mp nid,[.mp kd [] []])
     |some (.struct _)=>some (none,.mp nid,[.mq [] []])
     |_=>none
    |_=>none
   |some _=>none
 | .lookup t m x two=>match fo sl ch m,fo sl ch x with
   |some mv,some xv=>match Ld C res t mv xv two with
    |some y=>some (none,y,[])
    |none=>match MS C res t mv xv two with
     |some y=>some (none,y,[])
     |none=>none
   |_,_=>none
 | .load t x=>match fo sl ch x with
   |some p=>(Af C res t p).map fun r=>(r.1,r.2,[])
   |none=>none
 | .fieldAddr t x f=>match fo sl ch x with
   |some p=>(faV C.P t p f).map fun r=>(none,r,[])
   |none=>none
 | .field t x f=>match fo sl ch x with
   |some p=>(fdV C.P t p f).map fun r=>(none,r,[])
   |none=>none
 | .indexAddr t x i=>match fo sl ch x,fo sl ch i with
   |some p,some j=>(iaV C.P res t p j).map fun r=>(r.1,r.2,[])
   |_,_=>none
 | .index t x i=>match fo sl ch x,fo sl ch i with
   |some p,some j=>match ixV C.P t p j with
    |some r=>some (r.1,r.2,[])
    |none=>(isStr C.P t p j).map fun r=>(r.1,r.2,[])
   |_,_=>none
 | .slice t x lo hi mx=>match fo sl ch x,lo.map (fo sl ch),hi.map (fo sl ch),mx with
   |some p,none,none,none=>(U7 C.P t p none none).map fun r=>(r.1,r.2,[])
   |some p,some (some a),none,none=>(U7 C.P t p (some a) none).map fun r=>(r.1,r.2,[])
   |some p,none,some (some b),none=>(U7 C.P t p none (some b)).map fun r=>(r.1,r.2,[])
   |some p,some (some a),some (some b),none=>(U7 C.P t p (some a) (some b)).map fun r=>(r.1,r.2,[])
   |_,_,_,_=>none
 | .nilCheck x=>match fo sl ch x with
   |some (.lp i o)=>some (none,.lp i o,[])
   |some (.lx a b c d e f)=>some (none,.lx a b c d e f,[])
   |some (.ap a b c d)=>some (none,.ap a b c d,[])
   |some (.ax a b c d e f g h)=>some (none,.ax a b c d e f g h,[])
   |some (.op a b)=>some (none,.op a b,[])
   |some (.fn f l)=>some (none,.fn f l,[])
   |_=>none
 | .binOp op t x y _=>match fo sl ch x,fo sl ch y with
   |some a,some b=>match RM C.P op t a b with
    |some r=>some (r.1,r.2,[])
    |none=>(RZ op a b).map fun r=>(r.1,r.2,[])
   |_,_=>none
 | .unOp .not _ x=>match fo sl ch x with
   |some v=>match toBool v with
    |some b=>some (none,Uv v b,[])
    |none=>none
   |none=>none
 | .unOp .neg _ x=>match fo sl ch x with
   |some v=>match toInt v with
    |some (k,n)=>if xF v then(if bY k (0-n)then some (none,.ci k (0-n),[])else none)else some (some (aF k (sU 0 n)),.it k (sU 0 n),[])
    |none=>none
   |none=>none
 | .convert s d x=>match fo sl ch x with
   |some v=>match cvV C.P s d v with
    |some r=>some (r.1,r.2,[])
    |none=>(cvS C.P res s d v).map fun r=>(r.1,r.2,[])
   |none=>none
 | .extract x i=>match fo sl ch x with
   |some (.tp l)=>(l[i]?).map fun v=>(none,v,[])
   |_=>none
 | .makeFunc (.func f) first caps=>if first.isEmpty then(if Nat.blt f 2000 then(mQ sl ch caps.toList).map fun l=>(none,.fn f l,[])else none)else if caps.isEmpty then(mQ sl ch first.toList).map fun l=>(none,.fn (f+2000) l,[])else none
 | .build t ps=>match uK sl ch ps.toList with
   |some l=>(Dp C t l).map fun r=>(none,r,[])
   |none=>none
 | .buildSlice t n ps=>match uK sl ch ps.toList with
   |some l=>(Ze C t n l nid).map fun r=>(none,r.1,r.2)
   |none=>none
 | .call c=>match c.callee with
   | .value f=>match fo sl ch f,mQ sl ch c.args.toList with
     |some fv,some vs=>UR C res nid fv vs
     |_,_=>none
   | .builtin b=>match mQ sl ch c.args.toList with
     |some vs=>match b with
      | .append=>Ms C res nid c.argTypes.toList vs
      |b=>(zS C res b c.argTypes.toList vs).map fun r=>(r.1,r.2,[])
     |none=>none
   | .invoke _ _=>none
 |_=>none
def FF (P:Program) (ro:Option Nat):Fence:= {fn:=fun f=>(P.funcs[f]?).isSome=true,depth:=none,alive:=false,round:=ro}
theorem oB (P:Program) (ro:Option Nat) (n:Nat):(FF P ro).room n:=fun _ h=>by simp[FF]at h
theorem Ah {P:Program} {ro ro':Option Nat} {n n' f:Nat} {args:Array Value} {w:World} {R:Ending->World->Prop} (h:CallsIn (FF P ro) n P f args w R):CallsIn (FF P ro') n' P f args w R:=
 ⟨h.1,fun cs _=>h.2 cs (oB P ro _)⟩
theorem VQ {P:Program} {ro:Option Nat} {n f:Nat} {args:Array Value} {w:World} {R:Ending->World->Prop} (h:CallsIn (FF P ro) n P f args w R):Calls P f args w R:=h.calls (fun k=>oB P ro k)
def eO (o:Oper):Prop:=∀c,o.op≠ .defer c
def exB (P:Program) (f:Nat):Bool:=(P.funcs[f]?).isSome
def Xo (P:Program):V->Bool
 | .fn g _=>exB P (FB g)
 | .ch _ g _ y=>exB P (FB g)&&Xo P y
 | .yl _=>true
 | .nl v=>match v with
   | .nilFunc=>true
   |_=>false
 |_=>false
def abB (P:Program) (sl:List S) (o:Oper):Bool:=
 match o.op with
 | .call c=>match c.callee with
   | .builtin _=>true
   | .invoke _ _=>false
   | .value f=>match f with
     | .func g=>exB P g
     | .tmp t=>match b9 sl t with
       | .v x=>Xo P x
       | .gv _ x=>Xo P x
       | .ud=>true
       |_=>false
     |_=>false
 |_=>true
theorem BP {P:Program} {g:Nat} {l:List Value} (h:exB P (FB g)=true) {args:Array Value} {w w':World} {d:Deferred} (hd:(Deferred.ofValue (FA g l) args).run P w= .ok d w') {f:Nat} (hf:d.target.leads P w' d.args=some f):(P.funcs[f]?).isSome=true:=by
 unfold FA at hd;unfold FB at h;split at hd<;>rename_i hc<;>simp only[hc,if_true,Bool.false_eq_true,if_false]at h<;>simp only[Deferred.ofValue,Sem.run_pure,Result.ok.injEq]at hd<;>obtain⟨rfl,rfl⟩:=hd<;>simp only[Target.leads,aa0]at hf<;>subst hf<;>exact h
theorem yK {P:Program} {J:Env}:∀(x:V),Xo P x=true->∀args w d w',(Deferred.ofValue (den J x) args).run P w= .ok d w'->∀f,d.target.leads P w' d.args=some f->(P.funcs[f]?).isSome=true
 | .fn g l,h,args,w,d,w',hd,f,hf=>BP h hd hf
 | .ch b g l y,h,args,w,d,w',hd,f,hf=>by
   simp only[Xo,aa2]at h;cases b
   ·simp only[den]at hd;exact yK y h.2 args w d w' hd f hf
   ·exact BP h.1 hd hf
 | .yl id,h,args,w,d,w',hd,f,hf=>by
   simp only[den,Deferred.ofValue,Sem.run_pure,Result.ok.injEq]at hd;obtain⟨rfl,rfl⟩:=hd;simp[Target.leads]at hf
 | .nl v,h,args,w,d,w',hd,f,hf=>by
   cases v<;>simp only[Xo,Bool.false_eq_true]at h
   simp only[den,Deferred.ofValue,Sem.run_pure,Result.ok.injEq]at hd;obtain⟨rfl,rfl⟩:=hd;simp[Target.leads]at hf
 | .cb _,h,_,_,_,_,_,_,_| .bo _,h,_,_,_,_,_,_,_| .ci _ _,h,_,_,_,_,_,_,_| .it _ _,h,_,_,_,_,_,_,_| .bt _,h,_,_,_,_,_,_,_| .st _,h,_,_,_,_,_,_,_
 | .lp _ _,h,_,_,_,_,_,_,_| .lx _ _ _ _ _ _,h,_,_,_,_,_,_,_| .sc _ _ _,h,_,_,_,_,_,_,_| .so _ _,h,_,_,_,_,_,_,_| .ap _ _ _ _,h,_,_,_,_,_,_,_| .sa _,h,_,_,_,_,_,_,_
 | .op _ _,h,_,_,_,_,_,_,_| .ic _ _,h,_,_,_,_,_,_,_| .ag _,h,_,_,_,_,_,_,_| .tp _,h,_,_,_,_,_,_,_| .key _,h,_,_,_,_,_,_,_| .sl _,h,_,_,_,_,_,_,_| .by _,h,_,_,_,_,_,_,_
 | .ob _,h,_,_,_,_,_,_,_| .mp _,h,_,_,_,_,_,_,_| .ax _ _ _ _ _ _ _ _,h,_,_,_,_,_,_,_| .bs _ _ _,h,_,_,_,_,_,_,_| .ks _ _ _ _ _,h,_,_,_,_,_,_,_=>by simp[Xo]at h
theorem EL {P:Program} {J:Env} {K:Nat->Prop} {sl:List S} {a:Act} {o:Oper} (hF:jo J K sl a) (h:abB P sl o=true) (w:World):∀f,o.about P w a.eval=some f->(P.funcs[f]?).isSome=true:=by
 intro f hf;have hund:∀args w1 d w',(Deferred.ofValue undef args).run P w1= .ok d w'->False:=fun args w1 d w' hd=>by simp[Deferred.ofValue,undef]at hd
 unfold Oper.about at hf;unfold abB at h;split at hf
 ·rename_i c hc;rw[hc]at h;simp only at h;split at hf
  ·rename_i d w' hd;unfold resolve at hd;split at h
   ·rename_i b hb;rw[hb]at hd;simp only[Sem.run_pure,Result.ok.injEq]at hd;obtain⟨rfl,rfl⟩:=hd;simp[Target.leads]at hf
   ·simp at h
   ·rename_i g hg;rw[hg]at hd;simp only at hd;split at h
    ·rename_i k;simp only[Act.eval,Deferred.ofValue,Sem.run_pure,Result.ok.injEq]at hd;obtain⟨rfl,rfl⟩:=hd;simp only[Target.leads,aa0]at hf;subst hf;exact h
    ·rename_i t;have hs:=hF.2 t;have he:a.eval (.tmp t)=a.tmps.getD t undef:=rfl;rw[he]at hd;split at h
     ·rename_i x hx;rw[hx]at hs;rw[hs.1]at hd;exact yK x h _ _ _ _ hd f hf
     ·rename_i ch x hx;rw[hx]at hs;cases hgo:mU sl ch with
      |true=>rw[(hs.1 hgo).1]at hd;exact yK x h _ _ _ _ hd f hf
      |false=>rw[hs.2 hgo]at hd;exact(hund _ _ _ _ hd).elim
     ·rename_i hx;rw[hx]at hs;rw[show a.tmps.getD t undef=undef from hs]at hd;exact(hund _ _ _ _ hd).elim
     ·simp at h
    ·simp at h
  ·simp at hf
 ·simp at hf
theorem eR {P:Program} {ro:Option Nat} {o:Oper} {a:Act} {w:World} {next:Act->World->Prop} {Q:Exit->Act->World->Prop} (hd:ro≠none->eO o) (hab:∀f,o.about P w a.eval=some f->(P.funcs[f]?).isSome=true)
  (h:o.uponIn (FF P ro) 0 P a next Q ((execOp a.eval o).run P w)):o.wpIn (FF P ro) 0 P a w next Q:=by
 refine⟨hab,?_⟩
 have hs:o.semAt (FF P ro).round a.eval=execOp a.eval o:=by
  show o.semAt ro a.eval=_
  cases ro with
  |none=>exact Oper.semAt_none _ _
  |some l=>exact Oper.semAt_some l _ o (hd (by simp))
 rw[hs];exact h
def Yields (P:Program) (o:Oper) (a:Act) (w:World) (R:Value->World->Prop):Prop:=
 (∃v w',(execOp a.eval o).run P w= .ok (.value v) w'/\R v w')\/
 ∃f args,(execOp a.eval o).run P w= .ok (.enter f args) w/\CallsIn (FF P none) 0 P f args w fun e w'=>∃v,e= .returned v/\R v w'
theorem Yields.wp {P:Program} {o:Oper} {a:Act} {w:World} {R:Value->World->Prop} {next:Act->World->Prop} {Q:Exit->Act->World->Prop} (h:Yields P o a w R)
  {ro:Option Nat} (hn:∀v w',R v w'->next (a.put o.dst v) w'):o.uponIn (FF P ro) 0 P a next Q ((execOp a.eval o).run P w):=by
 rcases h with⟨v,w',h1,h2⟩|⟨f,args,h1,h2⟩
 ·rw[h1];exact hn v w' h2
 ·rw[h1];refine⟨fun h=>by simp[FF]at h,CallsIn.mono (Ah h2) fun e w' ⟨v,he,hr⟩=>?_⟩
  subst he;exact hn v w' hr
def ru (K:Nat->Prop) (J:Env) (nid:Nat) (x:V) (new:List aK) (w0:World) (F0:Nat->Prop) (w:World) (v:Value) (w':World):Prop:=
 ∃ρ',n9 K J ρ' nid new w0 F0 w w'/\v=den ρ' x/\ok (fun i=>K i\/fresh nid new.length i) x
def uQ (P:Program) (f ts te:Nat):Prop:=
 (∀p w,CallsDIn (FF P none) 0 P f #[p] .returning w fun e u' w'=>(∃v,e= .returned v)/\u'= .returning/\w'=w)/\
 ∀b off ty cs cs' k n w,w.heap[b]? =some (.cells cs ty (0,0))->(∀w1:World,w1.heap[b]? =some (.cells cs ty (0,0))->(Instr.storeAt te (.pointer (some ⟨b,off,none⟩)) (.int k n)).run P w1= .ok () (w1.setRow b cs'))->
  CallsDIn (FF P none) 0 P f #[.pointer (some ⟨b,off,none⟩)] (.panicking [{v:= .iface ts (.agg #[.int k n]),recovered:=false}]) w fun e u' w''=>
   (∃v,e= .returned v)/\u'= .panicking [{v:= .iface ts (.agg #[.int k n]),recovered:=true}]/\Below w.heap.size (w.setRow b cs') w''
def Vb (n:Int):V:= .ag [.it .i64 n,.st ⟨#[]⟩,.ag [.key void,.key void,.key void]]
def PI (P:Program) (f ts te:Nat):Prop:=
 (∀p w,CallsDIn (FF P none) 0 P f #[p] .returning w fun e u' w'=>(∃v,e= .returned v)/\u'= .returning/\w'=w)/\
 ∀b off ty cs cs' n w,bY .i64 n->w.heap[b]? =some (.cells cs ty (0,0))->(∀w1:World,w1.heap[b]? =some (.cells cs ty (0,0))->(Instr.storeAt te (.pointer (some ⟨b,off,none⟩)) (den Env.zero (Vb n))).run P w1= .ok () (w1.setRow b cs'))->
  CallsDIn (FF P none) 0 P f #[.pointer (some ⟨b,off,none⟩)] (.panicking [{v:= .iface ts (.agg #[.int .i64 n]),recovered:=false}]) w fun e u' w''=>
   (∃v,e= .returned v)/\u'= .panicking [{v:= .iface ts (.agg #[.int .i64 n]),recovered:=true}]/\Below w.heap.size (w.setRow b cs') w''
def Dc (te:Nat) (k:IntKind) (n:Int):V:=if te<1000000 then .it k n else Vb n
def Sy (te:Nat):Nat:=if te<1000000 then te else te-1000000
def wF (P:Program) (f ts te:Nat):Prop:=
 (∀p w,CallsDIn (FF P none) 0 P f #[p] .returning w fun e u' w'=>(∃v,e= .returned v)/\u'= .returning/\w'=w)/\
 ∀b off ty cs cs' k n w,(te<1000000\/k= .i64)->bY k n->w.heap[b]? =some (.cells cs ty (0,0))->(∀w1:World,w1.heap[b]? =some (.cells cs ty (0,0))->(Instr.storeAt (Sy te) (.pointer (some ⟨b,off,none⟩)) (den Env.zero (Dc te k n))).run P w1= .ok () (w1.setRow b cs'))->
  CallsDIn (FF P none) 0 P f #[.pointer (some ⟨b,off,none⟩)] (.panicking [{v:= .iface ts (.agg #[.int k n]),recovered:=false}]) w fun e u' w''=>
   (∃v,e= .returned v)/\u'= .panicking [{v:= .iface ts (.agg #[.int k n]),recovered:=true}]/\Below w.heap.size (w.setRow b cs') w''
structure Ctx.Sound (C:Ctx):Prop where
 z:C.Ko
 mixed:C.P.follows .mixedOrders=true
 ct:∀f g,C.Γ f=some g->∀J fps res K w0 F0 w nid args q x new,bq J fps res K w0 F0 w->fM K args->g res nid args=some (q,x,new)->dX q->
  (∀k,k<new.length->¬K (nid+k))->
  (CallsIn (FF C.P none) 0 C.P f (bB J args).toArray w fun e w'=>∃v,e= .returned v/\ru K J nid x new w0 F0 w v w')/\∀k,k<new.length->ay new k≠ .yet
 dk:∀f ts te,C.D f=some (ts,te)->wF C.P f ts te
section
variable {C:Ctx} {J:Env} {fps:Nat->Nat->Prop} {sl:List S} {res:List aK} {K:Nat->Prop} {w0 w:World} {F0:Nat->Prop} {a:Act} {nid:Nat} {ch:List (Nat×Bool)}
theorem Gd {x:V} (hx:ok K x):ru K J nid x [] w0 F0 w (den J x) w:=
 ⟨J,n9.refl _ _ _ _ _ _,rfl,dY (fun _ h=> .inl h) x hx⟩
theorem uA {ps:List (Nat×Operand)} {l:List (Nat×V)} (hF:jo J K sl a) (hg:mU sl ch=true) (h:uK sl ch ps=some l):
  (ps.map fun p=>(p.1,a.eval p.2))=l.map (fun p=>(p.1,den J p.2))/\∀p∈l,ok K p.2:=by
 induction ps generalizing l with
 |nil=>simp only[uK,allM,aa0]at h;subst h;exact⟨rfl,by simp⟩
 |cons p ps ih=>
  simp only[uK,allM]at h;split at h
  ·rename_i y ys hy hys;simp only[aa0]at h;subst h;cases hv:fo sl ch p.2 with
   |none=>simp[hv]at hy
   |some v=>
    simp only[hv,Option.map_some,aa0]at hy;subst hy;obtain⟨e1,e2⟩:=h9 hF hg hv;obtain⟨i1,i2⟩:=ih hys
    exact⟨by simp[e1,i1],fun q hq=>by
     rcases List.mem_cons.1 hq with rfl|hq
     ·exact e2
     ·exact i2 q hq⟩
  ·simp at h
theorem I6 {t:Nat} {x r:V} {q:Option Prop} (h:bq J fps res K w0 F0 w) (hl:V8 C.P res t x=some (q,r)) (hq:dX q) (ts:List Nat) (ty:Nat):
  (Builtin.len_ (t::ts).toArray ty #[den J x]).run C.P w= .ok (den J r) w/\ok K r:=by
 unfold V8 at hl;have hge:∀(l:List Nat),(t::l).toArray[0]? =some t:=fun l=>by simp
 split at hl
 ·rename_i hu;split at hl<;>simp only[aa0,aa1,reduceCtorEq]at hl
  obtain⟨rfl,rfl⟩:=hl;exact⟨by simp[Builtin.len_,den,bG w hu,goInt,bN],hq⟩
 ·rename_i e hu;split at hl
  ·rename_i id;split at hl<;>simp only[aa0,aa1,reduceCtorEq]at hl
   ·rename_i own esz l hc;obtain⟨_,rfl⟩:=hl;obtain⟨fp,hh,_⟩:=h.look hc (by simp)
    obtain⟨_,h2,h3,_⟩:=hh;exact⟨by simp[Builtin.len_,den,bG w hu,goInt,h2,bD],by simp only[ok,bY,bD];omega⟩
   ·rename_i ty q' L hc;obtain⟨_,rfl⟩:=hl;obtain⟨fp,hh,_⟩:=h.look hc (by simp)
    obtain⟨_,_,h2,h3,_⟩:=hh;exact⟨by simp[Builtin.len_,den,bG w hu,goInt,h2,bD,ai],by simp only[ok,bY,bD,ai];omega⟩
  ·split at hl<;>simp only[aa0,aa1,reduceCtorEq]at hl
   rename_i hin;obtain⟨_,rfl⟩:=hl;exact⟨by simp[Builtin.len_,den,bG w hu,goInt],hin⟩
  ·rename_i p z n lo hi;split at hl<;>simp only[aa0,aa1,reduceCtorEq]at hl
   rename_i hc;simp only[aa2,aa3]at hc;obtain⟨_,rfl⟩:=hl;obtain⟨b,o,hd⟩:=uv (J:=J) hc.1;exact⟨by simp[Builtin.len_,den,xc,hd,bG w hu,goInt],hc.2⟩
  ·simp only[aa0,aa1]at hl;obtain⟨_,rfl⟩:=hl;exact⟨by simp[Builtin.len_,den,bG w hu,goInt],by simp[ok,bY]⟩
  ·simp at hl
 ·rename_i n e hu;split at hl<;>simp only[aa0,aa1,reduceCtorEq]at hl
  rename_i hin;obtain⟨_,rfl⟩:=hl;exact⟨by simp[Builtin.len_,bG w hu,goInt,den],hin⟩
 ·simp at hl
theorem nk {o:Oper} {q:Option Prop} {x:V} {new:List aK} (hC:C.Sound) (h:CN C sl res nid ch o.op=some (q,x,new)) (hF:jo J K sl a) (hH:bq J fps res K w0 F0 w)
  (hg:mU sl ch=true) (hq:dX q) (hfr:∀k,k<new.length->¬K (nid+k)):
  Yields C.P o a w (ru K J nid x new w0 F0 w)/\∀k,k<new.length->ay new k≠ .yet:=by
 have pureY:∀{y:V},(execOp a.eval o).run C.P w= .ok (.value (den J y)) w->ok K y->x=y->new= []->
   Yields C.P o a w (ru K J nid x new w0 F0 w)/\∀k,k<new.length->ay new k≠ .yet:=by
  intro y h1 h2 h3 h4;subst h3;subst h4;exact⟨.inl ⟨_,_,h1,Gd h2⟩,fun k hk=>by simp at hk⟩
 have ov:∀{o:Operand} {y:V},fo sl ch o=some y->a.eval o=den J y/\ok K y:=fun ho=>h9 hF hg ho
 obtain⟨dst,op,type,pos,after,guard⟩:=o;simp only at h;cases op<;>simp only[CN,reduceCtorEq]at h
 case move y=>
  cases hy:fo sl ch y with
  |none=>simp[hy]at h
  |some v=>
   simp only[hy,Option.map_some,aa0,aa1]at h;obtain⟨_,rfl,rfl⟩:=h;exact pureY (by simp[execOp,(ov hy).1]) (ov hy).2 rfl rfl
 case assign y=>
  cases hy:fo sl ch y with
  |none=>simp[hy]at h
  |some v=>
   simp only[hy,Option.map_some,aa0,aa1]at h;obtain⟨_,rfl,rfl⟩:=h;exact pureY (by simp[execOp,(ov hy).1]) (ov hy).2 rfl rfl
 case pick c y z=>
  split at h
  ·rename_i s;split at h
   ·rename_i x hc;obtain⟨c1,c2⟩:=ov hc;cases x with
    |true=>
     simp only[if_true]at h;cases ha:fo sl ch y with
     |none=>simp[ha]at h
     |some v=>
      simp only[ha,Option.map_some,aa0,aa1]at h;obtain⟨_,rfl,rfl⟩:=h;exact pureY (by simp[execOp,c1,den,asBool,(ov ha).1]) (ov ha).2 rfl rfl
    |false=>
     simp only[Bool.false_eq_true,if_false]at h;cases ha:fo sl ch z with
     |none=>simp[ha]at h
     |some v=>
      simp only[ha,Option.map_some,aa0,aa1]at h;obtain⟨_,rfl,rfl⟩:=h;exact pureY (by simp[execOp,c1,den,asBool,(ov ha).1]) (ov ha).2 rfl rfl
   rename_i cv _ hc;split at h
   ·rename_i av bv ha hb;cases hp:HA cv av bv with
    |none=>simp[hp]at h
    |some r=>
     simp only[hp,Option.map_some,aa0,aa1]at h;obtain⟨_,rfl,rfl⟩:=h;obtain⟨X,Y,Z,e1,e2,e3,e4⟩:=FO hp;obtain⟨c1,c2⟩:=ov hc
     have hraw:raw (b9 sl s)=some X:=by
      simp only[fo]at hc;cases hs:b9 sl s with
      |und=>simp[hs]at hc
      |ud=>simp[hs]at hc
      |v y=>
       simp only[hs,aa0]at hc;subst hc;cases y<;>simp[toBool]at e1<;>subst e1<;>rfl
      |gv k y=>
       simp only[hs]at hc;split at hc<;>simp only[aa0,reduceCtorEq]at hc
       subst hc;cases y<;>simp[toBool]at e1<;>subst e1<;>rfl
     have hr:den J r= .bool (if X then Y else Z):=ej e4
     refine pureY (y:=r) ?_ (by cases r<;>simp[toBool]at e4<;>trivial) rfl rfl
     rw[hr];simp only[execOp,c1,ej e1,asBool,Sem.run_bind,Sem.run_pure,Result.andThen_ok];cases X with
     |true=>
      have:=(h9 (ch:=(s,true)::ch) hF (by rw[jn];simp[hraw,hg]) ha).1
      simp[this,ej e2]
     |false=>
      have:=(h9 (ch:=(s,false)::ch) hF (by rw[jn];simp[hraw,hg]) hb).1
      simp[this,ej e3]
   ·simp at h
   ·simp at h
  ·simp at h
 case box t y=>
  split at h
  ·rename_i v hy;split at h
   ·simp at h
   ·rename_i ht;simp only[aa0,aa1]at h;obtain⟨_,rfl,rfl⟩:=h;have hn:¬K nid:=by simpa using hfr 0 (by simp)
    refine⟨.inl ⟨_,_,?_,J.bT nid w.heap.size,n9.alloc (ty:=t) (ov hy).2 (by simpa using ht) hn,rfl,.inr ⟨Nat.le_refl _,by simp⟩⟩,fun k hk=>by simp at hk;subst hk;simp[ay]⟩
    simp[execOp,Instr.box,(ov hy).1,newVar,newRow,den,Env.bT,cells]
  ·simp at h
 case alloc t=>
  split at h
  ·rename_i z hz;simp only[aa0,aa1]at h;obtain⟨_,rfl,rfl⟩:=h;have hn:¬K nid:=by simpa using hfr 0 (by simp)
   obtain⟨i,h1,h2,h3,h4,h5⟩:=hC.z t z hz;refine⟨.inl ⟨_,_,?_,J.bT nid w.heap.size,n9.alloc (ty:=t) (fP h3) h4 hn,rfl,.inr ⟨Nat.le_refl _,by simp⟩⟩,fun k hk=>by simp at hk;subst hk;simp[ay]⟩
   simp[execOp,Instr.alloc,rB (J:=J) hC.z hz,newVar,newRow,den,Env.bT,cells]
  ·simp at h
 case makeSlice t y z=>
  split at h
  ·rename_i u v hu hv;obtain⟨rfl,o',e',l',rfl⟩:=Kl h;have hn:¬K nid:=by simpa using hfr 0 (by simp)
   obtain⟨w',ρ',e1,e2⟩:=Gm (J:=J) (w:=w) (w0:=w0) (F0:=F0) hC.z h hq hn;refine⟨.inl ⟨_,w',?_,ρ',e2,rfl,.inr ⟨Nat.le_refl _,by simp⟩⟩,fun k hk=>by simp at hk;subst hk;simp[ay]⟩
   simp[execOp,(ov hu).1,(ov hv).1,e1]
  ·simp at h
 case makeInterface t y=>
  split at h
  ·rename_i v d hv hd
   have:∀{x':V} {n':List aK},(∀n,d≠ .interface n)->some (none,V.ic t v,([]:List aK))=some (q,x',n')->x'=x->n'=new->Yields C.P ⟨dst,.makeInterface t y,type,pos,after,guard⟩ a w (ru K J nid x new w0 F0 w)/\∀k,k<new.length->ay new k≠ .yet:=by
    intro x' n' hni hh h1 h2;simp only[aa0,aa1]at hh;obtain⟨_,rfl,rfl⟩:=hh;refine pureY (y:= .ic t v) ?_ (ov hv).2 h1.symm h2.symm
    cases d<;>first
     |exact absurd rfl (hni _)
     |simp[execOp,(ov hv).1,Instr.makeInterface,bG w hd,den]
   split at h
   ·simp at h
   ·rename_i hni;exact this (fun n e=>hni n e) h rfl rfl
  ·simp at h
 case makeMap t r=>
  split at h
  case h_2=>simp at h
  split at h
  case h_2=>simp at h
  split at h
  case h_3=>simp at h
  all_goals(
   simp only[aa0,aa1]at h;obtain⟨_,rfl,rfl⟩:=h;have hn:¬K nid:=by simpa using hfr 0 (by simp)
   first
   |refine⟨.inl ⟨_,_,?_,J.bT nid w.heap.size,n9.XT hn,rfl,.inr ⟨Nat.le_refl _,by simp⟩⟩,fun k hk=>by simp at hk;subst hk;simp[ay]⟩
   |refine⟨.inl ⟨_,_,?_,J.bT nid w.heap.size,n9.RC hn,rfl,.inr ⟨Nat.le_refl _,by simp⟩⟩,fun k hk=>by simp at hk;subst hk;simp[ay]⟩)
  all_goals simp[execOp,show(Instr.makeMap t none).run C.P w= .ok (.map (some w.heap.size)) (w.alloc (.map #[] 0))from rfl,den,Env.bT]
 case lookup t m y two=>
  split at h
  case h_2=>simp at h
  rename_i mv xv hm hy;split at h
  ·rename_i r hl;simp only[aa0,aa1]at h;obtain⟨_,rfl,rfl⟩:=h;obtain⟨e1,e2⟩:=Gv hC.z hH hl (ov hy).2;exact pureY (by simp[execOp,(ov hm).1,(ov hy).1,e1]) e2 rfl rfl
  ·split at h
   case h_2=>simp at h
   rename_i r hl;simp only[aa0,aa1]at h;obtain⟨_,rfl,rfl⟩:=h;obtain⟨e1,e2⟩:=Gb hC.z hH hl (ov hy).2;exact pureY (by simp[execOp,(ov hm).1,(ov hy).1,e1]) e2 rfl rfl
 case load t y=>
  split at h
  ·rename_i p hp;cases hl:Af C res t p with
   |none=>simp[hl]at h
   |some r=>
    simp only[hl,Option.map_some,aa0,aa1]at h;obtain⟨rfl,rfl,rfl⟩:=h;obtain⟨e1,e2,_⟩:=ug hH hl hq (ov hp).2;exact pureY (by simp[execOp,(ov hp).1,e1]) e2 rfl rfl
  ·simp at h
 case fieldAddr t y f=>
  split at h
  ·rename_i p hp;cases hl:faV C.P t p f with
   |none=>simp[hl]at h
   |some r=>
    simp only[hl,Option.map_some,aa0,aa1]at h;obtain⟨_,rfl,rfl⟩:=h;obtain⟨e1,e2,_⟩:=PJ (J:=J) (w:=w) hl (ov hp).2;exact pureY (by simp[execOp,(ov hp).1,e1]) e2 rfl rfl
  ·simp at h
 case field t y f=>
  split at h
  ·rename_i p hp;cases hl:fdV C.P t p f with
   |none=>simp[hl]at h
   |some r=>
    simp only[hl,Option.map_some,aa0,aa1]at h;obtain⟨_,rfl,rfl⟩:=h;obtain⟨e1,e2,_⟩:=L2 (J:=J) (w:=w) hl (ov hp).2;exact pureY (by simp[execOp,(ov hp).1,e1]) e2 rfl rfl
  ·simp at h
 case indexAddr t y i=>
  split at h
  ·rename_i p j hp hj;cases hl:iaV C.P res t p j with
   |none=>simp[hl]at h
   |some r=>
    simp only[hl,Option.map_some,aa0,aa1]at h;obtain⟨rfl,rfl,rfl⟩:=h;obtain⟨e1,e2,_⟩:=MM hH hl hq (ov hp).2 (ov hj).2;exact pureY (by simp[execOp,(ov hp).1,(ov hj).1,e1]) e2 rfl rfl
  ·simp at h
 case index t y i=>
  split at h
  ·rename_i p j hp hj;cases hl:ixV C.P t p j with
   |none=>
    simp only[hl]at h;cases hl2:isStr C.P t p j with
    |none=>simp[hl2]at h
    |some r=>
     simp only[hl2,Option.map_some,aa0,aa1]at h;obtain⟨rfl,rfl,rfl⟩:=h;obtain⟨e1,e2⟩:=GI (J:=J) (w:=w) hl2 hq (ov hj).2;exact pureY (by simp[execOp,(ov hp).1,(ov hj).1,e1]) e2 rfl rfl
   |some r=>
    simp only[hl,aa0,aa1]at h;obtain⟨rfl,rfl,rfl⟩:=h;obtain⟨e1,e2,_⟩:=L0 (J:=J) (w:=w) hl hq (ov hp).2 (ov hj).2;exact pureY (by simp[execOp,(ov hp).1,(ov hj).1,e1]) e2 rfl rfl
  ·simp at h
 case slice t y lo hi mx=>
  have fin:∀(p:V) (l' h':Option V),fo sl ch y=some p->lo.map a.eval=l'.map (den J)->hi.map a.eval=h'.map (den J)->mx=none->(∀v,l'=some v->ok K v)->(∀v,h'=some v->ok K v)->
    ((U7 C.P t p l' h').map fun r=>(r.1,r.2,([]:List aK)))=some (q,x,new)->Yields C.P ⟨dst,.slice t y lo hi mx,type,pos,after,guard⟩ a w (ru K J nid x new w0 F0 w)/\∀k,k<new.length->ay new k≠ .yet:=by
   intro p l' h' hp hl1 hh1 hmx hl2 hh2 hs;cases hl:U7 C.P t p l' h' with
   |none=>simp[hl]at hs
   |some r=>
    simp only[hl,Option.map_some,aa0,aa1]at hs;obtain⟨rfl,rfl,rfl⟩:=hs;obtain⟨e1,e2⟩:=LV (J:=J) (w:=w) hl hq (ov hp).2 hl2 hh2;subst hmx;refine pureY ?_ e2 rfl rfl;simp only[execOp,(ov hp).1,hl1,hh1,Option.map_none];rw[Sem.run_bind,e1];rfl
  split at h
  ·rename_i p hp h1 h2;have e1:lo=none:=by cases lo<;>simp_all
   have e2:hi=none:=by cases hi<;>simp_all
   subst e1;subst e2;exact fin p none none hp rfl rfl rfl (by simp) (by simp) h
  ·rename_i p u hp h1 h2;obtain⟨lo',rfl,hu⟩:=Option.map_eq_some_iff.1 h1;have e2:hi=none:=by cases hi<;>simp_all
   subst e2;exact fin p (some u) none hp (by simp[(ov hu).1]) rfl rfl (fun v hv=>by simp only[aa0]at hv;subst hv;exact(ov hu).2) (by simp) h
  ·rename_i p u hp h1 h2;obtain⟨hi',rfl,hu⟩:=Option.map_eq_some_iff.1 h2;have e2:lo=none:=by cases lo<;>simp_all
   subst e2;exact fin p none (some u) hp rfl (by simp[(ov hu).1]) rfl (by simp) (fun v hv=>by simp only[aa0]at hv;subst hv;exact(ov hu).2) h
  ·rename_i p u v hp h1 h2;obtain⟨lo',rfl,hu⟩:=Option.map_eq_some_iff.1 h1;obtain⟨hi',rfl,hv⟩:=Option.map_eq_some_iff.1 h2;exact fin p (some u) (some v) hp (by simp[(ov hu).1]) (by simp[(ov hv).1]) rfl (fun z hz=>by simp only[aa0]at hz;subst hz;exact(ov hu).2) (fun z hz=>by simp only[aa0]at hz;subst hz;exact(ov hv).2) h
  ·simp at h
 case nilCheck y=>
  split at h<;>simp only[aa0,aa1,reduceCtorEq]at h<;>rename_i hy<;>obtain⟨_,rfl,rfl⟩:=h<;>obtain⟨e1,e2⟩:=ov hy<;>
   exact pureY (by first| (simp[execOp,e1,den];done)| (simp only[den]at e1⊢;generalize hv:FA _ _=v at e1⊢;obtain⟨_,_,_,rfl⟩:∃g b c,v= .func (.func g) b c:=hv▸Oo _ _;simp[execOp,e1])) e2 rfl rfl
 case binOp op t y z t'=>
  split at h
  ·rename_i p j hp hj;cases hl:RM C.P op t p j with
   |none=>
    simp only[hl]at h;cases hl2:RZ op p j with
    |none=>simp[hl2]at h
    |some r=>
     simp only[hl2,Option.map_some,aa0,aa1]at h;obtain⟨rfl,rfl,rfl⟩:=h;obtain⟨e1,e2⟩:=JN (P:=C.P) (J:=J) (K:=K) (t:=t) w y z hl2 hq;exact pureY (by simp only[execOp,(ov hp).1,(ov hj).1];rw[Sem.run_bind,e1];rfl) e2 rfl rfl
   |some r=>
    simp only[hl,aa0,aa1]at h;obtain⟨rfl,rfl,rfl⟩:=h;obtain⟨e1,e2⟩:=Kg (J:=J) (K:=K) w y z hl hq (ov hp).2 (ov hj).2;exact pureY (by simp only[execOp,(ov hp).1,(ov hj).1];rw[Sem.run_bind,e1];rfl) e2 rfl rfl
  ·simp at h
 case unOp op t y=>
  cases op<;>simp only[reduceCtorEq]at h
  ·split at h
   ·rename_i v hy;split at h
    ·rename_i k n hn;obtain⟨e1,e2⟩:=en (J:=J) hn (ov hy).2;split at h
     ·split at h<;>simp only[aa0,aa1,reduceCtorEq]at h
      rename_i hin;obtain⟨_,rfl,rfl⟩:=h;refine pureY (y:= .ci k (0-n)) ?_ hin rfl rfl;simp only[execOp,(ov hy).1,e1,Op.unary,Op.intArith,Sem.run_bind,Sem.run_pure,Result.andThen_ok,lJ hin,den]
     ·simp only[aa0,aa1]at h;obtain⟨rfl,rfl,rfl⟩:=h;refine pureY (y:= .it k (sU 0 n)) ?_ hq rfl rfl;simp only[execOp,(ov hy).1,e1,Op.unary,Op.intArith,Sem.run_bind,Sem.run_pure,Result.andThen_ok,lJ (show bY k (0-n)from hq),den,sU]
    ·simp at h
   ·simp at h
  ·split at h
   ·rename_i v hy;split at h<;>simp only[aa0,aa1,reduceCtorEq]at h
    rename_i b hb;obtain⟨_,rfl,rfl⟩:=h;have hnb:=IJ hb;refine pureY (y:=Uv v b) ?_ (by generalize Uv v b=z at hnb;cases z<;>simp[toBool]at hnb<;>trivial) rfl rfl
    rw[ej hnb];simp only[execOp,(ov hy).1,ej hb,Op.unary,Sem.run_bind,Sem.run_pure,Result.andThen_ok]
   ·simp at h
 case convert s d y=>
  split at h
  ·rename_i p hp;cases hl:cvV C.P s d p with
   |none=>
    simp only[hl]at h;cases hl2:cvS C.P res s d p with
    |none=>simp[hl2]at h
    |some r=>
     simp only[hl2,Option.map_some,aa0,aa1]at h;obtain⟨rfl,rfl,rfl⟩:=h;obtain⟨e1,e2⟩:=Ky (J:=J) (w:=w) hH hl2 hq (ov hp).2;exact pureY (by simp[execOp,(ov hp).1,e1]) e2 rfl rfl
   |some r=>
    simp only[hl,aa0,aa1]at h;obtain⟨rfl,rfl,rfl⟩:=h;obtain⟨e1,e2,_⟩:=Qn (J:=J) (w:=w) hl hq (ov hp).2;exact pureY (by simp[execOp,(ov hp).1,e1]) e2 rfl rfl
  ·simp at h
 case extract y i=>
  split at h
  ·rename_i l hy;cases hl:l[i]? with
   |none=>simp[hl]at h
   |some v=>
    simp only[hl,Option.map_some,aa0,aa1]at h;obtain⟨_,rfl,rfl⟩:=h;obtain⟨e1,e2⟩:=ov hy;have:(bB J l)[i]? =some (den J v):=by rw[jD];simp[hl]
    refine pureY (y:=v) ?_ ((jg _).1 e2 v (List.mem_of_getElem? hl)) rfl rfl;simp[execOp,e1,den,Instr.extract,this]
  ·simp at h
 case makeFunc fn first caps=>
  cases fn<;>simp only[reduceCtorEq]at h
  rename_i f;split at h
  ·rename_i he;split at h
   case isFalse=>simp at h
   rename_i hlo;cases hl:mQ sl ch caps.toList with
   |none=>simp[hl]at h
   |some l=>
    simp only[hl,Option.map_some,aa0,aa1]at h;obtain⟨_,rfl,rfl⟩:=h;obtain⟨e1,e2⟩:=gR hF hg hl;have hf:first= #[]:=by simpa using he
    subst hf;refine pureY (y:= .fn f l) ?_ e2 rfl rfl;have:caps.map a.eval=(bB J l).toArray:=by apply Array.ext';simp[e1]
    simp[execOp,Instr.makeFunc,den,z0 hlo,this]
  ·split at h
   case isFalse=>simp at h
   rename_i he;cases hl:mQ sl ch first.toList with
   |none=>simp[hl]at h
   |some l=>
    simp only[hl,Option.map_some,aa0,aa1]at h;obtain⟨_,rfl,rfl⟩:=h;obtain⟨e1,e2⟩:=gR hF hg hl;have hf:caps= #[]:=by simpa using he
    subst hf;refine pureY (y:= .fn (f+2000) l) ?_ e2 rfl rfl;have:first.map a.eval=(bB J l).toArray:=by apply Array.ext';simp[e1]
    have hb:Nat.blt (f+2000) 2000=false:=by rw[Bool.eq_false_iff];intro h;have:=Nat.le_of_ble_eq_true h;omega
    simp[execOp,Instr.makeFunc,den,FA,hb,this]
 case build t ps=>
  split at h
  ·rename_i l hl;obtain⟨e1,e2⟩:=uA hF hg hl;cases hb:Dp C t l with
   |none=>simp[hb]at h
   |some r=>
    simp only[hb,Option.map_some,aa0,aa1]at h;obtain⟨_,rfl,rfl⟩:=h;obtain⟨f1,f2,_⟩:=rF (J:=J) (w:=w) hC.z hb e2;refine pureY (y:=r) ?_ f2 rfl rfl;have:(ps.map fun p=>(p.1,a.eval p.2))=(l.map fun p=>(p.1,den J p.2)).toArray:=by apply Array.ext';simp[e1]
    simp only[execOp];rw[show(ps.map fun(i,x)=>(i,a.eval x))=(l.map fun p=>(p.1,den J p.2)).toArray from this,Sem.run_bind,f1]
    rfl
  ·simp at h
 case buildSlice t n ps=>
  split at h
  ·rename_i l hl;obtain⟨e1,e2⟩:=uA hF hg hl;cases hb:Ze C t n l nid with
   |none=>simp[hb]at h
   |some r=>
    obtain⟨r,new'⟩:=r;simp only[hb,Option.map_some,aa0,aa1]at h;obtain⟨_,rfl,rfl⟩:=h
    have hn:¬K nid:=by
     unfold Ze at hb;split at hb
     ·split at hb
      ·simp at hb
      ·split at hb
       ·split at hb<;>simp only[aa0,aa1,reduceCtorEq]at hb
        obtain⟨rfl,rfl⟩:=hb;simpa using hfr 0 (by simp)
       ·simp at hb
     ·simp at hb
    obtain⟨w',ρ',f1,f2,f3,f4⟩:=Ps (J:=J) (w:=w) (w0:=w0) (F0:=F0) hC.z hb e2 hn;refine⟨.inl ⟨_,w',?_,ρ',f2,rfl,f3⟩,f4⟩;have:(ps.map fun p=>(p.1,a.eval p.2))=(l.map fun p=>(p.1,den J p.2)).toArray:=by apply Array.ext';simp[e1]
    simp only[execOp];rw[show(ps.map fun(i,x)=>(i,a.eval x))=(l.map fun p=>(p.1,den J p.2)).toArray from this,Sem.run_bind,f1]
    rfl
  ·simp at h
 case call c=>
  obtain⟨callee,args,argTypes⟩:=c;cases callee with
  |invoke r m=>simp at h
  |value f=>
   simp only at h;split at h
   ·rename_i fv vs hf has;obtain⟨e1,e2⟩:=ov hf;obtain⟨e3,e4⟩:=gR hF hg has;unfold UR at h;split at h
    ·rename_i g caps;split at h
     ·rename_i ct hct;split at h
      case isFalse=>simp at h
      rename_i hlo;split at h
      ·rename_i hcall;have e2':fM K caps:=e2;obtain⟨h1,h2⟩:=hC.ct g ct hct J fps res K w0 F0 w nid (vs++caps) q x new hH (by rw[jg]at e4 e2'⊢;intro z hz;rcases List.mem_append.1 hz with hz|hz;exact e4 z hz;exact e2' z hz) h hq hfr
       refine⟨.inr ⟨g,(bB J (vs++caps)).toArray,?_,h1⟩,h2⟩;unfold iR at hcall;split at hcall
       ·rename_i fn hfn;simp only[aa2,bne_iff_ne,ne_eq]at hcall;have hnm:(fn.name== "runtime.NumGoroutine")=false:=by simpa using hcall.1
        have hbd:fn.body.isNone=false:=by
         simp_all
        have ha:args.map a.eval=(bB J vs).toArray:=by apply Array.ext';simp[e3]
        have hcat:(bB J vs).toArray++(bB J caps).toArray=(bB J (vs++caps)).toArray:=by simp[jD]
        simp only[execOp,resolve,e1,den,z0 hlo,Deferred.ofValue,ha,Sem.run_bind,Sem.run_pure,Result.andThen_ok,invoke,callFunc,run_program,hfn,hnm,Bool.false_eq_true,if_false,hbd,
         Array.empty_append,hcat]
       ·simp at hcall
      ·simp at h
     ·simp at h
    ·simp at h
   ·simp at h
  |builtin b=>
   simp only at h;split at h
   ·rename_i vs has;obtain⟨e3,e4⟩:=gR hF hg has;have ha:args.map a.eval=(bB J vs).toArray:=by apply Array.ext';simp[e3]
    split at h
    ·obtain⟨rfl,o',e',l',rfl⟩:=Ow h;have hn:¬K nid:=by simpa using hfr 0 (by simp)
     obtain⟨w',ρ',d1,d2⟩:=J0 (ty:=type) hC.z hH h hq hn;refine⟨.inl ⟨_,w',?_,ρ',d2,rfl,.inr ⟨Nat.le_refl _,by simp⟩⟩,fun k hk=>by simp at hk;subst hk;simp[ay]⟩
     have d1':(Builtin.append_ argTypes type (bB J vs).toArray).run C.P w= .ok (den ρ' (.sa nid)) w':=by simpa using d1
     simp only[execOp,resolve,Sem.run_bind,Sem.run_pure,Result.andThen_ok,invoke,builtin,ha];rw[d1'];rfl
    rename_i hnb;clear hnb;cases hb:zS C res b argTypes.toList vs with
    |none=>simp[hb]at h
    |some r=>
     simp only[hb,Option.map_some,aa0,aa1]at h;obtain⟨rfl,rfl,rfl⟩:=h;unfold zS at hb;split at hb
     ·rename_i t ts y hts;have hty:argTypes=(t::ts).toArray:=by rw[<-hts]
      obtain⟨f1,f2⟩:=I6 hH hb hq ts type;refine pureY (y:=r.2) ?_ f2 rfl rfl;simp only[execOp,resolve,Sem.run_bind,Sem.run_pure,Result.andThen_ok,invoke,builtin,ha,bB,hty];rw[f1];rfl
     ·rename_i y z;cases hm:WO y z with
      |none=>simp[hm]at hb
      |some m=>
       simp only[hm,Option.map_some,aa0]at hb;subst hb;unfold WO at hm;split at hm
       ·rename_i k a1 k' b1 h1 h2;split at hm<;>simp only[aa0,reduceCtorEq]at hm
        rename_i hk;have hk:=aa4.1 hk;subst hk;subst hm;obtain⟨g1,g2⟩:=en (J:=J) h1 e4.1;obtain⟨g3,g4⟩:=en (J:=J) h2 e4.2.1;refine pureY (y:= .it k (lQ a1 b1)) ?_ (show bY k (lQ a1 b1) by unfold lQ;split<;>assumption) rfl rfl
        simp[den,execOp,resolve,invoke,builtin,ha,bB,g1,g3,Builtin.min_,Builtin.min2,lQ]
       ·simp at hm
     ·rename_i y z;cases hm:WY y z with
      |none=>simp[hm]at hb
      |some m=>
       simp only[hm,Option.map_some,aa0]at hb;subst hb;unfold WY at hm;split at hm
       ·rename_i k a1 k' b1 h1 h2;split at hm<;>simp only[aa0,reduceCtorEq]at hm
        rename_i hk;have hk:=aa4.1 hk;subst hk;subst hm;obtain⟨g1,g2⟩:=en (J:=J) h1 e4.1;obtain⟨g3,g4⟩:=en (J:=J) h2 e4.2.1;refine pureY (y:= .it k (imax a1 b1)) ?_ (show bY k (imax a1 b1) by unfold imax;split<;>assumption) rfl rfl
        simp[den,execOp,resolve,invoke,builtin,ha,bB,g1,g3,Builtin.max_,Builtin.max2,imax]
       ·simp at hm
     ·simp at hb
   ·simp at h
end
def dE:List Nat->List aK->List aK
 | [],l=>l
 |t::ts,l=>dE ts (bO l t .gone)
theorem cE (l:List aK) (i:Nat) (r:aK):(bO l i r).length=l.length:=by rw[kJ];simp
theorem lB:∀(ts:List Nat) (l:List aK),(dE ts l).length=l.length
 | [],_=>rfl
 |t::ts,l=>by simp only[dE];rw[lB ts,cE]
theorem tw:∀(ts:List Nat) (l:List aK) (i:Nat),(∀t∈ts,t<l.length)->ay (dE ts l) i=if i∈ts then .gone else ay l i
 | [],l,i,_=>by simp[dE]
 |t::ts,l,i,h=>by
  simp only[dE];rw[tw ts _ i fun u hu=>by rw[cE];exact h u (by simp[hu]),bK _ _ _ _ (h t (by simp))]
  by_cases e:i∈ts
  ·simp[e]
  ·by_cases e':i=t
   ·simp[e']
   ·simp[e,e']
theorem bq.zX {J ρ':Env} {fps:Nat->Nat->Prop} {res:List aK} {w0:World} {F0:Nat->Prop} {w w':World} (h:bq J fps res (known res) w0 F0 w) (ts:List Nat) (r:aK) (ms:List aK) (fp:Nat->Prop)
  (hms:∀m∈ms,∃j,m= .gen j) (hts:∀t∈ts,known res t) (hr:r≠ .yet) (hag:Env.bE (known res) J ρ')
  (hh:r.holds (known (dE ts res++r::ms)) ρ' res.length fp w0 F0 w') (hfp:∀b,fp b->(∃t∈ts,fps t b)\/(w.heap.size<=b/\b<w'.heap.size))
  (hos:w'.os=w.os) (htape:w'.tape=w.tape) (hout:w'.output=w.output) (hsize:w.heap.size<=w'.heap.size)
  (hsame:∀b,b<w.heap.size->(∀t∈ts,¬fps t b)->w'.heap[b]? =w.heap[b]?):
  ∃fps',bq ρ' fps' (dE ts res++r::ms) (known (dE ts res++r::ms)) w0 F0 w'/\Env.bE (known res) J ρ'/\(∀i,known res i->known (dE ts res++r::ms) i)/\known (dE ts res++r::ms) res.length:=by
 have hlt:∀t∈ts,t<res.length:=fun t ht=>aO (hts t ht)
 have hget:∀i,ay (dE ts res++r::ms) i=if i<res.length then(if i∈ts then .gone else ay res i)else if i=res.length then r else ay ms (i-res.length-1):=by
  intro i;rw[cF,lB];by_cases hi:i<res.length
  ·rw[aa9 hi,aa9 hi,tw ts res i hlt]
  ·rw[aa8 hi,aa8 hi];by_cases e:i=res.length
   ·subst e;simp[ay]
   ·rw[aa8 e];have:∃k,i-res.length=k+1:=⟨i-res.length-1,by omega⟩
    obtain⟨k,hk⟩:=this;rw[hk];simp[ay]
 have hmget:∀k,ay ms k= .yet\/∃j,ay ms k= .gen j:=fun k=>by
  rw[m8,aa7];cases hm:ms[k]? with
  |none=>exact .inl rfl
  |some m=>
   obtain⟨j,rfl⟩:=hms m (List.mem_of_getElem? hm);exact .inr ⟨j,rfl⟩
 have hmono:∀i,known res i->known (dE ts res++r::ms) i:=fun i hi=>by
  grind[known,aO]
 have hnew:known (dE ts res++r::ms) res.length:=by
  simp_all[known]
 obtain⟨fps',g⟩:=h.turn (res':=dE ts res++r::ms) (K':=known (dE ts res++r::ms)) (fun i=>i∈ts) (fun i=>i∈ts\/res.length<=i) (fun i b=>i=res.length/\fp b)
  (fun i hi=>hi) hmono hag (fun i hi hb=>by
   have hi':=hi;unfold known at hi';rw[hget]at hi';have h1:i∉ts:=fun e=>hb (.inl e)
   have hl:i<res.length:=by
    rcases Nat.lt_or_ge i res.length with h|h
    ·exact h
    ·exact absurd (.inr h) hb
   rw[aa9 hl,aa8 h1]at hi';exact⟨hi',h1,by rw[hget,aa9 hl,aa8 h1]⟩)
  (fun i hi hb=>by
   by_cases e:i=res.length
   ·subst e;refine⟨?_,fun b hf=>?_⟩
    ·rw[hget,aa8 (by omega),aa9 rfl]
     have:(fun b=>res.length=res.length/\fp b)=fp:=by funext b;simp
     rw[this];exact hh
    ·rcases hfp b hf.2 with⟨t,ht,hft⟩|hn
     ·exact .inl ⟨t,ht,hts t ht,hft⟩
     ·exact .inr hn
   ·refine⟨?_,fun b hf=>absurd hf.1 e⟩
    rw[hget];by_cases hl:i<res.length
    ·rw[aa9 hl,aa9 (hb.resolve_right (by omega))]
     trivial
    ·rw[aa8 hl,aa8 e];rcases hmget (i-res.length-1)with h|⟨j,h⟩<;>rw[h]<;>trivial)
  (fun i j b _ _ hne hf hf'=>hne (hf.1.trans hf'.1.symm))
  hos htape hout hsize (fun b hb hno=>hsame b hb fun t ht=>hno t ht (hts t ht))
 exact⟨fps',g,hag,hmono,hnew⟩
def jh {α:Type} (l:List α) (x:α):List α:=l++ [x]
def sT (n b:Nat):Prop:=n+1<=maxLen/\(n+1)*b<=140737488355328
mutual
def clV:V->Bool
 | .cb _| .bo _| .ci _ _| .it _ _| .bt _| .st _| .key _| .sl _| .by _| .ob _=>true
 | .ag l=>YM l
 |_=>false
def YM:List V->Bool
 | []=>true
 |x::l=>clV x&&YM l
end
mutual
theorem FJ {K K':Nat->Prop}:∀v,clV v=true->ok K v->ok K' v
 | .ag l,h,hk=>⟨Og l (by simpa only[clV]using h) hk.1,hk.2⟩
 | .cb _,_,h| .bo _,_,h| .ci _ _,_,h| .it _ _,_,h| .bt _,_,h| .st _,_,h| .key _,_,h| .sl _,_,h| .by _,_,h| .ob _,_,h=>h
 | .nl _,h,_| .lp _ _,h,_| .lx _ _ _ _ _ _,h,_| .sc _ _ _,h,_| .so _ _,h,_| .ap _ _ _ _,h,_| .sa _,h,_| .op _ _,h,_| .yl _,h,_| .fn _ _,h,_| .ic _ _,h,_| .tp _,h,_| .mp _,h,_
 | .ch _ _ _ _,h,_| .ax _ _ _ _ _ _ _ _,h,_| .bs _ _ _,h,_| .ks _ _ _ _ _,h,_=>by simp[clV]at h
theorem Og {K K':Nat->Prop}:∀l,YM l=true->fM K l->fM K' l
 | [],_,_=>trivial
 |x::l,h,hk=>by
  simp only[YM,aa2]at h;exact⟨FJ x h.1 hk.1,Og l h.2 hk.2⟩
end
def AU (n:Nat) (g:Nat->V) (v:V) (i:Nat):V:=match Nat.beq i n with
 |true=>v
 |false=>g i
def Hu (l:TL) (v:V):Option TL:=
 match l with
 | .ob l=>match v with
   | .ob o=>some (.ob (jh l o))
   |_=>none
 | .key l=>match v with
   | .key k=>some (.key (jh l k))
   |_=>none
 | .it k l=>match toInt v with
   |some (k',n)=>if k==k' then some (.it k (jh l n))else none
   |none=>none
 | .bo l=>match toBool v with
   |some b=>some (.bo (jh l b))
   |none=>none
 | .st l=>match v with
   | .st s=>some (.st (jh l s))
   |_=>none
 | .fn n g=>match v with
   | .ag a=>if YM a then some (.fn (n+1) (AU n g (.ag a)))else none
   |_=>none
def HJ (v:V):Option TL:=
 match v with
 | .ag a=>if YM a then some (.fn 1 fun _=> .ag a)else none
 | .ob o=>some (.ob [o])
 | .key k=>some (.key [k])
 | .st s=>some (.st [s])
 |_=>match toInt v with
  |some (k,n)=>some (.it k [n])
  |none=>match toBool v with
   |some b=>some (.bo [b])
   |none=>none
def BS (K:Nat->Prop) (n:Nat) (g:Nat->V) (v:V) (l':TL):Prop:=
 l'.len=n+1/\(∀i,i<n->l'.get i=g i)/\(∀J,cells J (l'.get n)=cells J v)/\(ok K v->ok (fun _=>False) (l'.get n))/\cS (l'.get n)=false/\fi (l'.get n)=fi v
theorem qG {α:Type} (l:List α) (x d:α):(∀i,i<l.length->aj (jh l x) i d=aj l i d)/\aj (jh l x) l.length d=x:=by
 grind[aj,jh]
theorem GH {K:Nat->Prop} {l l':TL} {v:V} (h:Hu l v=some l'):BS K l.len l.get v l':=by
 unfold Hu at h;cases l with
 |fn n g=>
  cases v<;>simp only[reduceCtorEq]at h
  rename_i a;split at h<;>simp only[aa0,reduceCtorEq]at h
  rename_i hc;subst h;have e:(TL.fn (n+1) (AU n g (.ag a))).get n= .ag a:=by show AU n g (.ag a) n=_;have hb:Nat.beq n n=true:=(by simp);unfold AU;rw[hb]
  refine⟨rfl,fun i hi=>?_,fun J=>?_,fun hk=>?_,?_,?_⟩
  ·show AU n g (.ag a) i=g i
   have hi:i<n:=hi
   have:Nat.beq i n=false:=by cases hb:Nat.beq i n with
    |false=>rfl
    |true=>have:=Nat.eq_of_beq_eq_true hb;omega
   unfold AU;rw[this]
  all_goals simp only[TL.len,e]
  ·exact FJ (.ag a) hc hk
  ·rfl
 |ob l=>
  cases v<;>simp only[aa0,reduceCtorEq]at h
  subst h;rename_i o;obtain⟨a,b⟩:=qG l o free;exact⟨by simp[TL.len,ai,jh],fun i hi=>congrArg V.ob (a i hi),fun J=>by simp only[TL.get,TL.len,ai,b],fun hk=>by simp only[TL.get,TL.len,ai,b];exact hk,rfl,rfl⟩
 |key l=>
  cases v<;>simp only[aa0,reduceCtorEq]at h
  subst h;rename_i o;obtain⟨a,b⟩:=qG l o void;exact⟨by simp[TL.len,ai,jh],fun i hi=>congrArg V.key (a i hi),fun J=>by simp only[TL.get,TL.len,ai,b],fun hk=>by simp only[TL.get,TL.len,ai,b];exact hk,rfl,rfl⟩
 |it k l=>
  simp only at h;split at h
  ·rename_i k' n hn;split at h<;>simp only[aa0,reduceCtorEq]at h
   rename_i hk;have hk:=aa4.1 hk;subst hk;subst h;obtain⟨a,b⟩:=qG l n 0;obtain⟨c1,c2,c3⟩:=oD (K:=K) hn;exact⟨by simp[TL.len,ai,jh],fun i hi=>congrArg (V.it k) (a i hi),fun J=>by simp only[TL.get,TL.len,ai,b];exact c1 J,fun hk=>by simp only[TL.get,TL.len,ai,b];exact c2 hk,rfl,c3⟩
  ·simp at h
 |bo l=>
  simp only at h;split at h<;>simp only[aa0,reduceCtorEq]at h
  rename_i b hb;subst h;obtain⟨a,b'⟩:=qG l b false;obtain⟨c1,c3⟩:=m7 hb;exact⟨by simp[TL.len,ai,jh],fun i hi=>congrArg V.bo (a i hi),fun J=>by simp only[TL.get,TL.len,ai,b'];exact c1 J,fun _=>trivial,rfl,c3⟩
 |st l=>
  cases v<;>simp only[aa0,reduceCtorEq]at h
  subst h;rename_i o;obtain⟨a,b⟩:=qG l o ByteArray.empty;exact⟨by simp[TL.len,ai,jh],fun i hi=>congrArg V.st (a i hi),fun J=>by simp only[TL.get,TL.len,ai,b],fun hk=>by simp only[TL.get,TL.len,ai,b];exact hk,rfl,rfl⟩
theorem Gz {K:Nat->Prop} {l':TL} {v:V} (h:HJ v=some l') (g:Nat->V):BS K 0 g v l':=by
 unfold HJ at h;split at h
 ·split at h<;>simp only[aa0,reduceCtorEq]at h
  rename_i a hc;subst h;exact⟨rfl,fun i hi=>by omega,fun J=>rfl,fun h=>FJ (.ag a) hc h,rfl,rfl⟩
 ·simp only[aa0]at h;subst h;exact⟨rfl,fun i hi=>by omega,fun J=>rfl,fun h=>h,rfl,rfl⟩
 ·simp only[aa0]at h;subst h;exact⟨rfl,fun i hi=>by omega,fun J=>rfl,fun h=>h,rfl,rfl⟩
 ·simp only[aa0]at h;subst h;exact⟨rfl,fun i hi=>by omega,fun J=>rfl,fun h=>h,rfl,rfl⟩
 ·split at h
  ·rename_i k n hn;simp only[aa0]at h;subst h;obtain⟨c1,c2,c3⟩:=oD (K:=K) hn;exact⟨rfl,fun i hi=>by omega,fun J=>c1 J,fun h=>c2 h,rfl,c3⟩
  ·split at h<;>simp only[aa0,reduceCtorEq]at h
   rename_i b hb;subst h;obtain⟨c1,c3⟩:=m7 hb;exact⟨rfl,fun i hi=>by omega,fun J=>c1 J,fun _=>trivial,rfl,c3⟩
theorem BS.cells {K:Nat->Prop} {n:Nat} {g:Nat->V} {v:V} {l':TL} (h:BS K n g v l'):l'.cells=((List.range n).flatMap fun j=>Sx.cells Env.zero (g j))++Sx.cells Env.zero v:=by
 obtain⟨h1,h2,h3,_⟩:=h;unfold TL.cells;rw[h1,List.range_succ,List.flatMap_append];congr 1
 ·rw[List.flatMap_def,List.flatMap_def];congr 1
  exact List.map_congr_left fun i hi=>by rw[h2 i (List.mem_range.1 hi)]
 ·simp[h3]
section
variable {C:Ctx} {J:Env} {fps:Nat->Nat->Prop} {res:List aK} {w0 w:World} {F0:Nat->Prop}
theorem Od {K:Nat->Prop} {t ty e b n bty cap:Nat} {inf:TypeInfo} {z c v:V} {xv:Value} {xs:List Value} (ht:C.P.underlying t=some (.slice e)) (hZ:C.Z e=some z) (hC:C.Ko) (hi:C.P.info? e=some inf) (hsz:0<fi z)
  (hown:w.ownsRow 0 e (fi z) xv n xs) (hb:w.heap[b]? =some (.cells (cells J c).toArray bty (0,0))) (hok:ok K c) (hct:cS c=false) (hg:iP 8 c 0 (fi z) (jP z)=some v) (hq:sT n inf.bytes):
  ∃v' w',(Builtin.append_ #[t,t] ty #[xv,.slice (some ⟨b,0,none⟩) 1 cap]).run C.P w= .ok v' w'/\w'.ownsRow 0 e (fi z) v' (n+1) (xs++cells J v)/\w.grownBy w' xv.ownBlock/\∀b',v'.ownBlock=some b'->xv.ownBlock=some b'\/w.heap.size<=b':=by
 obtain⟨inf',i1,i2,i3,i4,i5⟩:=hC e z hZ;rw[hi]at i1;simp only[aa0]at i1;subst i1;obtain⟨⟨p,q,e1,e2⟩,e3,e4,e5,e6⟩:=ff J 8 c 0 _ _ v hok hct hg;have hp:p= []:=List.length_eq_zero_iff.1 e2.symm;subst hp;simp only[List.nil_append]at e1;have hlv:=bg J v e5;have hzs:(den Env.zero z).cells.size=fi z:=by rw[<-bg Env.zero z i3];simp[cells]
 have hnl:(cells J v).length=1*fi z:=by rw[hlv,e3];simp
 have hnc:∀j u,(cells J v)[j]? =some u->w.cell? ((⟨b,0,none⟩:Addr).add j)=some u:=fun j u hu=>by
  rw[add_lit,Nat.zero_add,cell_of_row w b j _ _ _ hb];have hj:=(List.getElem?_eq_some_iff.1 hu).1;simp only[List.getElem?_toArray,e1];rw[List.getElem?_append_left hj];exact hu
 have hone:=jt J v e5 e6;have hown0:=hown;rcases hown.2 with⟨rfl,rfl⟩|⟨g,cap',cur,rfl,h2,h3,h4,h5,h6,h7⟩
 ·have hx:xs= []:=List.length_eq_zero_iff.1 (by have:=hown.1;simpa using this)
  subst hx
  obtain⟨v',w',g1,g2,g3,_⟩:=run_append_own (P:=C.P) w w.heap.size t ty e inf (den Env.zero z) (fi z) inf.bytes ht hi (i2 Env.zero) i5 rfl hzs hsz (.slice none 0 0) 0 [] (World.ownsRow_nil w _ e _)
   ⟨b,0,none⟩ 1 cap (cells J v) hnl hnc hone hq.1 hq.2 (Nat.le_refl _)
  exact⟨v',w',g1,⟨g2.1,g2.2.imp id fun⟨g,cp,cu,a1,a2,a3⟩=>⟨g,cp,cu,a1,Nat.zero_le _,a3⟩⟩,g3,fun b' hb'=> .inr (g2.lt b' hb').1⟩
 ·by_cases hroom:n+1<=cap'
  ·obtain⟨w',g1,g2,g3⟩:=run_append_fits (P:=C.P) w 0 t ty e inf (fi z) ht hi i5 g n cap' xs hown0 ⟨b,0,none⟩ 1 cap (cells J v) hnl hnc hone hroom;exact⟨_,w',g1,g2,g3,fun b' hb'=> .inl hb'⟩
  ·have holds:∀j u,xs[j]? =some u->w.cell? ((⟨g,0,none⟩:Addr).add j)=some u:=fun j u hu=>by
    rw[add_lit,Nat.zero_add,hown0.cellAt j (by rw[<-hown0.1];exact(List.getElem?_eq_some_iff.1 hu).1)];exact hu
   obtain⟨v',w',g1,g2,g3⟩:=run_append_arg_grows (P:=C.P) w t ty e inf (den Env.zero z) (fi z) inf.bytes ht hi (i2 Env.zero) i5 rfl hzs hsz ⟨g,0,none⟩ n cap' xs hown0.1 holds ⟨b,0,none⟩ 1 cap (cells J v) hnl hnc (by omega) hq.1 hq.2
   exact⟨v',w',g1,⟨g2.1,g2.2.imp id fun⟨g,cp,cu,a1,a2,a3⟩=>⟨g,cp,cu,a1,Nat.zero_le _,a3⟩⟩,⟨g3.os,g3.tape,g3.output,g3.size,fun k hk _=>g3.block k hk (by simp)⟩,fun b' hb'=> .inr (g2.lt b' hb').1⟩
def DS (res:List aK) (v:V):Option (Nat×Obj):=
 match v with
 | .lp p 0=>match ay res p with
   | .blk _ (.ob o)=>some (p,o)
   |_=>none
 |_=>none
def WV (C:Ctx) (res:List aK) (t:Nat) (x y:V):Option (Option Prop×V×List aK):=
 match C.P.underlying t with
 |some (.slice e)=>match C.Z e,C.P.info? e with
  |some z,some inf=>match y with
   | .sc k 1 _=>match ay res k with
     | .blk _ c=>match iP 8 c 0 (fi z) (jP z)with
       |some v=>if Nat.blt 0 (fi z)then
        match x with
        | .nl (.slice none 0 0)=>match DS res v with
          |some (p,o)=>if fi z==1 then some (some (sT 0 inf.bytes),.sa res.length,dE [p] res++ [.obs e (res.length+1) [o],.gen res.length])else none
          |none=>(HJ v).map fun l=>(some (sT 0 inf.bytes),.sa res.length,dE [] res++ [.arr (some e) (fi z) l])
        | .sa j=>match ay res j with
          | .arr (some e') esz l=>if e'==e&&esz==fi z then(Hu l v).map fun l'=>(some (sT l.len inf.bytes),.sa res.length,dE [j] res++ [.arr (some e) (fi z) l'])else none
          | .obs e' _ L=>match DS res v with
            |some (p,o)=>if e'==e&&fi z==1 then some (some (sT (ai L) inf.bytes),.sa res.length,dE [j,p] res++ [.obs e (res.length+1) (jh L o),.gen res.length])else none
            |none=>none
          |_=>none
        |_=>none
        else none
       |none=>none
     |_=>none
   |_=>none
  |_,_=>none
 |_=>none
def Env.kG (J:Env) (i:Nat) (a:Addr) (n cap:Nat) (ob:Nat->Nat):Env:=
 {num:=J.num,cap:=fun j=>if j=i then cap else J.cap j,adr:=fun j=>if j=i then a else J.adr j,sa:=fun j=>if j=i then some a else J.sa j,sn:=fun j=>if j=i then n else J.sn j,
  ob:=fun j=>if j=i+1 then ob else J.ob j}
theorem xd {N:Nat->Prop} {i:Nat} {a:Addr} {n cap:Nat} {ob:Nat->Nat} (h:¬N i) (h':¬N (i+1)):Env.bE N J (J.kG i a n cap ob):=fun j hj=>by
 grind[Env.kG]
theorem Ec (i:Nat) (a:Addr) (n cap:Nat) (ob:Nat->Nat):(J.kG i a n cap ob).sl i= .slice (some a) n cap:=by simp[Env.sl,Env.kG]
theorem Hc {K:Nat->Prop} {w':World} {e esz n:Nat} {g:Nat->V} {v:V} {v':Value} {l':TL} {ts:List Nat} (h:bq J fps res (known res) w0 F0 w) (hts:∀t∈ts,known res t)
  (hadd:BS K n g v l') (hokv:ok K v) (hvs:fi v=esz) (hold:∀j,j<n->ok (fun _=>False) (g j)/\cS (g j)=false/\fi (g j)=esz)
  (hown:w'.ownsRow 0 e esz v' (n+1) (((List.range n).flatMap fun j=>cells Env.zero (g j))++cells J v)) {xv:Value} (hgr:w.grownBy w' xv.ownBlock)
  (hx:∀b,xv.ownBlock=some b->∃t∈ts,fps t b) (hnew:∀b,v'.ownBlock=some b->xv.ownBlock=some b\/w.heap.size<=b) (hm:n+1<=9223372036854775807):
  ∃ρ' fps',v'=den ρ' (.sa res.length)/\bq ρ' fps' (dE ts res++ [.arr (some e) esz l']) (known (dE ts res++ [.arr (some e) esz l'])) w0 F0 w'/\Env.bE (known res) J ρ'/\
   (∀i,known res i->known (dE ts res++ [.arr (some e) esz l']) i)/\known (dE ts res++ [.arr (some e) esz l']) res.length:=by
 obtain⟨a1,a2,a3,a4,a5,a6⟩:=hadd;have hown':=hown;rcases hown.2 with⟨_,h0⟩|⟨b,cap,cur,rfl,_,hb,_⟩
 ·omega
 have hnk:¬known res res.length:=fun hk=>by have:=aO hk;omega
 have hnk':¬known res (res.length+1):=fun hk=>by have:=aO hk;omega
 have hcz:cells J v=cells Env.zero v:=by
  rw[<-a3 J,<-a3 Env.zero];exact dW (N:=fun _=>False) (fun _ h=>h.elim) _ (a4 hokv)
 have hblt:b<w'.heap.size:=(Array.getElem?_eq_some_iff.1 hb).1
 obtain⟨fps',g1,g2,g3,g4⟩:=h.zX (ρ':=J.kG res.length ⟨b,0,none⟩ (n+1) cap (fun _=>0)) (w':=w') ts (.arr (some e) esz l') [] (fun x=>x=b) (by simp) hts (by simp) (xd hnk hnk')
  (by
   refine⟨fun j hj=>?_,by simp[Env.kG,a1],by rw[a1];exact hm,fun a ha=>by simp[Env.kG]at ha⊢;exact ha.symm,fun _=>by simp[Env.kG],fun _=>by simp[Env.kG],.inr ⟨e,fun e' he=>by simpa using he.symm,?_,fun a ha=>by simp[Env.kG]at ha;rw[<-ha]⟩⟩
   ·grind
   ·rw[Ec,a1,BS.cells (K:=K) ⟨a1,a2,a3,a4,a5,a6⟩,<-hcz];exact hown')
  (fun x hx'=>by
   subst hx';rcases hnew _ rfl with h1|h1
   ·exact .inl (hx _ h1)
   ·exact .inr ⟨h1,hblt⟩)
  hgr.os hgr.tape hgr.output hgr.size (fun x hxl hno=>hgr.block x hxl fun hh=>by
   obtain⟨t,ht,hft⟩:=hx x hh.symm;exact hno t ht hft)
 exact⟨_,fps',by simp[den,Env.kG],g1,g2,g3,g4⟩
theorem Hb {w':World} {e p bty:Nat} {L:List Obj} {o:Obj} {v':Value} {ts:List Nat} {ob:Nat->Nat} (h:bq J fps res (known res) w0 F0 w) (hts:∀t∈ts,known res t)
  (hp:p∈ts) (hrp:ay res p= .blk bty (.ob o)) (hL:∀x∈L,x.wf)
  (hobs:∀j,j<L.length->(∃t∈ts,fps t (ob j))/\∃t,w.heap[ob j]? =some (.cells (eE (L.getD j free)).toArray t (0,0)))
  (hown:w'.ownsRow 0 e 1 v' (L.length+1) (((List.range L.length).map fun j=>Value.pointer (some ⟨ob j,0,none⟩))++cells J (.lp p 0))) {xv:Value} (hgr:w.grownBy w' xv.ownBlock)
  (hx:∀b,xv.ownBlock=some b->(∃t∈ts,fps t b)/\(∀j,j<L.length->ob j≠b)/\J.num p≠b) (hnew:∀b,v'.ownBlock=some b->xv.ownBlock=some b\/w.heap.size<=b) (hm:L.length+1<=9223372036854775807):
  ∃ρ' fps',v'=den ρ' (.sa res.length)/\bq ρ' fps' (dE ts res++ [.obs e (res.length+1) (jh L o),.gen res.length]) (known (dE ts res++ [.obs e (res.length+1) (jh L o),.gen res.length])) w0 F0 w'/\Env.bE (known res) J ρ'/\
   (∀i,known res i->known (dE ts res++ [.obs e (res.length+1) (jh L o),.gen res.length]) i)/\known (dE ts res++ [.obs e (res.length+1) (jh L o),.gen res.length]) res.length:=by
 have hown':=hown;rcases hown.2 with⟨_,h0⟩|⟨b,cap,cur,rfl,_,hb,_⟩
 ·omega
 have hnk:¬known res res.length:=fun hk=>by have:=aO hk;omega
 have hnk':¬known res (res.length+1):=fun hk=>by have:=aO hk;omega
 have hblt:b<w'.heap.size:=(Array.getElem?_eq_some_iff.1 hb).1;have hkp:=hts p hp;have hhp:=h.holds p hkp;rw[hrp]at hhp;obtain⟨p1,_,p3,p4⟩:=hhp;have p1:o.wf:=p1;rw[jQ]at p4
 have jH:∀x y,w.heap[x]? =some y->(∀b,xv.ownBlock=some b->x≠b)->w'.heap[x]? =some y:=fun x y hy hne=>by
  rw[hgr.block x (Array.getElem?_eq_some_iff.1 hy).1 fun hh=>hne x hh.symm rfl];exact hy
 have hob:∀j,j<L.length+1->∃y,(if j<L.length then ob j else J.num p)=y/\(∃t∈ts,fps t y)/\∃t,w'.heap[y]? =some (.cells (eE ((jh L o).getD j free)).toArray t (0,0)):=by
  grind[jh,free]
 have hlen:(jh L o).length=L.length+1:=by simp[jh]
 have hgk:known (dE ts res++ [.obs e (res.length+1) (jh L o),.gen res.length]) (res.length+1):=by
  unfold known;rw[cF,lB,aa8 (by omega),show res.length+1-res.length=1 by omega];simp[ay]
 obtain⟨fps',g1,g2,g3,g4⟩:=h.zX (ρ':=J.kG res.length ⟨b,0,none⟩ (L.length+1) cap (fun j=>if j<L.length then ob j else J.num p)) (w':=w') ts (.obs e (res.length+1) (jh L o)) [.gen res.length]
  (fun x=>x=b\/∃j,j<L.length+1/\x=if j<L.length then ob j else J.num p) (by simp) hts (by simp) (xd hnk hnk')
  (by
   refine⟨hgk,fun x hx=>?_,by simp[Env.kG,hlen],by rw[hlen];exact hm,fun a ha=>by simp[Env.kG]at ha⊢;exact⟨ha.symm,.inl (by rw[<-ha])⟩,fun _=>by simp[Env.kG],?_,fun j hj=>?_⟩
   ·rcases List.mem_append.1 hx with hx|hx
    ·exact hL x hx
    ·simp only[List.mem_singleton]at hx;subst hx;exact p1
   ·rw[Ec,hlen]
    have:((List.range (L.length+1)).map fun j=>Value.pointer (some ⟨(J.kG res.length ⟨b,0,none⟩ (L.length+1) cap (fun j=>if j<L.length then ob j else J.num p)).ob (res.length+1) j,0,none⟩))=
      ((List.range L.length).map fun j=>Value.pointer (some ⟨ob j,0,none⟩))++cells J (.lp p 0):=by
     rw[List.range_succ,List.map_append];congr 1
     ·simp_all[Env.kG]
     ·simp[Env.kG,cells,den,Value.cells]
    rw[this];exact hown'
   ·rw[hlen]at hj;obtain⟨y,y1,_,t,y3⟩:=hob j hj;have hoby:(J.kG res.length ⟨b,0,none⟩ (L.length+1) cap (fun j=>if j<L.length then ob j else J.num p)).ob (res.length+1) j=y:=by simp[Env.kG,y1]
    rw[hoby];exact⟨.inr ⟨j,hj,y1.symm⟩,t,y3⟩)
  (fun x hx'=>by
   rcases hx' with rfl|⟨j,hj,rfl⟩
   ·rcases hnew _ rfl with h1|h1
    ·exact .inl (hx _ h1).1
    ·exact .inr ⟨h1,hblt⟩
   ·obtain⟨y,y1,y2,_⟩:=hob j hj;rw[y1];exact .inl y2)
  hgr.os hgr.tape hgr.output hgr.size (fun x hxl hno=>hgr.block x hxl fun hh=>by
   obtain⟨t,ht,hft⟩:=(hx x hh.symm).1;exact hno t ht hft)
 exact⟨_,fps',by simp[den,Env.kG],g1,g2,g3,g4⟩
theorem tP {v:V} {p:Nat} {o:Obj} (h:DS res v=some (p,o)):v= .lp p 0/\∃bty,ay res p= .blk bty (.ob o):=by
 unfold DS at h;split at h
 ·grind
 ·simp at h
theorem BE {n:Nat} (h:n<=maxLen):n<=9223372036854775807:=by
 simp only[maxLen]at h;omega
theorem vx {w:World} {e:Nat} {xv:Value} {n:Nat} {f:Nat->Value} (h:w.ownsRow 0 e 1 xv n ((List.range n).map f)) (hf:∀j,∃a,f j= .pointer a) {b x t:Nat} {o:Obj} (hb:xv.ownBlock=some b)
  (hx:w.heap[x]? =some (.cells (eE o).toArray t (0,0))) (hn:0<n):x≠b:=by
 rintro rfl
 rcases h.2 with⟨_,h0⟩|⟨g,cap,cur,rfl,_,h3,_,_,_,h7⟩
 ·omega
 ·simp only[Value.ownBlock,aa0]at hb;subst hb;rw[h3]at hx;simp only[aa0,Go.Obj.cells.injEq]at hx;rw[hx.1]at h7;have h0:=congrArg (·[0]?) h7;obtain⟨a,ha⟩:=hf 0;simp[eE,i64,hn,ha]at h0
theorem JD {t ty:Nat} {x y r:V} {q:Option Prop} {res':List aK} (hC:C.Ko) (h:bq J fps res (known res) w0 F0 w) (ha:WV C res t x y=some (q,r,res')) (hq:dX q) (hx:ok (known res) x):
  ∃w' ρ' fps',(Builtin.append_ #[t,t] ty #[den J x,den J y]).run C.P w= .ok (den ρ' r) w'/\bq ρ' fps' res' (known res') w0 F0 w'/\Env.bE (known res) J ρ'/\(∀i,known res i->known res' i)/\ok (known res') r:=by
 unfold WV at ha;split at ha
 ·rename_i e ht;split at ha
  ·rename_i z inf hZ hi;split at ha
   ·rename_i k cap;split at ha
    ·rename_i bty c hk;split at ha
     ·rename_i v hg;split at ha
      ·rename_i hsz;have hsz:0<fi z:=by simpa using hsz
       have hkk:=h.holds k (by unfold known;rw[hk];simp)
       rw[hk]at hkk;obtain⟨c1,c2,c3,c4⟩:=hkk;obtain⟨_,v2,v3,v4,v5⟩:=ff J 8 c 0 _ _ v c1 c2 hg;have run:∀{n:Nat} {xv:Value} {xs:List Value},w.ownsRow 0 e (fi z) xv n xs->sT n inf.bytes->_:=fun{n xv xs} ho hf=>Od (C:=C) (ty:=ty) (cap:=cap) ht hZ hC hi hsz ho c4 c1 c2 hg hf
       split at ha
       ·
        split at ha
        ·rename_i p o hob;obtain⟨rfl,bt,hrp⟩:=tP hob;split at ha<;>simp only[aa0,aa1,reduceCtorEq]at ha
         rename_i hz1;have hz1:=aa4.1 hz1;obtain⟨rfl,rfl,rfl⟩:=ha;obtain⟨v',w',g1,g2,g3,g4⟩:=run (World.ownsRow_nil w 0 e (fi z)) hq;rw[hz1]at g2;have hkp:known res p:=by unfold known;rw[hrp];simp
         obtain⟨ρ',fps',f1,f2,f3,f4,f5⟩:=Hb (L:= []) (ob:=fun _=>0) (ts:= [p]) h (by simpa using hkp) (by simp) hrp (by simp) (fun j hj=>by simp at hj) g2 g3 (fun b hb=>by simp[Value.ownBlock]at hb) g4 (by simp)
         exact⟨w',ρ',fps',by rw[<-f1];exact g1,f2,f3,f4,f5⟩
        ·cases hl:HJ v with
         |none=>simp[hl]at ha
         |some l=>
          simp only[hl,Option.map_some,aa0,aa1]at ha;obtain⟨rfl,rfl,rfl⟩:=ha;obtain⟨v',w',g1,g2,g3,g4⟩:=run (World.ownsRow_nil w 0 e (fi z)) hq;obtain⟨ρ',fps',f1,f2,f3,f4,f5⟩:=Hc (n:=0) (g:=fun _=>v) (ts:= []) h (by simp) (Gz (K:=known res) hl _) v4 v2 (fun j hj=>by omega) (by simpa using g2) g3 (fun b hb=>by simp[Value.ownBlock]at hb) g4 (by simp)
          exact⟨w',ρ',fps',by rw[<-f1];exact g1,f2,f3,f4,f5⟩
       ·rename_i j;split at ha
        ·rename_i e' esz l hj;split at ha
         ·rename_i hc;simp only[aa2,aa4]at hc;obtain⟨rfl,rfl⟩:=hc;cases hl:Hu l v with
          |none=>simp[hl]at ha
          |some l'=>
           simp only[hl,Option.map_some,aa0,aa1]at ha;obtain⟨rfl,rfl,rfl⟩:=ha;have hjj:=h.holds j (by unfold known;rw[hj];simp)
           rw[hj]at hjj;obtain⟨a1,a2,a3,a4,a5,a6,a7⟩:=hjj;rcases a7 with⟨b1,_⟩|⟨e2,b1,b2,b3⟩
           ·simp at b1
           ·have:=b1 e' rfl;subst this;obtain⟨v',w',g1,g2,g3,g4⟩:=run b2 hq
            obtain⟨ρ',fps',f1,f2,f3,f4,f5⟩:=Hc (n:=l.len) (g:=l.get) (ts:= [j]) h (by have hx:known res j:=hx;simpa using hx) (GH (K:=known res) hl) v4 v2 a1 g2 g3 (fun b hb=>by
             refine⟨j,by simp,?_⟩
             cases hs:J.sa j with
             |none=>simp[Env.sl,hs,Value.ownBlock]at hb
             |some a=>
              simp only[Env.sl,hs,Value.ownBlock,aa0]at hb;rw[<-hb];exact b3 a hs) g4 (BE hq.1)
            exact⟨w',ρ',fps',by rw[<-f1];exact g1,f2,f3,f4,f5⟩
         ·simp at ha
        ·rename_i e' q0 L hj;split at ha
         ·rename_i p o hob;obtain⟨rfl,bt,hrp⟩:=tP hob;split at ha<;>simp only[aa0,aa1,reduceCtorEq]at ha
          rename_i hc;simp only[aa2,aa4]at hc;obtain⟨rfl,hz1⟩:=hc;obtain⟨rfl,rfl,rfl⟩:=ha;have hkj:known res j:=by unfold known;rw[hj];simp
          have hkp:known res p:=by unfold known;rw[hrp];simp
          have hjj:=h.holds j hkj;rw[hj]at hjj;obtain⟨_,a1,a2,a3,a4,a5,a6,a7⟩:=hjj;have hne:j≠p:=fun e=>by rw[e,hrp]at hj;simp at hj
          have hpp:=h.holds p hkp;rw[hrp]at hpp;obtain⟨_,_,p3,_⟩:=hpp;obtain⟨v',w',g1,g2,g3,g4⟩:=run (by rw[hz1];exact a6) hq
          rw[hz1]at g2
          obtain⟨ρ',fps',f1,f2,f3,f4,f5⟩:=Hb (L:=L) (ob:=J.ob q0) (ts:= [j,p]) h (by simp[hkj,hkp]) (by simp) hrp a1 (fun i hi=>⟨⟨j,by simp,(a7 i hi).1⟩,(a7 i hi).2⟩) g2 g3 (fun b hb=>by
           have hb':=hb;cases hs:J.sa j with
           |none=>simp[Env.sl,hs,Value.ownBlock]at hb
           |some a=>
            simp only[den,hs,Value.ownBlock,aa0,Env.sl]at hb;have hfb:fps j b:=by rw[<-hb];exact(a4 a hs).2
            refine⟨⟨j,by simp,hfb⟩,fun i hi=>?_,fun e=>h.disj j p b hkj hkp hne hfb (e▸p3)⟩
            obtain⟨_,t,hti⟩:=a7 i hi;exact vx a6 (fun i=>⟨_,rfl⟩) hb' hti (by omega)) g4 (BE hq.1)
          exact⟨w',ρ',fps',by rw[<-f1];exact g1,f2,f3,f4,f5⟩
         ·simp at ha
        ·simp at ha
       ·simp at ha
      ·simp at ha
     ·simp at ha
    ·simp at ha
   ·simp at ha
  ·simp at ha
 ·simp at ha
end
theorem MJ {α:Type} (l vs:List α) (off m:Nat) (hm:off+vs.length<=m) (hl:m<=l.length):
  (l.take off++vs++l.drop (off+vs.length)).take m=(l.take m).take off++vs++(l.take m).drop (off+vs.length):=by
 have h1:(l.take off++vs).length=off+vs.length:=by simp;omega
 rw[List.take_append,List.take_of_length_le (by rw[h1];exact hm),h1,List.take_take,Nat.min_eq_left (by omega),List.drop_take]
theorem oN {P:Program} {w:World} {e size n cap g:Nat} {xs:List Value} (hown:w.ownsRow 0 e size (.slice (some ⟨g,0,none⟩) n cap) n xs) (vs:List Value) (off:Nat)
  (h1:∀v∈vs,v.oneCell'=true) (hoff:off+vs.length<=n*size):
  ∃w',(storeCells ⟨g,off,none⟩ vs 0).run P w= .ok () w'/\w'.ownsRow 0 e size (.slice (some ⟨g,0,none⟩) n cap) n (xs.take off++vs++xs.drop (off+vs.length))/\w.grownBy w' (some g):=by
 rcases hown.2 with⟨h,_⟩|⟨g',cap',cur,h,hb,hg,hnc,hcm,hcs,htake⟩
 ·simp at h
 ·simp only[Value.slice.injEq,aa0,Addr.mk.injEq,and_true,true_and]at h;obtain⟨rfl,rfl⟩:=h;have hle:n*size<=cur.size:=by rw[hcs];exact Nat.mul_le_mul_right _ hnc
  have hst:=run_storeCells_at (P:=P) g off e vs 0 cur w hg (by omega) h1
  simp only[Nat.add_zero]at hst;refine⟨_,hst,⟨?_,.inr ⟨g,cap,_,rfl,hb,setRow_heap w g cur _ e _ hg,hnc,hcm,?_,?_⟩⟩,⟨rfl,rfl,rfl,by simp[World.setRow],fun k _ hk=>setRow_other w g _ k (fun e=>hk (by simp[e]))⟩⟩
  ·grind
  ·grind
  ·grind[MJ]
theorem bq.Dq {J ρ':Env} {fps:Nat->Nat->Prop} {res:List aK} {w0:World} {F0:Nat->Prop} {w w':World} (h:bq J fps res (known res) w0 F0 w) (ts:List Nat) (j:Nat) (r:aK) (ms:List aK) (fp:Nat->Prop)
  (hms:∀m∈ms,∃j,m= .gen j) (hts:∀t∈ts,known res t) (hj:known res j) (hjt:j∉ts) (hr:r≠ .yet) (hag:Env.bE (known res) J ρ')
  (hh:r.holds (known (dE ts (bO res j r)++ms)) ρ' j fp w0 F0 w') (hfp:∀b,fp b->fps j b\/(∃t∈ts,fps t b)\/(w.heap.size<=b/\b<w'.heap.size))
  (hos:w'.os=w.os) (htape:w'.tape=w.tape) (hout:w'.output=w.output) (hsize:w.heap.size<=w'.heap.size)
  (hsame:∀b,b<w.heap.size->¬fps j b->(∀t∈ts,¬fps t b)->w'.heap[b]? =w.heap[b]?):
  ∃fps',bq ρ' fps' (dE ts (bO res j r)++ms) (known (dE ts (bO res j r)++ms)) w0 F0 w'/\Env.bE (known res) J ρ'/\(∀i,known res i->known (dE ts (bO res j r)++ms) i):=by
 have hlj:=aO hj;have hlt:∀t∈ts,t<(bO res j r).length:=fun t ht=>by rw[cE];exact aO (hts t ht)
 have hget:∀i,ay (dE ts (bO res j r)++ms) i=if i<res.length then(if i∈ts then .gone else if i=j then r else ay res i)else ay ms (i-res.length):=by
  simp_all[cF,lB,cE,tw,bK]
 have hmget:∀k,ay ms k= .yet\/∃j,ay ms k= .gen j:=fun k=>by
  rw[m8,aa7];cases hm:ms[k]? with
  |none=>exact .inl rfl
  |some m=>
   obtain⟨j,rfl⟩:=hms m (List.mem_of_getElem? hm);exact .inr ⟨j,rfl⟩
 have hmono:∀i,known res i->known (dE ts (bO res j r)++ms) i:=fun i hi=>by
  grind[known,aO]
 obtain⟨fps',g⟩:=h.turn (res':=dE ts (bO res j r)++ms) (K':=known (dE ts (bO res j r)++ms)) (fun i=>i∈ts\/i=j) (fun i=>i∈ts\/i=j\/res.length<=i) (fun i b=>i=j/\fp b)
  (fun i hi=>hi) hmono hag (fun i hi hb=>by
   have hi':=hi;unfold known at hi';rw[hget]at hi';have h1:i∉ts:=fun e=>hb (.inl e)
   have h2:i≠j:=fun e=>hb (.inr (.inl e))
   have hl:i<res.length:=by
    rcases Nat.lt_or_ge i res.length with h|h
    ·exact h
    ·exact absurd (.inr (.inr h)) hb
   rw[aa9 hl,aa8 h1,aa8 h2]at hi';exact⟨hi',fun e=>e.elim h1 h2,by rw[hget,aa9 hl,aa8 h1,aa8 h2]⟩)
  (fun i hi hb=>by
   by_cases e:i=j
   ·subst e;refine⟨?_,fun b hf=>?_⟩
    ·rw[hget,aa9 hlj,aa8 hjt,aa9 rfl];have:(fun b=>i=i/\fp b)=fp:=by funext b;simp
     rw[this];exact hh
    ·rcases hfp b hf.2 with hf|⟨t,ht,hft⟩|hn
     ·exact .inl ⟨i,.inr rfl,hj,hf⟩
     ·exact .inl ⟨t,.inl ht,hts t ht,hft⟩
     ·exact .inr hn
   ·refine⟨?_,fun b hf=>absurd hf.1 e⟩
    rw[hget];by_cases hl:i<res.length
    ·rw[aa9 hl,aa9 (hb.resolve_right fun hh=>hh.elim e (by omega))]
     trivial
    ·rw[aa8 hl];rcases hmget (i-res.length)with h|⟨j,h⟩<;>rw[h]<;>trivial)
  (fun i j b _ _ hne hf hf'=>hne (hf.1.trans hf'.1.symm))
  hos htape hout hsize (fun b hb hno=>hsame b hb (hno j (.inr rfl) hj) fun t ht=>hno t (.inl ht) (hts t ht))
 exact⟨fps',g,hag,hmono⟩
def cA {α:Type} (l:List α) (i:Nat) (x:α):List α:=l.set i x
def AN (l:TL) (i:Nat) (v:V):Option TL:=
 match l with
 | .ob l=>match v with
   | .ob o=>some (.ob (cA l i o))
   |_=>none
 | .key l=>match v with
   | .key k=>some (.key (cA l i k))
   |_=>none
 | .it k l=>match toInt v with
   |some (k',n)=>if k==k' then some (.it k (cA l i n))else none
   |none=>none
 | .bo l=>match toBool v with
   |some b=>some (.bo (cA l i b))
   |none=>none
 | .st l=>match v with
   | .st s=>some (.st (cA l i s))
   |_=>none
 | .fn _ _=>none
def Wg (K:Nat->Prop) (l:TL) (i:Nat) (v:V) (l':TL):Prop:=
 l'.len=l.len/\(∀j,j≠i->l'.get j=l.get j)/\(i<l.len->(∀J,cells J (l'.get i)=cells J v)/\(ok K v->ok (fun _=>False) (l'.get i))/\cS (l'.get i)=false/\fi (l'.get i)=fi v)
theorem qE {α:Type} (l:List α) (i:Nat) (x d:α):(∀j,j≠i->aj (cA l i x) j d=aj l j d)/\(i<l.length->aj (cA l i x) i d=x):=by
 grind[aj,cA]
theorem zh {K:Nat->Prop} {l l':TL} {i:Nat} {v:V} (h:AN l i v=some l'):Wg K l i v l':=by
 unfold AN at h;cases l with
 |fn n g=>simp at h
 |ob l=>
  cases v<;>simp only[aa0,reduceCtorEq]at h
  subst h;rename_i o;obtain⟨a,b⟩:=qE l i o free;exact⟨by simp[TL.len,ai,cA],fun j hj=>congrArg V.ob (a j hj),fun hi=>⟨fun J=>by simp only[TL.get,b hi],fun hk=>by simp only[TL.get,b hi];exact hk,rfl,rfl⟩⟩
 |key l=>
  cases v<;>simp only[aa0,reduceCtorEq]at h
  subst h;rename_i o;obtain⟨a,b⟩:=qE l i o void;exact⟨by simp[TL.len,ai,cA],fun j hj=>congrArg V.key (a j hj),fun hi=>⟨fun J=>by simp only[TL.get,b hi],fun hk=>by simp only[TL.get,b hi];exact hk,rfl,rfl⟩⟩
 |it k l=>
  simp only at h;split at h
  ·rename_i k' n hn;split at h<;>simp only[aa0,reduceCtorEq]at h
   rename_i hk;have hk:=aa4.1 hk;subst hk;subst h;obtain⟨a,b⟩:=qE l i n 0;obtain⟨c1,c2,c3⟩:=oD (K:=K) hn;exact⟨by simp[TL.len,ai,cA],fun j hj=>congrArg (V.it k) (a j hj),fun hi=>⟨fun J=>by simp only[TL.get,b hi];exact c1 J,fun hk=>by simp only[TL.get,b hi];exact c2 hk,rfl,c3⟩⟩
  ·simp at h
 |bo l=>
  simp only at h;split at h<;>simp only[aa0,reduceCtorEq]at h
  rename_i b hb;subst h;obtain⟨a,b'⟩:=qE l i b false;obtain⟨c1,c3⟩:=m7 hb;exact⟨by simp[TL.len,ai,cA],fun j hj=>congrArg V.bo (a j hj),fun hi=>⟨fun J=>by simp only[TL.get,b' hi];exact c1 J,fun _=>trivial,rfl,c3⟩⟩
 |st l=>
  cases v<;>simp only[aa0,reduceCtorEq]at h
  subst h;rename_i o;obtain⟨a,b⟩:=qE l i o ByteArray.empty;exact⟨by simp[TL.len,ai,cA],fun j hj=>congrArg V.st (a j hj),fun hi=>⟨fun J=>by simp only[TL.get,b hi],fun hk=>by simp only[TL.get,b hi];exact hk,rfl,rfl⟩⟩
theorem uu {α:Type} {f:Nat->List α} {esz:Nat}:∀{n:Nat},(∀j,j<n->(f j).length=esz)->((List.range n).flatMap f).length=n*esz
 |0,_=>by simp
 |n+1,h=>by
  rw[List.range_succ,List.flatMap_append,List.length_append,uu fun j hj=>h j (by omega)]
  simp[h n (by omega),Nat.succ_mul]
theorem uF {α:Type} {f f':Nat->List α} {esz:Nat}:∀{n i:Nat},(∀j,j<n->(f j).length=esz)->(∀j,j<n->j≠i->f' j=f j)->(f' i).length=esz->i<n->
  (List.range n).flatMap f'=((List.range n).flatMap f).take (i*esz)++f' i++((List.range n).flatMap f).drop (i*esz+esz)
 |0,i,_,_,_,hi=>by omega
 |n+1,i,h,hf,hl,hi=>by
  have hlen:((List.range n).flatMap f).length=n*esz:=uu fun j hj=>h j (by omega)
  rw[List.range_succ,List.flatMap_append,List.flatMap_append];simp only[List.flatMap_cons,List.flatMap_nil,List.append_nil];by_cases e:i=n
  ·subst e
   have e1:(List.range i).flatMap f'=(List.range i).flatMap f:=by
    rw[List.flatMap_def,List.flatMap_def];congr 1
    exact List.map_congr_left fun j hj=>hf j (by have:=List.mem_range.1 hj;omega) (by have:=List.mem_range.1 hj;omega)
   rw[e1,List.take_append,List.take_of_length_le (by omega),hlen,Nat.sub_self,List.take_zero,List.append_nil,List.drop_of_length_le (by simp[hlen,h i (by omega)]),List.append_nil]
  ·have hin:i<n:=by omega
   have hm:i*esz+esz<=n*esz:=by rw[<-Nat.succ_mul];exact Nat.mul_le_mul_right _ hin
   rw[uF (fun j hj=>h j (by omega)) (fun j hj hne=>hf j (by omega) hne) hl hin,hf n (by omega) (fun e'=>e e'.symm)]
   rw[List.take_append_of_le_length (by omega),List.drop_append_of_le_length (by omega)]
   simp only[List.append_assoc]
def Gn (P:Program) (res:List aK) (t j esz i off:Nat) (y:V):Option (Option Prop×List aK):=
 if oZ P t==some (fi y)&& !cS y then
  match ay res j with
  | .arr (some e) esz' l=>if esz==esz' then
    match setAt 8 (l.get i) off y with
    |some v'=>if fi v'==esz then(AN l i v').map fun l'=>(some (Kq i l.len),bO res j (.arr (some e) esz l'))else none
    |none=>none
    else none
  |_=>none
 else none
def GP (P:Program) (res:List aK) (t:Nat) (p y:V):Option (Option Prop×List aK):=
 match p with
 | .ap j esz i off=>if oZ P t==some (fi y)&& !cS y&&fi y==esz&&off==0 then
   match ay res j with
   | .arr (some e) esz' l=>if esz==esz' then(AN l i y).map fun l'=>(some (Kq i l.len),bO res j (.arr (some e) esz l'))else none
   | .obs ty _ L=>match DS res y with
     |some (k,o)=>if esz==1 then some (some (Kq i (ai L)),dE [k] (bO res j (.obs ty res.length (cA L i o)))++ [.gen j])else none
     |none=>none
   |_=>none
   else Gn P res t j esz i off y
 |_=>none
def Env.oz (J:Env) (q:Nat) (f:Nat->Nat):Env:= {J with ob:=fun j=>if j=q then f else J.ob j}
theorem D1 {N:Nat->Prop} {J:Env} {q:Nat} {f:Nat->Nat} (h:¬N q):Env.bE N J (J.oz q f):=fun j hj=>by
 have:j≠q:=fun e=>h (e▸hj)
 simp[Env.oz,this]
section
variable {P:Program} {J:Env} {fps:Nat->Nat->Prop} {res:List aK} {w0 w:World} {F0:Nat->Prop}
theorem pX {t:Nat} {y:V} {K:Nat->Prop} {b off:Nat} {w':World} (hs:oZ P t=some (fi y)) (hy:ok K y) (h:(storeCells ⟨b,off,none⟩ (cells J y) 0).run P w= .ok () w'):
  (Instr.storeAt t (.pointer (some ⟨b,off,none⟩)) (den J y)).run P w= .ok () w':=by
 have hz:(den J y).cells.size=fi y:=by rw[<-bg J y hy];simp[cells]
 simp only[Instr.storeAt,Instr.sureAddr,storeVar,Sem.run_bind,Sem.run_pure,gF w hs,Result.andThen_ok,hz,ne_eq,not_true_eq_false,if_false];rw[show(den J y).cells.toList=cells J y from rfl,h]
theorem T5 {α:Type} {c A p m q B ys:List α} {n off:Nat} (hc:c=A++(p++m++q)++B) (hA:A.length=n) (hp:p.length=off) (hm:m.length=ys.length):c.take (n+off)++ys++c.drop (n+off+ys.length)=A++(p++ys++q)++B:=by
 have e:c=(A++p)++(m++(q++B)):=by rw[hc];simp
 have e2:c=(A++p++m)++(q++B):=by rw[hc];simp
 have l1:(A++p).length=n+off:=by simp[hA,hp]
 have l2:(A++p++m).length=n+off+ys.length:=by simp[hA,hp,hm];omega
 have h1:c.take (n+off)=A++p:=by rw[e,<-l1];exact List.take_left
 have h2:c.drop (n+off+ys.length)=q++B:=by rw[e2,<-l2];exact List.drop_left
 rw[h1,h2];simp
theorem DW {t j esz i off:Nat} {y:V} {q:Option Prop} {res':List aK} (h:bq J fps res (known res) w0 F0 w) (hs:Gn P res t j esz i off y=some (q,res')) (hq:dX q) (hkj:known res j) (hy:ok (known res) y):
  ∃w' ρ' fps',(Instr.storeAt t (den J (.ap j esz i off)) (den J y)).run P w= .ok () w'/\bq ρ' fps' res' (known res') w0 F0 w'/\Env.bE (known res) J ρ'/\∀i,known res i->known res' i:=by
 unfold Gn at hs;split at hs
 case isFalse=>simp at hs
 rename_i hc;simp only[aa2,aa4,Bool.not_eq_true']at hc;obtain⟨hts,hty⟩:=hc;have hj:=h.holds j hkj;split at hs
 case h_2=>simp at hs
 rename_i e esz' l hr;rw[hr]at hj;split at hs
 case isFalse=>simp at hs
 rename_i he;have he:=aa4.1 he;subst he;split at hs
 case h_2=>simp at hs
 rename_i v' hv';split at hs
 case isFalse=>simp at hs
 rename_i hvs;have hvs:=aa4.1 hvs;cases hl:AN l i v' with
 |none=>simp[hl]at hs
 |some l'=>
  simp only[hl,Option.map_some,aa0,aa1]at hs;obtain⟨rfl,rfl⟩:=hs;have hi:i<l.len:=hq;obtain⟨s1,s2,s3⟩:=zh (K:=known res) hl;obtain⟨t1,t2,t3,t4⟩:=s3 hi;obtain⟨a1,a2,a3,a4,a5,a6,a7⟩:=hj;obtain⟨x1,x2,x3⟩:=a1 i hi;obtain⟨⟨p0,m0,q0,y1,y2,y3,y4⟩,y5,y6,y7⟩:=iy (N:=known res) J y hy hty 8 (l.get i) off v' (dY (fun _ h=>h.elim) _ x1) x2 hv'
  rcases a7 with⟨b1,_⟩|⟨e2,b1,b2,b3⟩
  ·simp at b1
  ·have:=b1 e rfl;subst this;obtain⟨g,f1,f2,f3,f4⟩:=la b2 (by omega)
   have hadr:=a4 _ f1;have hm:i*esz+esz<=l.len*esz:=by rw[<-Nat.succ_mul];exact Nat.mul_le_mul_right _ hi
   have hlen:∀j,j<l.len->(cells Env.zero (l.get j)).length=esz:=fun j hj=>by rw[bg Env.zero _ (a1 j hj).1];exact(a1 j hj).2.2
   have hsl:J.sl j= .slice (some ⟨g,0,none⟩) l.len (J.cap j):=by simp[Env.sl,f1,f2]
   rw[hsl]at b2;have hcy:=bg J y hy
   have hcz:cells J v'=cells Env.zero (l'.get i):=by
    rw[<-t1 J];exact dW (N:=fun _=>False) (fun _ h=>h.elim) _ (t2 y6)
   have hc0:cells Env.zero (l.get i)=p0++m0++q0:=by
    rw[<-y1];exact(dW (N:=fun _=>False) (fun _ h=>h.elim) _ x1).symm
   have hl0':=hlen i hi;have hl0:=hl0';rw[hc0]at hl0;simp only[List.length_append]at hl0;obtain⟨w',r1,r2,r3⟩:=oN (P:=P) b2 (cells J y) (i*esz+off) (jt J y hy hty) (by omega)
   have hfj:fps j g:=b3 _ f1
   obtain⟨fps',g1,g2,g3⟩:=h.Dq (ρ':=J) (w':=w') [] j (.arr (some e) esz l') [] (fps j) (by simp) (by simp) hkj (by simp) (by simp) (Env.bE.refl _ _)
    (by
     refine⟨fun k hk=>?_,by rw[s1];exact a2,by rw[s1];exact a3,a4,by rw[s1];exact a5,by rw[s1];exact a6,.inr ⟨e,fun e' he=>by simpa using he.symm,?_,b3⟩⟩
     ·by_cases ek:k=i
      ·subst ek;exact⟨t2 y6,t3,t4.trans hvs⟩
      ·rw[s2 k ek];exact a1 k (by omega)
     ·rw[hsl,s1];have hv:=bg J v' y6
      have hf:l'.cells=l.cells.take (i*esz)++cells J v'++l.cells.drop (i*esz+esz):=by
       unfold TL.cells;rw[s1,hcz,uF (f:=fun j=>cells Env.zero (l.get j)) (f':=fun j=>cells Env.zero (l'.get j)) (i:=i) hlen (fun j _ hne=>by simp only[s2 j hne]) (by rw[<-hcz,hv];exact hvs) hi]
      have hs0:l.cells=l.cells.take (i*esz)++(p0++m0++q0)++l.cells.drop (i*esz+esz):=by
       have:=uF (f:=fun j=>cells Env.zero (l.get j)) (f':=fun j=>cells Env.zero (l.get j)) (i:=i) hlen (fun j _ hne=>rfl) hl0' hi
       rw[hc0]at this;exact this
      have hlc:l.cells.length=l.len*esz:=uu hlen
      have:l'.cells=l.cells.take (i*esz+off)++cells J y++l.cells.drop (i*esz+off+(cells J y).length):=by
       rw[T5 hs0 (by rw[List.length_take];omega) y3 (by rw[hcy];exact y4),hf,y2]
      rw[this];exact r2)
    (fun b hb=> .inl hb) r3.os r3.tape r3.output r3.size (fun b hb hno _=>r3.block b hb fun e=>hno (by simp only[aa0]at e;rw[e];exact hfj))
   refine⟨w',J,fps',?_,by simpa[dE]using g1,g2,by simpa[dE]using g3⟩
   simp only[den];rw[<-hadr];simp only[Nat.zero_add];exact pX hts hy r1
theorem E3 {t:Nat} {p y:V} {q:Option Prop} {res':List aK} (h:bq J fps res (known res) w0 F0 w) (hs:GP P res t p y=some (q,res')) (hq:dX q) (hp:ok (known res) p) (hy:ok (known res) y):
  ∃w' ρ' fps',(Instr.storeAt t (den J p) (den J y)).run P w= .ok () w'/\bq ρ' fps' res' (known res') w0 F0 w'/\Env.bE (known res) J ρ'/\∀i,known res i->known res' i:=by
 unfold GP at hs;split at hs
 ·rename_i j esz i off;split at hs
  ·rename_i hc;simp only[aa2,aa4,Bool.not_eq_true']at hc;obtain⟨⟨⟨hts,hty⟩,hvs⟩,rfl⟩:=hc;have hkj:known res j:=hp;have hj:=h.holds j hkj;split at hs
   ·rename_i e esz' l hr;rw[hr]at hj;split at hs
    ·rename_i he;have he:=aa4.1 he;subst he;cases hl:AN l i y with
     |none=>simp[hl]at hs
     |some l'=>
      simp only[hl,Option.map_some,aa0,aa1]at hs;obtain⟨rfl,rfl⟩:=hs;have hi:i<l.len:=hq;obtain⟨s1,s2,s3⟩:=zh (K:=known res) hl;obtain⟨t1,t2,t3,t4⟩:=s3 hi;obtain⟨a1,a2,a3,a4,a5,a6,a7⟩:=hj;rcases a7 with⟨b1,_⟩|⟨e2,b1,b2,b3⟩
      ·simp at b1
      ·have:=b1 e rfl;subst this;obtain⟨g,f1,f2,f3,f4⟩:=la b2 (by omega)
       have hadr:=a4 _ f1;have hm:i*esz+esz<=l.len*esz:=by rw[<-Nat.succ_mul];exact Nat.mul_le_mul_right _ hi
       have hlen:∀j,j<l.len->(cells Env.zero (l.get j)).length=esz:=fun j hj=>by rw[bg Env.zero _ (a1 j hj).1];exact(a1 j hj).2.2
       have hsl:J.sl j= .slice (some ⟨g,0,none⟩) l.len (J.cap j):=by simp[Env.sl,f1,f2]
       rw[hsl]at b2;have hcy:=bg J y hy
       have hcz:cells J y=cells Env.zero (l'.get i):=by
        rw[<-t1 J];exact dW (N:=fun _=>False) (fun _ h=>h.elim) _ (t2 hy)
       obtain⟨w',r1,r2,r3⟩:=oN (P:=P) b2 (cells J y) (i*esz) (jt J y hy hty) (by omega)
       have hfj:fps j g:=b3 _ f1
       obtain⟨fps',g1,g2,g3⟩:=h.Dq (ρ':=J) (w':=w') [] j (.arr (some e) esz l') [] (fps j) (by simp) (by simp) hkj (by simp) (by simp) (Env.bE.refl _ _)
        (by
         refine⟨fun k hk=>?_,by rw[s1];exact a2,by rw[s1];exact a3,a4,by rw[s1];exact a5,by rw[s1];exact a6,.inr ⟨e,fun e' he=>by simpa using he.symm,?_,b3⟩⟩
         ·grind
         ·rw[hsl,s1]
          have:l'.cells=l.cells.take (i*esz)++cells J y++l.cells.drop (i*esz+(cells J y).length):=by
           unfold TL.cells;rw[s1,hcz,uF (f:=fun j=>cells Env.zero (l.get j)) (f':=fun j=>cells Env.zero (l'.get j)) (i:=i) hlen (fun j _ hne=>by simp only[s2 j hne]) (by rw[<-hcz,hcy];exact hvs) hi,<-hcz,hcy,hvs]
          rw[this];exact r2)
        (fun b hb=> .inl hb) r3.os r3.tape r3.output r3.size (fun b hb hno _=>r3.block b hb fun e=>hno (by simp only[aa0]at e;rw[e];exact hfj))
       refine⟨w',J,fps',?_,by simpa[dE]using g1,g2,by simpa[dE]using g3⟩
       simp only[den];rw[<-hadr];simp only[Nat.zero_add,Nat.add_zero];exact pX hts hy r1
    ·simp at hs
   ·rename_i ty q0 L hr;rw[hr]at hj;split at hs
    ·rename_i k o hob;obtain⟨rfl,bt,hrk⟩:=tP hob;split at hs<;>simp only[aa0,aa1,reduceCtorEq]at hs
     rename_i he;have he:=aa4.1 he;subst he;obtain⟨rfl,rfl⟩:=hs;have hi:i<L.length:=hq;obtain⟨a0,a1,a2,a3,a4,a5,a6,a7⟩:=hj;have hkk:known res k:=by unfold known;rw[hrk];simp
     have hne:j≠k:=fun e=>by rw[e,hrk]at hr;simp at hr
     have hk:=h.holds k hkk;rw[hrk]at hk;obtain⟨k1,_,k3,k4⟩:=hk;have k1:o.wf:=k1;rw[jQ]at k4;obtain⟨g,f1,f2,f3,f4⟩:=la a6 (by omega)
     obtain⟨hadr,hfj⟩:=a4 _ f1;have hfj:fps j g:=hfj;have hsl:J.sl j= .slice (some ⟨g,0,none⟩) L.length (J.cap j):=by simp[Env.sl,f1,f2]
     have a6':=a6;rw[hsl]at a6;obtain⟨w',r1,r2,r3⟩:=oN (P:=P) a6 (cells J (.lp k 0)) i (by simp[cells,den,Value.cells,Value.oneCell']) (by simp[cells,den,Value.cells];omega)
     have hnk:¬known res res.length:=fun hk=>by have:=aO hk;omega
     have hgb:∀x y,w.heap[x]? =some y->x≠g->w'.heap[x]? =some y:=fun x y hy hne=>by
      rw[r3.block x (Array.getElem?_eq_some_iff.1 hy).1 fun hh=>hne (by simpa using hh)];exact hy
     have hkg:J.num k≠g:=fun e=>h.disj j k g hkj hkk hne hfj (e▸k3)
     have hog:∀x,x<L.length->J.ob q0 x≠g:=fun x hx=>by
      obtain⟨_,t,hti⟩:=a7 x hx;exact vx a6 (fun i=>⟨_,rfl⟩) (by rfl) hti (by omega)
     have hnr:known (dE [k] (bO res j (.obs ty res.length (cA L i o)))++ [.gen j]) res.length:=by
      unfold known;rw[cF,lB,cE,aa8 (by omega)];simp[ay]
     have hll:(cA L i o).length=L.length:=by simp[cA]
     obtain⟨fps',g1,g2,g3⟩:=h.Dq (ρ':=J.oz res.length (fun x=>if x=i then J.num k else J.ob q0 x)) (w':=w') [k] j (.obs ty res.length (cA L i o)) [.gen j] (fun b=>fps j b\/fps k b) (by simp) (by simpa using hkk) hkj (by simpa using hne) (by simp)
      (D1 hnk)
      (by
       refine⟨hnr,fun x hx=>?_,by rw[hll];exact a2,by rw[hll];exact a3,fun a ha=>⟨(a4 a ha).1,.inl (a4 a ha).2⟩,by rw[hll];exact a5,?_,fun x hx=>?_⟩
       ·rcases List.mem_or_eq_of_mem_set hx with hx|rfl
        ·exact a1 x hx
        ·exact k1
       ·rw[hll,show(J.oz res.length (fun x=>if x=i then J.num k else J.ob q0 x)).sl j=J.sl j from rfl,hsl]
        have:((List.range L.length).map fun x=>Value.pointer (some ⟨(J.oz res.length (fun x=>if x=i then J.num k else J.ob q0 x)).ob res.length x,0,none⟩))=
          ((List.range L.length).map fun x=>Value.pointer (some ⟨J.ob q0 x,0,none⟩)).take i++cells J (.lp k 0)++((List.range L.length).map fun x=>Value.pointer (some ⟨J.ob q0 x,0,none⟩)).drop (i+(cells J (.lp k 0)).length):=by
         have hl1:(cells J (.lp k 0)).length=1:=rfl;rw[hl1];apply List.ext_getElem?
         intro x;rw[List.append_assoc];by_cases hx:x<i
         ·grind[Env.oz]
         ·rw[List.getElem?_append_right (by simp;omega)]
          have hti:(List.take i (List.map (fun x=>Value.pointer (some ⟨J.ob q0 x,0,none⟩)) (List.range L.length))).length=i:=by simp;omega
          rw[hti];by_cases hxi:x=i
          ·subst hxi;simp[Env.oz,hi,cells,den,Value.cells]
          ·rw[List.getElem?_append_right (by omega),List.getElem?_drop,hl1,show i+1+(x-i-1)=x by omega]
           by_cases hxl:x<L.length
           ·simp[Env.oz,hxi,hxl]
           ·simp[hxl]
        rw[this];exact r2
       ·rw[hll]at hx;have hob:(J.oz res.length (fun x=>if x=i then J.num k else J.ob q0 x)).ob res.length x=if x=i then J.num k else J.ob q0 x:=by simp[Env.oz]
        rw[hob];by_cases hxi:x=i
        ·rw[aa9 hxi];refine⟨.inr k3,bt,?_⟩;rw[show(cA L i o).getD x free=o by subst hxi;simp[cA,aa7,hi]]
         exact hgb _ _ k4 hkg
        ·rw[aa8 hxi];obtain⟨c1,t,c2⟩:=a7 x hx;refine⟨.inl c1,t,?_⟩;rw[show(cA L i o).getD x free=L.getD x free by simp[cA,aa7,List.getElem?_set,Ne.symm hxi]]
         exact hgb _ _ c2 (hog x hx))
      (fun b hb=>hb.elim .inl fun hb=> .inr (.inl ⟨k,by simp,hb⟩)) r3.os r3.tape r3.output r3.size (fun b hb hno _=>r3.block b hb fun e=>hno (by simp only[aa0]at e;rw[e];exact hfj))
     refine⟨w',_,fps',?_,g1,g2,g3⟩
     have hd:den J (.ap j 1 i 0)= .pointer (some ⟨g,i,none⟩):=by
      simp only[den];rw[<-hadr];simp
     rw[hd];exact pX hts hy r1
    ·simp at hs
   ·simp at hs
  ·exact DW h hs hq hp hy
 ·simp at hs
end
end Go.Sx
