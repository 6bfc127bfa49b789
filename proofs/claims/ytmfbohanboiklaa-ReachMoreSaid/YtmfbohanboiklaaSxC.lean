import Derived.Test.YtmfbohanboiklaaSxB
import Derived.MapKept
import Derived.Carry
import Derived.Laws.AppendOwn
import Derived.Laws.BytesString
import Derived.Laws.CopyRow
import Derived.Maps.RangeRun
import Derived.DefersIn
import Derived.ArgAppend
set_option linter.unusedSimpArgs false
set_option linter.unusedVariables false
namespace Go.Sx
open Go.RowKit (Below)
theorem gd {K:Nat->Prop} {v:V} {k:IntKind} {n:Int} (h:toInt v=some (k,n)):(∀J,cells J (.it k n)=cells J v)/\(ok K v->ok (fun _=>False) (.it k n))/\bJ (V.it k n)=bJ v:=by
 cases v<;>simp only[toInt,NN,NO,reduceCtorEq]at h<;>obtain⟨rfl,rfl⟩:=h
 ·exact⟨fun _=>rfl,fun h=>h,rfl⟩
 ·exact⟨fun _=>rfl,fun h=>h,rfl⟩
 ·rename_i b;refine⟨fun _=>rfl,fun _=>?_,rfl⟩
  have:=b.toNat_lt;simp only[ok,bE,GY];omega
theorem gP {v:V} {b:Bool} (h:toBool v=some b):(∀J,cells J (.bo b)=cells J v)/\bJ (V.bo b)=bJ v:=by
 cases v<;>simp only[toBool,NN,reduceCtorEq]at h<;>subst h<;>exact⟨fun _=>rfl,rfl⟩
def nV {α:Type} (n:Nat) (x:α):List α:=List.replicate n x
def Iv (n m:Int) (b:Nat):Prop:=m=n/\0<=n/\n<=9223372036854775807/\n*b<=281474976710656
def Ee (n:Nat) (v:V):Option TL:=
 match v with
 | .ob o=>some (.ob (nV n o))
 | .key k=>some (.key (nV n k))
 | .st s=>some (.st (nV n s))
 |_=>match toInt v with
  |some (k,i)=>some (.it k (nV n i))
  |none=>match toBool v with
   |some b=>some (.bo (nV n b))
   |none=>none
theorem lz {α:Type} {n i:Nat} (x d:α) (h:i<n):aq (nV n x) i d=x:=by
 simp[aq,nV,NV,h]
theorem lU {α:Type} (n:Nat) (x:α):aa (nV n x)=n:=by simp[aa,nV]
theorem zh {K:Nat->Prop} {n:Nat} {v:V} {l:TL} (h:Ee n v=some l):
  l.len=n/\∀i,i<n->(∀J,cells J (l.get i)=cells J v)/\(ok K v->ok (fun _=>False) (l.get i))/\aZ (l.get i)=false/\bJ (l.get i)=bJ v:=by
 unfold Ee at h;split at h
 ·rename_i x;simp only[NN]at h;subst h;exact⟨lU _ _,fun i hi=>by rw[show(TL.ob (nV n x)).get i=V.ob x from congrArg V.ob (lz x free hi)];exact⟨fun _=>rfl,fun h=>h,rfl,rfl⟩⟩
 ·rename_i x;simp only[NN]at h;subst h;exact⟨lU _ _,fun i hi=>by rw[show(TL.key (nV n x)).get i=V.key x from congrArg V.key (lz x void hi)];exact⟨fun _=>rfl,fun h=>h,rfl,rfl⟩⟩
 ·rename_i x;simp only[NN]at h;subst h;exact⟨lU _ _,fun i hi=>by rw[show(TL.st (nV n x)).get i=V.st x from congrArg V.st (lz x ByteArray.empty hi)];exact⟨fun _=>rfl,fun h=>h,rfl,rfl⟩⟩
 ·split at h
  ·rename_i k i hki;simp only[NN]at h;subst h;obtain⟨c1,c2,c3⟩:=gd (K:=K) hki;exact⟨lU _ _,fun j hj=>by rw[show(TL.it k (nV n i)).get j=V.it k i from congrArg (V.it k) (lz i 0 hj)];exact⟨c1,c2,rfl,c3⟩⟩
  ·split at h
   ·rename_i b hb;simp only[NN]at h;subst h;obtain⟨c1,c2⟩:=gP hb;exact⟨lU _ _,fun j hj=>by rw[show(TL.bo (nV n b)).get j=V.bo b from congrArg V.bo (lz b false hj)];exact⟨c1,fun _=>trivial,rfl,c2⟩⟩
   ·simp at h
theorem tG (z:Array Value):∀n:Nat,(madeCells z (n*z.size)).toList=(List.range n).flatMap fun _=>z.toList
 |0=>by simp[madeCells]
 |n+1=>by
  rw[List.range_succ,List.flatMap_append,<-tG z n];simp only[List.flatMap_cons,List.flatMap_nil,List.append_nil];apply List.ext_getElem?
  intro j;rw[List.getElem?_append];simp only[Array.length_toList,size_madeCells];by_cases h1:j<n*z.size
  ·rw[NX h1];have h2:j<(n+1)*z.size:=Nat.lt_of_lt_of_le h1 (Nat.mul_le_mul_right _ (Nat.le_succ n));simp[madeCells,h1,h2]
  ·rw[NW h1];have e:(n+1)*z.size=n*z.size+z.size:=Nat.succ_mul _ _;by_cases h2:j<(n+1)*z.size
   ·have hk:j-n*z.size<z.size:=by omega
    have hm:j%z.size=j-n*z.size:=by
     have:j=(j-n*z.size)+z.size*n:=by rw[Nat.mul_comm z.size n];omega
     conv=>lhs;rw[this]
     rw[Nat.add_mul_mod_self_left,Nat.mod_eq_of_lt hk]
    simp[madeCells,h2,hk,hm]
   ·simp[madeCells,h2];omega
def xx (C:Ctx) (nid t:Nat) (a b:V):Option (Option Prop×V×List ah):=
 match C.P.underlying t with
 |some (.slice e)=>match C.Z e,C.P.info? e with
  |some z,some inf=>match toInt a,toInt b with
   |some (_,n),some (_,m)=>match Ee (gz n) z with
    |some l=>some (some (Iv n m inf.bytes),.sa nid,[.arr (some e) (bJ z) l])
    |none=>none
   |_,_=>none
  |_,_=>none
 |_=>none
def Env.setRow (J:Env) (i:Nat) (a:Addr) (n:Nat):Env:=
 {num:=J.num,cap:=fun j=>if j=i then n else J.cap j,adr:=fun j=>if j=i then a else J.adr j,sa:=fun j=>if j=i then some a else J.sa j,sn:=fun j=>if j=i then n else J.sn j,ob:=J.ob}
theorem vd {N:Nat->Prop} (J:Env) {i:Nat} {a:Addr} {n:Nat} (h:¬N i):Env.agree N J (J.setRow i a n):=fun j hj=>by
 have e1:j≠i:=fun e=>h (e▸hj)
 simp[Env.setRow,e1]
theorem tW {J:Env} {v:V} {k:IntKind} {n:Int} (h:toInt v=some (k,n)):den J v= .int k n:=by
 cases v<;>simp only[toInt,NN,NO,reduceCtorEq]at h<;>obtain⟨rfl,rfl⟩:=h<;>rfl
theorem Bd {C:Ctx} {nid t:Nat} {a b x:V} {q:Option Prop} {new:List ah} (h:xx C nid t a b=some (q,x,new)):x= .sa nid/\∃o e l,new= [.arr o e l]:=by
 unfold xx at h;split at h
 ·grind
 ·simp at h
theorem yT {C:Ctx} {J:Env} {K:Nat->Prop} {w0 w:World} {F0:Nat->Prop} {nid t:Nat} {a b x:V} {q:Option Prop} {new:List ah} (hC:C.wO) (h:xx C nid t a b=some (q,x,new)) (hq:aW q) (hn:¬K nid):
  ∃w' ρ',(Instr.makeSlice t (den J a) (den J b)).run C.P w= .ok (den ρ' x) w'/\fV K J ρ' nid new w0 F0 w w':=by
 unfold xx at h;split at h
 ·rename_i e ht;split at h
  ·rename_i z inf hZ hi;split at h
   ·rename_i k n k' m ha hb;split at h
    ·rename_i l hl;simp only[NN,NO]at h;obtain⟨rfl,rfl,rfl⟩:=h;obtain⟨rfl,h0,h1,h2⟩:=(show Iv n m inf.bytes from hq);obtain⟨l1,l2⟩:=zh (K:=fun _=>False) hl
     obtain⟨i',g1,g2,g3,g4,g5⟩:=hC e z hZ;have:inf=i':=by rw[hi]at g1;exact Option.some.inj g1
     subst this;obtain⟨N,rfl⟩:∃N:Nat,m=(N:Int):=⟨m.toNat,by omega⟩
     have hN:gz (N:Int)=N:=by simp[gz]
     rw[hN]at l1 l2
     have hb2:inf.bytes*N<=281474976710656:=by
      grind
     have hzs:(den Env.zero z).cells.size=bJ z:=by rw[<-ar Env.zero z g3];simp[cells]
     obtain⟨w',r1,r2,r3⟩:=run_make_full (P:=C.P) (w:=w) 0 t e inf (den Env.zero z) (bJ z) ht hi (g2 Env.zero) g5 k k' N hb2 (by simp only[maxLen];omega) (Nat.zero_le _)
     have hcells:(madeCells (den Env.zero z).cells (N*bJ z)).toList=l.cells:=by
      rw[<-hzs,tG,TL.cells,l1];exact im _ _ _ fun j hj=>((l2 j (List.mem_range.1 hj)).1 Env.zero).symm
     rw[hcells]at r2
     have hblt:w.heap.size<w'.heap.size:=by
      rcases r2.2 with⟨hh,_⟩|⟨g,cap,cur,hh,_,hg,_⟩
      ·simp at hh
      ·grind
     refine⟨w',J.setRow nid ⟨w.heap.size,0,none⟩ N,?_,?_⟩
     ·grind[tW,den,Env.setRow]
     ·refine⟨(Below.refl _ _).grown r3 (Nat.le_refl _) (fun k hk=>by simp at hk),vd J (fun hf=>hf ⟨Nat.le_refl _,by simp⟩),fun _ b=>b=w.heap.size,fun k hk=>?_,fun k l b hk hl hne=>?_⟩
      ·simp only[List.length_singleton,Nat.lt_one_iff]at hk;subst hk;refine⟨⟨fun j hj=>?_,by simp[Env.setRow,l1],by rw[l1];omega,fun a ha=>by simp[Env.setRow]at ha⊢;exact ha.symm,fun _=>by simp[Env.setRow],fun _=>by simp[Env.setRow],.inr ⟨e,fun e' he=>by simpa using he.symm,?_,fun a ha=>by simp[Env.setRow]at ha;rw[<-ha]⟩⟩,fun b hb=>by subst hb;exact⟨Nat.le_refl _,hblt⟩⟩
       ·simp_all
       ·simp_all[Env.sl,Env.setRow]
      ·simp_all
    ·simp at h
   ·simp at h
  ·simp at h
 ·simp at h
end Go.Sx
namespace Go.Sx
open Go.RowKit (Below)
def Lt (b:Bool) (x y:Int):Int:=match b with
 |true=>x
 |false=>y
def HE (n:Int):List Int->Bool
 | []=>false
 |k::ks=>match ks with
  | []=>wq n k
  |_=>KD (wq n k) (HE n ks)
theorem wI (n k:Int) (ks:List Int):HE n (k::ks)=(decide (n=k)||HE n ks):=by
 cases ks<;>simp[HE,wq,KD]
def tv (n:Int) (z:V):List Int->List V->Option V
 | [],[]=>some z
 |k::ks,v::vs=>match v with
  | .fn f l=>match tv n z ks vs with
    |some y=>some (.ch (wq n k) f l y)
    |none=>none
  |_=>none
 |_,_=>none
def zE (kd:IntKind) (n z:Int):List Int->List V->Option Int
 | [],[]=>some z
 |k::ks,v::vs=>match toInt v with
  |some (kd',a)=>if kd==kd' then match zE kd n z ks vs with
   |some y=>some (Lt (wq n k) a y)
   |none=>none
   else none
  |none=>none
 |_,_=>none
def Jo (n:Int) (z:V) (ks:List Int) (vs:List V):Option V:=
 match z with
 | .nl v=>match v with
   | .nilFunc=>tv n (.nl .nilFunc) ks vs
   |_=>none
 | .ci kd a=>match zE kd n a ks vs with
   |some y=>some (.it kd y)
   |none=>none
 |_=>none
def EG (C:Ctx) (res:List ah) (t:Nat) (m x:V) (two:Bool):Option V:=
 match m with
 | .mp i=>match toInt x with
   |some (kd,n)=>match bp res i with
    | .mp kd' ks vs=>match C.P.underlying t with
      |some (.map kt et)=>match C.P.underlying kt with
       |some (.int kd'')=>if kd==kd'&&kd==kd'' then match C.Z et with
        |some z=>match Jo n z ks vs with
         |some y=>if two then some (.tp [y,.bo (HE n ks)])else some y
         |none=>none
        |none=>none
        else none
       |_=>none
      |_=>none
    |_=>none
   |none=>none
 |_=>none
def FM (P:Program) (res:List ah) (t:Nat) (m x v:V):Option (List ah):=
 match m with
 | .mp i=>match x with
   | .ci kd n=>match ae res i with
     | .mp kd' ks vs=>match P.underlying t with
       |some (.map kt et)=>match P.underlying kt with
        |some (.int kd'')=>if kd==kd'&&kd==kd''&&decide (bE kd n)&& !ks.contains n&& !aZ v then some (aL res i (.mp kd (ks++ [n]) (vs++ [v])))else none
        |_=>none
       |_=>none
     |_=>none
   |_=>none
 |_=>none
section
variable {J:Env} {fps:Nat->Nat->Prop} {res:List ah} {K:Nat->Prop} {w0 w:World} {F0:Nat->Prop}
theorem kV {kd:IntKind} {n:Int}:∀(ks:List Int) (xs:List Value) (l:List MapEntry) (i:Nat),l.map (·.key)=ks.map (Value.int kd)->l.map (·.val)=xs->
  ∃r,Instr.findNow (.int kd) (.int kd n) l i=some r/\r.isSome=HE n ks/\
   ((r=none/\n∉ks)\/∃j x,r=some (i+j,x)/\ks[j]? =some n/\xs[j]? =some x/\∀q<j,ks[q]? ≠some n)
 | [],xs,l,i,h,h'=>by
   cases l with
   |nil=>exact⟨none,rfl,rfl,.inl ⟨rfl,by simp⟩⟩
   |cons e l=>simp at h
 |k::ks,xs,l,i,h,h'=>by
  cases l with
  |nil=>simp at h
  |cons e l=>
   simp only[List.map_cons,List.cons.injEq]at h;obtain⟨hk,hl⟩:=h;subst h';by_cases e1:n=k
   ·subst e1;refine⟨some (i,e.val),by simp[Instr.findNow,hk,Instr.sameNow],by rw[wI];simp,.inr ⟨0,e.val,rfl,by simp,by simp,by simp⟩⟩
   ·obtain⟨r,r1,r2,r3⟩:=kV (n:=n) ks _ l (i+1) hl rfl;refine⟨r,by simp[Instr.findNow,hk,Instr.sameNow,beq_eq_false_iff_ne.2 e1,r1],by rw[wI,r2];simp[e1],?_⟩
    rcases r3 with⟨a,b⟩|⟨j,x,a,b,c,d⟩
    ·exact .inl ⟨a,by simp[e1,b]⟩
    ·refine .inr ⟨j+1,x,by rw[a];congr 2;omega,by simpa using b,by simpa using c,fun q hq=>?_⟩
     cases q with
     |zero=>simp;exact fun e=>e1 e.symm
     |succ q=>simpa using d q (by omega)
theorem yh {n:Int} {z:V} (hz:ok K z) (hz1:∀J:Env,(den J z).oneCell'=true):∀(ks:List Int) (vs:List V) (y:V),tv n z ks vs=some y->cg K vs->
  ok K y/\(∀J:Env,(den J y).oneCell'=true)/\∀J:Env,(n∉ks->den J y=den J z)/\∀(j:Nat) x,ks[j]? =some n->(aC J vs)[j]? =some x->(∀q<j,ks[q]? ≠some n)->den J y=x
 | [],[],y,h,hv=>by
   simp_all[tv]
 | [],_::_,y,h,hv=>by simp[tv]at h
 |_::_,[],y,h,hv=>by simp[tv]at h
 |k::ks,v::vs,y,h,hv=>by
  simp only[tv]at h;split at h
  ·rename_i f l;split at h<;>simp only[NN,reduceCtorEq]at h
   rename_i y' hy;subst h;obtain⟨a,b,c⟩:=yh hz hz1 ks vs y' hy hv.2;refine⟨⟨hv.1,a,b⟩,fun J=>?_,fun J=>⟨fun hn=>?_,fun j x hj hx hq=>?_⟩⟩
   ·simp only[den];split
    ·exact iU _ _
    ·exact b J
   ·simp_all[den,wq]
   ·simp only[den,wq];cases j with
    |zero=>
     simp at hj;subst hj;simp[aC,den]at hx;simp[<-hx]
    |succ j=>
     have h0:=hq 0 (by omega)
     simp at h0;rw[decide_eq_false (fun e=>h0 e.symm)]
     refine(c J).2 j x (by simpa using hj) (by simpa[aC]using hx) fun q hq'=>?_
     have:=hq (q+1) (by omega)
     simpa using this
  ·simp at h
theorem x9 {kd:IntKind} {n z:Int} (hz:bE kd z):∀(ks:List Int) (vs:List V) (y:Int),zE kd n z ks vs=some y->cg K vs->
  bE kd y/\∀J:Env,(n∉ks->y=z)/\∀(j:Nat) x,ks[j]? =some n->(aC J vs)[j]? =some x->(∀q<j,ks[q]? ≠some n)-> .int kd y=x
 | [],[],y,h,hv=>by
   simp_all[zE]
 | [],_::_,y,h,hv=>by simp[zE]at h
 |_::_,[],y,h,hv=>by simp[zE]at h
 |k::ks,v::vs,y,h,hv=>by
  simp only[zE]at h;split at h
  ·rename_i kd' a ha;split at h
   ·rename_i hk;have hk:=NR.1 hk;subst hk;split at h<;>simp only[NN,reduceCtorEq]at h
    rename_i y' hy;subst h;obtain⟨b,c⟩:=x9 hz ks vs y' hy hv.2;refine⟨?_,fun J=>⟨fun hn=>?_,fun j x hj hx hq=>?_⟩⟩
    ·cases wq n k
     ·exact b
     ·exact(bj (J:=⟨fun _=>0,fun _=>0,fun _=>default,fun _=>none,fun _=>0,fun _ _=>0⟩) ha hv.1).2
    ·simp only[List.mem_cons,not_or]at hn;simp only[wq];rw[decide_eq_false hn.1];exact(c J).1 hn.2
    ·simp only[wq];cases j with
     |zero=>
      simp at hj;subst hj;simp[aC]at hx;simp[Lt,<-hx,(bj (J:=J) ha hv.1).1]
     |succ j=>
      have h0:=hq 0 (by omega)
      simp at h0;rw[decide_eq_false (fun e=>h0 e.symm)]
      refine(c J).2 j x (by simpa using hj) (by simpa[aC]using hx) fun q hq'=>?_
      have:=hq (q+1) (by omega)
      simpa using this
   ·simp at h
  ·simp at h
theorem CO {n:Int} {z y:V} {ks:List Int} {vs:List V} (hz:ok (fun _=>False) z) (h:Jo n z ks vs=some y) (hv:cg K vs):
  ok K y/\aZ y=false/\∀J:Env,(n∉ks->den J y=den J z)/\∀(j:Nat) x,ks[j]? =some n->(aC J vs)[j]? =some x->(∀q<j,ks[q]? ≠some n)->den J y=x:=by
 unfold Jo at h;split at h
 ·split at h
  ·obtain⟨a,b,c⟩:=yh (K:=K) (z:= .nl .nilFunc) rfl (fun _=>rfl) ks vs y h hv
   refine⟨a,?_,c⟩;cases ks with
   |nil=>cases vs<;>simp[tv]at h;subst h;rfl
   |cons k ks=>
    cases vs with
    |nil=>simp[tv]at h
    |cons v vs=>
     simp only[tv]at h;split at h
     ·split at h<;>simp only[NN,reduceCtorEq]at h
      subst h;rfl
     ·simp at h
  ·simp at h
 ·rename_i kd a;split at h<;>simp only[NN,reduceCtorEq]at h
  rename_i y' hy;subst h;obtain⟨b,c⟩:=x9 (K:=K) (show bE kd a from hz) ks vs y' hy hv;exact⟨b,rfl,fun J=>⟨fun hn=>by simp only[den];rw[(c J).1 hn],fun j x h1 h2 h3=>by simp only[den];exact(c J).2 j x h1 h2 h3⟩⟩
 ·simp at h
theorem yM {C:Ctx} {t:Nat} {m x r:V} {two:Bool} (hC:C.wO) (h:au J fps res K w0 F0 w) (hl:EG C res t m x two=some r) (hx:ok K x):
  (Instr.lookup t (den J m) (den J x) two).run C.P w= .ok (den J r) w/\ok K r:=by
 unfold EG at hl;split at hl
 case h_2=>simp at hl
 rename_i i;split at hl
 case h_2=>simp at hl
 rename_i kd n hn;split at hl
 case h_2=>simp at hl
 rename_i kd' ks vs hr;split at hl
 case h_2=>simp at hl
 rename_i kt et hu;split at hl
 case h_2=>simp at hl
 rename_i kd'' hku;split at hl
 case isFalse=>simp at hl
 rename_i hkd;simp only[NP,NR]at hkd;obtain⟨rfl,rfl⟩:=hkd;split at hl
 case h_2=>simp at hl
 rename_i z hz;split at hl
 case h_2=>simp at hl
 rename_i y hy;obtain⟨hx1,hx2⟩:=bj (J:=J) hn hx;obtain⟨fp,hh,_⟩:=h.look hr (by simp)
 obtain⟨_,a2,a3,a4,a5,es,cl,b1,b2,b3⟩:=hh;obtain⟨_,_,_,hz3,hz4,_⟩:=hC et z hz;obtain⟨y1,y2,y3⟩:=CO hz3 hy a2;obtain⟨q,q1,q2,q3⟩:=kV (n:=n) ks _ es.toList 0 b2 b3;have hck:=MapKept.run_checkKey (P:=C.P) (w:=w) (k:= .int kd n) hku rfl es.isEmpty 9999;have hfk:=MapKept.run_findKey (w:=w) hku q1;have hzr:=iz (J:=J) (w:=w) hC hz
 have main:(Instr.lookup t (den J (.mp i)) (den J x) two).run C.P w= .ok (if two then .tuple #[den J y,.bool (HE n ks)]else den J y) w:=by
  rw[hx1];simp only[Instr.lookup,den,Sem.run_bind,aB w hu,Result.andThen_ok,MapKept.run_getObj_map b1,Sem.run_pure,hck,hfk];rcases q3 with⟨rfl,hnk⟩|⟨j,v,rfl,c1,c2,c3⟩
  ·simp_all
  ·simp only[Sem.run_pure,Result.andThen_ok];rw[(y3 J).2 j v c1 c2 c3,<-q2];rfl
 rw[main];cases two
 ·simp only[Bool.false_eq_true,if_false,NN]at hl;subst hl;exact⟨by simp,y1⟩
 ·simp only[if_true,NN]at hl;subst hl;exact⟨by simp[den,aC],y1,trivial,trivial⟩
theorem fV.I2 {nid:Nat} {kd:IntKind} (hn:¬K nid):
  fV K J (J.aG nid w.heap.size) nid [.mp kd [] []] w0 F0 w (w.alloc (.map #[] 0)):=by
 refine⟨(Below.refl _ _).alloc (Nat.le_refl _) _,eG J nid _,fun _ b=>b=w.heap.size,fun k hk=>?_,fun k l b hk hl hne=>?_⟩
 ·simp only[List.length_singleton,Nat.lt_one_iff]at hk;subst hk;refine⟨⟨by simp[Env.aG],trivial,trivial,by simp,rfl, #[],0,?_,rfl,rfl⟩,fun b hb=>by subst hb;simp⟩
  rw[show(J.aG nid w.heap.size).num (nid+0)=w.heap.size by simp[Env.aG]]
  exact heap_alloc_new w _
 ·simp only[List.length_singleton,Nat.lt_one_iff]at hk hl;omega
theorem au.si {w':World} {i:Nat} {r r':ah} {b:Nat}
  (h:au J fps res K w0 F0 w) (hi:ae res i=r) (hne:r≠ .yet) (hne':r'≠ .yet) (hfp:fps i b) (hnew:r'.holds K J i (fps i) w0 F0 w')
  (hos:w'.os=w.os) (htape:w'.tape=w.tape) (hout:w'.output=w.output) (hsize:w'.heap.size=w.heap.size) (hold:∀b',b'≠b->w'.heap[b']? =w.heap[b']?):
  au J fps (aL res i r') K w0 F0 w'/\∀j,known (aL res i r') j↔known res j:=by
 have hk:known res i:=by unfold known;rw[hi];exact hne
 have hlt:=aj hk
 have hkn:∀j,known (aL res i r') j↔known res j:=fun j=>by
  grind[known,aF]
 refine⟨⟨fun j hj=>h.sub j ((hkn j).1 hj),by rw[hsize];exact h.old,hos.trans h.os,htape.trans h.tape,hout.trans h.output,fun j hj=>?_,fun j b hj hb=>by rw[hsize];exact h.lt j b ((hkn j).1 hj) hb,
  fun j l b hj hl=>h.disj j l b ((hkn j).1 hj) ((hkn l).1 hl),fun j b hj=>h.inF j b ((hkn j).1 hj),fun c hc hF=>?_⟩,hkn⟩
 ·rw[aF _ _ _ _ hlt];by_cases e:j=i
  ·subst e;simp only[if_true];exact hnew
  ·simp only[NW e];have hj':=(hkn j).1 hj;refine ah.cr _ (h.holds j hj') fun c hc=>hold c fun eb=>?_
   subst eb;exact h.disj j i _ hj' hk e hc hfp
 ·rw[hold c fun e=>hF (e▸h.inF i b hk hfp (e▸hc))]
  exact h.same c hc hF
theorem tQ (J:Env) (l:List V) (v:V):aC J (l++ [v])=aC J l++ [den J v]:=by simp[dN]
theorem BM {P:Program} {res':List ah} {t:Nat} {m x v:V} (h:au J fps res K w0 F0 w) (hs:FM P res t m x v=some res') (hv:ok K v):
  ∃w',(Instr.mapUpdate t (den J m) (den J x) (den J v)).run P w= .ok () w'/\au J fps res' K w0 F0 w'/\∀i,known res' i↔known res i:=by
 unfold FM at hs;split at hs
 case h_2=>simp at hs
 rename_i i;split at hs
 case h_2=>simp at hs
 rename_i kd n;split at hs
 case h_2=>simp at hs
 rename_i kd' ks vs hr;split at hs
 case h_2=>simp at hs
 rename_i kt et hu;split at hs
 case h_2=>simp at hs
 rename_i kd'' hku;split at hs
 case isFalse=>simp at hs
 rename_i hc;simp only[NP,NR,NQ,Bool.not_eq_true',List.contains_eq_mem,decide_eq_false_iff_not]at hc;obtain⟨⟨⟨⟨rfl,rfl⟩,hin⟩,hnk⟩,htp⟩:=hc;simp only[NN]at hs;subst hs;have hk:known res i:=by unfold known;rw[hr];simp
 have hh:=h.holds i hk;rw[hr]at hh;obtain⟨a1,a2,a3,a4,a5,es,cl,b1,b2,b3⟩:=hh;obtain⟨q,q1,q2,q3⟩:=kV (n:=n) ks _ es.toList 0 b2 b3
 have hq:q=none:=by
  grind
 subst hq;have hck:=MapKept.run_checkKey (P:=P) (w:=w) (k:= .int kd n) hku rfl false 9999;have hfk:=MapKept.run_findKey (w:=w) hku q1;have hset:=MapKept.heap_set (w:=w) (r:=J.num i) (o':= .map (es.push {key:= .int kd n,val:=den J v,born:=cl}) (cl+1)) b1;refine⟨{w with heap:=w.heap.setIfInBounds (J.num i) (.map (es.push {key:= .int kd n,val:=den J v,born:=cl}) (cl+1))},?_,?_⟩
 ·simp only[Instr.mapUpdate,den,Sem.run_bind,aB w hu,Result.andThen_ok,MapKept.run_getObj_map b1,hck,hfk,MapKept.run_setObj_map _ b1]
 ·refine h.si (b:=J.num i) hr (by simp) (by simp) a1 ⟨a1,?_,?_,?_,by simp[a5],_,_,hset.1,by simp[b2],by simp[b3,tQ]⟩ rfl rfl rfl (by simp) hset.2
  ·grind[dQ]
  ·grind[bO]
  ·grind
end
end Go.Sx
namespace Go.Sx
open Go.RowKit (Below)
def fC:List V->Option (List (Bool×Int))
 | []=>some []
 |x::l=>match toInt x with
  |some (k,n)=>if k== .i64 then match fC l with
   |some m=>some ((pN x,n)::m)
   |none=>none
   else none
  |none=>none
def LS:List (Bool×Int)->Bool
 | []=>true
 | (c,_)::l=>c&&LS l
def aS:List (Bool×Int)->List Int
 | []=> []
 | (_,n)::l=>n::aS l
def LD:V->V->V
 | .cb true,y=>y
 | .cb false,_=> .cb false
 |x,.cb true=>x
 |_,.cb false=> .cb false
 | .bo a,.bo b=> .bo (Ia a b)
 |_,_=> .nl undef
def Ns:V->V->V
 | .cb false,y=>y
 | .cb true,_=> .cb true
 |x,.cb false=>x
 |_,.cb true=> .cb true
 | .bo a,.bo b=> .bo (KD a b)
 |_,_=> .nl undef
theorem Bs {x y:V} {a b:Bool} (h1:toBool x=some a) (h2:toBool y=some b):toBool (LD x y)=some (a&&b):=by
 cases x<;>simp[toBool]at h1<;>cases y<;>simp[toBool]at h2<;>subst h1<;>subst h2
 all_goals(rename_i p q;cases p<;>cases q<;>rfl)
theorem FD {x y:V} {a b:Bool} (h1:toBool x=some a) (h2:toBool y=some b):toBool (Ns x y)=some (a||b):=by
 cases x<;>simp[toBool]at h1<;>cases y<;>simp[toBool]at h2<;>subst h1<;>subst h2
 all_goals(rename_i p q;cases p<;>cases q<;>rfl)
def Mj (c:Bool) (n k:Int):V:=if c then .cb (decide (n=k))else .bo (wq n k)
theorem D3 (c:Bool) (n k:Int):toBool (Mj c n k)=some (decide (n=k)):=by cases c<;>simp[Mj,toBool,wq]
def yV:List (Bool×Int)->List Int->V
 | [],[]=> .cb true
 | (c,n)::l,k::m=>LD (Mj c n k) (yV l m)
 |_,_=> .cb false
theorem pn:∀(l:List (Bool×Int)) (m:List Int),toBool (yV l m)=some (decide (aS l=m))
 | [],[]=>rfl
 | [],_::_=>by simp[yV,aS,toBool]
 |_::_,[]=>by simp[yV,aS,toBool]
 | (c,n)::l,k::m=>by
   simp_all[yV,aS,Bs,D3,pn]
def vG (x:List (Bool×Int)) (z:V):List (List Int)->List V->Option V
 | [],[]=>some z
 |k::ks,v::vs=>match v with
  | .fn f l=>match yV x k with
    | .cb true=>some (.fn f l)
    | .cb false=>vG x z ks vs
    | .bo b=>match vG x z ks vs with
      |some y=>some (.ch b f l y)
      |none=>none
    |_=>none
  |_=>none
 |_,_=>none
def Hn (x:List (Bool×Int)):List (List Int)->V
 | []=> .cb false
 |k::ks=>Ns (yV x k) (Hn x ks)
theorem uH (x:List (Bool×Int)):∀ks,toBool (Hn x ks)=some (decide (aS x∈ks))
 | []=>rfl
 |k::ks=>by
  simp_all[Hn,FD,pn,uH]
def kB (P:Program) (kt n:Nat):Bool:=
 Nat.ble 2 n&&flatK P 8 kt==some (List.replicate n (.i .i64))&&match P.underlying kt with
  |some (.struct fs)=>fs.toList.all fun f=>match P.underlying f.type with
   |some (.int _)=>true
   |_=>false
  |_=>false
def wZ (n:Nat):List (List Int)->Bool
 | []=>true
 |k::ks=>k.length==n&&wZ n ks
theorem ny {n:Nat}:∀{ks:List (List Int)},wZ n ks=true->∀k∈ks,k.length=n
 | [],_,_,h=>by simp at h
 |k::ks,h,c,hc=>by
  simp only[wZ,NP,NR]at h;rcases List.mem_cons.1 hc with rfl|hc
  ·exact h.1
  ·exact ny h.2 c hc
def De (C:Ctx) (res:List ah) (t:Nat) (m x:V) (two:Bool):Option V:=
 match m with
 | .mp i=>match x with
   | .ag xl=>match fC xl with
     |some l=>match bp res i with
      | .mq ks vs=>match C.P.underlying t with
        |some (.map kt et)=>if kB C.P kt l.length&&wZ l.length ks then match C.Z et with
         |some z=>match z with
          | .nl v=>match v with
            | .nilFunc=>match vG l (.nl .nilFunc) ks vs with
              |some y=>if two then some (.tp [y,Hn l ks])else some y
              |none=>none
            |_=>none
          |_=>none
         |none=>none
         else none
        |_=>none
      |_=>none
     |none=>none
   |_=>none
 |_=>none
def FU (P:Program) (res:List ah) (t:Nat) (m x v:V):Option (List ah):=
 match m with
 | .mp i=>match x with
   | .ag xl=>match fC xl with
     |some l=>match ae res i with
      | .mq ks vs=>match P.underlying t with
        |some (.map kt et)=>if kB P kt l.length&&wZ l.length ks&&LS l&& !ks.contains (aS l)&& !aZ v then some (aL res i (.mq (ks++ [aS l]) (vs++ [v])))else none
        |_=>none
      |_=>none
     |none=>none
   |_=>none
 |_=>none
section
variable {J:Env} {fps:Nat->Nat->Prop} {res:List ah} {K:Nat->Prop} {w0 w:World} {F0:Nat->Prop} {P:Program}
theorem ju {xl:List V} {l:List (Bool×Int)} (h:fC xl=some l) (hk:cg K xl):den J (.ag xl)=cC (aS l)/\(aS l).length=l.length:=by
 have:∀(xl:List V) (l:List (Bool×Int)),fC xl=some l->cg K xl->ay J xl=(aS l).map i64/\(aS l).length=l.length:=by
  intro xl;induction xl with
  |nil=>intro l h _;simp only[fC,NN]at h;subst h;exact⟨rfl,rfl⟩
  |cons x xl ih=>
   intro l h hk;simp only[fC]at h;split at h
   case h_2=>simp at h
   rename_i k n hn;split at h
   case isFalse=>simp at h
   rename_i hki;have hki:=NR.1 hki;subst hki;split at h<;>simp only[NN,reduceCtorEq]at h
   rename_i m hm;subst h;obtain⟨a,b⟩:=ih m hm hk.2;refine⟨?_,by simp[aS,b]⟩
   simp only[ay,aS,List.map_cons,a,(bj (J:=J) hn hk.1).1];rfl
 obtain⟨a,b⟩:=this xl l h hk;exact⟨by simp only[den,cC,a],b⟩
theorem nK:∀{a b:List Int},a.map i64=b.map i64↔a=b
 | [],[]=>by simp
 | [],_::_=>by simp
 |_::_,[]=>by simp
 |x::a,y::b=>by simp[nK (a:=a) (b:=b),i64]
theorem sV:∀(l:List Int),gO (List.replicate l.length (.i .i64)) (l.map i64)
 | []=>trivial
 |n::l=>⟨⟨n,rfl⟩,sV l⟩
theorem HT {kt n:Nat} (hk:kB P kt n=true) {a b:List Int} (ha:a.length=n) (hb:b.length=n) (w:World):
  ∃r,(Op.equal kt (cC a) (cC b)).run P w= .ok r w/\(r=true↔a=b):=by
 unfold kB at hk;simp only[NP,NR]at hk;obtain⟨⟨h2,hf⟩,_⟩:=hk;have h2:=Nat.le_of_ble_eq_true h2;have hagg:fQ P kt=some true:=fP hf (by simpa using h2)
 obtain⟨r,h1,h3⟩:=kY (P:=P) 8 10000 (by omega) kt _ true (a.map i64) (b.map i64) hf hagg (by rw[<-ha];exact sV a) (by rw[<-hb];exact sV b) w
 exact⟨r,h1,by rw[h3,nK]⟩
theorem jN {kt n:Nat} (hk:kB P kt n=true) {a:List Int} (ha:a.length=n) (em:Bool) (w:World):(Instr.checkKey em 10000 kt (cC a)).run P w= .ok () w:=by
 unfold kB at hk;simp only[NP,NR]at hk;obtain⟨⟨h2,hf⟩,hs⟩:=hk;split at hs
 case h_2=>simp at hs
 rename_i fs hu;unfold flatK at hf;simp only[hu]at hf;split at hf
 ·simp at hf
 split at hf
 ·simp at hf
 rename_i ks hks;split at hf<;>simp only[NN,reduceCtorEq]at hf
 have hl:ks.length=(a.map i64).length:=by rw[hf];simp[ha]
 clear hf;rw[show(10000:Nat)=9998+1+1 from rfl,Instr.checkKey];simp only[Sem.run_bind,aB w hu,Result.andThen_ok,cC];rw[<-Array.forIn_toList];generalize a.map i64=X at hl⊢
 have key:∀(L:List Field) (off:Nat) (ks:List Kd),fJ (flatK P 7) off L=some ks->off+ks.length<=X.length->(∀f∈L,(match P.underlying f.type with|some (.int _)=>true|_=>false)=true)->
   (forIn L PUnit.unit fun f (_:PUnit)=>if f.name≠ "_" then(do
    let v<-part f.type X.toArray f.offset
    Instr.checkKey em (9998+1) f.type v
    pure (ForInStep.yield PUnit.unit):Sem (ForInStep PUnit))else pure (ForInStep.yield PUnit.unit)).run P w= .ok () w:=by
  intro L;induction L with
  |nil=>intro off ks _ _ _;simp
  |cons f L ih=>
   intro off ks h hle hi;simp only[fJ]at h;split at h
   case isFalse=>simp at h
   rename_i hc;simp only[NP,bne_iff_ne,ne_eq,NR]at hc;obtain⟨hn,ho⟩:=hc;cases hg:flatK P 7 f.type with
   |none=>simp[hg]at h
   |some k1=>
    simp only[hg]at h;cases hr:fJ (flatK P 7) (off+k1.length) L with
    |none=>simp[hr]at h
    |some k2=>
     simp only[hr,Option.map_some,NN]at h;subst h;simp only[List.length_append]at hle;obtain⟨b,hb⟩:=me hg;have e1:=eU (xs:=X) (off:=off) w hg hb (by omega)
     have hif:=hi f (by simp)
     split at hif
     case h_2=>simp at hif
     rename_i ik hik
     have e2:∀v,(Instr.checkKey em (9998+1) f.type v).run P w= .ok () w:=fun v=>by
      rw[Instr.checkKey];simp only[Sem.run_bind,aB w hik,Result.andThen_ok];rfl
     have e3:=ih (off+k1.length) k2 hr (by omega) fun g hg=>hi g (by simp[hg])
     simp only[List.forIn_cons,Sem.run_bind,hn,ne_eq,not_false_eq_true,if_true,ho,e1,Result.andThen_ok,e2,Sem.run_pure];exact e3
 have:=key fs.toList 0 ks hks (by omega) fun f hf=>by simpa using List.all_eq_true.1 hs f hf
 rw[this];rfl
theorem kC {kt n:Nat} (hk:kB P kt n=true) {x:List Int} (hx:x.length=n) (w:World):∀(l:List MapEntry) (i:Nat),(∀e∈l,∃k:List Int,k.length=n/\e.key=cC k)->
  ∃r,(Instr.findAsking kt (cC x) l i).run P w= .ok r w/\
   ((r=none/\∀e∈l,e.key≠cC x)\/∃j e,r=some (i+j,e.val)/\l[j]? =some e/\e.key=cC x)
 | [],i,h=>⟨none,rfl,.inl ⟨rfl,by simp⟩⟩
 |e::l,i,h=>by
  obtain⟨k,hkl,hke⟩:=h e (by simp)
  obtain⟨b,hb,hbi⟩:=HT hk hx hkl w;cases b with
  |true=>
   have:=hbi.1 rfl;subst this;exact⟨some (i,e.val),by simp[Instr.findAsking,hke,hb],.inr ⟨0,e,rfl,rfl,hke⟩⟩
  |false=>
   have hne:e.key≠cC x:=fun e'=>by
    rw[hke]at e';have:x=k:=(nK.1 (by simpa[cC]using e')).symm
    have:=hbi.2 this;simp at this
   obtain⟨r,r1,r3⟩:=kC hk hx w l (i+1) fun e he=>h e (by simp[he])
   refine⟨r,by simp[Instr.findAsking,hke,hb,r1],?_⟩
   rcases r3 with⟨a,b⟩|⟨j,e',a,b,c⟩
   ·simp_all
   ·exact .inr ⟨j+1,e',by rw[a];congr 2;omega,by simpa using b,c⟩
theorem kr {kt n:Nat} (hk:kB P kt n=true) {x:List Int} (hx:x.length=n) (w:World) (l:List MapEntry) (h:∀e∈l,∃k:List Int,k.length=n/\e.key=cC k):
  ∃r,(Instr.findKey kt (cC x) l).run P w= .ok r w/\
   ((r=none/\∀e∈l,e.key≠cC x)\/∃j e,r=some (j,e.val)/\l[j]? =some e/\e.key=cC x):=by
 obtain⟨r,h1,h2⟩:=kC hk hx w l 0 h;simp only[Nat.zero_add]at h2;refine⟨r,?_,h2⟩;unfold kB at hk;simp only[NP,NR]at hk;obtain⟨_,hs⟩:=hk;split at hs
 case h_2=>simp at hs
 rename_i fs hu;cases l with
 |nil=>
  simp only[Instr.findAsking,Sem.run_pure,Result.ok.injEq,and_true]at h1;subst h1;simp[Instr.findKey,aB w hu,Instr.findNow]
 |cons e l=>
  have:Instr.findNow (.struct fs) (cC x) (e::l) 0=none:=by
   simp only[Instr.findNow,cC,Instr.sameNow]
  simp[Instr.findKey,aB w hu,this,h1]
theorem Az {a b:List Int} (h:cC a=cC b):a=b:=nK.1 (by simpa[cC]using h)
theorem uB {ks:List (List Int)} {xs:List Value} {l:List MapEntry} {x:List Int} {r:Option (Nat×Value)} (hp:(l.map fun e=>(e.key,e.val)).Perm ((ks.map cC).zip xs)) (hl:ks.length=xs.length) (hn:ks.Nodup)
  (h:(r=none/\∀e∈l,e.key≠cC x)\/∃j e,r=some (j,e.val)/\l[j]? =some e/\e.key=cC x):
  (r=none/\x∉ks)\/∃(i j:Nat) (v:Value),r=some (i,v)/\ks[j]? =some x/\xs[j]? =some v/\∀q<j,ks[q]? ≠some x:=by
 rcases h with⟨rfl,h⟩|⟨j,e,rfl,h1,h2⟩
 ·refine .inl ⟨rfl,fun hm=>?_⟩
  obtain⟨q,hq,rfl⟩:=List.getElem_of_mem hm
  have:(cC ks[q],xs[q]'(by omega))∈(ks.map cC).zip xs:=by
   rw[List.mem_iff_getElem];exact⟨q,by simp;omega,by simp⟩
  obtain⟨e,he,hee⟩:=List.mem_map.1 (hp.mem_iff.2 this);simp only[NO]at hee;exact h e he hee.1
 ·have:(e.key,e.val)∈(ks.map cC).zip xs:=hp.mem_iff.1 (List.mem_map.2 ⟨e,List.mem_of_getElem? h1,rfl⟩);rw[List.mem_iff_getElem]at this;obtain⟨q,hq,hqe⟩:=this;simp only[List.length_zip,List.length_map]at hq;simp only[List.getElem_zip,List.getElem_map,NO]at hqe;have hk:ks[q]'(by omega)=x:=Az (hqe.1.trans h2)
  refine .inr ⟨j,q,e.val,rfl,by rw[List.getElem?_eq_getElem (by omega),hk],by rw[List.getElem?_eq_getElem (by omega),hqe.2],fun p hp' he=>?_⟩
  rw[List.getElem?_eq_getElem (by omega)]at he
  simp only[NN]at he;exact List.pairwise_iff_getElem.1 hn p q (by omega) (by omega) hp' (he.trans hk.symm)
theorem perm_keys {ks:List (List Int)} {xs:List Value} {l:List MapEntry} {n:Nat} (hp:(l.map fun e=>(e.key,e.val)).Perm ((ks.map cC).zip xs)) (hl:∀k∈ks,k.length=n):∀e∈l,∃k:List Int,k.length=n/\e.key=cC k:=fun e he=>by
 have:=List.of_mem_zip (hp.mem_iff.1 (List.mem_map.2 ⟨e,he,rfl⟩));obtain⟨k,hk,hke⟩:=List.mem_map.1 this.1;exact⟨k,hl k hk,hke.symm⟩
theorem nJ {x:List (Bool×Int)} {z:V} (hz:ok K z) (hz1:∀J:Env,(den J z).oneCell'=true):∀(ks:List (List Int)) (vs:List V) (y:V),vG x z ks vs=some y->cg K vs->
  ok K y/\(∀J:Env,(den J y).oneCell'=true)/\∀J:Env,(aS x∉ks->den J y=den J z)/\∀(j:Nat) v,ks[j]? =some (aS x)->(aC J vs)[j]? =some v->(∀q<j,ks[q]? ≠some (aS x))->den J y=v
 | [],[],y,h,hv=>by
   simp_all[vG]
 | [],_::_,y,h,hv=>by simp[vG]at h
 |_::_,[],y,h,hv=>by simp[vG]at h
 |k::ks,v::vs,y,h,hv=>by
  simp only[vG]at h;split at h
  case h_2=>simp at h
  rename_i f l;have hke:=pn x k
  have tail:∀y',vG x z ks vs=some y'->aS x≠k->∀J:Env,(aS x∉k::ks->den J y'=den J z)/\∀(j:Nat) v,(k::ks)[j]? =some (aS x)->(aC J (.fn f l::vs))[j]? =some v->(∀q<j,(k::ks)[q]? ≠some (aS x))->den J y'=v:=by
   intro y' hy' hne J;obtain⟨_,_,c⟩:=nJ hz hz1 ks vs y' hy' hv.2;refine⟨fun hn=>(c J).1 fun h=>hn (by simp[h]),fun j v hj hx hq=>?_⟩
   cases j with
   |zero=>simp at hj;exact absurd hj.symm hne
   |succ j=>
    refine(c J).2 j v (by simpa using hj) (by simpa[aC]using hx) fun q hq'=>?_
    have:=hq (q+1) (by omega)
    simpa using this
  have head:aS x=k->∀J:Env,(aS x∉k::ks->den J (.fn f l)=den J z)/\∀(j:Nat) v,(k::ks)[j]? =some (aS x)->(aC J (.fn f l::vs))[j]? =some v->(∀q<j,(k::ks)[q]? ≠some (aS x))->den J (.fn f l)=v:=by
   intro he J;refine⟨fun hn=>absurd (by simp[he]) hn,fun j v hj hx hq=>?_⟩
   cases j with
   |zero=>simpa[aC]using hx
   |succ j=>exact absurd (by simp[he]) (hq 0 (by omega))
  split at h
  ·rename_i hk;rw[hk]at hke;have he:aS x=k:=by simpa[toBool]using hke
   simp only[NN]at h;subst h;exact⟨hv.1,fun J=>iU _ _,head he⟩
  ·rename_i hk;rw[hk]at hke;have hne:aS x≠k:=by simpa[toBool]using hke
   obtain⟨a,b,_⟩:=nJ hz hz1 ks vs y h hv.2;exact⟨a,b,tail y h hne⟩
  ·rename_i b hk;rw[hk]at hke;have hb:b=decide (aS x=k):=by simpa[toBool]using hke
   subst hb;split at h<;>simp only[NN,reduceCtorEq]at h
   rename_i y' hy';subst h;obtain⟨a,b,_⟩:=nJ hz hz1 ks vs y' hy' hv.2;refine⟨⟨hv.1,a,b⟩,fun J=>?_,fun J=>?_⟩
   ·simp only[den];split
    ·exact iU _ _
    ·exact b J
   ·by_cases he:aS x=k
    ·grind[den]
    ·grind[den]
  ·simp at h
theorem Ck {v:V} {b:Bool} (h:toBool v=some b) (J:Env):den J v= .bool b/\ok K v/\aZ v=false:=by
 cases v<;>simp[toBool]at h<;>subst h<;>exact⟨rfl,trivial,rfl⟩
theorem zk {C:Ctx} {t:Nat} {m x r:V} {two:Bool} (hC:C.wO) (h:au J fps res K w0 F0 w) (hl:De C res t m x two=some r) (hx:ok K x):
  (Instr.lookup t (den J m) (den J x) two).run C.P w= .ok (den J r) w/\ok K r:=by
 unfold De at hl;split at hl
 case h_2=>simp at hl
 rename_i i;split at hl
 case h_2=>simp at hl
 rename_i xl;split at hl
 case h_2=>simp at hl
 rename_i l hxl;split at hl
 case h_2=>simp at hl
 rename_i ks vs hr;split at hl
 case h_2=>simp at hl
 rename_i kt et hu;split at hl
 case isFalse=>simp at hl
 rename_i hc;simp only[NP]at hc;obtain⟨hwide,hlens⟩:=hc;have hlens:=ny hlens;split at hl
 case h_2=>simp at hl
 rename_i z hz;split at hl
 case h_2=>simp at hl
 rename_i v;split at hl
 case h_2=>simp at hl
 split at hl
 case h_2=>simp at hl
 rename_i y hy;obtain⟨hx1,hx2⟩:=ju (J:=J) hxl hx.1;obtain⟨fp,hh,_⟩:=h.look hr (by simp)
 obtain⟨_,a2,a3,⟨a5,a6⟩,es,cl,b1,b2⟩:=hh;obtain⟨y1,y2,y3⟩:=nJ (K:=K) (z:= .nl .nilFunc) rfl (fun _=>rfl) ks vs y hy a2
 obtain⟨q,q1,q3⟩:=kr hwide hx2 w es.toList (perm_keys b2 hlens);have q3:=uB b2 (by rw[a5,dN,List.length_map]) a6 q3
 have hck:=jN hwide hx2 es.isEmpty w;have hzr:=iz (J:=J) (w:=w) hC hz;obtain⟨f1,f2,_⟩:=Ck (K:=K) (uH l ks) J
 have main:(Instr.lookup t (den J (.mp i)) (den J (.ag xl)) two).run C.P w= .ok (if two then .tuple #[den J y,.bool (decide (aS l∈ks))]else den J y) w:=by
  rw[hx1];simp only[Instr.lookup,den,Sem.run_bind,aB w hu,Result.andThen_ok,MapKept.run_getObj_map b1,Sem.run_pure,hck,q1];rcases q3 with⟨rfl,hnk⟩|⟨_,j,v,rfl,c1,c2,c3⟩
  ·simp_all
  ·have hmem:aS l∈ks:=List.mem_of_getElem? c1;simp only[Sem.run_pure,Result.andThen_ok];rw[(y3 J).2 j v c1 c2 c3];simp[hmem]
 rw[main];cases two
 ·simp only[Bool.false_eq_true,if_false,NN]at hl;subst hl;exact⟨by simp,y1⟩
 ·simp only[if_true,NN]at hl;subst hl;exact⟨by simp[den,aC,f1],y1,f2,trivial⟩
theorem fV.Ax {nid:Nat} (hn:¬K nid):
  fV K J (J.aG nid w.heap.size) nid [.mq [] []] w0 F0 w (w.alloc (.map #[] 0)):=by
 refine⟨(Below.refl _ _).alloc (Nat.le_refl _) _,eG J nid _,fun _ b=>b=w.heap.size,fun k hk=>?_,fun k l b hk hl hne=>?_⟩
 ·simp only[List.length_singleton,Nat.lt_one_iff]at hk;subst hk;refine⟨⟨by simp[Env.aG],trivial,trivial,⟨rfl,List.nodup_nil⟩, #[],0,?_,List.Perm.refl _⟩,fun b hb=>by subst hb;simp⟩
  rw[show(J.aG nid w.heap.size).num (nid+0)=w.heap.size by simp[Env.aG]]
  exact heap_alloc_new w _
 ·simp only[List.length_singleton,Nat.lt_one_iff]at hk hl;omega
theorem BJ {res':List ah} {t:Nat} {m x v:V} (h:au J fps res K w0 F0 w) (hs:FU P res t m x v=some res') (hx:ok K x) (hv:ok K v):
  ∃w',(Instr.mapUpdate t (den J m) (den J x) (den J v)).run P w= .ok () w'/\au J fps res' K w0 F0 w'/\∀i,known res' i↔known res i:=by
 unfold FU at hs;split at hs
 case h_2=>simp at hs
 rename_i i;split at hs
 case h_2=>simp at hs
 rename_i xl;split at hs
 case h_2=>simp at hs
 rename_i l hxl;split at hs
 case h_2=>simp at hs
 rename_i ks vs hr;split at hs
 case h_2=>simp at hs
 rename_i kt et hu;split at hs
 case isFalse=>simp at hs
 rename_i hc;simp only[NP,Bool.not_eq_true',List.contains_eq_mem,decide_eq_false_iff_not]at hc;obtain⟨⟨⟨⟨hwide,hlens⟩,_⟩,hnk⟩,htp⟩:=hc;have hlens:=ny hlens;simp only[NN]at hs;subst hs;have hk:known res i:=by unfold known;rw[hr];simp
 have hh:=h.holds i hk;rw[hr]at hh;obtain⟨a1,a2,a3,⟨a5,a6⟩,es,cl,b1,b2⟩:=hh;obtain⟨hx1,hx2⟩:=ju (J:=J) hxl hx.1;obtain⟨q,q1,q3⟩:=kr hwide hx2 w es.toList (perm_keys b2 hlens);have q3:=uB b2 (by rw[a5,dN,List.length_map]) a6 q3
 have hq:q=none:=by
  grind
 subst hq;have hck:=jN hwide hx2 false w;have hset:=MapKept.heap_set (w:=w) (r:=J.num i) (o':= .map (es.push {key:=cC (aS l),val:=den J v,born:=cl}) (cl+1)) b1;refine⟨{w with heap:=w.heap.setIfInBounds (J.num i) (.map (es.push {key:=cC (aS l),val:=den J v,born:=cl}) (cl+1))},?_,?_⟩
 ·rw[hx1];simp only[Instr.mapUpdate,den,Sem.run_bind,aB w hu,Result.andThen_ok,MapKept.run_getObj_map b1,hck,q1,MapKept.run_setObj_map _ b1]
 ·refine h.si (b:=J.num i) hr (by simp) (by simp) a1 ⟨a1,?_,?_,⟨by simp[a5],?_⟩,_,_,hset.1,?_⟩ rfl rfl rfl (by simp) hset.2
  ·grind[dQ]
  ·grind[bO]
  ·grind
  ·simp only[Array.toList_push,List.map_append,List.map_cons,List.map_nil,tQ];rw[List.zip_append (by simp[a5,dN])]
   exact List.Perm.append_right _ b2
end
end Go.Sx
namespace Go.Sx
open Go.RowKit (Below)
def jG (n b:Nat):Prop:=n<=maxLen/\n*b<=140737488355328
def HK (q:Option Prop) (p:Prop):Option Prop:=match q with
 |none=>some p
 |some q=>some (q/\p)
theorem wz {q:Option Prop} {p:Prop}:aW (HK q p)↔aW q/\p:=by cases q<;>simp[HK,aW]
def gr {α:Type} (l:List α) (lo hi:Nat):List α:=(l.drop lo).take (hi-lo)
def z8 (l:TL) (lo hi:Nat):Option TL:=
 match l with
 | .qs n Q=>some (.qs n (gr Q lo hi))
 | .it k L=>some (.it k (gr L lo hi))
 | .ob L=>some (.ob (gr L lo hi))
 |_=>none
def L3 (lo hi n:Nat):Prop:=lo<=hi/\hi<=n
def HS (res:List ah) (y:V):Option (Option Prop×Nat×TL):=
 match y with
 | .sa j=>match bp res j with
   | .arr _ esz l=>some (none,esz,l)
   |_=>none
 | .vw j esz lo hi=>match bp res j with
   | .arr (some _) esz' l=>if esz==esz' then(z8 l lo hi).map fun l'=>(some (L3 lo hi l.len),esz,l')else none
   |_=>none
 |_=>none
theorem th {α:Type} (l:List α) {lo hi i:Nat} (d:α) (h:i<hi-lo):(gr l lo hi).getD i d=l.getD (lo+i) d:=by
 unfold gr;rw[NV,List.getElem?_take_of_lt h,List.getElem?_drop,<-NV]
theorem qY {Q Q':List (List Int)} {j j':Nat} (h:∀c,aK Q j c=aK Q' j' c):∀(m c:Nat),qL Q j c m=qL Q' j' c m
 |0,c=>rfl
 |m+1,c=>by simp only[qL,h c,qY h m (c+1)]
theorem y0 {l l':TL} {lo hi:Nat} (h:z8 l lo hi=some l') (hb:hi<=l.len):l'.len=hi-lo/\∀i,i<hi-lo->l'.get i=l.get (lo+i):=by
 unfold z8 at h;cases l<;>simp only[NN,reduceCtorEq]at h<;>subst h<;>simp only[TL.len,aa]at hb
 ·refine⟨by simp only[TL.len,aa,gr,List.length_take,List.length_drop];omega,fun i hi=>?_⟩
  simp only[TL.get,aq,th _ _ hi]
 ·refine⟨by simp only[TL.len,aa,gr,List.length_take,List.length_drop];omega,fun i hi=>?_⟩
  simp only[TL.get,aq,th _ _ hi]
 ·refine⟨by simp only[TL.len,aa,gr,List.length_take,List.length_drop];omega,fun i hi=>?_⟩
  simp only[TL.get];rw[qY fun c=>show(((gr _ lo _).getD i []).getD c 0)=_ from by rw[th _ _ hi];rfl]
theorem s5 {l:TL} {esz k:Nat} {u:Value} (hlen:∀i,i<l.len->(cells Env.zero (l.get i)).length=esz) (hu:l.cells[k]? =some u):∃i r,i<l.len/\r<esz/\k=i*esz+r/\(cells Env.zero (l.get i))[r]? =some u:=by
 have hxl:l.cells.length=l.len*esz:=by
  unfold TL.cells
  have:∀n,n<=l.len->((List.range n).flatMap fun j=>cells Env.zero (l.get j)).length=n*esz:=by
   intro n;induction n with
   |zero=>simp
   |succ n ih=>
    intro hn;rw[List.range_succ,List.flatMap_append,List.length_append,ih (by omega)]
    simp[hlen n (by omega),Nat.succ_mul]
  exact this _ (Nat.le_refl _)
 have hk:k<l.len*esz:=by rw[<-hxl];exact(List.getElem?_eq_some_iff.1 hu).1
 have hsz:0<esz:=by
  rcases Nat.eq_zero_or_pos esz with h|h
  ·subst h;simp at hk
  ·exact h
 have hdiv:k / esz<l.len:=(Nat.div_lt_iff_lt_mul hsz).2 hk;have hmod:k%esz<esz:=Nat.mod_lt _ hsz;have hkk:k / esz*esz+k%esz=k:=by rw[Nat.mul_comm];exact Nat.div_add_mod k esz
 exact⟨_,_,hdiv,hmod,hkk.symm,by rw[<-nH (f:=fun i=>cells Env.zero (l.get i)) hlen hdiv hmod,hkk];exact hu⟩
theorem wC {J:Env} {fps:Nat->Nat->Prop} {res:List ah} {K:Nat->Prop} {w0 w:World} {F0:Nat->Prop} {y:V} {q:Option Prop} {esz:Nat} {l':TL} (hH:au J fps res K w0 F0 w) (h:HS res y=some (q,esz,l')) (hq:aW q):
  (∀i,i<l'.len->ok (fun _=>False) (l'.get i)/\aZ (l'.get i)=false/\bJ (l'.get i)=esz)/\l'.len<=9223372036854775807/\
   ∃ao cap,den J y= .slice ao l'.len cap/\(0<l'.len->ao.isSome=true)/\∀a,ao=some a->∀k u,l'.cells[k]? =some u->w.cell? (a.add k)=some u:=by
 have lit:∀(a:Addr) (k:Nat),a.spot=none->a.add k=⟨a.block,a.off+k,none⟩:=fun a k hs=>by
  cases a with
  |mk b o s=>simp only at hs;subst hs;rw[add_lit]
 unfold HS at h;split at h
 ·rename_i j;split at h<;>simp only[NN,NO,reduceCtorEq]at h
  rename_i own esz' l hr;obtain⟨_,rfl,rfl⟩:=h;have hcl:=fun(i:Nat) (hi:i<l.len)=>fM hH hr hi
  obtain⟨fp,hh,_⟩:=hH.look hr (by simp)
  obtain⟨a1,a2,a3,a4,a5,a6,_⟩:=hh;refine⟨a1,a3,J.sa j,J.cap j,by simp[den,a2],a5,fun a ha k u hu=>?_⟩
  obtain⟨i,r,hi,hr',rfl,hu'⟩:=s5 (fun i hi=>by rw[ar Env.zero _ (hcl i hi).1];exact(hcl i hi).2.2.1) hu
  have:=a4 a ha;subst this;rw[lit _ _ (a6 (by omega)),(hcl i hi).2.2.2 r hr',bd (N:=fun _=>False) (J:=Env.zero) (ρ':=J) (fun _ h=>h.elim) _ (hcl i hi).1]
  exact hu'
 ·rename_i j esz1 lo hi;split at h
  case h_2=>simp at h
  rename_i e esz' l hr;split at h
  case isFalse=>simp at h
  rename_i he;have he:=NR.1 he;subst he;cases hs:z8 l lo hi with
  |none=>simp[hs]at h
  |some l2=>
   simp only[hs,Option.map_some,NN,NO]at h;obtain⟨rfl,rfl,rfl⟩:=h;obtain⟨q1,q2⟩:=(show L3 lo hi l.len from hq);obtain⟨s1,s2⟩:=y0 hs q2;have hcl:=fun(i:Nat) (hi:i<l.len)=>fM hH hr hi
   obtain⟨fp,hh,_⟩:=hH.look hr (by simp)
   obtain⟨a1,a2,a3,a4,a5,a6,a7⟩:=hh
   have hel:∀i,i<l2.len->ok (fun _=>False) (l2.get i)/\aZ (l2.get i)=false/\bJ (l2.get i)=esz1:=fun i hi=>by
    rw[s2 i (by omega)];exact a1 _ (by omega)
   rcases a7 with⟨b1,_⟩|⟨e2,b1,b2,b3⟩
   ·simp at b1
   have hcap:0<l.len->l.len<=J.cap j:=fun h0=>by
    rcases b2.2 with⟨_,hz⟩|⟨g,cap,cur,hv,_,_,hn,_⟩
    ·omega
    ·simp only[Env.sl,Value.slice.injEq]at hv;rw[hv.2.2];exact hn
   refine⟨hel,by omega,if J.cap j=lo then J.sa j else(J.sa j).map (·.add (lo*esz1)),J.cap j-lo,by simp only[den,xA,s1],fun h0=>?_,fun a ha k u hu=>?_⟩
   ·have:=a5 (by omega)
    split
    ·exact this
    ·simpa using this
   ·obtain⟨i,r,hi',hr',rfl,hu'⟩:=s5 (fun i hi=>by rw[ar Env.zero _ (hel i hi).1];exact(hel i hi).2.2) hu
    have hlt:lo+i<l.len:=by omega
    have hne:J.cap j≠lo:=by have:=hcap (by omega);omega
    rw[NW hne]at ha;cases hsa:J.sa j with
    |none=>rw[hsa]at ha;simp at ha
    |some a0=>
     rw[hsa]at ha;simp only[Option.map_some,NN]at ha;have h0:=a4 a0 hsa;subst h0;have hsp:=a6 (by omega)
     have e1:a.add (i*esz1+r)=⟨(J.adr j).block,(J.adr j).off+((lo+i)*esz1+r),none⟩:=by
      rw[<-ha,lit _ _ hsp,add_lit,Nat.add_mul];congr 1
      omega
     rw[e1,(hcl _ hlt).2.2.2 r hr',bd (N:=fun _=>False) (J:=Env.zero) (ρ':=J) (fun _ h=>h.elim) _ (hcl _ hlt).1,<-s2 i (by omega)]
     exact hu'
 ·simp at h
def Df (C:Ctx) (res:List ah) (nid:Nat) (ts:List Nat) (xs:List V):Option (Option Prop×V×List ah):=
 match ts,xs with
 | [t,t'],[x,y]=>match x with
   | .nl (.slice none 0 0)=>match HS res y with
     |some (q,esz,l)=>match C.P.underlying t with
      |some (.slice e)=>match C.Z e,C.P.info? e with
       |some z,some inf=>if t==t'&&esz==bJ z&&Nat.blt 0 (bJ z)then some (HK q (jG l.len inf.bytes),.sa nid,[.arr (some e) esz l])else none
       |_,_=>none
      |_=>none
     |none=>none
   |_=>none
 |_,_=>none
def Env.cT (J:Env) (i:Nat) (a:Option Addr) (n cap:Nat):Env:=
 {num:=J.num,cap:=fun j=>if j=i then cap else J.cap j,adr:=fun j=>if j=i then a.getD ⟨0,0,none⟩else J.adr j,sa:=fun j=>if j=i then a else J.sa j,sn:=fun j=>if j=i then n else J.sn j,ob:=J.ob}
theorem jL {N:Nat->Prop} (J:Env) {i:Nat} {a:Option Addr} {n cap:Nat} (h:¬N i):Env.agree N J (J.cT i a n cap):=fun j hj=>by
 have e1:j≠i:=fun e=>h (e▸hj)
 simp[Env.cT,e1]
theorem pT {α:Type} {f:Nat->List α} {esz:Nat}:∀{n:Nat},(∀j,j<n->(f j).length=esz)->((List.range n).flatMap f).length=n*esz
 |0,_=>by simp
 |n+1,h=>by
  rw[List.range_succ,List.flatMap_append,List.length_append,pT fun j hj=>h j (by omega)]
  simp[h n (by omega),Nat.succ_mul]
theorem CC {C:Ctx} {res:List ah} {nid:Nat} {ts:List Nat} {xs:List V} {r:V} {q:Option Prop} {new:List ah} (h:Df C res nid ts xs=some (q,r,new)):r= .sa nid/\∃o e l,new= [.arr o e l]:=by
 unfold Df at h;split at h
 ·split at h
  ·split at h
   ·grind
   ·simp at h
  ·simp at h
 ·simp at h
theorem Be {C:Ctx} {J:Env} {fps:Nat->Nat->Prop} {res:List ah} {K:Nat->Prop} {w0 w:World} {F0:Nat->Prop} {nid ty:Nat} {ts:List Nat} {xs:List V} {r:V} {q:Option Prop} {new:List ah} (hC:C.wO)
  (hH:au J fps res K w0 F0 w) (h:Df C res nid ts xs=some (q,r,new)) (hq:aW q) (hn:¬K nid):
  ∃w' ρ',(Builtin.append_ ts.toArray ty (aC J xs).toArray).run C.P w= .ok (den ρ' r) w'/\fV K J ρ' nid new w0 F0 w w':=by
 unfold Df at h;split at h
 case h_2=>simp at h
 rename_i t t' x y;split at h
 case h_2=>simp at h
 split at h
 case h_2=>simp at h
 rename_i q' esz l hr;split at h
 case h_2=>simp at h
 rename_i e ht;split at h
 case h_2=>simp at h
 rename_i z inf hZ hi;split at h
 case isFalse=>simp at h
 rename_i hc;simp only[NP,NR,Nat.blt_eq]at hc;obtain⟨⟨rfl,rfl⟩,hsz⟩:=hc;simp only[NN,NO]at h;obtain⟨rfl,rfl,rfl⟩:=h;obtain⟨q0,q1,q2⟩:=wz.1 hq;obtain⟨i',g1,g2,g3,g4,g5⟩:=hC e z hZ;have:inf=i':=by rw[hi]at g1;exact Option.some.inj g1
 subst this;have hzs:(den Env.zero z).cells.size=bJ z:=by rw[<-ar Env.zero z g3];simp[cells]
 obtain⟨a1,a3,ao,cap,hd,hsome,hcell⟩:=wC hH hr q0;have hlen:∀i,i<l.len->(cells Env.zero (l.get i)).length=bJ z:=fun i hi=>by rw[ar Env.zero _ (a1 i hi).1];exact(a1 i hi).2.2
 have hxl:l.cells.length=l.len*bJ z:=pT hlen
 have hone:∀u∈l.cells,u.oneCell'=true:=fun u hu=>by
  grind[TL.cells,cU,Env.zero]
 have main:∃ao cap w',(Builtin.append_ #[t,t] ty #[.slice none 0 0,den J y]).run C.P w= .ok (.slice ao l.len cap) w'/\w'.ownsRow w.heap.size e (bJ z) (.slice ao l.len cap) l.len l.cells/\w.grownBy w' none:=by
  rw[hd];cases hs:ao with
  |none=>
   have h0:l.len=0:=by
    rcases Nat.eq_zero_or_pos l.len with h|h
    ·exact h
    ·have:=hsome h;rw[hs]at this;simp at this
   have hxs:l.cells= []:=List.length_eq_zero_iff.1 (by rw[hxl,h0];simp)
   refine⟨none,0,w,?_,by rw[h0,hxs];exact World.ownsRow_nil w _ e _,⟨rfl,rfl,rfl,Nat.le_refl _,fun _ _ _=>rfl⟩⟩
   simp[Builtin.append_,h0,aB w ht,Builtin.lenOf,Builtin.firstCells,sizeOf,typeInfo,hi]
  |some a=>
   by_cases h0:0<l.len
   ·obtain⟨v',w',r1,r2,r3,_⟩:=run_append_own (P:=C.P) w w.heap.size t ty e inf (den Env.zero z) (bJ z) inf.bytes ht hi (g2 Env.zero) g5 rfl hzs hsz (.slice none 0 0) 0 [] (World.ownsRow_nil w _ e _)
     a l.len cap l.cells hxl (hcell a hs) hone (by simpa using q1) (by simpa using q2) (Nat.le_refl _)
    simp only[Nat.zero_add,List.nil_append]at r2;rcases r2.2 with⟨_,hz0⟩|⟨g,cap,cur,hv,_⟩
    ·omega
    ·subst hv;exact⟨_,_,w',r1,r2,r3⟩
   ·have h0:l.len=0:=by omega
    have hxs:l.cells= []:=List.length_eq_zero_iff.1 (by rw[hxl,h0];simp)
    obtain⟨v',w',r1,r2,r3,r4⟩:=run_append_own (P:=C.P) w w.heap.size t ty e inf (den Env.zero z) (bJ z) inf.bytes ht hi (g2 Env.zero) g5 rfl hzs hsz (.slice none 0 0) 0 [] (World.ownsRow_nil w _ e _)
     a 0 cap [] (by simp) (fun k u hu=>by simp at hu) (by simp) (by simp) (by simp) (Nat.le_refl _)
    have hv:=r4.2 ⟨rfl,rfl⟩;subst hv;rw[h0,hxs];exact⟨none,0,w',r1,World.ownsRow_nil w' _ e _,r3⟩
 obtain⟨ao,cap,w',r1,r2,r3⟩:=main
 have hao:∀a,ao=some a->w.heap.size<=a.block/\a.block<w'.heap.size/\a.spot=none:=fun a ha=>by
  subst ha;have:=r2.lt a.block rfl;refine⟨this.1,this.2,?_⟩;rcases r2.2 with⟨hh,_⟩|⟨g,cap',cur,hh,_⟩
  ·simp at hh
  ·simp_all
 refine⟨w',J.cT nid ao l.len cap,?_,?_⟩
 ·simp_all[aC,den,Env.sl,Env.cT]
 ·refine⟨(Below.refl _ _).grown r3 (Nat.le_refl _) (fun k hk=>by simp at hk),jL J (fun hf=>hf ⟨Nat.le_refl _,by simp⟩),fun _ b=>∃a,ao=some a/\b=a.block,fun k hk=>?_,fun k m b hk hl hne=>?_⟩
  ·simp only[List.length_singleton,Nat.lt_one_iff]at hk;subst hk;refine⟨⟨a1,by simp[Env.cT],a3,fun a ha=>by simp[Env.cT]at ha⊢;simp[ha],fun hl=>?_,fun hl=>?_,.inr ⟨e,fun e' he=>by simpa using he.symm,?_,fun a ha=>by simp[Env.cT]at ha;exact⟨a,ha,rfl⟩⟩⟩,fun b hb=>?_⟩
   ·rcases r2.2 with⟨_,hz0⟩|⟨g,cap',cur,hh,_⟩
    ·omega
    ·simp only[Value.slice.injEq]at hh;simp[Env.cT,hh.1]
   ·rcases r2.2 with⟨_,hz0⟩|⟨g,cap',cur,hh,_⟩
    ·omega
    ·simp only[Value.slice.injEq]at hh;simp[Env.cT,hh.1]
   ·have:(J.cT nid ao l.len cap).sl (nid+0)= .slice ao l.len cap:=by simp[Env.sl,Env.cT]
    rw[this];exact⟨r2.1,r2.2.imp id fun⟨g,cp,cu,b1,b2,b3⟩=>⟨g,cp,cu,b1,Nat.zero_le _,b3⟩⟩
   ·grind
  ·simp_all
end Go.Sx
namespace Go.Sx
open Go.RowKit (Below)
def sat (s:ByteArray) (i:Nat):UInt8:=s.data.getD i 0
def IL (b:Bytes) (lo hi:Nat):ByteArray:=⟨b.toArray.extract lo hi⟩
def DO (b:Bytes) (lo n:Nat) (s:ByteArray):Bytes:=Vector.ofFn fun(i:Fin 64)=>if lo<=i.1/\i.1<lo+n then sat s (i.1-lo)else b.at i.1
def KI (s:ByteArray) (lo hi:Nat):ByteArray:=s.extract lo hi
def KJ (a b:ByteArray):ByteArray:=a++b
def CA (s:ByteArray) (lo hi:Nat):Nat:=Nat.min s.size (hi-lo)
def NI (b:Bytes) (lo hi:Nat) (s:ByteArray):Bytes:=DO b lo (CA s lo hi) s
def M7 (b:Bytes) (lo hi:Nat):Bytes:=DO b lo (hi-lo) ByteArray.empty
def BT (l:List Int):ByteArray:=⟨(l.map fun i=>UInt8.ofNat i.toNat).toArray⟩
def G6 (lo hi n:Int):Prop:=0<=lo/\lo<=hi/\hi<=n
def Nq (s:ByteArray) (j:Int):Prop:=0<=j/\j<(s.size:Int)
def M5 (a b:ByteArray):Prop:=(a.size:Int)+(b.size:Int)<=9223372036854775807
theorem FO (b:Bytes) (lo n:Nat) (s:ByteArray) (i:Nat) (h:i<64):(DO b lo n s).at i=if lo<=i/\i<lo+n then sat s (i-lo)else b.at i:=by
 unfold DO;rw[show∀v:Bytes,v.at i=v.toArray.getD i 0 from fun _=>rfl]
 simp only[Vector.toArray_ofFn,Array.getD_eq_getD_getElem?];rw[Array.getElem?_eq_getElem (by simpa using h)]
 simp[Array.getElem_ofFn]
theorem sat_empty (k:Nat):sat ByteArray.empty k=0:=by
 rfl
def iG (o:Option V) (d:Int):Option Int:=
 match o with
 |none=>some d
 |some v=>match toInt v with
  |some (_,j)=>some j
  |none=>none
def A4:V->Bool
 | .lp _ _=>true
 | .ap _ _ _ _=>true
 |_=>false
def KU (o:Option V):Bool:=
 match o with
 |none=>true
 |some v=>pN v
def MQ (P:Program) (t:Nat) (x:V) (lo hi:Option V):Option (Option Prop×V):=
 match P.underlying t with
 |some .string=>match x with
  | .st s=>match iG lo 0,iG hi (Ly s)with
    |some a,some b=>some (some (G6 a b (Ly s)),.st (KI s (gz a) (gz b)))
    |_,_=>none
  |_=>none
 |some (.array n e)=>if n==64&&A4 x&&iE P e==some 1 then match iG lo 0,iG hi 64 with
  |some a,some b=>some (some (G6 a b 64),.bs x (gz a) (gz b))
  |_,_=>none
  else if A4 x&&KU lo&&KU hi then match iE P e with
   |some z=>match iG lo 0,iG hi (n:Int)with
    |some a,some b=>if decide (0<=a)&&decide (a<=b)&&decide (b<=(n:Int))then some (none,.ks x z n a.toNat b.toNat)else none
    |_,_=>none
   |none=>none
  else none
 |_=>none
def Nf (P:Program) (res:List ah) (t:Nat) (x:V) (lo hi:Option V):Option (Option Prop×V):=
 match P.underlying t with
 |some (.slice e)=>match iE P e with
  |some z=>match x with
   | .sa j=>match bp res j with
     | .arr own esz l=>match own with
       |some _=>if esz==z then match iG lo 0,iG hi (aJ l.len)with
        |some a,some b=>some (some (G6 a b (aJ l.len)),.vw j esz (gz a) (gz b))
        |_,_=>none
        else none
       |none=>none
     |_=>none
   |_=>none
  |none=>none
 |_=>none
def H7 (P:Program) (res:List ah) (t:Nat) (x:V) (lo hi:Option V):Option (Option Prop×V):=
 match MQ P t x lo hi with
 |some r=>some r
 |none=>Nf P res t x lo hi
section
variable {C:Ctx} {J:Env} {fps:Nat->Nat->Prop} {res:List ah} {K:Nat->Prop} {w0 w:World} {F0:Nat->Prop}
theorem ng {P:Program} {s:Bool} {n:Nat} {lo hi:Option V} {a b:Int} (ha:iG lo 0=some a) (hb:iG hi (n:Int)=some b) (hk:(∀v,lo=some v->ok K v)/\∀v,hi=some v->ok K v) (hp:G6 a b n):
  (Instr.sliceBounds s n n (lo.map (den J)) (hi.map (den J)) none).run P w= .ok (a.toNat,b.toNat,n) w:=by
 obtain⟨h0,h1,h2⟩:=hp
 have hlo:∀(c:BoundsCode) (y:Nat),a<=y->∀v,lo=some v->(Instr.sliceBound (den J v) y c).run P w= .ok a.toNat w:=fun c y hy v hv=>by
  subst hv;unfold iG at ha;cases ht:toInt v with
  |none=>simp[ht]at ha
  |some kj=>
   obtain⟨k,j⟩:=kj;simp only[ht,NN]at ha;subst ha;rw[(bj (J:=J) ht (hk.1 v rfl)).1];simp[Instr.sliceBound,asIntOf,h0,hy]
 have hhi:∀(c:BoundsCode),∀v,hi=some v->(Instr.sliceBound (den J v) n c).run P w= .ok b.toNat w:=fun c v hv=>by
  subst hv;unfold iG at hb;cases ht:toInt v with
  |none=>simp[ht]at hb
  |some kj=>
   obtain⟨k,j⟩:=kj;simp only[ht,NN]at hb;subst hb;rw[(bj (J:=J) ht (hk.2 v rfl)).1];simp[Instr.sliceBound,asIntOf,show 0<=j by omega,h2]
 unfold Instr.sliceBounds;cases hhe:hi with
 |none=>
  subst hhe;have hb':b=n:=by simpa[iG]using hb.symm
  subst hb';cases hle:lo with
  |none=>subst hle;have:a=0:=by simpa[iG]using ha.symm
         subst this;simp
  |some v=>simp[hlo _ n (by omega) v hle]
 |some u=>
  have e:=hhi (if s then .sliceAcap else .sliceAlen) u hhe
  cases hle:lo with
  |none=>subst hle;have:a=0:=by simpa[iG]using ha.symm
         subst this;simp[e]
  |some v=>simp[e,hlo .sliceB b.toNat (by omega) v hle]
theorem oH {x:V} (h:A4 x=true):∃b o,den J x= .pointer (some ⟨b,o,none⟩):=by
 cases x<;>simp[A4]at h
 ·exact⟨_,_,rfl⟩
 ·exact⟨_,_,rfl⟩
theorem CM {P:Program} {t:Nat} {x r:V} {lo hi:Option V} {q:Option Prop} (h:MQ P t x lo hi=some (q,r)) (hq:aW q) (hx:ok K x) (hl:∀v,lo=some v->ok K v) (hh:∀v,hi=some v->ok K v):
  (Instr.sliceAt t (den J x) (lo.map (den J)) (hi.map (den J)) none).run P w= .ok (den J r) w/\ok K r:=by
 unfold MQ at h;split at h
 ·rename_i hu;split at h
  ·rename_i s;split at h
   ·rename_i a b ha hb;simp only[NN,NO]at h;obtain⟨rfl,rfl⟩:=h;have hb':=ng (J:=J) (K:=K) (w:=w) (P:=P) (s:=false) (n:=s.size) ha hb ⟨hl,hh⟩ hq;refine⟨?_,trivial⟩;simp only[Instr.sliceAt,Instr.slice,Sem.run_bind,aB w hu,Result.andThen_ok,den,Option.isSome_none,Bool.false_eq_true,if_false];simp[hb',KI,gz]
   ·simp at h
  ·simp at h
 ·rename_i n e hu;split at h
  ·rename_i hc;simp only[NP,NR]at hc;obtain⟨⟨rfl,hp⟩,hs⟩:=hc;split at h
   ·rename_i a b ha hb;simp only[NN,NO]at h;obtain⟨rfl,rfl⟩:=h;have hb':=ng (J:=J) (K:=K) (w:=w) (P:=P) (s:=false) (n:=64) ha hb ⟨hl,hh⟩ hq;obtain⟨g,o,hd⟩:=oH (J:=J) hp;obtain⟨q1,q2,q3⟩:=(show G6 a b 64 from hq);refine⟨?_,hx,by unfold gz;omega,by unfold gz;omega⟩
    simp only[Instr.sliceAt,Sem.run_bind,aB w hu,Result.andThen_ok,den,hd,Instr.sureAddr,Sem.run_pure,hb',cB w hs,qe,Nat.mul_one];by_cases e:a.toNat=64
    ·rw[NX e.symm,NX (show gz a=64 from e)];rfl
    ·rw[NW (Ne.symm e),NW (show¬gz a=64 from e)];rfl
   ·simp at h
  ·split at h
   case isFalse=>simp at h
   rename_i hc;simp only[NP]at hc;split at h
   case h_2=>simp at h
   rename_i z hs;split at h
   case h_2=>simp at h
   rename_i a b ha hb;split at h<;>simp only[NN,NO,reduceCtorEq]at h
   rename_i hd;simp only[NP,NQ]at hd;obtain⟨⟨q1,q2⟩,q3⟩:=hd;obtain⟨_,rfl⟩:=h;have hb':=ng (J:=J) (K:=K) (w:=w) (P:=P) (s:=false) (n:=n) ha hb ⟨hl,hh⟩ ⟨q1,q2,q3⟩;obtain⟨g,o,hd⟩:=oH (J:=J) hc.1.1;refine⟨?_,hx,by omega,by omega⟩
   simp only[Instr.sliceAt,Sem.run_bind,aB w hu,Result.andThen_ok,den,hd,Instr.sureAddr,Sem.run_pure,hb',cB w hs,p8];by_cases e:a.toNat=n
   ·rw[NX e.symm,NX e]
   ·rw[NW (Ne.symm e),NW e]
 ·simp at h
theorem xj {P:Program} {n cap:Nat} {lo hi:Option V} {a b:Int} (ha:iG lo 0=some a) (hb:iG hi (n:Int)=some b) (hk:(∀v,lo=some v->ok K v)/\∀v,hi=some v->ok K v) (hp:G6 a b n) (hn:n<=cap):
  (Instr.sliceBounds true n cap (lo.map (den J)) (hi.map (den J)) none).run P w= .ok (a.toNat,b.toNat,cap) w:=by
 obtain⟨h0,h1,h2⟩:=hp
 have hlo:∀(c:BoundsCode) (y:Nat),a<=y->∀v,lo=some v->(Instr.sliceBound (den J v) y c).run P w= .ok a.toNat w:=fun c y hy v hv=>by
  subst hv;unfold iG at ha;cases ht:toInt v with
  |none=>simp[ht]at ha
  |some kj=>
   obtain⟨k,j⟩:=kj;simp only[ht,NN]at ha;subst ha;rw[(bj (J:=J) ht (hk.1 v rfl)).1];simp[Instr.sliceBound,asIntOf,h0,hy]
 have hhi:∀(c:BoundsCode),∀v,hi=some v->(Instr.sliceBound (den J v) cap c).run P w= .ok b.toNat w:=fun c v hv=>by
  subst hv;unfold iG at hb;cases ht:toInt v with
  |none=>simp[ht]at hb
  |some kj=>
   obtain⟨k,j⟩:=kj;simp only[ht,NN]at hb;subst hb;rw[(bj (J:=J) ht (hk.2 v rfl)).1];simp[Instr.sliceBound,asIntOf,show 0<=j by omega,show j<=(cap:Int) by omega]
 unfold Instr.sliceBounds;cases hhe:hi with
 |none=>
  subst hhe;have hb':b=n:=by simpa[iG]using hb.symm
  subst hb';cases hle:lo with
  |none=>subst hle;have:a=0:=by simpa[iG]using ha.symm
         subst this;simp
  |some v=>simp[hlo _ n (by omega) v hle]
 |some u=>
  have e:=hhi .sliceAcap u hhe;cases hle:lo with
  |none=>subst hle;have:a=0:=by simpa[iG]using ha.symm
         subst this;simp[e]
  |some v=>simp[e,hlo .sliceB b.toNat (by omega) v hle]
theorem En {P:Program} {t:Nat} {x r:V} {lo hi:Option V} {q:Option Prop} (hH:au J fps res K w0 F0 w) (h:H7 P res t x lo hi=some (q,r)) (hq:aW q) (hx:ok K x) (hl:∀v,lo=some v->ok K v) (hh:∀v,hi=some v->ok K v):
  (Instr.sliceAt t (den J x) (lo.map (den J)) (hi.map (den J)) none).run P w= .ok (den J r) w/\ok K r:=by
 unfold H7 at h;split at h
 ·rename_i r' hr;simp only[NN]at h;subst h;exact CM hr hq hx hl hh
 rename_i hno;clear hno;unfold Nf at h;split at h
 case h_2=>simp at h
 rename_i e hu;split at h
 case h_2=>simp at h
 rename_i z hz;split at h
 case h_2=>simp at h
 rename_i j;split at h
 case h_2=>simp at h
 rename_i own esz l hr;split at h
 case h_2=>simp at h
 rename_i e';split at h
 case isFalse=>simp at h
 rename_i he;have he:=NR.1 he;subst he;split at h
 case h_2=>simp at h
 rename_i a b ha hb;simp only[NN,NO]at h;obtain⟨rfl,rfl⟩:=h;obtain⟨fp,hh',_⟩:=hH.look hr (by simp)
 obtain⟨a1,a2,a3,a4,a5,a6,a7⟩:=hh';rcases a7 with⟨b1,_⟩|⟨e2,b1,b2,b3⟩
 ·simp at b1
 have hq:G6 a b l.len:=hq
 have hcap:l.len<=J.cap j:=by
  rcases b2.2 with⟨_,hz0⟩|⟨g,cap,cur,hv,_,_,hn,_⟩
  ·omega
  ·simp only[Env.sl,Value.slice.injEq]at hv;rw[hv.2.2];exact hn
 have hbd:=xj (J:=J) (K:=K) (w:=w) (P:=P) ha hb ⟨hl,hh⟩ hq hcap;refine⟨?_,hx⟩;simp only[Instr.sliceAt,Instr.slice,Sem.run_bind,aB w hu,Result.andThen_ok,den,a2,hbd,cB w hz,Sem.run_pure,xA];rfl
def yL (res:List ah) (p:V):Option (Option Prop×Bytes):=
 match p with
 | .lp id off=>match bp res id with
   | .blk _ c=>match cR 8 c off 64 true with
     |some r=>match r with
      | .by b=>some (none,b)
      |_=>none
     |none=>none
   |_=>none
 | .ap id esz i off=>match bp res id with
   | .arr _ esz' l=>if esz==esz' then match cR 8 (l.get i) off 64 true with
     |some r=>match r with
      | .by b=>some (some (B1 i l.len),b)
      |_=>none
     |none=>none
     else none
   |_=>none
 |_=>none
theorem xC {p:V} {q:Option Prop} {b:Bytes} (h:au J fps res K w0 F0 w) (hb:yL res p=some (q,b)) (hq:aW q):
  ∃g o,den J p= .pointer (some ⟨g,o,none⟩)/\∀k,k<64->w.cell? ⟨g,o+k,none⟩=(bh b)[k]? :=by
 unfold yL at hb;split at hb
 ·rename_i id off;split at hb
  ·rename_i ty c hc;split at hb
   ·rename_i r hg;split at hb<;>simp only[NN,NO,reduceCtorEq]at hb
    rename_i b';obtain⟨_,rfl⟩:=hb;obtain⟨fp,hh,_⟩:=h.look hc (by simp)
    obtain⟨h1,h2,h3,h4⟩:=hh;obtain⟨⟨P,Q,e1,rfl⟩,_⟩:=bF J 8 c off 64 true _ h1 h2 hg;refine⟨_,_,rfl,fun k hk=>?_⟩
    rw[cell_of_row w _ _ _ _ _ h4];rw[eX]at e1;simp only[List.getElem?_toArray,e1];exact dM P _ Q k (by rw[ca];exact hk)
   ·simp at hb
  ·simp at hb
 ·rename_i id esz i off;split at hb
  ·rename_i own esz' l hc;split at hb
   ·rename_i he;have he:=NR.1 he;subst he;split at hb
    ·rename_i r hg;split at hb<;>simp only[NN,NO,reduceCtorEq]at hb
     rename_i b';obtain⟨rfl,rfl⟩:=hb;obtain⟨g1,g2,g3,g4⟩:=fM h hc hq;obtain⟨⟨P,Q,e1,e2⟩,_⟩:=bF J 8 _ off 64 true _ g1 g2 hg;have hlg:=ar J _ g1;rw[eX]at e1;refine⟨_,_,rfl,fun k hk=>?_⟩
     have hk2:off+k<esz:=by
      rw[<-g3,<-hlg,e1];simp[ca];omega
     rw[show(J.adr id).off+(i*esz+off)+k=(J.adr id).off+(i*esz+(off+k)) by omega,g4 _ hk2,e1,e2]
     exact dM P _ Q k (by rw[ca];exact hk)
    ·simp at hb
   ·simp at hb
  ·simp at hb
 ·simp at hb
theorem sk:∀(l:List Int) (s:ByteArray),(l.foldl (fun r n=>r.push (UInt8.ofNat n.toNat)) s).data=s.data++(l.map fun i=>UInt8.ofNat i.toNat).toArray
 | [],s=>by simp
 |x::l,s=>by
  rw[List.foldl_cons,sk l];simp[ByteArray.push]
theorem tT (l:List Int):l.foldl (fun r n=>r.push (UInt8.ofNat n.toNat)) ByteArray.empty=BT l:=by
 apply ByteArray.ext
 rw[sk];simp[BT]
def L2 (P:Program) (res:List ah) (s d:Nat) (x:V):Option (Option Prop×V):=
 match P.underlying s,P.underlying d with
 |some (.slice e),some .string=>match P.underlying e with
  |some (.int k)=>if k== .u8 then match x with
   | .bs p lo hi=>match yL res p with
     |some r=>some (r.1,.st (IL r.2 lo hi))
     |none=>none
   | .sa id=>match bp res id with
     | .arr _ esz l=>match l with
       | .it k' m=>if esz==1&&k'== .u8 then some (none,.st (BT m))else none
       |_=>none
     |_=>none
   |_=>none
   else none
  |_=>none
 |_,_=>none
theorem El (b:Bytes) (lo hi:Nat) (h:hi<=64):BT ((List.range (hi-lo)).map fun k=>((b.at (lo+k)).toNat:Int))=IL b lo hi:=by
 apply ByteArray.ext
 unfold BT IL;apply Array.ext
 ·simp;omega
 ·intro i h1 h2;simp at h1;have:lo+i<64:=by omega
  simp[Bytes.at,Array.getD_eq_getD_getElem?,Array.getElem?_eq_getElem,this]
theorem E0 {P:Program} {s d:Nat} {x r:V} {q:Option Prop} (h:au J fps res K w0 F0 w) (hl:L2 P res s d x=some (q,r)) (hq:aW q) (hx:ok K x):
  (convert s d (den J x)).run P w= .ok (den J r) w/\ok K r:=by
 unfold L2 at hl;split at hl
 case h_2=>simp at hl
 rename_i e hs hd;split at hl
 case h_2=>simp at hl
 rename_i k he;split at hl
 case isFalse=>simp at hl
 rename_i hk;have hk:=NR.1 hk;subst hk;split at hl
 ·rename_i p lo hi;split at hl
  case h_2=>simp at hl
  rename_i qb hb;obtain⟨q',b⟩:=qb;simp only[NN,NO]at hl;obtain⟨rfl,rfl⟩:=hl;obtain⟨g,o,hg,hc⟩:=xC h hb hq;obtain⟨_,h1,h2⟩:=hx;refine⟨?_,trivial⟩;simp only[den,hg,qe];rw[run_convert_bytes_string w s d e _ _ _ hs he hd]
  have hload:(loadCells (if lo=64 then(⟨g,o,none⟩:Addr)else(⟨g,o,none⟩:Addr).add lo) (hi-lo)).run P w= .ok ((((List.range (hi-lo)).map fun k=>((b.at (lo+k)).toNat:Int)).map (Value.int .u8)).toArray) w:=by
   have:=run_loadCells_list (P:=P) w (if lo=64 then(⟨g,o,none⟩:Addr)else(⟨g,o,none⟩:Addr).add lo) (((List.range (hi-lo)).map fun k=>((b.at (lo+k)).toNat:Int)).map (Value.int .u8)) (fun j v hv=>by
    have hj:j<hi-lo:=by have:=(List.getElem?_eq_some_iff.1 hv).1;simpa using this
    rw[NW (by omega),add_lit,add_lit,Nat.add_assoc,hc _ (by omega),<-hv]
    simp[bh,hj,show lo+j<64 by omega])
   simpa using this
  rw[run_bytesToString w _ _ _ _ hload,tT,El b lo hi h2]
 ·rename_i id;split at hl
  case h_2=>simp at hl
  rename_i own esz l hr;split at hl
  case h_2=>simp at hl
  rename_i k' m;split at hl
  case isFalse=>simp at hl
  rename_i hc;simp only[NP,NR]at hc;obtain⟨rfl,rfl⟩:=hc;simp only[NN,NO]at hl;obtain⟨_,rfl⟩:=hl;refine⟨?_,trivial⟩;obtain⟨fp,hh,_⟩:=h.look hr (by simp)
  obtain⟨a1,a2,a3,a4,a5,a6,_⟩:=hh;have hlen:(TL.it .u8 m).len=m.length:=rfl;rw[hlen]at a2 a5 a6;simp only[den];rw[run_convert_bytes_string w s d e _ _ _ hs he hd];cases hsa:J.sa id with
  |none=>
   have:m= []:=by
    simp_all
   subst this;simp[Conv.bytesToString,BT,ByteArray.empty,ByteArray.emptyWithCapacity];rfl
  |some a=>
   have ha:=a4 a hsa;subst ha
   have hload:(loadCells (J.adr id) (J.sn id)).run P w= .ok ((m.map (Value.int .u8)).toArray) w:=by
    have:=run_loadCells_list (P:=P) w (J.adr id) (m.map (Value.int .u8)) (fun j v hv=>by
     have hj:j<m.length:=by have:=(List.getElem?_eq_some_iff.1 hv).1;simpa using this
     have hsp:=a6 (by omega)
     obtain⟨_,_,_,g4⟩:=fM h hr (i:=j) hj;have g:=g4 0 (by omega)
     have:(J.adr id).add j=⟨(J.adr id).block,(J.adr id).off+j,none⟩:=by
      cases had:J.adr id with
      |mk bb oo ss=>rw[had]at hsp;simp only at hsp;subst hsp;rw[add_lit]
     rw[this,<-hv];simp only[Nat.mul_one,Nat.add_zero]at g;rw[g];simp[TL.get,cells,den,Value.cells,aq,hj])
    simpa[a2]using this
   rw[run_bytesToString w _ _ _ _ hload,tT]
 ·simp at hl
theorem uV {P:Program} {id ty off lo n:Nat} {c c':V} {b b':Bytes} {xs:List Value} (h:au J fps res K w0 F0 w) (hr:ae res id= .blk ty c) (hg:cR 8 c off 64 true=some (.by b)) (hs:setAt 8 c off (.by b')=some c')
  (hlo:lo+n<=64) (hx:xs.length=n) (hb:bh b'=(bh b).take lo++xs++(bh b).drop (lo+n)) (h1:∀v∈xs,v.oneCell'=true):
  ∃w',(storeCells ⟨J.num id,off+lo,none⟩ xs).run P w= .ok () w'/\au J fps (aL res id (.blk ty c')) K w0 F0 w'/\∀i,known (aL res id (.blk ty c')) i↔known res i:=by
 have hk:known res id:=by unfold known;rw[hr];simp
 have hh:=h.holds id hk;rw[hr]at hh;obtain⟨k1,k2,k3,k4⟩:=hh;obtain⟨⟨p,q,e1,e2⟩,_⟩:=bF J 8 c off 64 true _ k1 k2 hg;obtain⟨⟨p',m,q',f1,f2,f3,f4⟩,_,f6,f7⟩:=dw J (.by b') (N:=K) trivial rfl 8 c off c' k1 k2 hs
 rw[eX]at e1 f2;have hbl:=ca b;obtain⟨rfl,rfl,rfl⟩:=fu (f1.symm.trans e1) (by omega) (by rw[f4,hbl];rfl)
 have hcl:(cells J c).length=p'.length+64+q'.length:=by rw[e1];simp[hbl];omega
 have hst:=run_storeCells_at (P:=P) (J.num id) (off+lo) ty xs 0 (cells J c).toArray w k4 (by simp only[List.size_toArray];omega) h1
 have hrow:(cells J c).take (off+lo)++xs++(cells J c).drop (off+lo+xs.length)=cells J c':=by
  rw[f2,hb,e1,<-f3,hx]
  have t1:(p'++bh b++q').take (p'.length+lo)=p'++(bh b).take lo:=by
   rw[List.append_assoc,List.take_append,List.take_of_length_le (by omega)]
   rw[show p'.length+lo-p'.length=lo by omega,List.take_append_of_le_length (by omega)]
  have t2:(p'++bh b++q').drop (p'.length+lo+n)=(bh b).drop (lo+n)++q':=by
   rw[List.append_assoc,List.drop_append,List.drop_of_length_le (by omega)]
   rw[show p'.length+lo+n-p'.length=lo+n by omega,List.drop_append_of_le_length (by omega)]
   rfl
  rw[t1,t2];simp
 refine⟨w.setRow (J.num id) (cells J c').toArray,?_,?_,fun i=>?_⟩
 ·simp only[Nat.add_zero]at hst;rw[hst,hrow]
 ·exact h.write hr f6 f7 rfl rfl rfl (by simp[World.setRow]) (setRow_heap w _ _ _ _ (0,0) k4) fun b hb=>setRow_other w _ _ b hb
 ·grind[known,aF,aj]
theorem qn (b:Bytes) (lo n:Nat) (s:ByteArray) (h:lo+n<=64):bh (DO b lo n s)=(bh b).take lo++(List.range n).map (fun k=>Value.int .u8 ((sat s k).toNat:Int))++(bh b).drop (lo+n):=by
 apply List.ext_getElem?
 intro i;have hbl:=ca b;by_cases hi:i<64
 ·have hl:∀b:Bytes,(bh b)[i]? =some (.int .u8 ((b.at i).toNat:Int)):=fun b=>by simp[bh,hi]
  rw[hl,FO _ _ _ _ _ hi,List.append_assoc];by_cases h1:i<lo
  ·grind
  ·grind
 ·grind[ca]
def MZ (C:Ctx) (res:List ah) (ts:List Nat) (xs:List V):Option (V×List ah):=
 match ts,xs with
 | [t,_],[d,s]=>match C.P.underlying t with
   |some (.slice e)=>if iE C.P e==some 1 then match d with
    | .bs p lo hi=>match p with
      | .lp id off=>match s with
        | .st z=>match ae res id with
          | .blk ty c=>match cR 8 c off 64 true with
            |some r=>match r with
             | .by b=>match setAt 8 c off (.by (NI b lo hi z))with
               |some c'=>some (.it .i64 (aJ (CA z lo hi)),aL res id (.blk ty c'))
               |none=>none
             |_=>none
            |none=>none
          |_=>none
        |_=>none
      |_=>none
    |_=>none
    else none
   |_=>none
 |_,_=>none
theorem Ed {ts:List Nat} {xs:List V} {ty:Nat} {r:V} {res':List ah} (h:au J fps res K w0 F0 w) (hl:MZ C res ts xs=some (r,res')) (hx:cg K xs):
  ∃w',(Builtin.copy_ ts.toArray ty (aC J xs).toArray).run C.P w= .ok (den J r) w'/\au J fps res' K w0 F0 w'/\(∀i,known res' i↔known res i)/\ok K r:=by
 unfold MZ at hl;split at hl
 case h_2=>simp at hl
 rename_i t t' d s;split at hl
 case h_2=>simp at hl
 rename_i e ht;split at hl
 case isFalse=>simp at hl
 rename_i hs;have hs:=NR.1 hs;split at hl
 case h_2=>simp at hl
 rename_i p lo hi;split at hl
 case h_2=>simp at hl
 rename_i id off;split at hl
 case h_2=>simp at hl
 rename_i z;split at hl
 case h_2=>simp at hl
 rename_i ty' c hr;split at hl
 case h_2=>simp at hl
 rename_i rb hg;split at hl
 case h_2=>simp at hl
 rename_i b;split at hl
 case h_2=>simp at hl
 rename_i c' hset;simp only[NN,NO]at hl;obtain⟨rfl,rfl⟩:=hl;obtain⟨⟨_,h1,h2⟩,_⟩:=hx;have hn:CA z lo hi<=hi-lo:=Nat.min_le_right _ _;have hnz:CA z lo hi<=z.size:=Nat.min_le_left _ _
 obtain⟨w',e1,e2,e3⟩:=uV (P:=C.P) (n:=CA z lo hi) (xs:=(List.range (CA z lo hi)).map fun k=>Value.int .u8 ((sat z k).toNat:Int)) h hr hg hset (by omega) (by simp) (qn b lo _ z (by omega)) (fun v hv=>by
  simp only[List.mem_map]at hv;obtain⟨_,_,rfl⟩:=hv;rfl)
 refine⟨w',?_,e2,e3,by simp only[ok,bE,aJ];omega⟩
 have hcells:((z.extract 0 (CA z lo hi)).data.map fun b=>Value.int .u8 (b.toNat:Int)).toList=(List.range (CA z lo hi)).map fun k=>Value.int .u8 ((sat z k).toNat:Int):=by
  apply List.ext_getElem?
  intro i;by_cases hi:i<CA z lo hi
  ·have:i<z.data.size:=Nat.lt_of_lt_of_le hi hnz;simp[sat,hi,ByteArray.data_extract,Array.getElem?_extract,this,Array.getElem?_eq_getElem this]
  ·simp_all
 have hcells2:=congrArg List.toArray hcells;simp only[Array.toArray_toList]at hcells2;have hsz:C.P.info? e=none\/∃inf,C.P.info? e=some inf:=by cases C.P.info? e<;>simp
 have hdst:∀xs:List Value,xs=(List.range (CA z lo hi)).map (fun k=>Value.int .u8 ((sat z k).toNat:Int))->(storeCells (if lo=64 then(⟨J.num id,off,none⟩:Addr)else(⟨J.num id,off,none⟩:Addr).add lo) xs).run C.P w= .ok () w':=fun xs hxs=>by
  subst hxs;by_cases e:lo=64
  ·have h0:CA z lo hi=0:=by omega
   rw[h0]at e1⊢;simp only[List.range_zero,List.map_nil,storeCells]at e1⊢;exact e1
  ·rw[NW e,add_lit];exact e1
 simp only[aC,den,qe,Builtin.copy_,List.size_toArray,List.getElem?_toArray];simp only[List.getElem?_cons_zero,List.getElem?_cons_succ,Sem.run_bind,aB w ht,Result.andThen_ok,Builtin.lenOf,Sem.run_pure,cB w hs,Builtin.firstCells];rw[show Nat.min z.size (hi-lo)=CA z lo hi from rfl,hcells2];simp only[Sem.run_bind,Result.andThen_ok,hdst _ rfl,Sem.run_pure,goInt,aJ]
def JP (C:Ctx) (res:List ah) (ts:List Nat) (xs:List V):Option (List ah):=
 match ts,xs with
 | [t],[d]=>match C.P.underlying t with
   |some (.slice e)=>match C.Z e with
    |some z=>match toByte z with
     |some y=>if y==0 then match d with
      | .bs p lo hi=>match p with
        | .lp id off=>match ae res id with
          | .blk ty c=>match cR 8 c off 64 true with
            |some r=>match r with
             | .by b=>match setAt 8 c off (.by (M7 b lo hi))with
               |some c'=>some (aL res id (.blk ty c'))
               |none=>none
             |_=>none
            |none=>none
          |_=>none
        |_=>none
      |_=>none
      else none
     |none=>none
    |none=>none
   |_=>none
 |_,_=>none
theorem Bf {ts:List Nat} {xs:List V} {ty:Nat} {res':List ah} (hC:C.wO) (h:au J fps res K w0 F0 w) (hl:JP C res ts xs=some res') (hx:cg K xs):
  ∃w',(Builtin.clear_ ts.toArray ty (aC J xs).toArray).run C.P w= .ok (.tuple #[]) w'/\au J fps res' K w0 F0 w'/\(∀i,known res' i↔known res i):=by
 unfold JP at hl;split at hl
 case h_2=>simp at hl
 rename_i t d;split at hl
 case h_2=>simp at hl
 rename_i e ht;split at hl
 case h_2=>simp at hl
 rename_i zv hz;split at hl
 case h_2=>simp at hl
 rename_i y hy;split at hl
 case isFalse=>simp at hl
 rename_i hy0;have hy0:=NR.1 hy0;subst hy0;split at hl
 case h_2=>simp at hl
 rename_i p lo hi;split at hl
 case h_2=>simp at hl
 rename_i id off;split at hl
 case h_2=>simp at hl
 rename_i ty' c hr;split at hl
 case h_2=>simp at hl
 rename_i rb hg;split at hl
 case h_2=>simp at hl
 rename_i b;split at hl
 case h_2=>simp at hl
 rename_i c' hset;simp only[NN]at hl;subst hl;obtain⟨⟨_,h1,h2⟩,_⟩:=hx
 obtain⟨w',e1,e2,e3⟩:=uV (P:=C.P) (n:=hi-lo) (xs:=(List.range (hi-lo)).map fun k=>Value.int .u8 ((sat ByteArray.empty k).toNat:Int)) h hr hg hset (by omega) (by simp) (qn b lo _ _ (by omega)) (fun v hv=>by
  simp only[List.mem_map]at hv;obtain⟨_,_,rfl⟩:=hv;rfl)
 refine⟨w',?_,e2,e3⟩;have hs0:=sat_empty;obtain⟨inf,g1,g2,g3,g4,g5⟩:=hC e zv hz
 have hzc:(den J zv).cells= #[.int .u8 0]:=by
  have:=(kU J hy).1;simp only[cells]at this;apply Array.ext'
  simpa using this
 by_cases hz0:hi-lo=0
 ·rw[hz0]at e1;simp only[List.range_zero,List.map_nil,storeCells,Sem.run_pure,Result.ok.injEq,true_and]at e1;subst e1;simp[aC,den,qe,Builtin.clear_,aB w ht,hz0]
 ·have hz1:hi-lo=(hi-lo-1)+1:=by omega
  have hdst:(storeCells (if lo=64 then(⟨J.num id,off,none⟩:Addr)else(⟨J.num id,off,none⟩:Addr).add lo) (Builtin.zeroCells #[.int .u8 0] (hi-lo)).toList).run C.P w= .ok () w':=by
   rw[NW (by omega),add_lit,<-e1]
   congr 1
   congr 1
   unfold Builtin.zeroCells;apply List.ext_getElem?
   intro i;simp only[hs0];by_cases hi':i<hi-lo
   ·simp[hi',Nat.mod_one]
   ·simp[hi']
  rw[hz1]at hdst
  have hzero:(zeroValue e).run C.P w= .ok (den J zv) w:=by
   simp[zeroValue,typeInfo,g1,g2 J]
  simp only[aC,den,qe,Builtin.clear_,List.getElem?_toArray,List.getElem?_cons_zero,Sem.run_bind,aB w ht,Result.andThen_ok];rw[hz1];simp[hzero,hzc,hdst]
end
end Go.Sx
namespace Go.Sx
open Go.RowKit (Below)
def cQ (D:List (List Int×Int)) (k:List Int):Bool:=D.any fun p=>decide (p.1=k)
def aY (D:List (List Int×Int)) (k:List Int):Nat:=D.findIdx fun p=>decide (p.1=k)
def bf (D:List (List Int×Int)) (k:List Int):Int:=(aq D (aY D k) ([],0)).2
def aR (D:List (List Int×Int)) (k:List Int):List (List Int×Int):=if cQ D k=true then D else D++ [(k,0)]
def cz (D:List (List Int×Int)) (j:Nat) (v:Int):List (List Int×Int):=D.set j ((aq D j ([],0)).1,v)
def cx (D:List (List Int×Int)) (j c:Nat):Int:=aq (aq D j ([],0)).1 c 0
def uS (D:List (List Int×Int)):Prop:=D.length<=4611686018427387904
def MT (C:Ctx) (res:List ah) (t:Nat) (m x:V):Option (Option Prop×V×List ah):=
 match m with
 | .mp i=>match x with
   | .ag xl=>match fC xl with
     |some l=>match ae res i with
      | .ms n D=>match C.P.underlying t with
        |some (.map kt et)=>if kB C.P kt l.length&&l.length==n then match C.Z et with
         |some z=>match z with
          | .ci kd c=>if kd== .i64&&c==0 then some (some (uS D),.tp [.it .i64 (bf D (aS l)),.it .i64 (aJ (aY D (aS l)))],aL res i (.ms n (aR D (aS l))))else none
          |_=>none
         |none=>none
         else none
        |_=>none
      |_=>none
     |none=>none
   |_=>none
 |_=>none
def Ms (res:List ah) (m s v:V):Option (Option Prop×List ah):=
 match m with
 | .mp i=>match toInt s with
   |some (ks,j)=>match toInt v with
    |some (kv,x)=>if ks== .i64&&kv== .i64 then match ae res i with
     | .ms n D=>some (some (H9 j (aa D)),aL res i (.ms n (cz D (gz j) x)))
     |_=>none
     else none
    |none=>none
   |none=>none
 |_=>none
def EB (C:Ctx) (res:List ah) (t:Nat) (m x:V) (two:Bool):Option V:=
 match m with
 | .mp i=>match x with
   | .ag xl=>match fC xl with
     |some l=>match bp res i with
      | .ms n D=>match C.P.underlying t with
        |some (.map kt et)=>if kB C.P kt l.length&&l.length==n then match C.Z et with
         |some z=>match z with
          | .ci kd c=>if kd== .i64&&c==0 then some (if two then .tp [.it .i64 (bf D (aS l)),.bo (cQ D (aS l))]else .it .i64 (bf D (aS l)))else none
          |_=>none
         |none=>none
         else none
        |_=>none
      |_=>none
     |none=>none
   |_=>none
 |_=>none
def nF (D:List (List Int×Int)) (q:Nat):Nat->Nat->List V
 |_,0=> []
 |c,m+1=> .it .i64 (cx D q c)::nF D q (c+1) m
def kz (D:List (List Int×Int)) (q:Nat):Int:=(aq D q ([],0)).2
def oU (S:List Nat):Nat:=aq S (S.length-1) 0
def FE (S:List Nat) (q:Nat):Bool:=S.contains q
def Ja (n:Nat) (D:List (List Int×Int)) (S:List Nat):Prop:=n=aa D/\0<aa S/\oU S<aa D
def LL (n:Nat) (D:List (List Int×Int)):Prop:=n=aa D
def Le (C:Ctx) (res:List ah) (nid t:Nat) (m:V):RR:=
 match m with
 | .mp i=>match bp res i with
   | .ms _ D=>match C.P.underlying t with
     |some (.map _ _)=>some (none,.lp nid 0,[.mi i (aa D) []])
     |_=>none
   |_=>none
 |_=>none
def Mp (res:List ah) (p:V):RR:=
 match p with
 | .lp j off=>if off==0 then match bp res j with
   | .mi i n S=>match bp res i with
     | .ms w D=>some (some (Ja n D S),.tp [.ag (nF D (oU S) 0 w),.it .i64 (kz D (oU S))],[])
     |_=>none
   |_=>none
   else none
 |_=>none
def MK (res:List ah) (p:V) (k:V->List ah->Prop):Prop:=
 match p with
 | .lp j off=>if off==0 then match ae res j with
   | .mi i n S=>match bp res i with
     | .ms w D=>LL n D/\(∀q,q<aa D->FE S q=false->k (.tp [.cb true,.ag (nF D q 0 w),.it .i64 (kz D q)]) (aL res j (.mi i n (bg S q))))/\((∀q,q<aa D->FE S q=true)->k (.tp [.cb false]) res)
     |_=>False
   |_=>False
   else False
 |_=>False
def M9 (C:Ctx) (kt et nid:Nat):RR:=
 match C.Z et with
 |some z=>if pN z then(match iE C.P kt with|some n=>some (none,.mp nid,[.ms n []])|none=>none)else some (none,.mp nid,[.mq [] []])
 |none=>some (none,.mp nid,[.mq [] []])
theorem DE {C:Ctx} {kt et nid:Nat} {q:Option Prop} {x:V} {new:List ah} (h:M9 C kt et nid=some (q,x,new)):x= .mp nid/\(new= [.mq [] []]\/∃n,new= [.ms n []]):=by
 unfold M9 at h;split at h
 ·split at h
  ·split at h<;>simp only[NN,NO,reduceCtorEq]at h
   obtain⟨_,rfl,rfl⟩:=h;exact⟨rfl,.inr ⟨_,rfl⟩⟩
  ·simp only[NN,NO]at h;obtain⟨_,rfl,rfl⟩:=h;exact⟨rfl,.inl rfl⟩
 ·simp only[NN,NO]at h;obtain⟨_,rfl,rfl⟩:=h;exact⟨rfl,.inl rfl⟩
section
variable {J:Env} {fps:Nat->Nat->Prop} {res:List ah} {K:Nat->Prop} {w0 w:World} {F0:Nat->Prop} {P:Program}
theorem dX (D:List (List Int×Int)) (j:Nat):(dT D).toList[j]? =(D[j]?).map fun p=>({key:=cC p.1,val:=i64 p.2,born:=j}:MapEntry):=by
 simp[dT,List.getElem?_mapIdx]
theorem Ej (D:List (List Int×Int)):(dT D).size=D.length:=by simp[dT]
theorem B6 {D:List (List Int×Int)} {n:Nat} (h:∀p∈D,p.1.length=n):∀e∈(dT D).toList,∃k:List Int,k.length=n/\e.key=cC k:=by
 intro e he;obtain⟨j,hj⟩:=List.getElem?_of_mem he;rw[dX]at hj;cases hd:D[j]? with
 |none=>rw[hd]at hj;simp at hj
 |some p=>
  rw[hd]at hj;simp only[Option.map_some,NN]at hj;subst hj;exact⟨p.1,h p (List.mem_of_getElem? hd),rfl⟩
theorem Cc {D:List (List Int×Int)} {k:List Int} {j:Nat} {p:List Int×Int} (hn:(D.map (·.1)).Nodup) (hj:D[j]? =some p) (hk:p.1=k):aY D k=j:=by
 have hlt:=(List.getElem?_eq_some_iff.1 hj).1;have hp:D[j]=p:=(List.getElem?_eq_some_iff.1 hj).2;have h1:aY D k<D.length:=List.findIdx_lt_length_of_exists ⟨p,List.mem_of_getElem? hj,by simp[hk]⟩
 have h2:(D[aY D k]'h1).1=k:=by
  exact NU (p:=(D[aY D k]'h1).1=k) (List.findIdx_getElem (p:=fun p:List Int×Int=>decide (p.1=k)) (xs:=D) (w:=h1))
 have h3:=List.pairwise_iff_getElem.1 hn;rcases Nat.lt_trichotomy (aY D k) j with h|h|h
 ·exact absurd (show(D.map (·.1))[aY D k]'(by simpa using h1)=(D.map (·.1))[j]'(by simpa using hlt) by simp[h2,hp,hk]) (h3 (aY D k) j (by simpa using h1) (by simpa using hlt) h)
 ·exact h
 ·exact absurd (show(D.map (·.1))[j]'(by simpa using hlt)=(D.map (·.1))[aY D k]'(by simpa using h1) by simp[h2,hp,hk]) (h3 j (aY D k) (by simpa using hlt) (by simpa using h1) h)
theorem pR {D:List (List Int×Int)} {k:List Int}:cQ D k=true↔ ∃p∈D,p.1=k:=by simp[cQ]
theorem AZ {D:List (List Int×Int)} {k:List Int} (hn:(D.map (·.1)).Nodup) {j:Nat} {p:List Int×Int} (hj:D[j]? =some p) (hk:p.1=k):cQ D k=true/\bf D k=p.2/\aY D k=j:=by
 have h:=Cc hn hj hk;refine⟨pR.2 ⟨p,List.mem_of_getElem? hj,hk⟩,?_,h⟩;unfold bf aq;rw[h,NV,hj];rfl
theorem CF {D:List (List Int×Int)} {k:List Int} (h:∀p∈D,p.1≠k):cQ D k=false/\bf D k=0/\aY D k=D.length:=by
 have h1:cQ D k=false:=by
  cases hc:cQ D k with
  |false=>rfl
  |true=>obtain⟨p,hp,hk⟩:=pR.1 hc;exact absurd hk (h p hp)
 have h2:aY D k=D.length:=List.findIdx_eq_length.2 fun x hx=>by simpa using h x hx
 refine⟨h1,?_,h2⟩;unfold bf aq;rw[h2,NV,List.getElem?_eq_none (Nat.le_refl _)];rfl
theorem AH {kt n:Nat} (hk:kB P kt n=true) {x:List Int} (hx:x.length=n) {D:List (List Int×Int)} (hD:(∀p∈D,p.1.length=n/\bE .i64 p.2/\∀x∈p.1,bE .i64 x)/\(D.map (·.1)).Nodup) (w:World):
  ∃r,(Instr.findKey kt (cC x) (dT D).toList).run P w= .ok r w/\
   ((r=none/\cQ D x=false/\bf D x=0/\aY D x=D.length)\/∃p,r=some (aY D x,i64 (bf D x))/\D[aY D x]? =some p/\p.1=x/\p.2=bf D x/\cQ D x=true):=by
 obtain⟨r,h1,h2⟩:=kr hk hx w (dT D).toList (B6 fun p hp=>(hD.1 p hp).1)
 refine⟨r,h1,?_⟩;rcases h2 with⟨rfl,h2⟩|⟨j,e,rfl,h2,h3⟩
 ·refine .inl ⟨rfl,CF fun p hp he=>?_⟩
  obtain⟨j,hj⟩:=List.getElem?_of_mem hp;have:(dT D).toList[j]? =some {key:=cC p.1,val:=i64 p.2,born:=j}:=by rw[dX,hj];rfl
  exact h2 _ (List.mem_of_getElem? this) (by rw[he])
 ·rw[dX]at h2;cases hd:D[j]? with
  |none=>rw[hd]at h2;simp at h2
  |some p=>
   rw[hd]at h2;simp only[Option.map_some,NN]at h2;subst h2;have hp:p.1=x:=Az h3;obtain⟨a,b,c⟩:=AZ hD.2 hd hp;exact .inr ⟨p,by rw[b,c],by rw[c];exact hd,hp,b.symm,a⟩
theorem tD (l:List Int):Instr.sameBits 10000 (cC l) (cC l)=true:=by
 rw[show(10000:Nat)=9999+1 from rfl]
 have:∀l:List Int,((l.map i64).zip (l.map i64)).all (fun p=>Instr.sameBits 9999 p.1 p.2)=true:=by
  intro l;induction l with
  |nil=>rfl
  |cons a l ih=>simp only[List.map_cons,List.zip_cons_cons,List.all_cons,ih,Bool.and_true,i64];simp[Instr.sameBits]
 simpa[Instr.sameBits,cC]using this l
theorem za {C:Ctx} {t:Nat} {m x r:V} {two:Bool} (hC:C.wO) (h:au J fps res K w0 F0 w) (hl:EB C res t m x two=some r) (hx:ok K x):
  (Instr.lookup t (den J m) (den J x) two).run C.P w= .ok (den J r) w/\ok K r:=by
 unfold EB at hl;split at hl
 case h_2=>simp at hl
 rename_i i;split at hl
 case h_2=>simp at hl
 rename_i xl;split at hl
 case h_2=>simp at hl
 rename_i l hxl;split at hl
 case h_2=>simp at hl
 rename_i n D hr;split at hl
 case h_2=>simp at hl
 rename_i kt et hu;split at hl
 case isFalse=>simp at hl
 rename_i hc;simp only[NP,NR]at hc;obtain⟨hwide,rfl⟩:=hc;split at hl
 case h_2=>simp at hl
 rename_i z hz;split at hl
 case h_2=>simp at hl
 rename_i kd c;split at hl<;>simp only[NN,reduceCtorEq]at hl
 rename_i hc;simp only[NP,NR]at hc;obtain⟨rfl,rfl⟩:=hc;obtain⟨hx1,hx2⟩:=ju (J:=J) hxl hx.1;obtain⟨fp,hh,_⟩:=h.look hr (by simp)
 obtain⟨_,hD,b1⟩:=hh;obtain⟨q,q1,q2⟩:=AH hwide hx2 hD w;have hck:=jN hwide hx2 (dT D).isEmpty w;have hzr:=iz (J:=J) (w:=w) hC hz
 have main:(Instr.lookup t (den J (.mp i)) (den J (.ag xl)) two).run C.P w= .ok (if two then .tuple #[i64 (bf D (aS l)),.bool (cQ D (aS l))]else i64 (bf D (aS l))) w/\bE .i64 (bf D (aS l)):=by
  rw[hx1];simp only[Instr.lookup,den,Sem.run_bind,aB w hu,Result.andThen_ok,MapKept.run_getObj_map b1,Sem.run_pure,hck,q1];rcases q2 with⟨rfl,a1,a2,_⟩|⟨p,rfl,a1,a2,a3,a4⟩
  ·simp_all[den,i64,bE]
  ·refine⟨by simp_all,?_⟩
   rw[<-a3];exact(hD.1 p (List.mem_of_getElem? a1)).2.1
 obtain⟨main,hin⟩:=main;rw[main];subst hl;cases two
 ·exact⟨rfl,hin⟩
 ·exact⟨by simp[den,aC,i64],hin,trivial,trivial⟩
theorem oM (D:List (List Int×Int)) (j:Nat) (k:Value) (h:∀p,D[j]? =some p->cC p.1=k):(dT D).modify j (fun e=> {e with key:=k})=dT D:=by
 apply Array.ext'
 apply List.ext_getElem?
 intro q;rw[Array.getElem?_toList,Array.getElem?_modify,<-Array.getElem?_toList,dX];by_cases e:j=q
 ·subst e;rw[NX rfl];cases hd:D[j]? with
  |none=>rfl
  |some p=>simp[h p hd]
 ·rw[NW e]
theorem Ci (D:List (List Int×Int)) (k:List Int):(dT D).push {key:=cC k,val:=i64 0,born:=D.length}=dT (D++ [(k,0)]):=by
 simp[dT,List.mapIdx_append]
theorem Fk (D:List (List Int×Int)) (j:Nat) (v:Int) (hj:j<D.length):(dT D).modify j (fun e=> {e with val:=i64 v})=dT (cz D j v):=by
 apply Array.ext'
 apply List.ext_getElem?
 intro q;rw[Array.getElem?_toList,Array.getElem?_modify,<-Array.getElem?_toList,dX,dX];unfold cz aq;rw[List.getElem?_set];by_cases e:j=q
 ·subst e;rw[NX rfl,NX rfl,NX hj,NV,List.getElem?_eq_getElem hj];rfl
 ·rw[NW e,NW e]
theorem BP (D:List (List Int×Int)) (j:Nat) (v:Int):(cz D j v).length=D.length:=by simp[cz]
theorem BS (D:List (List Int×Int)) (j:Nat) (v:Int):(cz D j v).map (·.1)=D.map (·.1):=by
 apply List.ext_getElem?
 intro q;simp only[cz,List.getElem?_map,List.getElem?_set,aq];by_cases e:j=q
 ·subst e;by_cases h:j<D.length
  ·rw[NX rfl,NX h,NV,List.getElem?_eq_getElem h];rfl
  ·rw[NX rfl,NW h,List.getElem?_eq_none (by omega)]
 ·rw[NW e]
theorem rV {xl:List V} {l:List (Bool×Int)} (h:fC xl=some l) (hk:cg K xl):∀x∈aS l,bE .i64 x:=by
 induction xl generalizing l with
 |nil=>simp only[fC,NN]at h;subst h;simp[aS]
 |cons x xl ih=>
  simp only[fC]at h;split at h
  case h_2=>simp at h
  rename_i k n hn;split at h
  case isFalse=>simp at h
  rename_i hki;have hki:=NR.1 hki;subst hki;split at h<;>simp only[NN,reduceCtorEq]at h
  rename_i m hm;subst h;intro y hy;simp only[aS,List.mem_cons]at hy;rcases hy with rfl|hy
  ·exact(bj (J:=Env.zero) hn hk.1).2
  ·exact ih hm hk.2 y hy
theorem Ep {C:Ctx} {res':List ah} {t:Nat} {m x r:V} {qq:Option Prop} (hC:C.wO) (h:au J fps res K w0 F0 w) (hs:MT C res t m x=some (qq,r,res')) (hqq:aW qq) (hx:ok K x):
  ∃w',(Instr.mapEntry t (den J m) (den J x)).run C.P w= .ok (den J r) w'/\au J fps res' K w0 F0 w'/\(∀i,known res' i↔known res i)/\ok K r:=by
 unfold MT at hs;split at hs
 case h_2=>simp at hs
 rename_i i;split at hs
 case h_2=>simp at hs
 rename_i xl;split at hs
 case h_2=>simp at hs
 rename_i l hxl;split at hs
 case h_2=>simp at hs
 rename_i n D hr;split at hs
 case h_2=>simp at hs
 rename_i kt et hu;split at hs
 case isFalse=>simp at hs
 rename_i hc;simp only[NP,NR]at hc;obtain⟨hwide,rfl⟩:=hc;split at hs
 case h_2=>simp at hs
 rename_i z hz;split at hs
 case h_2=>simp at hs
 rename_i kd c;split at hs<;>simp only[NN,NO,reduceCtorEq]at hs
 rename_i hc;simp only[NP,NR]at hc;obtain⟨rfl,rfl⟩:=hc;obtain⟨rfl,rfl,rfl⟩:=hs;have hfit:D.length<=4611686018427387904:=hqq;have hk:known res i:=by unfold known;rw[hr];simp
 have hh:=h.holds i hk;rw[hr]at hh;obtain⟨a1,hD,b1⟩:=hh;obtain⟨hx1,hx2⟩:=ju (J:=J) hxl hx.1;obtain⟨q,q1,q2⟩:=AH hwide hx2 hD w;have hck:=jN hwide hx2 false w;have hzr:=iz (J:=J) (w:=w) hC hz;have hset:=MapKept.heap_set (w:=w) (r:=J.num i) (o':= .map (dT (aR D (aS l))) (aR D (aS l)).length) b1;refine⟨{w with heap:=w.heap.setIfInBounds (J.num i) (.map (dT (aR D (aS l))) (aR D (aS l)).length)},?_,?_⟩
 ·rw[hx1];simp only[Instr.mapEntry,den,Sem.run_bind,aB w hu,Result.andThen_ok,MapKept.run_getObj_map b1,hck,q1];rcases q2 with⟨rfl,c1,c2,c3⟩|⟨p,rfl,c1,c2,c3,c4⟩
  ·have e1:aR D (aS l)=D++ [(aS l,0)]:=by unfold aR;rw[NW (by rw[c1];simp)]
   have e2:(aR D (aS l)).length=D.length+1:=by rw[e1];simp
   simp only[den]at hzr;simp only[Sem.run_bind,hzr,Result.andThen_ok,MapKept.run_setObj_map _ b1,Sem.run_pure,c2,c3,goInt,aJ,aC,den];rw[show(Value.int IntKind.i64 0)=i64 0 from rfl,Ci,<-e1,<-e2]
  ·have e1:aR D (aS l)=D:=by unfold aR;rw[NX c4]
   have hg:(dT D)[aY D (aS l)]? =some {key:=cC p.1,val:=i64 p.2,born:=aY D (aS l)}:=by rw[<-Array.getElem?_toList,dX,c1];rfl
   have hks:(Instr.keyThatStays (cC p.1) (cC (aS l))).run C.P w= .ok (cC (aS l)) w:=by
    rw[c2];simp[Instr.keyThatStays,tD]
   simp only[hg,Option.map_some,Option.getD_some,Sem.run_bind,hks,Result.andThen_ok,MapKept.run_setObj_map _ b1,Sem.run_pure,goInt,aJ,aC,den,e1];rw[oM D _ _ fun p' hp'=>by rw[c1]at hp';simp only[NN]at hp';subst hp';rw[c2]]
   rfl
 ·have hnew:(∀p∈aR D (aS l),p.1.length=l.length/\bE .i64 p.2/\∀x∈p.1,bE .i64 x)/\((aR D (aS l)).map (·.1)).Nodup:=by
   unfold aR;split
   ·exact hD
   ·rename_i hno;refine⟨fun p hp=>?_,?_⟩
    ·rcases List.mem_append.1 hp with hp|hp
     ·exact hD.1 p hp
     ·simp only[List.mem_singleton]at hp;subst hp;exact⟨hx2,by simp[bE],rV hxl hx.1⟩
    ·rw[List.map_append,List.nodup_append];refine⟨hD.2,by simp,fun a ha b hb=>?_⟩
     simp only[List.map_cons,List.map_nil,List.mem_singleton]at hb;subst hb;obtain⟨p,hp,rfl⟩:=List.mem_map.1 ha;exact fun e=>hno (pR.2 ⟨p,hp,e⟩)
  obtain⟨g1,g2⟩:=h.si (w':= {w with heap:=w.heap.setIfInBounds (J.num i) (.map (dT (aR D (aS l))) (aR D (aS l)).length)}) (b:=J.num i) (r':= .ms l.length (aR D (aS l))) hr (by simp) (by simp) a1 ⟨a1,hnew,hset.1⟩ rfl rfl rfl (by simp) hset.2
  have hin:bE .i64 (bf D (aS l)):=by
   rcases q2 with⟨_,_,c2,_⟩|⟨p,_,c1,_,c3,_⟩
   ·rw[c2];simp[bE]
   ·rw[<-c3];exact(hD.1 p (List.mem_of_getElem? c1)).2.1
  have hix:bE .i64 (aJ (aY D (aS l))):=by
   have:aY D (aS l)<=D.length:=List.findIdx_le_length;simp only[bE,aJ];omega
  exact⟨g1,g2,hin,hix,trivial⟩
theorem ED {res':List ah} {t:Nat} {m s v:V} {q:Option Prop} (h:au J fps res K w0 F0 w) (hs:Ms res m s v=some (q,res')) (hq:aW q) (h1:ok K s) (h2:ok K v):
  ∃w',(Instr.entryStore t (den J m) (den J s) (den J v)).run P w= .ok () w'/\au J fps res' K w0 F0 w'/\∀i,known res' i↔known res i:=by
 unfold Ms at hs;split at hs
 case h_2=>simp at hs
 rename_i i;split at hs
 case h_2=>simp at hs
 rename_i ks j hj;split at hs
 case h_2=>simp at hs
 rename_i kv x hx;split at hs
 case isFalse=>simp at hs
 rename_i hc;simp only[NP,NR]at hc;obtain⟨rfl,rfl⟩:=hc;split at hs<;>simp only[NN,NO,reduceCtorEq]at hs
 rename_i n D hr;obtain⟨rfl,rfl⟩:=hs;obtain⟨j0,j1⟩:0<=j/\j<((aa D:Nat):Int):=hq;have hjl:gz j<D.length:=by unfold aa at j1;unfold gz;omega
 have hk:known res i:=by unfold known;rw[hr];simp
 have hh:=h.holds i hk;rw[hr]at hh;obtain⟨a1,hD,b1⟩:=hh;obtain⟨e1,_⟩:=bj (J:=J) hj h1;obtain⟨e2,e3⟩:=bj (J:=J) hx h2;have hset:=MapKept.heap_set (w:=w) (r:=J.num i) (o':= .map (dT (cz D (gz j) x)) (cz D (gz j) x).length) b1
 have hf:(dT D).findIdx? (fun e=>(e.born:Int)==j)=some (gz j):=by
  rw[Array.findIdx?_eq_some_iff_getElem]
  have hget:∀q (hq:q<(dT D).size),(dT D)[q].born=q:=fun q hq=>by
   have h1:(dT D)[q]? =some (dT D)[q]:=Array.getElem?_eq_getElem hq;rw[<-Array.getElem?_toList,dX]at h1;cases hd:D[q]? with
   |none=>rw[hd]at h1;simp at h1
   |some p=>rw[hd]at h1;simp only[Option.map_some,NN]at h1;rw[<-h1]
  refine⟨by rw[Ej];exact hjl,?_,fun q hq=>?_⟩
  ·rw[hget];unfold gz;simp;omega
  ·rw[hget];unfold gz at hq;simp;omega
 refine⟨{w with heap:=w.heap.setIfInBounds (J.num i) (.map (dT (cz D (gz j) x)) (cz D (gz j) x).length)},?_,?_⟩
 ·rw[e1,e2];have:=Fk D _ x hjl;simp[Instr.entryStore,den,MapKept.run_getObj_map b1,asInt,asIntOf,hf,MapKept.run_setObj_map _ b1,BP];rw[show(Value.int IntKind.i64 x)=i64 x from rfl,this]
 ·refine h.si (b:=J.num i) (r':= .ms n (cz D (gz j) x)) hr (by simp) (by simp) a1 ⟨a1,⟨fun p hp=>?_,by rw[BS];exact hD.2⟩,hset.1⟩ rfl rfl rfl (by simp) hset.2
  rcases List.mem_or_eq_of_mem_set hp with hp|rfl
  ·exact hD.1 p hp
  ·have:=hD.1 _ (List.getElem_mem hjl);unfold aq;rw[NV,List.getElem?_eq_getElem hjl];exact⟨this.1,e3,this.2.2⟩
theorem wR (D:List (List Int×Int)) (q:Nat) (hD:∀x∈(aq D q ([],0)).1,bE .i64 x):∀(m c:Nat),cg K (nF D q c m)/\pM (nF D q c m)/\∀J,ay J (nF D q c m)=(List.range m).map fun y=>i64 (cx D q (c+y))
 |0,c=>⟨trivial,trivial,fun J=>rfl⟩
 |m+1,c=>by
  obtain⟨a,b,d⟩:=wR D q hD m (c+1)
  have h:bE .i64 (cx D q c):=by
   unfold cx;generalize (aq D q ([],0)).1=l at hD
   unfold aq;rw[NV];cases hc:l[c]? with
   |none=>simp[bE]
   |some x=>exact hD x (List.mem_of_getElem? hc)
  refine⟨⟨h,a⟩,⟨trivial,b⟩,fun J=>?_⟩
  have e:ay J (nF D q c (m+1))=i64 (cx D q c)::ay J (nF D q (c+1) m):=rfl;rw[e,d,List.range_succ_eq_map,List.map_cons,List.map_map];show i64 (cx D q c)::_=i64 (cx D q c)::_
  congr 1
  refine List.map_congr_left fun y _=>?_
  simp only[Function.comp,Nat.add_assoc,Nat.succ_eq_add_one,Nat.add_comm 1 y]
theorem xG {D:List (List Int×Int)} {q w:Nat} {p:List Int×Int} (hq:D[q]? =some p) (hl:p.1.length=w) (hp:∀x∈p.1,bE .i64 x):
  cg K [V.ag (nF D q 0 w)]/\∀J,den J (V.ag (nF D q 0 w))=cC p.1:=by
 have e:aq D q ([],0)=p:=by unfold aq;rw[NV,hq];rfl
 obtain⟨a,b,d⟩:=wR (K:=K) D q (by rw[e];exact hp) w 0
 refine⟨⟨⟨a,b⟩,trivial⟩,fun J=>?_⟩
 simp only[den,d,cC];congr 2
 subst hl;apply List.ext_getElem (by simp)
 intro y h1 h2;have hy:y<p.1.length:=by simpa using h2
 have e2:cx D q y=p.1[y]:=by
  unfold cx;rw[e];unfold aq;rw[NV,List.getElem?_eq_getElem hy];rfl
 simp only[List.getElem_map,List.getElem_range,Nat.zero_add,e2]
theorem HC {C:Ctx} {nid t:Nat} {m x:V} {q:Option Prop} {new:List ah} (hl:Le C res nid t m=some (q,x,new)):∀k,k<new.length->ae new k≠ .yet:=by
 unfold Le at hl;split at hl
 case h_2=>simp at hl
 split at hl
 case h_2=>simp at hl
 split at hl<;>simp only[NN,NO,reduceCtorEq]at hl
 obtain⟨_,_,rfl⟩:=hl;intro k hk;simp only[List.length_singleton,Nat.lt_one_iff]at hk;subst hk;simp[ae]
theorem DZ {C:Ctx} {nid t:Nat} {m x:V} {q:Option Prop} {new:List ah} (h:au J fps res K w0 F0 w) (hn:∀k,k<new.length->¬K (nid+k)) (hl:Le C res nid t m=some (q,x,new)):
  ∃w',(Instr.range t (den J m)).run C.P w= .ok (den (J.aG nid w.heap.size) x) w'/\fV K J (J.aG nid w.heap.size) nid new w0 F0 w w'/\ok (fun i=>K i\/fresh nid new.length i) x:=by
 unfold Le at hl;split at hl
 case h_2=>simp at hl
 rename_i i;split at hl
 case h_2=>simp at hl
 rename_i n D hr;split at hl<;>simp only[NN,NO,reduceCtorEq]at hl
 rename_i kt et hu;obtain⟨rfl,rfl,rfl⟩:=hl;obtain⟨fp,hh,_⟩:=h.look hr (by simp)
 obtain⟨_,hD,b1⟩:=hh;have hki:K i:=h.sub i (cG hr (by simp))
 have hnid:¬K nid:=by simpa using hn 0 (by simp)
 have hne:i≠nid:=fun e=>hnid (e▸hki)
 refine⟨w.alloc (.mapIter (some (J.num i)) D.length #[] D.length),?_,?_,.inr ⟨Nat.le_refl _,by simp⟩⟩
 ·simp only[Instr.range,den,Sem.run_bind,aB w hu,Result.andThen_ok,MapKept.run_getObj_map b1,Sem.run_pure];rw[show(J.aG nid w.heap.size).num nid=w.heap.size by simp[Env.aG]]
  rfl
 ·refine⟨(Below.refl _ _).alloc (Nat.le_refl _) _,eG J nid _,fun _ b=>b=w.heap.size,fun k hk=>?_,fun k l b hk hl hne=>?_⟩
  ·simp only[List.length_singleton,Nat.lt_one_iff]at hk;subst hk;refine⟨⟨.inl hki,by simp[Env.aG],?_⟩,fun b hb=>by subst hb;simp⟩
   rw[show(J.aG nid w.heap.size).num (nid+0)=w.heap.size by simp[Env.aG],show(J.aG nid w.heap.size).num i=J.num i by simp[Env.aG,hne]]
   exact heap_alloc_new w _
  ·simp only[List.length_singleton,Nat.lt_one_iff]at hk hl;omega
theorem Ft {P:Program} {p x:V} {q:Option Prop} {new:List ah} (h:au J fps res K w0 F0 w) (hl:Mp res p=some (q,x,new)) (hq:aW q):
  (Instr.entry (den J p)).run P w= .ok (den J x) w/\ok K x/\new= []:=by
 unfold Mp at hl;split at hl
 case h_2=>simp at hl
 rename_i j off;split at hl
 case isFalse=>simp at hl
 rename_i ho;have ho:=NR.1 ho;subst ho;split at hl
 case h_2=>simp at hl
 rename_i i n S hj;split at hl<;>simp only[NN,NO,reduceCtorEq]at hl
 rename_i wd D hi;obtain⟨rfl,rfl,rfl⟩:=hl;obtain⟨hn,h0,h1⟩:n=aa D/\0<aa S/\oU S<aa D:=hq;have hn:n=D.length:=hn;subst hn;obtain⟨_,⟨_,_,c1⟩,_⟩:=h.look hj (by simp)
 obtain⟨_,⟨_,hD,b1⟩,_⟩:=h.look hi (by simp)
 have hlt:oU S<D.length:=h1;have hg:D[oU S]? =some D[oU S]:=List.getElem?_eq_getElem hlt;have hm:=List.getElem_mem hlt;obtain⟨g1,g2⟩:=xG (K:=K) hg (hD.1 _ hm).1 (hD.1 _ hm).2.2
 have hS:S.toArray=(S.take (S.length-1)).toArray.push (oU S):=by
  apply Array.ext'
  have hne:S≠ []:=fun e=>by subst e;simp[aa]at h0
  simp only[Array.toList_push];have:=List.take_append_getLast (l:=S) hne;simp only[oU,aq,NV];rw[List.getLast_eq_getElem]at this
  rw[List.getElem?_eq_getElem (by have:S.length≠0:=by simpa using hne
                                  omega)]
  simpa[List.dropLast_eq_take]using this.symm
 have he:({key:=cC D[oU S].1,val:=i64 D[oU S].2,born:=oU S}:MapEntry)∈(dT D).toList:=by
  have:(dT D).toList[oU S]? =some {key:=cC D[oU S].1,val:=i64 D[oU S].2,born:=oU S}:=by rw[dX,hg];rfl
  exact List.mem_of_getElem? this
 have hnd:((dT D).toList.map (·.born)).Nodup:=by
  have:(dT D).toList.map (·.born)=List.range D.length:=by
   apply List.ext_getElem?
   intro y;rw[List.getElem?_map,dX];by_cases hy:y<D.length
   ·simp[hy]
   ·simp[hy]
  rw[this];exact List.nodup_range
 rw[hS]at c1;have hrun:=run_entry_at (P:=P) w _ _ _ (S.take (S.length-1)).toArray _ _ _ c1 b1 he hnd;have hv:kz D (oU S)=D[oU S].2:=by unfold kz aq;rw[NV,hg];rfl
 refine⟨?_,⟨g1.1,by rw[hv];exact(hD.1 _ hm).2.1,trivial⟩,rfl⟩
 have e3:den J (.tp [.ag (nF D (oU S) 0 wd),.it .i64 (kz D (oU S))])= .tuple #[den J (.ag (nF D (oU S) 0 wd)),i64 (kz D (oU S))]:=rfl;rw[e3,g2,hv];exact hrun
theorem Dk {P:Program} {p:V} {ty:Nat} {k:V->List ah->Prop} (h:au J fps res (known res) w0 F0 w) (hl:MK res p k):
  ∃v res' w',(Instr.next (den J p) false ty).run P w= .ok (den J v) w'/\au J fps res' (known res') w0 F0 w'/\(∀i,known res' i↔known res i)/\ok (known res') v/\k v res':=by
 unfold MK at hl;split at hl
 case h_2=>exact hl.elim
 rename_i j off;split at hl
 case isFalse=>exact hl.elim
 rename_i ho;have ho:=NR.1 ho;subst ho;split at hl
 case h_2=>exact hl.elim
 rename_i i n S hj;split at hl
 case h_2=>exact hl.elim
 rename_i wd D hi;obtain⟨hn,h1,h2⟩:=hl;have hn:n=D.length:=hn;subst hn;have hkj:known res j:=by unfold known;rw[hj];simp
 have hh:=h.holds j hkj;rw[hj]at hh;obtain⟨c0,c2,c1⟩:=hh;obtain⟨_,⟨_,hD,b1⟩,_⟩:=h.look hi (by simp)
 have hborn:∀x∈(dT D).toList,∃p,D[x.born]? =some p/\x= {key:=cC p.1,val:=i64 p.2,born:=x.born}:=fun x hx=>by
  obtain⟨y,hy⟩:=List.getElem?_of_mem hx;rw[dX]at hy;cases hd:D[y]? with
  |none=>rw[hd]at hy;simp at hy
  |some p=>rw[hd]at hy;simp only[Option.map_some,NN]at hy;subst hy;exact⟨p,hd,rfl⟩
 have hlt:∀x∈(dT D).toList,x.born<D.length:=fun x hx=>by
  obtain⟨p,hp,_⟩:=hborn x hx;exact(List.getElem?_eq_some_iff.1 hp).1
 rcases run_next_at (P:=P) w ty _ _ _ _ _ _ _ c1 b1 hlt (Nat.le_refl _)with⟨e1,e2⟩|⟨e,he,w1,hw1,e2⟩
 ·refine⟨.tp [.cb false],res,w,e2,h,fun _=>Iff.rfl,⟨trivial,trivial⟩,h2 fun q hq=>?_⟩
  have hq:q<D.length:=hq;have hg:(dT D).toList[q]? =some {key:=cC D[q].1,val:=i64 D[q].2,born:=q}:=by rw[dX,List.getElem?_eq_getElem hq];rfl
  have hem:leftOf (dT D) S.toArray= #[]:=Array.eq_empty_of_size_eq_zero e1;unfold leftOf at hem;rw[Array.filter_eq_empty_iff]at hem;have:=hem _ (by simpa using List.mem_of_getElem? hg)
  unfold FE;simpa using this
 ·have hem:e∈(dT D).toList/\S.contains e.born=false:=by
   unfold leftOf at he;simpa using he
  obtain⟨p,hp,hpe⟩:=hborn e hem.1;have hm:=List.mem_of_getElem? hp;have hD':=hD.1 p hm;obtain⟨g1,g2⟩:=xG (K:=known res) hp hD'.1 hD'.2.2;have hv:kz D e.born=p.2:=by unfold kz aq;rw[NV,hp];rfl
  have hh1:w1.heap=w.heap:=by rcases hw1 with rfl|rfl<;>rfl
  have hr1:w1.heap[J.num j]? =some (.mapIter (some (J.num i)) D.length S.toArray D.length):=by rw[hh1];exact c1
  have hw':au J fps res (known res) w0 F0 w1:=by
   rcases hw1 with rfl|rfl
   ·exact h
   ·exact⟨h.sub,h.old,h.os,h.tape,h.output,fun i hi=>ah.cr _ (h.holds i hi) fun _ _=>rfl,h.lt,h.disj,h.inF,h.same⟩
  have hrl:J.num j<w1.heap.size:=(Array.getElem?_eq_some_iff.1 hr1).1
  obtain⟨r1,r2⟩:=hw'.si (w':=ChangeMaps.setBlock w1 (J.num j) (.mapIter (some (J.num i)) D.length (S.toArray.push e.born) D.length)) (b:=J.num j) (r':= .mi i D.length (bg S e.born)) hj (by simp) (by simp) c2
   ⟨c0,c2,by simp[ChangeMaps.setBlock,bg,hrl]⟩ rfl rfl rfl (by simp[ChangeMaps.setBlock]) (fun b' hb=>by simp[ChangeMaps.setBlock,Array.getElem?_setIfInBounds_ne (Ne.symm hb)])
  have hin:bE .i64 (kz D e.born):=by rw[hv];exact hD'.2.1
  have e3:den J (.tp [.cb true,.ag (nF D e.born 0 wd),.it .i64 (kz D e.born)])= .tuple #[.bool true,den J (.ag (nF D e.born 0 wd)),i64 (kz D e.born)]:=rfl;have k1:=congrArg MapEntry.key hpe;have k2:=congrArg MapEntry.val hpe
  refine⟨.tp [.cb true,.ag (nF D e.born 0 wd),.it .i64 (kz D e.born)],_,_,?_,r1.kE fun i hi=>(r2 i).2 hi,r2,⟨trivial,(aV (fun i hi=>(r2 i).2 hi) _ g1).1,hin,trivial⟩,h1 e.born (hlt e hem.1) (by unfold FE;simpa using hem.2)⟩
  refine e2.trans ?_;rw[e3,g2,hv,k1,k2]
theorem fV.Gk {nid n:Nat} (hn:¬K nid):fV K J (J.aG nid w.heap.size) nid [.ms n []] w0 F0 w (w.alloc (.map #[] 0)):=by
 refine⟨(Below.refl _ _).alloc (Nat.le_refl _) _,eG J nid _,fun _ b=>b=w.heap.size,fun k hk=>?_,fun k l b hk hl hne=>?_⟩
 ·simp only[List.length_singleton,Nat.lt_one_iff]at hk;subst hk;refine⟨⟨by simp[Env.aG],⟨by simp,List.nodup_nil⟩,?_⟩,fun b hb=>by subst hb;simp⟩
  rw[show(J.aG nid w.heap.size).num (nid+0)=w.heap.size by simp[Env.aG]]
  exact heap_alloc_new w _
 ·simp only[List.length_singleton,Nat.lt_one_iff]at hk hl;omega
end
end Go.Sx
namespace Go.Sx
open Go.RowKit (Below)
def dY (P:Program) (f:Nat):Bool:=
 match P.funcs[f]? with
 |some fn=>fn.name != "runtime.NumGoroutine" &&fn.body.isSome
 |none=>false
def Ii (C:Ctx) (res:List ah) (nid:Nat) (fv:V) (args:List V):RR:=
 match fv with
 | .fn f caps=>match C.Γ f with
   |some g=>if Nat.blt f 2000 then(if dY C.P f then g res nid (args++caps)else none)else none
   |none=>none
 |_=>none
def Jv (P:Program) (res:List ah) (t:Nat) (x:V):Option (Option Prop×V):=
 match P.underlying t with
 |some .string=>match x with
  | .st s=>some (some (aO .i64 (Ly s)),.it .i64 (Ly s))
  |_=>none
 |some (.slice _)=>match x with
  | .sa id=>match bp res id with
    | .arr _ _ l=>some (none,.it .i64 (aJ l.len))
    | .obs _ _ L=>some (none,.it .i64 (aJ (aa L)))
    | .que _ _ Q=>some (none,.it .i64 (aJ (aa Q)))
    |_=>none
  | .sc _ len _=>if bE .i64 (len:Int)then some (none,.ci .i64 (len:Int))else none
  | .ks x _ _ lo hi=>if A4 x&&bE .i64 ((hi-lo:Nat):Int)then some (none,.ci .i64 ((hi-lo:Nat):Int))else none
  | .nl (.slice none 0 0)=>some (none,.ci .i64 0)
  |_=>none
 |some (.array n _)=>if bE .i64 (n:Int)then some (none,.ci .i64 (n:Int))else none
 |_=>none
def IP (x y:V):Option V:=
 match toInt x,toInt y with
 |some (k,a),some (k',b)=>if k==k' then some (.it k (nu a b))else none
 |_,_=>none
def JY (x y:V):Option V:=
 match toInt x,toInt y with
 |some (k,a),some (k',b)=>if k==k' then some (.it k (imax a b))else none
 |_,_=>none
def sY (C:Ctx) (res:List ah) (b:Builtin) (ts:List Nat) (xs:List V):Option (Option Prop×V):=
 match b,ts,xs with
 | .len,t::_,[x]=>Jv C.P res t x
 | .min,_,[x,y]=>(IP x y).map fun r=>(none,r)
 | .max,_,[x,y]=>(JY x y).map fun r=>(none,r)
 |_,_,_=>none
def AU (c a b:V):Option V:=
 match toBool c,toBool a,toBool b with
 |some x,some y,some z=>
  if Hc c then some (if x then a else b)
  else match a,b with
   | .cb true,_=>some (.bo (KD x z))
   | .cb false,_=>some (.bo (Ia (FJ x) z))
   |_,.cb false=>some (.bo (Ia x y))
   |_,.cb true=>some (.bo (KD (FJ x) y))
   |_,_=>some (.bo (LU x y z))
 |_,_,_=>none
theorem zm {c a b r:V} (h:AU c a b=some r):∃x y z,toBool c=some x/\toBool a=some y/\toBool b=some z/\toBool r=some (if x then y else z):=by
 unfold AU at h;split at h
 ·rename_i x y z hc ha hb;refine⟨x,y,z,hc,ha,hb,?_⟩;split at h
  ·grind
  ·grind[toBool,Ia,KD,FJ,LU]
 ·simp at h
def Gb (v:V) (b:Bool):V:=
 match v with
 | .cb true=> .cb false
 | .cb false=> .cb true
 |_=> .bo (FJ b)
theorem Bp {v:V} {b:Bool} (h:toBool v=some b):toBool (Gb v b)=some (!b):=by
 cases v<;>simp[toBool]at h<;>subst h
 ·rename_i b;cases b<;>rfl
 ·rfl
def isStr (P:Program) (t:Nat) (x i:V):Option (Option Prop×V):=
 match P.underlying t,x,toInt i with
 |some .string,.st s,some (_,j)=>some (some (Nq s j),.bt (sat s (gz j)))
 |_,_,_=>none
theorem zs {P:Program} {J:Env} {K:Nat->Prop} {w:World} {t:Nat} {x i r:V} {q:Option Prop} (h:isStr P t x i=some (q,r)) (hq:aW q) (hi:ok K i):(Instr.index t (den J x) (den J i)).run P w= .ok (den J r) w/\ok K r:=by
 unfold isStr at h;split at h<;>simp only[NN,NO,reduceCtorEq]at h
 rename_i s k j hu hj;obtain⟨rfl,rfl⟩:=h;obtain⟨h0,h1⟩:=(show Nq s j from hq);refine⟨?_,trivial⟩;rw[(bj (J:=J) hj hi).1];have hlt:j.toNat<s.size:=by omega
 have hg:s[j.toNat]? =some (sat s j.toNat):=by
  have hd:j.toNat<s.data.size:=hlt;rw[getElem?_pos s j.toNat hlt];congr 1
  unfold sat;rw[Array.getD_eq_getD_getElem?,Array.getElem?_eq_getElem hd];rfl
 simp only[Instr.index,asIntOf,Sem.run_bind,Sem.run_pure,Result.andThen_ok,aB w hu,den,h0,if_true,hg,gz]
def Hy (op:BinOp) (x y:V):Option (Option Prop×V):=
 match op,x,y with
 | .add,.st a,.st b=>some (some (M5 a b),.st (KJ a b))
 |_,_,_=>none
theorem Cm {P:Program} {J:Env} {K:Nat->Prop} {op:BinOp} {t:Nat} {x y r:V} {q:Option Prop} (w:World) (o1 o2:Operand) (h:Hy op x y=some (q,r)) (hq:aW q):
  (do eqGuard op t o1 o2 (den J x) (den J y);binOp op t (den J x) (den J y)).run P w= .ok (den J r) w/\ok K r:=by
 unfold Hy at h;split at h<;>simp only[NN,NO,reduceCtorEq]at h
 rename_i a b;obtain⟨rfl,rfl⟩:=h;have hq:(a.size:Int)+(b.size:Int)<=9223372036854775807:=hq;have hm:IntKind.i64.max=9223372036854775807:=rfl;refine⟨?_,trivial⟩;simp[eqGuard,binOp,Op.stringOp,den,KJ,hm];omega
def oK (sl:List S) (ch:List (Nat×Bool)) (ps:List (Nat×Operand)):Option (List (Nat×V)):=
 allM (fun p:Nat×Operand=>(bK sl ch p.2).map fun v=>(p.1,v)) ps
def vk (C:Ctx) (sl:List S) (res:List ah) (nid:Nat) (ch:List (Nat×Bool)):Op->RR
 | .move x=>(bK sl ch x).map fun v=>(none,v,[])
 | .assign x=>(bK sl ch x).map fun v=>(none,v,[])
 | .pick c a b=>match c with
   | .tmp s=>match bK sl ch c with
     |some (.cb x)=>if x then(bK sl ch a).map fun v=>(none,v,[])else(bK sl ch b).map fun v=>(none,v,[])
     |some cv=>match bK sl ((s,true)::ch) a,bK sl ((s,false)::ch) b with
      |some av,some bv=>(AU cv av bv).map fun v=>(none,v,[])
      |_,_=>none
     |none=>none
   |_=>none
 | .box t x=>match bK sl ch x with
   |some v=>if aZ v then none else some (none,.lp nid 0,[.blk t v])
   |none=>none
 | .alloc t=>match C.Z t with
   |some z=>some (none,.lp nid 0,[.blk t z])
   |none=>none
 | .makeSlice t x y=>match bK sl ch x,bK sl ch y with
   |some a,some b=>xx C nid t a b
   |_,_=>none
 | .makeInterface t x=>match bK sl ch x,C.P.underlying t with
   |some v,some d=>match d with
    | .interface _=>none
    |_=>some (none,.ic t v,[])
   |_,_=>none
 | .makeMap t r=>match r with
   |none=>match C.P.underlying t with
    |some (.map kt et)=>match C.P.underlying kt with
     |some (.int kd)=>some (none,.mp nid,[.mp kd [] []])
     |some (.struct _)=>M9 C kt et nid
     |_=>none
    |_=>none
   |some _=>none
 | .lookup t m x two=>match bK sl ch m,bK sl ch x with
   |some mv,some xv=>match EG C res t mv xv two with
    |some y=>some (none,y,[])
    |none=>match De C res t mv xv two with
     |some y=>some (none,y,[])
     |none=>match EB C res t mv xv two with
      |some y=>some (none,y,[])
      |none=>none
   |_,_=>none
 | .range t x=>match bK sl ch x with
   |some m=>Le C res nid t m
   |none=>none
 | .entry x=>match bK sl ch x with
   |some p=>Mp res p
   |none=>none
 | .load t x=>match bK sl ch x with
   |some p=>(rW C res t p).map fun r=>(r.1,r.2,[])
   |none=>none
 | .fieldAddr t x f=>match bK sl ch x with
   |some p=>(L0 C.P t p f).map fun r=>(none,r,[])
   |none=>none
 | .field t x f=>match bK sl ch x with
   |some p=>(LX C.P t p f).map fun r=>(none,r,[])
   |none=>none
 | .indexAddr t x i=>match bK sl ch x,bK sl ch i with
   |some p,some j=>(L6 C.P res t p j).map fun r=>(r.1,r.2,[])
   |_,_=>none
 | .index t x i=>match bK sl ch x,bK sl ch i with
   |some p,some j=>match LY C.P t p j with
    |some r=>some (r.1,r.2,[])
    |none=>(isStr C.P t p j).map fun r=>(r.1,r.2,[])
   |_,_=>none
 | .slice t x lo hi mx=>match bK sl ch x,lo.map (bK sl ch),hi.map (bK sl ch),mx with
   |some p,none,none,none=>(H7 C.P res t p none none).map fun r=>(r.1,r.2,[])
   |some p,some (some a),none,none=>(H7 C.P res t p (some a) none).map fun r=>(r.1,r.2,[])
   |some p,none,some (some b),none=>(H7 C.P res t p none (some b)).map fun r=>(r.1,r.2,[])
   |some p,some (some a),some (some b),none=>(H7 C.P res t p (some a) (some b)).map fun r=>(r.1,r.2,[])
   |_,_,_,_=>none
 | .nilCheck x=>match bK sl ch x with
   |some (.lp i o)=>some (none,.lp i o,[])
   |some (.lx a b c d e f)=>some (none,.lx a b c d e f,[])
   |some (.ap a b c d)=>some (none,.ap a b c d,[])
   |some (.ax a b c d e f g h)=>some (none,.ax a b c d e f g h,[])
   |some (.op a b)=>some (none,.op a b,[])
   |some (.fn f l)=>some (none,.fn f l,[])
   |_=>none
 | .binOp op t x y _=>match bK sl ch x,bK sl ch y with
   |some a,some b=>match Gg C.P op t a b with
    |some r=>some (r.1,r.2,[])
    |none=>(Hy op a b).map fun r=>(r.1,r.2,[])
   |_,_=>none
 | .unOp .not _ x=>match bK sl ch x with
   |some v=>match toBool v with
    |some b=>some (none,Gb v b,[])
    |none=>none
   |none=>none
 | .unOp .neg _ x=>match bK sl ch x with
   |some v=>match toInt v with
    |some (k,n)=>if pN v then(if bE k (0-n)then some (none,.ci k (0-n),[])else none)else some (some (aO k (nZ 0 n)),.it k (nZ 0 n),[])
    |none=>none
   |none=>none
 | .convert s d x=>match bK sl ch x with
   |some v=>match Mb C.P s d v with
    |some r=>some (r.1,r.2,[])
    |none=>(L2 C.P res s d v).map fun r=>(r.1,r.2,[])
   |none=>none
 | .extract x i=>match bK sl ch x with
   |some (.tp l)=>(l[i]?).map fun v=>(none,v,[])
   |_=>none
 | .makeFunc (.func f) first caps=>if first.isEmpty then(if Nat.blt f 2000 then(gD sl ch caps.toList).map fun l=>(none,.fn f l,[])else none)else if caps.isEmpty then(gD sl ch first.toList).map fun l=>(none,.fn (f+2000) l,[])else none
 | .build t ps=>match oK sl ch ps.toList with
   |some l=>(wj C t l).map fun r=>(none,r,[])
   |none=>none
 | .buildSlice t n ps=>match oK sl ch ps.toList with
   |some l=>(KR C t n l nid).map fun r=>(none,r.1,r.2)
   |none=>none
 | .call c=>match c.callee with
   | .value f=>match bK sl ch f,gD sl ch c.args.toList with
     |some fv,some vs=>Ii C res nid fv vs
     |_,_=>none
   | .builtin b=>match gD sl ch c.args.toList with
     |some vs=>match b with
      | .append=>Df C res nid c.argTypes.toList vs
      |b=>(sY C res b c.argTypes.toList vs).map fun r=>(r.1,r.2,[])
     |none=>none
   | .invoke _ _=>none
 |_=>none
def FF (P:Program) (ro:Option Nat):Fence:= {fn:=fun _=>True,depth:=none,alive:=false,round:=ro}
theorem iS (P:Program) (ro:Option Nat) (n:Nat):(FF P ro).room n:=fun _ h=>by simp[FF]at h
theorem rz {P:Program} {ro ro':Option Nat} {n n' f:Nat} {args:Array Value} {w:World} {R:Ending->World->Prop} (h:CallsIn (FF P ro) n P f args w R):CallsIn (FF P ro') n' P f args w R:=
 ⟨h.1,fun cs _=>h.2 cs (iS P ro _)⟩
theorem Io {P:Program} {n f:Nat} {args:Array Value} {w:World} {R:Ending->World->Prop} (h:Calls P f args w R):CallsIn (FF P none) n P f args w R:=callsIn_wide.2 h
theorem Kp {P:Program} {ro:Option Nat} {n f:Nat} {args:Array Value} {w:World} {R:Ending->World->Prop} (h:CallsIn (FF P ro) n P f args w R):Calls P f args w R:=h.calls (fun k=>iS P ro k)
def bT (o:Oper):Prop:=∀c,o.op≠ .defer c
theorem cL {P:Program} {ro:Option Nat} {o:Oper} {a:Act} {w:World} {next:Act->World->Prop} {Q:Exit->Act->World->Prop} (hd:ro≠none->bT o)
  (h:o.uponIn (FF P ro) 0 P a next Q ((execOp a.eval o).run P w)):o.wpIn (FF P ro) 0 P a w next Q:=by
 refine⟨fun _ _=>trivial,?_⟩
 have hs:o.semAt (FF P ro).round a.eval=execOp a.eval o:=by
  show o.semAt ro a.eval=_
  cases ro with
  |none=>exact Oper.semAt_none _ _
  |some l=>exact Oper.semAt_some l _ o (hd (by simp))
 rw[hs];exact h
def Yields (P:Program) (o:Oper) (a:Act) (w:World) (R:Value->World->Prop):Prop:=
 (∃v w',(execOp a.eval o).run P w= .ok (.value v) w'/\R v w')\/
 ∃f args,(execOp a.eval o).run P w= .ok (.enter f args) w/\CallsIn (FF P none) 0 P f args w fun e w'=>∃v,e= .returned v/\R v w'
theorem Yields.wp {P:Program} {o:Oper} {a:Act} {w:World} {R:Value->World->Prop} {next:Act->World->Prop} {Q:Exit->Act->World->Prop} (h:Yields P o a w R)
  {ro:Option Nat} (hn:∀v w',R v w'->next (a.put o.dst v) w'):o.uponIn (FF P ro) 0 P a next Q ((execOp a.eval o).run P w):=by
 rcases h with⟨v,w',h1,h2⟩|⟨f,args,h1,h2⟩
 ·rw[h1];exact hn v w' h2
 ·rw[h1];refine⟨fun h=>by simp[FF]at h,CallsIn.mono (rz h2) fun e w' ⟨v,he,hr⟩=>?_⟩
  subst he;exact hn v w' hr
def lV (K:Nat->Prop) (J:Env) (nid:Nat) (x:V) (new:List ah) (w0:World) (F0:Nat->Prop) (w:World) (v:Value) (w':World):Prop:=
 ∃ρ',fV K J ρ' nid new w0 F0 w w'/\v=den ρ' x/\ok (fun i=>K i\/fresh nid new.length i) x
def Mc (n:Int):V:= .ag [.it .i64 n,.st ⟨#[]⟩,.ag [.key void,.key void,.key void]]
def yz (te:Nat) (k:IntKind) (n:Int):V:=if te<1000000 then .it k n else Mc n
def Lq (te:Nat):Nat:=if te<1000000 then te else te-1000000
def Je (P:Program) (f ts te:Nat):Prop:=
 (∀p w,CallsDIn (FF P none) 0 P f #[p] .returning w fun e u' w'=>(∃v,e= .returned v)/\u'= .returning/\w'=w)/\
 ∀b off ty cs cs' k n w,(te<1000000\/k= .i64)->bE k n->w.heap[b]? =some (.cells cs ty (0,0))->(∀w1:World,w1.heap[b]? =some (.cells cs ty (0,0))->(Instr.storeAt (Lq te) (.pointer (some ⟨b,off,none⟩)) (den Env.zero (yz te k n))).run P w1= .ok () (w1.setRow b cs'))->
  CallsDIn (FF P none) 0 P f #[.pointer (some ⟨b,off,none⟩)] (.panicking [{v:= .iface ts (.agg #[.int k n]),recovered:=false}]) w fun e u' w''=>
   (∃v,e= .returned v)/\u'= .panicking [{v:= .iface ts (.agg #[.int k n]),recovered:=true}]/\Below w.heap.size (w.setRow b cs') w''
structure Ctx.Sound (C:Ctx):Prop where
 z:C.wO
 mixed:C.P.follows .mixedOrders=true
 ct:∀f g,C.Γ f=some g->∀J fps res K w0 F0 w nid args q x new,au J fps res K w0 F0 w->cg K args->g res nid args=some (q,x,new)->aW q->
  (∀k,k<new.length->¬K (nid+k))->
  (CallsIn (FF C.P none) 0 C.P f (aC J args).toArray w fun e w'=>∃v,e= .returned v/\lV K J nid x new w0 F0 w v w')/\∀k,k<new.length->ae new k≠ .yet
 dk:∀f ts te,C.D f=some (ts,te)->Je C.P f ts te
section
variable {C:Ctx} {J:Env} {fps:Nat->Nat->Prop} {sl:List S} {res:List ah} {K:Nat->Prop} {w0 w:World} {F0:Nat->Prop} {a:Act} {nid:Nat} {ch:List (Nat×Bool)}
theorem yx {x:V} (hx:ok K x):lV K J nid x [] w0 F0 w (den J x) w:=
 ⟨J,fV.refl _ _ _ _ _ _,rfl,bm (fun _ h=> .inl h) x hx⟩
theorem nM {ps:List (Nat×Operand)} {l:List (Nat×V)} (hF:eg J K sl a) (hg:gQ sl ch=true) (h:oK sl ch ps=some l):
  (ps.map fun p=>(p.1,a.eval p.2))=l.map (fun p=>(p.1,den J p.2))/\∀p∈l,ok K p.2:=by
 induction ps generalizing l with
 |nil=>simp only[oK,allM,NN]at h;subst h;exact⟨rfl,by simp⟩
 |cons p ps ih=>
  simp only[oK,allM]at h;split at h
  ·rename_i y ys hy hys;simp only[NN]at h;subst h;cases hv:bK sl ch p.2 with
   |none=>simp[hv]at hy
   |some v=>
    simp only[hv,Option.map_some,NN]at hy;subst hy;obtain⟨e1,e2⟩:=di hF hg hv;obtain⟨i1,i2⟩:=ih hys
    exact⟨by simp[e1,i1],fun q hq=>by
     rcases List.mem_cons.1 hq with rfl|hq
     ·exact e2
     ·exact i2 q hq⟩
  ·simp at h
theorem BN {t:Nat} {x r:V} {q:Option Prop} (h:au J fps res K w0 F0 w) (hl:Jv C.P res t x=some (q,r)) (hq:aW q) (ts:List Nat) (ty:Nat):
  (Builtin.len_ (t::ts).toArray ty #[den J x]).run C.P w= .ok (den J r) w/\ok K r:=by
 unfold Jv at hl;have hge:∀(l:List Nat),(t::l).toArray[0]? =some t:=fun l=>by simp
 split at hl
 ·rename_i hu;split at hl<;>simp only[NN,NO,reduceCtorEq]at hl
  obtain⟨rfl,rfl⟩:=hl;exact⟨by simp[Builtin.len_,den,aB w hu,goInt,Ly],hq⟩
 ·rename_i e hu;split at hl
  ·rename_i id;split at hl<;>simp only[NN,NO,reduceCtorEq]at hl
   ·rename_i own esz l hc;obtain⟨_,rfl⟩:=hl;obtain⟨fp,hh,_⟩:=h.look hc (by simp)
    obtain⟨_,h2,h3,_⟩:=hh;exact⟨by simp[Builtin.len_,den,aB w hu,goInt,h2,aJ,aa],by simp only[ok,bE,aJ,aa];omega⟩
   ·rename_i ty q' L hc;obtain⟨_,rfl⟩:=hl;obtain⟨fp,hh,_⟩:=h.look hc (by simp)
    obtain⟨_,_,h2,h3,_⟩:=hh;exact⟨by simp[Builtin.len_,den,aB w hu,goInt,h2,aJ,aa],by simp only[ok,bE,aJ,aa];omega⟩
   ·rename_i ty esz l hc;obtain⟨_,rfl⟩:=hl;obtain⟨fp,hh,_⟩:=h.look hc (by simp)
    obtain⟨_,h2,h3,_⟩:=hh;exact⟨by simp[Builtin.len_,den,aB w hu,goInt,h2,aJ,aa],by simp only[ok,bE,aJ,aa];omega⟩
  ·split at hl<;>simp only[NN,NO,reduceCtorEq]at hl
   rename_i hin;obtain⟨_,rfl⟩:=hl;exact⟨by simp[Builtin.len_,den,aB w hu,goInt],hin⟩
  ·rename_i p z n lo hi;split at hl<;>simp only[NN,NO,reduceCtorEq]at hl
   rename_i hc;simp only[NP,NQ]at hc;obtain⟨_,rfl⟩:=hl;obtain⟨b,o,hd⟩:=oH (J:=J) hc.1;exact⟨by simp[Builtin.len_,den,p8,hd,aB w hu,goInt],hc.2⟩
  ·simp only[NN,NO]at hl;obtain⟨_,rfl⟩:=hl;exact⟨by simp[Builtin.len_,den,aB w hu,goInt],by simp[ok,bE]⟩
  ·simp at hl
 ·rename_i n e hu;split at hl<;>simp only[NN,NO,reduceCtorEq]at hl
  rename_i hin;obtain⟨_,rfl⟩:=hl;exact⟨by simp[Builtin.len_,aB w hu,goInt,den],hin⟩
 ·simp at hl
theorem gS {o:Oper} {q:Option Prop} {x:V} {new:List ah} (hC:C.Sound) (h:vk C sl res nid ch o.op=some (q,x,new)) (hF:eg J K sl a) (hH:au J fps res K w0 F0 w)
  (hg:gQ sl ch=true) (hq:aW q) (hfr:∀k,k<new.length->¬K (nid+k)):
  Yields C.P o a w (lV K J nid x new w0 F0 w)/\∀k,k<new.length->ae new k≠ .yet:=by
 have pureY:∀{y:V},(execOp a.eval o).run C.P w= .ok (.value (den J y)) w->ok K y->x=y->new= []->
   Yields C.P o a w (lV K J nid x new w0 F0 w)/\∀k,k<new.length->ae new k≠ .yet:=by
  intro y h1 h2 h3 h4;subst h3;subst h4;exact⟨.inl ⟨_,_,h1,yx h2⟩,fun k hk=>by simp at hk⟩
 have ov:∀{o:Operand} {y:V},bK sl ch o=some y->a.eval o=den J y/\ok K y:=fun ho=>di hF hg ho
 obtain⟨dst,op,type,pos,after,guard⟩:=o;simp only at h;cases op<;>simp only[vk,reduceCtorEq]at h
 case move y=>
  cases hy:bK sl ch y with
  |none=>simp[hy]at h
  |some v=>
   simp only[hy,Option.map_some,NN,NO]at h;obtain⟨_,rfl,rfl⟩:=h;exact pureY (by simp[execOp,(ov hy).1]) (ov hy).2 rfl rfl
 case assign y=>
  cases hy:bK sl ch y with
  |none=>simp[hy]at h
  |some v=>
   simp only[hy,Option.map_some,NN,NO]at h;obtain⟨_,rfl,rfl⟩:=h;exact pureY (by simp[execOp,(ov hy).1]) (ov hy).2 rfl rfl
 case pick c y z=>
  split at h
  ·rename_i s;split at h
   ·rename_i x hc;obtain⟨c1,c2⟩:=ov hc;cases x with
    |true=>
     simp only[if_true]at h;cases ha:bK sl ch y with
     |none=>simp[ha]at h
     |some v=>
      simp only[ha,Option.map_some,NN,NO]at h;obtain⟨_,rfl,rfl⟩:=h;exact pureY (by simp[execOp,c1,den,asBool,(ov ha).1]) (ov ha).2 rfl rfl
    |false=>
     simp only[Bool.false_eq_true,if_false]at h;cases ha:bK sl ch z with
     |none=>simp[ha]at h
     |some v=>
      simp only[ha,Option.map_some,NN,NO]at h;obtain⟨_,rfl,rfl⟩:=h;exact pureY (by simp[execOp,c1,den,asBool,(ov ha).1]) (ov ha).2 rfl rfl
   rename_i cv _ hc;split at h
   ·rename_i av bv ha hb;cases hp:AU cv av bv with
    |none=>simp[hp]at h
    |some r=>
     simp only[hp,Option.map_some,NN,NO]at h;obtain⟨_,rfl,rfl⟩:=h;obtain⟨X,Y,Z,e1,e2,e3,e4⟩:=zm hp;obtain⟨c1,c2⟩:=ov hc
     have hraw:raw (aN sl s)=some X:=by
      simp only[bK]at hc;cases hs:aN sl s with
      |und=>simp[hs]at hc
      |ud=>simp[hs]at hc
      |v y=>
       simp only[hs,NN]at hc;subst hc;cases y<;>simp[toBool]at e1<;>subst e1<;>rfl
      |gv k y=>
       simp only[hs]at hc;split at hc<;>simp only[NN,reduceCtorEq]at hc
       subst hc;cases y<;>simp[toBool]at e1<;>subst e1<;>rfl
     have hr:den J r= .bool (if X then Y else Z):=bM e4
     refine pureY (y:=r) ?_ (by cases r<;>simp[toBool]at e4<;>trivial) rfl rfl
     rw[hr];simp only[execOp,c1,bM e1,asBool,Sem.run_bind,Sem.run_pure,Result.andThen_ok];cases X with
     |true=>
      have:=(di (ch:=(s,true)::ch) hF (by rw[dS];simp[hraw,hg]) ha).1
      simp[this,bM e2]
     |false=>
      have:=(di (ch:=(s,false)::ch) hF (by rw[dS];simp[hraw,hg]) hb).1
      simp[this,bM e3]
   ·simp at h
   ·simp at h
  ·simp at h
 case box t y=>
  split at h
  ·rename_i v hy;split at h
   ·simp at h
   ·rename_i ht;simp only[NN,NO]at h;obtain⟨_,rfl,rfl⟩:=h;have hn:¬K nid:=by simpa using hfr 0 (by simp)
    refine⟨.inl ⟨_,_,?_,J.aG nid w.heap.size,fV.alloc (ty:=t) (ov hy).2 (by simpa using ht) hn,rfl,.inr ⟨Nat.le_refl _,by simp⟩⟩,fun k hk=>by simp at hk;subst hk;simp[ae]⟩
    simp[execOp,Instr.box,(ov hy).1,newVar,newRow,den,Env.aG,cells]
  ·simp at h
 case alloc t=>
  split at h
  ·rename_i z hz;simp only[NN,NO]at h;obtain⟨_,rfl,rfl⟩:=h;have hn:¬K nid:=by simpa using hfr 0 (by simp)
   obtain⟨i,h1,h2,h3,h4,h5⟩:=hC.z t z hz;refine⟨.inl ⟨_,_,?_,J.aG nid w.heap.size,fV.alloc (ty:=t) (cm h3) h4 hn,rfl,.inr ⟨Nat.le_refl _,by simp⟩⟩,fun k hk=>by simp at hk;subst hk;simp[ae]⟩
   simp[execOp,Instr.alloc,iz (J:=J) hC.z hz,newVar,newRow,den,Env.aG,cells]
  ·simp at h
 case makeSlice t y z=>
  split at h
  ·rename_i u v hu hv;obtain⟨rfl,o',e',l',rfl⟩:=Bd h;have hn:¬K nid:=by simpa using hfr 0 (by simp)
   obtain⟨w',ρ',e1,e2⟩:=yT (J:=J) (w:=w) (w0:=w0) (F0:=F0) hC.z h hq hn;refine⟨.inl ⟨_,w',?_,ρ',e2,rfl,.inr ⟨Nat.le_refl _,by simp⟩⟩,fun k hk=>by simp at hk;subst hk;simp[ae]⟩
   simp[execOp,(ov hu).1,(ov hv).1,e1]
  ·simp at h
 case makeInterface t y=>
  split at h
  ·rename_i v d hv hd
   have:∀{x':V} {n':List ah},(∀n,d≠ .interface n)->some (none,V.ic t v,([]:List ah))=some (q,x',n')->x'=x->n'=new->Yields C.P ⟨dst,.makeInterface t y,type,pos,after,guard⟩ a w (lV K J nid x new w0 F0 w)/\∀k,k<new.length->ae new k≠ .yet:=by
    intro x' n' hni hh h1 h2;simp only[NN,NO]at hh;obtain⟨_,rfl,rfl⟩:=hh;refine pureY (y:= .ic t v) ?_ (ov hv).2 h1.symm h2.symm
    cases d<;>first
     |exact absurd rfl (hni _)
     |simp[execOp,(ov hv).1,Instr.makeInterface,aB w hd,den]
   split at h
   ·simp at h
   ·rename_i hni;exact this (fun n e=>hni n e) h rfl rfl
  ·simp at h
 case makeMap t r=>
  split at h
  case h_2=>simp at h
  split at h
  case h_2=>simp at h
  split at h
  case h_3=>simp at h
  case h_2=>
   obtain⟨rfl,hw⟩:=DE h;have hn:¬K nid:=by rcases hw with rfl|⟨n,rfl⟩<;>simpa using hfr 0 (by simp)
   have hg:fV K J (J.aG nid w.heap.size) nid new w0 F0 w (w.alloc (.map #[] 0)):=by
    rcases hw with rfl|⟨n,rfl⟩
    ·exact fV.Ax hn
    ·exact fV.Gk hn
   have hl:new.length=1/\ae new 0≠ .yet:=by rcases hw with rfl|⟨n,rfl⟩<;>simp[ae]
   refine⟨.inl ⟨_,_,?_,J.aG nid w.heap.size,hg,rfl,.inr ⟨Nat.le_refl _,by omega⟩⟩,fun k hk=>(show k=0 by omega)▸hl.2⟩
   simp[execOp,show(Instr.makeMap t none).run C.P w= .ok (.map (some w.heap.size)) (w.alloc (.map #[] 0))from rfl,den,Env.aG]
  all_goals(
   simp only[NN,NO]at h;obtain⟨_,rfl,rfl⟩:=h;have hn:¬K nid:=by simpa using hfr 0 (by simp)
   first
   |refine⟨.inl ⟨_,_,?_,J.aG nid w.heap.size,fV.I2 hn,rfl,.inr ⟨Nat.le_refl _,by simp⟩⟩,fun k hk=>by simp at hk;subst hk;simp[ae]⟩
   |refine⟨.inl ⟨_,_,?_,J.aG nid w.heap.size,fV.Ax hn,rfl,.inr ⟨Nat.le_refl _,by simp⟩⟩,fun k hk=>by simp at hk;subst hk;simp[ae]⟩)
  all_goals simp[execOp,show(Instr.makeMap t none).run C.P w= .ok (.map (some w.heap.size)) (w.alloc (.map #[] 0))from rfl,den,Env.aG]
 case lookup t m y two=>
  split at h
  case h_2=>simp at h
  rename_i mv xv hm hy;split at h
  ·rename_i r hl;simp only[NN,NO]at h;obtain⟨_,rfl,rfl⟩:=h;obtain⟨e1,e2⟩:=yM hC.z hH hl (ov hy).2;exact pureY (by simp[execOp,(ov hm).1,(ov hy).1,e1]) e2 rfl rfl
  ·split at h
   ·rename_i r hl;simp only[NN,NO]at h;obtain⟨_,rfl,rfl⟩:=h;obtain⟨e1,e2⟩:=zk hC.z hH hl (ov hy).2;exact pureY (by simp[execOp,(ov hm).1,(ov hy).1,e1]) e2 rfl rfl
   ·split at h
    case h_2=>simp at h
    rename_i r hl;simp only[NN,NO]at h;obtain⟨_,rfl,rfl⟩:=h;obtain⟨e1,e2⟩:=za hC.z hH hl (ov hy).2;exact pureY (by simp[execOp,(ov hm).1,(ov hy).1,e1]) e2 rfl rfl
 case range t y=>
  split at h
  case h_2=>simp at h
  rename_i m hm;obtain⟨w',e1,e2,e3⟩:=DZ hH hfr h;refine⟨.inl ⟨_,w',?_,J.aG nid w.heap.size,e2,rfl,e3⟩,HC h⟩;simp[execOp,(ov hm).1,e1]
 case entry y=>
  split at h
  case h_2=>simp at h
  rename_i p hp;obtain⟨e1,e2,rfl⟩:=Ft (P:=C.P) hH h hq;exact pureY (by simp[execOp,(ov hp).1,e1]) e2 rfl rfl
 case load t y=>
  split at h
  ·rename_i p hp;cases hl:rW C res t p with
   |none=>simp[hl]at h
   |some r=>
    simp only[hl,Option.map_some,NN,NO]at h;obtain⟨rfl,rfl,rfl⟩:=h;obtain⟨e1,e2,_⟩:=nb hH hl hq (ov hp).2;exact pureY (by simp[execOp,(ov hp).1,e1]) e2 rfl rfl
  ·simp at h
 case fieldAddr t y f=>
  split at h
  ·rename_i p hp;cases hl:L0 C.P t p f with
   |none=>simp[hl]at h
   |some r=>
    simp only[hl,Option.map_some,NN,NO]at h;obtain⟨_,rfl,rfl⟩:=h;obtain⟨e1,e2,_⟩:=Fo (J:=J) (w:=w) hl (ov hp).2;exact pureY (by simp[execOp,(ov hp).1,e1]) e2 rfl rfl
  ·simp at h
 case field t y f=>
  split at h
  ·rename_i p hp;cases hl:LX C.P t p f with
   |none=>simp[hl]at h
   |some r=>
    simp only[hl,Option.map_some,NN,NO]at h;obtain⟨_,rfl,rfl⟩:=h;obtain⟨e1,e2,_⟩:=Fc (J:=J) (w:=w) hl (ov hp).2;exact pureY (by simp[execOp,(ov hp).1,e1]) e2 rfl rfl
  ·simp at h
 case indexAddr t y i=>
  split at h
  ·rename_i p j hp hj;cases hl:L6 C.P res t p j with
   |none=>simp[hl]at h
   |some r=>
    simp only[hl,Option.map_some,NN,NO]at h;obtain⟨rfl,rfl,rfl⟩:=h;obtain⟨e1,e2,_⟩:=Dc hH hl hq (ov hp).2 (ov hj).2;exact pureY (by simp[execOp,(ov hp).1,(ov hj).1,e1]) e2 rfl rfl
  ·simp at h
 case index t y i=>
  split at h
  ·rename_i p j hp hj;cases hl:LY C.P t p j with
   |none=>
    simp only[hl]at h;cases hl2:isStr C.P t p j with
    |none=>simp[hl2]at h
    |some r=>
     simp only[hl2,Option.map_some,NN,NO]at h;obtain⟨rfl,rfl,rfl⟩:=h;obtain⟨e1,e2⟩:=zs (J:=J) (w:=w) hl2 hq (ov hj).2;exact pureY (by simp[execOp,(ov hp).1,(ov hj).1,e1]) e2 rfl rfl
   |some r=>
    simp only[hl,NN,NO]at h;obtain⟨rfl,rfl,rfl⟩:=h;obtain⟨e1,e2,_⟩:=DN (J:=J) (w:=w) hl hq (ov hp).2 (ov hj).2;exact pureY (by simp[execOp,(ov hp).1,(ov hj).1,e1]) e2 rfl rfl
  ·simp at h
 case slice t y lo hi mx=>
  have fin:∀(p:V) (l' h':Option V),bK sl ch y=some p->lo.map a.eval=l'.map (den J)->hi.map a.eval=h'.map (den J)->mx=none->(∀v,l'=some v->ok K v)->(∀v,h'=some v->ok K v)->
    ((H7 C.P res t p l' h').map fun r=>(r.1,r.2,([]:List ah)))=some (q,x,new)->Yields C.P ⟨dst,.slice t y lo hi mx,type,pos,after,guard⟩ a w (lV K J nid x new w0 F0 w)/\∀k,k<new.length->ae new k≠ .yet:=by
   intro p l' h' hp hl1 hh1 hmx hl2 hh2 hs;cases hl:H7 C.P res t p l' h' with
   |none=>simp[hl]at hs
   |some r=>
    simp only[hl,Option.map_some,NN,NO]at hs;obtain⟨rfl,rfl,rfl⟩:=hs;obtain⟨e1,e2⟩:=En hH hl hq (ov hp).2 hl2 hh2;subst hmx;refine pureY ?_ e2 rfl rfl;simp only[execOp,(ov hp).1,hl1,hh1,Option.map_none];rw[Sem.run_bind,e1];rfl
  split at h
  ·rename_i p hp h1 h2;have e1:lo=none:=by cases lo<;>simp_all
   have e2:hi=none:=by cases hi<;>simp_all
   subst e1;subst e2;exact fin p none none hp rfl rfl rfl (by simp) (by simp) h
  ·rename_i p u hp h1 h2;obtain⟨lo',rfl,hu⟩:=Option.map_eq_some_iff.1 h1;have e2:hi=none:=by cases hi<;>simp_all
   subst e2;exact fin p (some u) none hp (by simp[(ov hu).1]) rfl rfl (fun v hv=>by simp only[NN]at hv;subst hv;exact(ov hu).2) (by simp) h
  ·rename_i p u hp h1 h2;obtain⟨hi',rfl,hu⟩:=Option.map_eq_some_iff.1 h2;have e2:lo=none:=by cases lo<;>simp_all
   subst e2;exact fin p none (some u) hp rfl (by simp[(ov hu).1]) rfl (by simp) (fun v hv=>by simp only[NN]at hv;subst hv;exact(ov hu).2) h
  ·rename_i p u v hp h1 h2;obtain⟨lo',rfl,hu⟩:=Option.map_eq_some_iff.1 h1;obtain⟨hi',rfl,hv⟩:=Option.map_eq_some_iff.1 h2;exact fin p (some u) (some v) hp (by simp[(ov hu).1]) (by simp[(ov hv).1]) rfl (fun z hz=>by simp only[NN]at hz;subst hz;exact(ov hu).2) (fun z hz=>by simp only[NN]at hz;subst hz;exact(ov hv).2) h
  ·simp at h
 case nilCheck y=>
  split at h<;>simp only[NN,NO,reduceCtorEq]at h<;>rename_i hy<;>obtain⟨_,rfl,rfl⟩:=h<;>obtain⟨e1,e2⟩:=ov hy<;>
   exact pureY (by first| (simp[execOp,e1,den];done)| (simp only[den]at e1⊢;generalize hv:AD _ _=v at e1⊢;obtain⟨_,_,_,rfl⟩:∃g b c,v= .func (.func g) b c:=hv▸Dm _ _;simp[execOp,e1])) e2 rfl rfl
 case binOp op t y z t'=>
  split at h
  ·rename_i p j hp hj;cases hl:Gg C.P op t p j with
   |none=>
    simp only[hl]at h;cases hl2:Hy op p j with
    |none=>simp[hl2]at h
    |some r=>
     simp only[hl2,Option.map_some,NN,NO]at h;obtain⟨rfl,rfl,rfl⟩:=h;obtain⟨e1,e2⟩:=Cm (P:=C.P) (J:=J) (K:=K) (t:=t) w y z hl2 hq;exact pureY (by simp only[execOp,(ov hp).1,(ov hj).1];rw[Sem.run_bind,e1];rfl) e2 rfl rfl
   |some r=>
    simp only[hl,NN,NO]at h;obtain⟨rfl,rfl,rfl⟩:=h;obtain⟨e1,e2⟩:=A8 (J:=J) (K:=K) w y z hl hq (ov hp).2 (ov hj).2;exact pureY (by simp only[execOp,(ov hp).1,(ov hj).1];rw[Sem.run_bind,e1];rfl) e2 rfl rfl
  ·simp at h
 case unOp op t y=>
  cases op<;>simp only[reduceCtorEq]at h
  ·split at h
   ·rename_i v hy;split at h
    ·rename_i k n hn;obtain⟨e1,e2⟩:=bj (J:=J) hn (ov hy).2;split at h
     ·split at h<;>simp only[NN,NO,reduceCtorEq]at h
      rename_i hin;obtain⟨_,rfl,rfl⟩:=h;refine pureY (y:= .ci k (0-n)) ?_ hin rfl rfl;simp only[execOp,(ov hy).1,e1,Op.unary,Op.intArith,Sem.run_bind,Sem.run_pure,Result.andThen_ok,fq hin,den]
     ·simp only[NN,NO]at h;obtain⟨rfl,rfl,rfl⟩:=h;refine pureY (y:= .it k (nZ 0 n)) ?_ hq rfl rfl;simp only[execOp,(ov hy).1,e1,Op.unary,Op.intArith,Sem.run_bind,Sem.run_pure,Result.andThen_ok,fq (show bE k (0-n)from hq),den,nZ]
    ·simp at h
   ·simp at h
  ·split at h
   ·rename_i v hy;split at h<;>simp only[NN,NO,reduceCtorEq]at h
    rename_i b hb;obtain⟨_,rfl,rfl⟩:=h;have hnb:=Bp hb;refine pureY (y:=Gb v b) ?_ (by generalize Gb v b=z at hnb;cases z<;>simp[toBool]at hnb<;>trivial) rfl rfl
    rw[bM hnb];simp only[execOp,(ov hy).1,bM hb,Op.unary,Sem.run_bind,Sem.run_pure,Result.andThen_ok]
   ·simp at h
 case convert s d y=>
  split at h
  ·rename_i p hp;cases hl:Mb C.P s d p with
   |none=>
    simp only[hl]at h;cases hl2:L2 C.P res s d p with
    |none=>simp[hl2]at h
    |some r=>
     simp only[hl2,Option.map_some,NN,NO]at h;obtain⟨rfl,rfl,rfl⟩:=h;obtain⟨e1,e2⟩:=E0 (J:=J) (w:=w) hH hl2 hq (ov hp).2;exact pureY (by simp[execOp,(ov hp).1,e1]) e2 rfl rfl
   |some r=>
    simp only[hl,NN,NO]at h;obtain⟨rfl,rfl,rfl⟩:=h;obtain⟨e1,e2,_⟩:=E8 (J:=J) (w:=w) hl hq (ov hp).2;exact pureY (by simp[execOp,(ov hp).1,e1]) e2 rfl rfl
  ·simp at h
 case extract y i=>
  split at h
  ·rename_i l hy;cases hl:l[i]? with
   |none=>simp[hl]at h
   |some v=>
    simp only[hl,Option.map_some,NN,NO]at h;obtain⟨_,rfl,rfl⟩:=h;obtain⟨e1,e2⟩:=ov hy;have:(aC J l)[i]? =some (den J v):=by rw[dN];simp[hl]
    refine pureY (y:=v) ?_ ((dQ _).1 e2 v (List.mem_of_getElem? hl)) rfl rfl;simp[execOp,e1,den,Instr.extract,this]
  ·simp at h
 case makeFunc fn first caps=>
  cases fn<;>simp only[reduceCtorEq]at h
  rename_i f;split at h
  ·rename_i he;split at h
   case isFalse=>simp at h
   rename_i hlo;cases hl:gD sl ch caps.toList with
   |none=>simp[hl]at h
   |some l=>
    simp only[hl,Option.map_some,NN,NO]at h;obtain⟨_,rfl,rfl⟩:=h;obtain⟨e1,e2⟩:=cZ hF hg hl;have hf:first= #[]:=by simpa using he
    subst hf;refine pureY (y:= .fn f l) ?_ e2 rfl rfl;have:caps.map a.eval=(aC J l).toArray:=by apply Array.ext';simp[e1]
    simp[execOp,Instr.makeFunc,den,sN hlo,this]
  ·split at h
   case isFalse=>simp at h
   rename_i he;cases hl:gD sl ch first.toList with
   |none=>simp[hl]at h
   |some l=>
    simp only[hl,Option.map_some,NN,NO]at h;obtain⟨_,rfl,rfl⟩:=h;obtain⟨e1,e2⟩:=cZ hF hg hl;have hf:caps= #[]:=by simpa using he
    subst hf;refine pureY (y:= .fn (f+2000) l) ?_ e2 rfl rfl;have:first.map a.eval=(aC J l).toArray:=by apply Array.ext';simp[e1]
    have hb:Nat.blt (f+2000) 2000=false:=by rw[Bool.eq_false_iff];intro h;have:=Nat.le_of_ble_eq_true h;omega
    simp[execOp,Instr.makeFunc,den,AD,hb,this]
 case build t ps=>
  split at h
  ·rename_i l hl;obtain⟨e1,e2⟩:=nM hF hg hl;cases hb:wj C t l with
   |none=>simp[hb]at h
   |some r=>
    simp only[hb,Option.map_some,NN,NO]at h;obtain⟨_,rfl,rfl⟩:=h;obtain⟨f1,f2,_⟩:=wA (J:=J) (w:=w) hC.z hb e2;refine pureY (y:=r) ?_ f2 rfl rfl;have:(ps.map fun p=>(p.1,a.eval p.2))=(l.map fun p=>(p.1,den J p.2)).toArray:=by apply Array.ext';simp[e1]
    simp only[execOp];rw[show(ps.map fun(i,x)=>(i,a.eval x))=(l.map fun p=>(p.1,den J p.2)).toArray from this,Sem.run_bind,f1]
    rfl
  ·simp at h
 case buildSlice t n ps=>
  split at h
  ·rename_i l hl;obtain⟨e1,e2⟩:=nM hF hg hl;cases hb:KR C t n l nid with
   |none=>simp[hb]at h
   |some r=>
    obtain⟨r,new'⟩:=r;simp only[hb,Option.map_some,NN,NO]at h;obtain⟨_,rfl,rfl⟩:=h
    have hn:¬K nid:=by
     unfold KR at hb;split at hb
     ·split at hb
      ·simp at hb
      ·split at hb
       ·split at hb<;>simp only[NN,NO,reduceCtorEq]at hb
        obtain⟨rfl,rfl⟩:=hb;simpa using hfr 0 (by simp)
       ·simp at hb
     ·simp at hb
    obtain⟨w',ρ',f1,f2,f3,f4⟩:=Eh (J:=J) (w:=w) (w0:=w0) (F0:=F0) hC.z hb e2 hn;refine⟨.inl ⟨_,w',?_,ρ',f2,rfl,f3⟩,f4⟩;have:(ps.map fun p=>(p.1,a.eval p.2))=(l.map fun p=>(p.1,den J p.2)).toArray:=by apply Array.ext';simp[e1]
    simp only[execOp];rw[show(ps.map fun(i,x)=>(i,a.eval x))=(l.map fun p=>(p.1,den J p.2)).toArray from this,Sem.run_bind,f1]
    rfl
  ·simp at h
 case call c=>
  obtain⟨callee,args,argTypes⟩:=c;cases callee with
  |invoke r m=>simp at h
  |value f=>
   simp only at h;split at h
   ·rename_i fv vs hf has;obtain⟨e1,e2⟩:=ov hf;obtain⟨e3,e4⟩:=cZ hF hg has;unfold Ii at h;split at h
    ·rename_i g caps;split at h
     ·rename_i ct hct;split at h
      case isFalse=>simp at h
      rename_i hlo;split at h
      ·rename_i hcall;have e2':cg K caps:=e2;obtain⟨h1,h2⟩:=hC.ct g ct hct J fps res K w0 F0 w nid (vs++caps) q x new hH (by rw[dQ]at e4 e2'⊢;intro z hz;rcases List.mem_append.1 hz with hz|hz;exact e4 z hz;exact e2' z hz) h hq hfr
       refine⟨.inr ⟨g,(aC J (vs++caps)).toArray,?_,h1⟩,h2⟩;unfold dY at hcall;split at hcall
       ·rename_i fn hfn;simp only[NP,bne_iff_ne,ne_eq]at hcall;have hnm:(fn.name== "runtime.NumGoroutine")=false:=by simpa using hcall.1
        have hbd:fn.body.isNone=false:=by
         simp_all
        have ha:args.map a.eval=(aC J vs).toArray:=by apply Array.ext';simp[e3]
        have hcat:(aC J vs).toArray++(aC J caps).toArray=(aC J (vs++caps)).toArray:=by simp[dN]
        simp only[execOp,resolve,e1,den,sN hlo,Deferred.ofValue,ha,Sem.run_bind,Sem.run_pure,Result.andThen_ok,invoke,callFunc,run_program,hfn,hnm,Bool.false_eq_true,if_false,hbd,
         Array.empty_append,hcat]
       ·simp at hcall
      ·simp at h
     ·simp at h
    ·simp at h
   ·simp at h
  |builtin b=>
   simp only at h;split at h
   ·rename_i vs has;obtain⟨e3,e4⟩:=cZ hF hg has;have ha:args.map a.eval=(aC J vs).toArray:=by apply Array.ext';simp[e3]
    split at h
    ·obtain⟨rfl,o',e',l',rfl⟩:=CC h;have hn:¬K nid:=by simpa using hfr 0 (by simp)
     obtain⟨w',ρ',d1,d2⟩:=Be (ty:=type) hC.z hH h hq hn;refine⟨.inl ⟨_,w',?_,ρ',d2,rfl,.inr ⟨Nat.le_refl _,by simp⟩⟩,fun k hk=>by simp at hk;subst hk;simp[ae]⟩
     have d1':(Builtin.append_ argTypes type (aC J vs).toArray).run C.P w= .ok (den ρ' (.sa nid)) w':=by simpa using d1
     simp only[execOp,resolve,Sem.run_bind,Sem.run_pure,Result.andThen_ok,invoke,builtin,ha];rw[d1'];rfl
    rename_i hnb;clear hnb;cases hb:sY C res b argTypes.toList vs with
    |none=>simp[hb]at h
    |some r=>
     simp only[hb,Option.map_some,NN,NO]at h;obtain⟨rfl,rfl,rfl⟩:=h;unfold sY at hb;split at hb
     ·rename_i t ts y hts;have hty:argTypes=(t::ts).toArray:=by rw[<-hts]
      obtain⟨f1,f2⟩:=BN hH hb hq ts type;refine pureY (y:=r.2) ?_ f2 rfl rfl;simp only[execOp,resolve,Sem.run_bind,Sem.run_pure,Result.andThen_ok,invoke,builtin,ha,aC,hty];rw[f1];rfl
     ·rename_i y z;cases hm:IP y z with
      |none=>simp[hm]at hb
      |some m=>
       simp only[hm,Option.map_some,NN]at hb;subst hb;unfold IP at hm;split at hm
       ·rename_i k a1 k' b1 h1 h2;split at hm<;>simp only[NN,reduceCtorEq]at hm
        rename_i hk;have hk:=NR.1 hk;subst hk;subst hm;obtain⟨g1,g2⟩:=bj (J:=J) h1 e4.1;obtain⟨g3,g4⟩:=bj (J:=J) h2 e4.2.1;refine pureY (y:= .it k (nu a1 b1)) ?_ (show bE k (nu a1 b1) by unfold nu;split<;>assumption) rfl rfl
        simp[den,execOp,resolve,invoke,builtin,ha,aC,g1,g3,Builtin.min_,Builtin.min2,nu]
       ·simp at hm
     ·rename_i y z;cases hm:JY y z with
      |none=>simp[hm]at hb
      |some m=>
       simp only[hm,Option.map_some,NN]at hb;subst hb;unfold JY at hm;split at hm
       ·rename_i k a1 k' b1 h1 h2;split at hm<;>simp only[NN,reduceCtorEq]at hm
        rename_i hk;have hk:=NR.1 hk;subst hk;subst hm;obtain⟨g1,g2⟩:=bj (J:=J) h1 e4.1;obtain⟨g3,g4⟩:=bj (J:=J) h2 e4.2.1;refine pureY (y:= .it k (imax a1 b1)) ?_ (show bE k (imax a1 b1) by unfold imax;split<;>assumption) rfl rfl
        simp[den,execOp,resolve,invoke,builtin,ha,aC,g1,g3,Builtin.max_,Builtin.max2,imax]
       ·simp at hm
     ·simp at hb
   ·simp at h
end
end Go.Sx
namespace Go.Sx
open Go.RowKit (Below)
def aU:List Nat->List ah->List ah
 | [],l=>l
 |t::ts,l=>aU ts (aL l t .gone)
theorem aH (l:List ah) (i:Nat) (r:ah):(aL l i r).length=l.length:=by rw[mz];simp
theorem fz:∀(ts:List Nat) (l:List ah),(aU ts l).length=l.length
 | [],_=>rfl
 |t::ts,l=>by simp only[aU];rw[fz ts,aH]
theorem nA:∀(ts:List Nat) (l:List ah) (i:Nat),(∀t∈ts,t<l.length)->ae (aU ts l) i=if i∈ts then .gone else ae l i
 | [],l,i,_=>by simp[aU]
 |t::ts,l,i,h=>by
  simp only[aU];rw[nA ts _ i fun u hu=>by rw[aH];exact h u (by simp[hu]),aF _ _ _ _ (h t (by simp))]
  by_cases e:i∈ts
  ·simp[e]
  ·by_cases e':i=t
   ·simp[e']
   ·simp[e,e']
theorem au.kR {J ρ':Env} {fps:Nat->Nat->Prop} {res:List ah} {w0:World} {F0:Nat->Prop} {w w':World} (h:au J fps res (known res) w0 F0 w) (ts:List Nat) (r:ah) (ms:List ah) (fp:Nat->Prop)
  (hms:∀m∈ms,∃j,m= .gen j) (hts:∀t∈ts,known res t) (hr:r≠ .yet) (hag:Env.agree (known res) J ρ')
  (hh:r.holds (known (aU ts res++r::ms)) ρ' res.length fp w0 F0 w') (hfp:∀b,fp b->(∃t∈ts,fps t b)\/(w.heap.size<=b/\b<w'.heap.size))
  (hos:w'.os=w.os) (htape:w'.tape=w.tape) (hout:w'.output=w.output) (hsize:w.heap.size<=w'.heap.size)
  (hsame:∀b,b<w.heap.size->(∀t∈ts,¬fps t b)->w'.heap[b]? =w.heap[b]?):
  ∃fps',au ρ' fps' (aU ts res++r::ms) (known (aU ts res++r::ms)) w0 F0 w'/\Env.agree (known res) J ρ'/\(∀i,known res i->known (aU ts res++r::ms) i)/\known (aU ts res++r::ms) res.length:=by
 have hlt:∀t∈ts,t<res.length:=fun t ht=>aj (hts t ht)
 have hget:∀i,ae (aU ts res++r::ms) i=if i<res.length then(if i∈ts then .gone else ae res i)else if i=res.length then r else ae ms (i-res.length-1):=by
  intro i;rw[aP,fz];by_cases hi:i<res.length
  ·rw[NX hi,NX hi,nA ts res i hlt]
  ·rw[NW hi,NW hi];by_cases e:i=res.length
   ·subst e;simp[ae]
   ·rw[NW e];have:∃k,i-res.length=k+1:=⟨i-res.length-1,by omega⟩
    obtain⟨k,hk⟩:=this;rw[hk];simp[ae]
 have hmget:∀k,ae ms k= .yet\/∃j,ae ms k= .gen j:=fun k=>by
  rw[gH,NV];cases hm:ms[k]? with
  |none=>exact .inl rfl
  |some m=>
   obtain⟨j,rfl⟩:=hms m (List.mem_of_getElem? hm);exact .inr ⟨j,rfl⟩
 have hmono:∀i,known res i->known (aU ts res++r::ms) i:=fun i hi=>by
  grind[known,aj]
 have hnew:known (aU ts res++r::ms) res.length:=by
  simp_all[known]
 obtain⟨fps',g⟩:=h.turn (res':=aU ts res++r::ms) (K':=known (aU ts res++r::ms)) (fun i=>i∈ts) (fun i=>i∈ts\/res.length<=i) (fun i b=>i=res.length/\fp b)
  (fun i hi=>hi) hmono hag (fun i hi hb=>by
   have hi':=hi;unfold known at hi';rw[hget]at hi';have h1:i∉ts:=fun e=>hb (.inl e)
   have hl:i<res.length:=by
    rcases Nat.lt_or_ge i res.length with h|h
    ·exact h
    ·exact absurd (.inr h) hb
   rw[NX hl,NW h1]at hi';exact⟨hi',h1,by rw[hget,NX hl,NW h1]⟩)
  (fun i hi hb=>by
   by_cases e:i=res.length
   ·subst e;refine⟨?_,fun b hf=>?_⟩
    ·rw[hget,NW (by omega),NX rfl]
     have:(fun b=>res.length=res.length/\fp b)=fp:=by funext b;simp
     rw[this];exact hh
    ·rcases hfp b hf.2 with⟨t,ht,hft⟩|hn
     ·exact .inl ⟨t,ht,hts t ht,hft⟩
     ·exact .inr hn
   ·refine⟨?_,fun b hf=>absurd hf.1 e⟩
    rw[hget];by_cases hl:i<res.length
    ·rw[NX hl,NX (hb.resolve_right (by omega))]
     trivial
    ·rw[NW hl,NW e];rcases hmget (i-res.length-1)with h|⟨j,h⟩<;>rw[h]<;>trivial)
  (fun i j b _ _ hne hf hf'=>hne (hf.1.trans hf'.1.symm))
  hos htape hout hsize (fun b hb hno=>hsame b hb fun t ht=>hno t ht (hts t ht))
 exact⟨fps',g,hag,hmono,hnew⟩
def ep (n b:Nat):Prop:=n+1<=maxLen/\(n+1)*b<=140737488355328
mutual
def Mg:V->Bool
 | .cb _| .bo _| .ci _ _| .it _ _| .bt _| .st _| .key _| .sl _| .by _| .ob _=>true
 | .ag l=>KC l
 |_=>false
def KC:List V->Bool
 | []=>true
 |x::l=>Mg x&&KC l
end
mutual
theorem yH {K K':Nat->Prop}:∀v,Mg v=true->ok K v->ok K' v
 | .ag l,h,hk=>⟨EY l (by simpa only[Mg]using h) hk.1,hk.2⟩
 | .cb _,_,h| .bo _,_,h| .ci _ _,_,h| .it _ _,_,h| .bt _,_,h| .st _,_,h| .key _,_,h| .sl _,_,h| .by _,_,h| .ob _,_,h=>h
 | .nl _,h,_| .lp _ _,h,_| .lx _ _ _ _ _ _,h,_| .sc _ _ _,h,_| .so _ _,h,_| .ap _ _ _ _,h,_| .sa _,h,_| .op _ _,h,_| .yl _,h,_| .fn _ _,h,_| .ic _ _,h,_| .tp _,h,_| .mp _,h,_
 | .ch _ _ _ _,h,_| .ax _ _ _ _ _ _ _ _,h,_| .bs _ _ _,h,_| .ks _ _ _ _ _,h,_| .vw _ _ _ _,h,_=>by simp[Mg]at h
theorem EY {K K':Nat->Prop}:∀l,KC l=true->cg K l->cg K' l
 | [],_,_=>trivial
 |x::l,h,hk=>by
  simp only[KC,NP]at h;exact⟨yH x h.1 hk.1,EY l h.2 hk.2⟩
end
def ui (n:Nat) (g:Nat->V) (v:V) (i:Nat):V:=match Nat.beq i n with
 |true=>v
 |false=>g i
def AB (l:TL) (v:V):Option TL:=
 match l with
 | .ob l=>match v with
   | .ob o=>some (.ob (bg l o))
   |_=>none
 | .key l=>match v with
   | .key k=>some (.key (bg l k))
   |_=>none
 | .it k l=>match toInt v with
   |some (k',n)=>if k==k' then some (.it k (bg l n))else none
   |none=>none
 | .bo l=>match toBool v with
   |some b=>some (.bo (bg l b))
   |none=>none
 | .st l=>match v with
   | .st s=>some (.st (bg l s))
   |_=>none
 | .fn n g=>match v with
   | .ag a=>if KC a then some (.fn (n+1) (ui n g (.ag a)))else none
   |_=>none
 | .qs n l=>match v with
   | .ag a=>match fC a with
     |some x=>if x.length==n then some (.qs n (bg l (aS x)))else none
     |none=>none
   |_=>none
def z7 (v:V):Option TL:=
 match v with
 | .ag a=>match fC a with
   |some x=>some (.qs x.length [aS x])
   |none=>if KC a then some (.fn 1 fun _=> .ag a)else none
 | .ob o=>some (.ob [o])
 | .key k=>some (.key [k])
 | .st s=>some (.st [s])
 |_=>match toInt v with
  |some (k,n)=>some (.it k [n])
  |none=>match toBool v with
   |some b=>some (.bo [b])
   |none=>none
def ti (K:Nat->Prop) (n:Nat) (g:Nat->V) (v:V) (l':TL):Prop:=
 l'.len=n+1/\(∀i,i<n->l'.get i=g i)/\(∀J,cells J (l'.get n)=cells J v)/\(ok K v->ok (fun _=>False) (l'.get n))/\aZ (l'.get n)=false/\bJ (l'.get n)=bJ v
theorem lb {α:Type} (l:List α) (x d:α):(∀i,i<l.length->aq (bg l x) i d=aq l i d)/\aq (bg l x) l.length d=x:=by
 grind[aq,bg]
theorem Ib {K:Nat->Prop} {Q:List (List Int)} {j:Nat}:∀(m c:Nat),(∀c,bE .i64 (aK Q j c))->cg K (qL Q j c m)/\pM (qL Q j c m)/\mO (qL Q j c m)=m/\∀J,ay J (qL Q j c m)=(List.range m).map fun y=>i64 (aK Q j (c+y))
 |0,c,_=>⟨trivial,trivial,rfl,fun J=>rfl⟩
 |m+1,c,h=>by
  obtain⟨a,b,b',d⟩:=Ib (K:=K) m (c+1) h;refine⟨⟨h c,a⟩,⟨trivial,b⟩,by simp only[qL,mO,b',bJ];omega,fun J=>?_⟩
  have e:ay J (qL Q j c (m+1))=i64 (aK Q j c)::ay J (qL Q j (c+1) m):=rfl;rw[e,d,List.range_succ_eq_map,List.map_cons,List.map_map];show i64 (aK Q j c)::_=i64 (aK Q j c)::_
  congr 1
  refine List.map_congr_left fun y _=>?_
  simp only[Function.comp,Nat.add_assoc,Nat.succ_eq_add_one,Nat.add_comm 1 y]
theorem pL {Q:List (List Int)} {j:Nat} (J:Env):∀(m c:Nat),ay J (qL Q j c m)=(List.range m).map fun y=>i64 (aK Q j (c+y))
 |0,c=>rfl
 |m+1,c=>by
  have e:ay J (qL Q j c (m+1))=i64 (aK Q j c)::ay J (qL Q j (c+1) m):=rfl;rw[e,pL J m (c+1),List.range_succ_eq_map,List.map_cons,List.map_map];show i64 (aK Q j c)::_=i64 (aK Q j c)::_
  congr 1
  refine List.map_congr_left fun y _=>?_
  simp only[Function.comp,Nat.add_assoc,Nat.succ_eq_add_one,Nat.add_comm 1 y]
theorem se {Q Q':List (List Int)} {j j':Nat} (h:∀c,aK Q j c=aK Q' j' c):∀(m c:Nat),qL Q j c m=qL Q' j' c m
 |0,c=>rfl
 |m+1,c=>by simp only[qL,h c,se h m (c+1)]
theorem yY {Q:List (List Int)} {j:Nat}:∀(m c:Nat),mO (qL Q j c m)=m
 |0,c=>rfl
 |m+1,c=>by simp only[qL,mO,yY m (c+1),bJ];omega
theorem lT {J:Env}:∀{xl:List V} {l:List (Bool×Int)},fC xl=some l->ay J xl=(aS l).map i64/\(aS l).length=l.length/\mO xl=l.length
 | [],l,h=>by simp only[fC,NN]at h;subst h;exact⟨rfl,rfl,rfl⟩
 |x::xl,l,h=>by
  simp only[fC]at h;split at h
  case h_2=>simp at h
  rename_i k n hn;split at h
  case isFalse=>simp at h
  rename_i hk;have hk:=NR.1 hk;subst hk;split at h
  case h_2=>simp at h
  rename_i m hm;simp only[NN]at h;subst h;obtain⟨a,b,c⟩:=lT (J:=J) hm;obtain⟨c1,c2,c3⟩:=gd (K:=fun _=>True) hn
  have e:(den J x).cells.toList= [i64 n]:=(c1 J).symm;refine⟨by simp only[ay,e,a,aS];rfl,by simp[aS,b],by simp only[mO,c,<-c3,bJ,List.length_cons];omega⟩
theorem xf {K:Nat->Prop} {l:List (List Int)} {n:Nat} {a:List V} {x:List (Bool×Int)} (hx:fC a=some x) (hn:x.length=n):ti K l.length (TL.qs n l).get (.ag a) (.qs n (bg l (aS x))):=by
 have h1:∀i,i<l.length->∀c,aK (bg l (aS x)) i c=aK l i c:=fun i hi c=>by
  have e:(l++ [aS x]).getD i []=l.getD i []:=by rw[NV,List.getElem?_append_left hi,<-NV]
  unfold aK bg;rw[e]
 have h2:∀c,aK (bg l (aS x)) l.length c=(aS x).getD c 0:=fun c=>by
  have e:(l++ [aS x]).getD l.length []=aS x:=by rw[NV,List.getElem?_append_right (Nat.le_refl _),Nat.sub_self];rfl
  unfold aK bg;rw[e]
 have hl:(TL.qs n l).len=l.length:=rfl;refine⟨by simp[TL.len,aa,bg],fun i hi=>?_,fun J=>?_,fun hk=>?_,rfl,?_⟩
 ·show V.ag (qL (bg l (aS x)) i 0 n)=V.ag (qL l i 0 n)
  rw[se (h1 i hi)]
 ·obtain⟨b,c,_⟩:=lT (J:=J) hx;show cells J (.ag (qL (bg l (aS x)) l.length 0 n))=cells J (.ag a)
  rw[bx,bx,b,pL];apply List.ext_getElem (by simp[c,hn])
  intro y y1 y2;have hy:y<(aS x).length:=by simpa using y2
  simp only[List.getElem_map,List.getElem_range,Nat.zero_add,h2];rw[NV,List.getElem?_eq_getElem hy];rfl
 ·have hin:=rV hx hk.1
  have:∀c,bE .i64 (aK (bg l (aS x)) l.length c):=fun c=>by
   rw[h2,NV];cases hc:(aS x)[c]? with
   |none=>simp[bE]
   |some y=>exact hin y (List.mem_of_getElem? hc)
  obtain⟨o1,o2,_⟩:=Ib (K:=fun _=>False) (Q:=bg l (aS x)) (j:=l.length) n 0 this
  exact⟨o1,o2⟩
 ·obtain⟨_,_,c⟩:=lT (J:=Env.zero) hx;show mO (qL (bg l (aS x)) l.length 0 n)=mO a
  rw[yY,c,hn]
theorem yO {K:Nat->Prop} {l l':TL} {v:V} (h:AB l v=some l'):ti K l.len l.get v l':=by
 unfold AB at h;cases l with
 |fn n g=>
  cases v<;>simp only[reduceCtorEq]at h
  rename_i a;split at h<;>simp only[NN,reduceCtorEq]at h
  rename_i hc;subst h;have e:(TL.fn (n+1) (ui n g (.ag a))).get n= .ag a:=by show ui n g (.ag a) n=_;have hb:Nat.beq n n=true:=(by simp);unfold ui;rw[hb]
  refine⟨rfl,fun i hi=>?_,fun J=>?_,fun hk=>?_,?_,?_⟩
  ·show ui n g (.ag a) i=g i
   have hi:i<n:=hi
   have:Nat.beq i n=false:=by cases hb:Nat.beq i n with
    |false=>rfl
    |true=>have:=Nat.eq_of_beq_eq_true hb;omega
   unfold ui;rw[this]
  all_goals simp only[TL.len,e]
  ·exact yH (.ag a) hc hk
  ·rfl
 |ob l=>
  cases v<;>simp only[NN,reduceCtorEq]at h
  subst h;rename_i o;obtain⟨a,b⟩:=lb l o free;exact⟨by simp[TL.len,aa,bg],fun i hi=>congrArg V.ob (a i hi),fun J=>by simp only[TL.get,TL.len,aa,b],fun hk=>by simp only[TL.get,TL.len,aa,b];exact hk,rfl,rfl⟩
 |key l=>
  cases v<;>simp only[NN,reduceCtorEq]at h
  subst h;rename_i o;obtain⟨a,b⟩:=lb l o void;exact⟨by simp[TL.len,aa,bg],fun i hi=>congrArg V.key (a i hi),fun J=>by simp only[TL.get,TL.len,aa,b],fun hk=>by simp only[TL.get,TL.len,aa,b];exact hk,rfl,rfl⟩
 |it k l=>
  simp only at h;split at h
  ·rename_i k' n hn;split at h<;>simp only[NN,reduceCtorEq]at h
   rename_i hk;have hk:=NR.1 hk;subst hk;subst h;obtain⟨a,b⟩:=lb l n 0;obtain⟨c1,c2,c3⟩:=gd (K:=K) hn;exact⟨by simp[TL.len,aa,bg],fun i hi=>congrArg (V.it k) (a i hi),fun J=>by simp only[TL.get,TL.len,aa,b];exact c1 J,fun hk=>by simp only[TL.get,TL.len,aa,b];exact c2 hk,rfl,c3⟩
  ·simp at h
 |bo l=>
  simp only at h;split at h<;>simp only[NN,reduceCtorEq]at h
  rename_i b hb;subst h;obtain⟨a,b'⟩:=lb l b false;obtain⟨c1,c3⟩:=gP hb;exact⟨by simp[TL.len,aa,bg],fun i hi=>congrArg V.bo (a i hi),fun J=>by simp only[TL.get,TL.len,aa,b'];exact c1 J,fun _=>trivial,rfl,c3⟩
 |qs n l=>
  cases v<;>simp only[reduceCtorEq]at h
  rename_i a;split at h
  case h_2=>simp at h
  rename_i x hx;split at h<;>simp only[NN,reduceCtorEq]at h
  rename_i hn;subst h;exact xf hx (NR.1 hn)
 |st l=>
  cases v<;>simp only[NN,reduceCtorEq]at h
  subst h;rename_i o;obtain⟨a,b⟩:=lb l o ByteArray.empty;exact⟨by simp[TL.len,aa,bg],fun i hi=>congrArg V.st (a i hi),fun J=>by simp only[TL.get,TL.len,aa,b],fun hk=>by simp only[TL.get,TL.len,aa,b];exact hk,rfl,rfl⟩
theorem zj {K:Nat->Prop} {l':TL} {v:V} (h:z7 v=some l') (g:Nat->V):ti K 0 g v l':=by
 unfold z7 at h;split at h
 ·split at h
  ·rename_i a x hx;simp only[NN]at h;subst h;have:=xf (K:=K) (l:= []) hx rfl;exact⟨this.1,fun i hi=>by omega,this.2.2⟩
  split at h<;>simp only[NN,reduceCtorEq]at h
  rename_i a _ _ hc;subst h;exact⟨rfl,fun i hi=>by omega,fun J=>rfl,fun h=>yH (.ag a) hc h,rfl,rfl⟩
 ·simp only[NN]at h;subst h;exact⟨rfl,fun i hi=>by omega,fun J=>rfl,fun h=>h,rfl,rfl⟩
 ·simp only[NN]at h;subst h;exact⟨rfl,fun i hi=>by omega,fun J=>rfl,fun h=>h,rfl,rfl⟩
 ·simp only[NN]at h;subst h;exact⟨rfl,fun i hi=>by omega,fun J=>rfl,fun h=>h,rfl,rfl⟩
 ·split at h
  ·rename_i k n hn;simp only[NN]at h;subst h;obtain⟨c1,c2,c3⟩:=gd (K:=K) hn;exact⟨rfl,fun i hi=>by omega,fun J=>c1 J,fun h=>c2 h,rfl,c3⟩
  ·split at h<;>simp only[NN,reduceCtorEq]at h
   rename_i b hb;subst h;obtain⟨c1,c3⟩:=gP hb;exact⟨rfl,fun i hi=>by omega,fun J=>c1 J,fun _=>trivial,rfl,c3⟩
theorem ti.cells {K:Nat->Prop} {n:Nat} {g:Nat->V} {v:V} {l':TL} (h:ti K n g v l'):l'.cells=((List.range n).flatMap fun j=>Sx.cells Env.zero (g j))++Sx.cells Env.zero v:=by
 obtain⟨h1,h2,h3,_⟩:=h;unfold TL.cells;rw[h1,List.range_succ,List.flatMap_append];congr 1
 ·rw[List.flatMap_def,List.flatMap_def];congr 1
  exact List.map_congr_left fun i hi=>by rw[h2 i (List.mem_range.1 hi)]
 ·simp[h3]
section
variable {C:Ctx} {J:Env} {fps:Nat->Nat->Prop} {res:List ah} {w0 w:World} {F0:Nat->Prop}
theorem Fi {K:Nat->Prop} {t ty e b n bty cap:Nat} {inf:TypeInfo} {z c v:V} {xv:Value} {xs:List Value} (ht:C.P.underlying t=some (.slice e)) (hZ:C.Z e=some z) (hC:C.wO) (hi:C.P.info? e=some inf) (hsz:0<bJ z)
  (hown:w.ownsRow 0 e (bJ z) xv n xs) (hb:w.heap[b]? =some (.cells (cells J c).toArray bty (0,0))) (hok:ok K c) (hct:aZ c=false) (hg:cR 8 c 0 (bJ z) (ei z)=some v) (hq:ep n inf.bytes):
  ∃v' w',(Builtin.append_ #[t,t] ty #[xv,.slice (some ⟨b,0,none⟩) 1 cap]).run C.P w= .ok v' w'/\w'.ownsRow 0 e (bJ z) v' (n+1) (xs++cells J v)/\w.grownBy w' xv.ownBlock/\∀b',v'.ownBlock=some b'->xv.ownBlock=some b'\/w.heap.size<=b':=by
 obtain⟨inf',i1,i2,i3,i4,i5⟩:=hC e z hZ;rw[hi]at i1;simp only[NN]at i1;subst i1;obtain⟨⟨p,q,e1,e2⟩,e3,e4,e5,e6⟩:=bF J 8 c 0 _ _ v hok hct hg;have hp:p= []:=List.length_eq_zero_iff.1 e2.symm;subst hp;simp only[List.nil_append]at e1;have hlv:=ar J v e5;have hzs:(den Env.zero z).cells.size=bJ z:=by rw[<-ar Env.zero z i3];simp[cells]
 have hnl:(cells J v).length=1*bJ z:=by rw[hlv,e3];simp
 have hnc:∀j u,(cells J v)[j]? =some u->w.cell? ((⟨b,0,none⟩:Addr).add j)=some u:=fun j u hu=>by
  rw[add_lit,Nat.zero_add,cell_of_row w b j _ _ _ hb];have hj:=(List.getElem?_eq_some_iff.1 hu).1;simp only[List.getElem?_toArray,e1];rw[List.getElem?_append_left hj];exact hu
 have hone:=cU J v e5 e6;have hown0:=hown;rcases hown.2 with⟨rfl,rfl⟩|⟨g,cap',cur,rfl,h2,h3,h4,h5,h6,h7⟩
 ·have hx:xs= []:=List.length_eq_zero_iff.1 (by have:=hown.1;simpa using this)
  subst hx
  obtain⟨v',w',g1,g2,g3,_⟩:=run_append_own (P:=C.P) w w.heap.size t ty e inf (den Env.zero z) (bJ z) inf.bytes ht hi (i2 Env.zero) i5 rfl hzs hsz (.slice none 0 0) 0 [] (World.ownsRow_nil w _ e _)
   ⟨b,0,none⟩ 1 cap (cells J v) hnl hnc hone hq.1 hq.2 (Nat.le_refl _)
  exact⟨v',w',g1,⟨g2.1,g2.2.imp id fun⟨g,cp,cu,a1,a2,a3⟩=>⟨g,cp,cu,a1,Nat.zero_le _,a3⟩⟩,g3,fun b' hb'=> .inr (g2.lt b' hb').1⟩
 ·by_cases hroom:n+1<=cap'
  ·obtain⟨w',g1,g2,g3⟩:=run_append_fits (P:=C.P) w 0 t ty e inf (bJ z) ht hi i5 g n cap' xs hown0 ⟨b,0,none⟩ 1 cap (cells J v) hnl hnc hone hroom;exact⟨_,w',g1,g2,g3,fun b' hb'=> .inl hb'⟩
  ·have holds:∀j u,xs[j]? =some u->w.cell? ((⟨g,0,none⟩:Addr).add j)=some u:=fun j u hu=>by
    rw[add_lit,Nat.zero_add,hown0.cellAt j (by rw[<-hown0.1];exact(List.getElem?_eq_some_iff.1 hu).1)];exact hu
   obtain⟨v',w',g1,g2,g3⟩:=run_append_arg_grows (P:=C.P) w t ty e inf (den Env.zero z) (bJ z) inf.bytes ht hi (i2 Env.zero) i5 rfl hzs hsz ⟨g,0,none⟩ n cap' xs hown0.1 holds ⟨b,0,none⟩ 1 cap (cells J v) hnl hnc (by omega) hq.1 hq.2
   exact⟨v',w',g1,⟨g2.1,g2.2.imp id fun⟨g,cp,cu,a1,a2,a3⟩=>⟨g,cp,cu,a1,Nat.zero_le _,a3⟩⟩,⟨g3.os,g3.tape,g3.output,g3.size,fun k hk _=>g3.block k hk (by simp)⟩,fun b' hb'=> .inr (g2.lt b' hb').1⟩
def x6 (res:List ah) (v:V):Option (Nat×Obj):=
 match v with
 | .lp p 0=>match ae res p with
   | .blk _ (.ob o)=>some (p,o)
   |_=>none
 |_=>none
def Jd (C:Ctx) (res:List ah) (t:Nat) (x y:V):Option (Option Prop×V×List ah):=
 match C.P.underlying t with
 |some (.slice e)=>match C.Z e,C.P.info? e with
  |some z,some inf=>match y with
   | .sc k 1 _=>match ae res k with
     | .blk _ c=>match cR 8 c 0 (bJ z) (ei z)with
       |some v=>if Nat.blt 0 (bJ z)then
        match x with
        | .nl (.slice none 0 0)=>match x6 res v with
          |some (p,o)=>if bJ z==1 then some (some (ep 0 inf.bytes),.sa res.length,aU [p] res++ [.obs e (res.length+1) [o],.gen res.length])else none
          |none=>(z7 v).map fun l=>(some (ep 0 inf.bytes),.sa res.length,aU [] res++ [.arr (some e) (bJ z) l])
        | .sa j=>match ae res j with
          | .arr (some e') esz l=>if e'==e&&esz==bJ z then(AB l v).map fun l'=>(some (ep l.len inf.bytes),.sa res.length,aU [j] res++ [.arr (some e) (bJ z) l'])else none
          | .obs e' _ L=>match x6 res v with
            |some (p,o)=>if e'==e&&bJ z==1 then some (some (ep (aa L) inf.bytes),.sa res.length,aU [j,p] res++ [.obs e (res.length+1) (bg L o),.gen res.length])else none
            |none=>none
          |_=>none
        |_=>none
        else none
       |none=>none
     |_=>none
   |_=>none
  |_,_=>none
 |_=>none
def Env.eW (J:Env) (i:Nat) (a:Addr) (n cap:Nat) (ob:Nat->Nat):Env:=
 {num:=J.num,cap:=fun j=>if j=i then cap else J.cap j,adr:=fun j=>if j=i then a else J.adr j,sa:=fun j=>if j=i then some a else J.sa j,sn:=fun j=>if j=i then n else J.sn j,
  ob:=fun j=>if j=i+1 then ob else J.ob j}
theorem qk {N:Nat->Prop} {i:Nat} {a:Addr} {n cap:Nat} {ob:Nat->Nat} (h:¬N i) (h':¬N (i+1)):Env.agree N J (J.eW i a n cap ob):=fun j hj=>by
 grind[Env.eW]
theorem wB (i:Nat) (a:Addr) (n cap:Nat) (ob:Nat->Nat):(J.eW i a n cap ob).sl i= .slice (some a) n cap:=by simp[Env.sl,Env.eW]
theorem AF {K:Nat->Prop} {w':World} {e esz n:Nat} {g:Nat->V} {v:V} {v':Value} {l':TL} {ts:List Nat} (h:au J fps res (known res) w0 F0 w) (hts:∀t∈ts,known res t)
  (hadd:ti K n g v l') (hokv:ok K v) (hvs:bJ v=esz) (hold:∀j,j<n->ok (fun _=>False) (g j)/\aZ (g j)=false/\bJ (g j)=esz)
  (hown:w'.ownsRow 0 e esz v' (n+1) (((List.range n).flatMap fun j=>cells Env.zero (g j))++cells J v)) {xv:Value} (hgr:w.grownBy w' xv.ownBlock)
  (hx:∀b,xv.ownBlock=some b->∃t∈ts,fps t b) (hnew:∀b,v'.ownBlock=some b->xv.ownBlock=some b\/w.heap.size<=b) (hm:n+1<=9223372036854775807):
  ∃ρ' fps',v'=den ρ' (.sa res.length)/\au ρ' fps' (aU ts res++ [.arr (some e) esz l']) (known (aU ts res++ [.arr (some e) esz l'])) w0 F0 w'/\Env.agree (known res) J ρ'/\
   (∀i,known res i->known (aU ts res++ [.arr (some e) esz l']) i)/\known (aU ts res++ [.arr (some e) esz l']) res.length:=by
 obtain⟨a1,a2,a3,a4,a5,a6⟩:=hadd;have hown':=hown;rcases hown.2 with⟨_,h0⟩|⟨b,cap,cur,rfl,_,hb,_⟩
 ·omega
 have hnk:¬known res res.length:=fun hk=>by have:=aj hk;omega
 have hnk':¬known res (res.length+1):=fun hk=>by have:=aj hk;omega
 have hcz:cells J v=cells Env.zero v:=by
  rw[<-a3 J,<-a3 Env.zero];exact bd (N:=fun _=>False) (fun _ h=>h.elim) _ (a4 hokv)
 have hblt:b<w'.heap.size:=(Array.getElem?_eq_some_iff.1 hb).1
 obtain⟨fps',g1,g2,g3,g4⟩:=h.kR (ρ':=J.eW res.length ⟨b,0,none⟩ (n+1) cap (fun _=>0)) (w':=w') ts (.arr (some e) esz l') [] (fun x=>x=b) (by simp) hts (by simp) (qk hnk hnk')
  (by
   refine⟨fun j hj=>?_,by simp[Env.eW,a1],by rw[a1];exact hm,fun a ha=>by simp[Env.eW]at ha⊢;exact ha.symm,fun _=>by simp[Env.eW],fun _=>by simp[Env.eW],.inr ⟨e,fun e' he=>by simpa using he.symm,?_,fun a ha=>by simp[Env.eW]at ha;rw[<-ha]⟩⟩
   ·grind
   ·rw[wB,a1,ti.cells (K:=K) ⟨a1,a2,a3,a4,a5,a6⟩,<-hcz];exact hown')
  (fun x hx'=>by
   subst hx';rcases hnew _ rfl with h1|h1
   ·exact .inl (hx _ h1)
   ·exact .inr ⟨h1,hblt⟩)
  hgr.os hgr.tape hgr.output hgr.size (fun x hxl hno=>hgr.block x hxl fun hh=>by
   obtain⟨t,ht,hft⟩:=hx x hh.symm;exact hno t ht hft)
 exact⟨_,fps',by simp[den,Env.eW],g1,g2,g3,g4⟩
theorem Ai {w':World} {e p bty:Nat} {L:List Obj} {o:Obj} {v':Value} {ts:List Nat} {ob:Nat->Nat} (h:au J fps res (known res) w0 F0 w) (hts:∀t∈ts,known res t)
  (hp:p∈ts) (hrp:ae res p= .blk bty (.ob o)) (hL:∀x∈L,x.wf)
  (hobs:∀j,j<L.length->(∃t∈ts,fps t (ob j))/\∃t,w.heap[ob j]? =some (.cells (bQ (L.getD j free)).toArray t (0,0)))
  (hown:w'.ownsRow 0 e 1 v' (L.length+1) (((List.range L.length).map fun j=>Value.pointer (some ⟨ob j,0,none⟩))++cells J (.lp p 0))) {xv:Value} (hgr:w.grownBy w' xv.ownBlock)
  (hx:∀b,xv.ownBlock=some b->(∃t∈ts,fps t b)/\(∀j,j<L.length->ob j≠b)/\J.num p≠b) (hnew:∀b,v'.ownBlock=some b->xv.ownBlock=some b\/w.heap.size<=b) (hm:L.length+1<=9223372036854775807):
  ∃ρ' fps',v'=den ρ' (.sa res.length)/\au ρ' fps' (aU ts res++ [.obs e (res.length+1) (bg L o),.gen res.length]) (known (aU ts res++ [.obs e (res.length+1) (bg L o),.gen res.length])) w0 F0 w'/\Env.agree (known res) J ρ'/\
   (∀i,known res i->known (aU ts res++ [.obs e (res.length+1) (bg L o),.gen res.length]) i)/\known (aU ts res++ [.obs e (res.length+1) (bg L o),.gen res.length]) res.length:=by
 have hown':=hown;rcases hown.2 with⟨_,h0⟩|⟨b,cap,cur,rfl,_,hb,_⟩
 ·omega
 have hnk:¬known res res.length:=fun hk=>by have:=aj hk;omega
 have hnk':¬known res (res.length+1):=fun hk=>by have:=aj hk;omega
 have hblt:b<w'.heap.size:=(Array.getElem?_eq_some_iff.1 hb).1;have hkp:=hts p hp;have hhp:=h.holds p hkp;rw[hrp]at hhp;obtain⟨p1,_,p3,p4⟩:=hhp;have p1:o.wf:=p1;rw[eA]at p4
 have fF:∀x y,w.heap[x]? =some y->(∀b,xv.ownBlock=some b->x≠b)->w'.heap[x]? =some y:=fun x y hy hne=>by
  rw[hgr.block x (Array.getElem?_eq_some_iff.1 hy).1 fun hh=>hne x hh.symm rfl];exact hy
 have hob:∀j,j<L.length+1->∃y,(if j<L.length then ob j else J.num p)=y/\(∃t∈ts,fps t y)/\∃t,w'.heap[y]? =some (.cells (bQ ((bg L o).getD j free)).toArray t (0,0)):=by
  grind[bg,free]
 have hlen:(bg L o).length=L.length+1:=by simp[bg]
 have hgk:known (aU ts res++ [.obs e (res.length+1) (bg L o),.gen res.length]) (res.length+1):=by
  unfold known;rw[aP,fz,NW (by omega),show res.length+1-res.length=1 by omega];simp[ae]
 obtain⟨fps',g1,g2,g3,g4⟩:=h.kR (ρ':=J.eW res.length ⟨b,0,none⟩ (L.length+1) cap (fun j=>if j<L.length then ob j else J.num p)) (w':=w') ts (.obs e (res.length+1) (bg L o)) [.gen res.length]
  (fun x=>x=b\/∃j,j<L.length+1/\x=if j<L.length then ob j else J.num p) (by simp) hts (by simp) (qk hnk hnk')
  (by
   refine⟨hgk,fun x hx=>?_,by simp[Env.eW,hlen],by rw[hlen];exact hm,fun a ha=>by simp[Env.eW]at ha⊢;exact⟨ha.symm,.inl (by rw[<-ha])⟩,fun _=>by simp[Env.eW],?_,fun j hj=>?_⟩
   ·rcases List.mem_append.1 hx with hx|hx
    ·exact hL x hx
    ·simp only[List.mem_singleton]at hx;subst hx;exact p1
   ·rw[wB,hlen]
    have:((List.range (L.length+1)).map fun j=>Value.pointer (some ⟨(J.eW res.length ⟨b,0,none⟩ (L.length+1) cap (fun j=>if j<L.length then ob j else J.num p)).ob (res.length+1) j,0,none⟩))=
      ((List.range L.length).map fun j=>Value.pointer (some ⟨ob j,0,none⟩))++cells J (.lp p 0):=by
     rw[List.range_succ,List.map_append];congr 1
     ·simp_all[Env.eW]
     ·simp[Env.eW,cells,den,Value.cells]
    rw[this];exact hown'
   ·rw[hlen]at hj;obtain⟨y,y1,_,t,y3⟩:=hob j hj;have hoby:(J.eW res.length ⟨b,0,none⟩ (L.length+1) cap (fun j=>if j<L.length then ob j else J.num p)).ob (res.length+1) j=y:=by simp[Env.eW,y1]
    rw[hoby];exact⟨.inr ⟨j,hj,y1.symm⟩,t,y3⟩)
  (fun x hx'=>by
   rcases hx' with rfl|⟨j,hj,rfl⟩
   ·rcases hnew _ rfl with h1|h1
    ·exact .inl (hx _ h1).1
    ·exact .inr ⟨h1,hblt⟩
   ·obtain⟨y,y1,y2,_⟩:=hob j hj;rw[y1];exact .inl y2)
  hgr.os hgr.tape hgr.output hgr.size (fun x hxl hno=>hgr.block x hxl fun hh=>by
   obtain⟨t,ht,hft⟩:=(hx x hh.symm).1;exact hno t ht hft)
 exact⟨_,fps',by simp[den,Env.eW],g1,g2,g3,g4⟩
theorem nm {v:V} {p:Nat} {o:Obj} (h:x6 res v=some (p,o)):v= .lp p 0/\∃bty,ae res p= .blk bty (.ob o):=by
 unfold x6 at h;split at h
 ·grind
 ·simp at h
theorem mr {n:Nat} (h:n<=maxLen):n<=9223372036854775807:=by
 simp only[maxLen]at h;omega
theorem oq {w:World} {e:Nat} {xv:Value} {n:Nat} {f:Nat->Value} (h:w.ownsRow 0 e 1 xv n ((List.range n).map f)) (hf:∀j,∃a,f j= .pointer a) {b x t:Nat} {o:Obj} (hb:xv.ownBlock=some b)
  (hx:w.heap[x]? =some (.cells (bQ o).toArray t (0,0))) (hn:0<n):x≠b:=by
 rintro rfl
 rcases h.2 with⟨_,h0⟩|⟨g,cap,cur,rfl,_,h3,_,_,_,h7⟩
 ·omega
 ·simp only[Value.ownBlock,NN]at hb;subst hb;rw[h3]at hx;simp only[NN,Go.Obj.cells.injEq]at hx;rw[hx.1]at h7;have h0:=congrArg (·[0]?) h7;obtain⟨a,ha⟩:=hf 0;simp[bQ,i64,hn,ha]at h0
theorem Bb {t ty:Nat} {x y r:V} {q:Option Prop} {res':List ah} (hC:C.wO) (h:au J fps res (known res) w0 F0 w) (ha:Jd C res t x y=some (q,r,res')) (hq:aW q) (hx:ok (known res) x):
  ∃w' ρ' fps',(Builtin.append_ #[t,t] ty #[den J x,den J y]).run C.P w= .ok (den ρ' r) w'/\au ρ' fps' res' (known res') w0 F0 w'/\Env.agree (known res) J ρ'/\(∀i,known res i->known res' i)/\ok (known res') r:=by
 unfold Jd at ha;split at ha
 ·rename_i e ht;split at ha
  ·rename_i z inf hZ hi;split at ha
   ·rename_i k cap;split at ha
    ·rename_i bty c hk;split at ha
     ·rename_i v hg;split at ha
      ·rename_i hsz;have hsz:0<bJ z:=by simpa using hsz
       have hkk:=h.holds k (by unfold known;rw[hk];simp)
       rw[hk]at hkk;obtain⟨c1,c2,c3,c4⟩:=hkk;obtain⟨_,v2,v3,v4,v5⟩:=bF J 8 c 0 _ _ v c1 c2 hg;have run:∀{n:Nat} {xv:Value} {xs:List Value},w.ownsRow 0 e (bJ z) xv n xs->ep n inf.bytes->_:=fun{n xv xs} ho hf=>Fi (C:=C) (ty:=ty) (cap:=cap) ht hZ hC hi hsz ho c4 c1 c2 hg hf
       split at ha
       ·
        split at ha
        ·rename_i p o hob;obtain⟨rfl,bt,hrp⟩:=nm hob;split at ha<;>simp only[NN,NO,reduceCtorEq]at ha
         rename_i hz1;have hz1:=NR.1 hz1;obtain⟨rfl,rfl,rfl⟩:=ha;obtain⟨v',w',g1,g2,g3,g4⟩:=run (World.ownsRow_nil w 0 e (bJ z)) hq;rw[hz1]at g2;have hkp:known res p:=by unfold known;rw[hrp];simp
         obtain⟨ρ',fps',f1,f2,f3,f4,f5⟩:=Ai (L:= []) (ob:=fun _=>0) (ts:= [p]) h (by simpa using hkp) (by simp) hrp (by simp) (fun j hj=>by simp at hj) g2 g3 (fun b hb=>by simp[Value.ownBlock]at hb) g4 (by simp)
         exact⟨w',ρ',fps',by rw[<-f1];exact g1,f2,f3,f4,f5⟩
        ·cases hl:z7 v with
         |none=>simp[hl]at ha
         |some l=>
          simp only[hl,Option.map_some,NN,NO]at ha;obtain⟨rfl,rfl,rfl⟩:=ha;obtain⟨v',w',g1,g2,g3,g4⟩:=run (World.ownsRow_nil w 0 e (bJ z)) hq;obtain⟨ρ',fps',f1,f2,f3,f4,f5⟩:=AF (n:=0) (g:=fun _=>v) (ts:= []) h (by simp) (zj (K:=known res) hl _) v4 v2 (fun j hj=>by omega) (by simpa using g2) g3 (fun b hb=>by simp[Value.ownBlock]at hb) g4 (by simp)
          exact⟨w',ρ',fps',by rw[<-f1];exact g1,f2,f3,f4,f5⟩
       ·rename_i j;split at ha
        ·rename_i e' esz l hj;split at ha
         ·rename_i hc;simp only[NP,NR]at hc;obtain⟨rfl,rfl⟩:=hc;cases hl:AB l v with
          |none=>simp[hl]at ha
          |some l'=>
           simp only[hl,Option.map_some,NN,NO]at ha;obtain⟨rfl,rfl,rfl⟩:=ha;have hjj:=h.holds j (by unfold known;rw[hj];simp)
           rw[hj]at hjj;obtain⟨a1,a2,a3,a4,a5,a6,a7⟩:=hjj;rcases a7 with⟨b1,_⟩|⟨e2,b1,b2,b3⟩
           ·simp at b1
           ·have:=b1 e' rfl;subst this;obtain⟨v',w',g1,g2,g3,g4⟩:=run b2 hq
            obtain⟨ρ',fps',f1,f2,f3,f4,f5⟩:=AF (n:=l.len) (g:=l.get) (ts:= [j]) h (by have hx:known res j:=hx;simpa using hx) (yO (K:=known res) hl) v4 v2 a1 g2 g3 (fun b hb=>by
             refine⟨j,by simp,?_⟩
             cases hs:J.sa j with
             |none=>simp[Env.sl,hs,Value.ownBlock]at hb
             |some a=>
              simp only[Env.sl,hs,Value.ownBlock,NN]at hb;rw[<-hb];exact b3 a hs) g4 (mr hq.1)
            exact⟨w',ρ',fps',by rw[<-f1];exact g1,f2,f3,f4,f5⟩
         ·simp at ha
        ·rename_i e' q0 L hj;split at ha
         ·rename_i p o hob;obtain⟨rfl,bt,hrp⟩:=nm hob;split at ha<;>simp only[NN,NO,reduceCtorEq]at ha
          rename_i hc;simp only[NP,NR]at hc;obtain⟨rfl,hz1⟩:=hc;obtain⟨rfl,rfl,rfl⟩:=ha;have hkj:known res j:=by unfold known;rw[hj];simp
          have hkp:known res p:=by unfold known;rw[hrp];simp
          have hjj:=h.holds j hkj;rw[hj]at hjj;obtain⟨_,a1,a2,a3,a4,a5,a6,a7⟩:=hjj;have hne:j≠p:=fun e=>by rw[e,hrp]at hj;simp at hj
          have hpp:=h.holds p hkp;rw[hrp]at hpp;obtain⟨_,_,p3,_⟩:=hpp;obtain⟨v',w',g1,g2,g3,g4⟩:=run (by rw[hz1];exact a6) hq
          rw[hz1]at g2
          obtain⟨ρ',fps',f1,f2,f3,f4,f5⟩:=Ai (L:=L) (ob:=J.ob q0) (ts:= [j,p]) h (by simp[hkj,hkp]) (by simp) hrp a1 (fun i hi=>⟨⟨j,by simp,(a7 i hi).1⟩,(a7 i hi).2⟩) g2 g3 (fun b hb=>by
           have hb':=hb;cases hs:J.sa j with
           |none=>simp[Env.sl,hs,Value.ownBlock]at hb
           |some a=>
            simp only[den,hs,Value.ownBlock,NN,Env.sl]at hb;have hfb:fps j b:=by rw[<-hb];exact(a4 a hs).2
            refine⟨⟨j,by simp,hfb⟩,fun i hi=>?_,fun e=>h.disj j p b hkj hkp hne hfb (e▸p3)⟩
            obtain⟨_,t,hti⟩:=a7 i hi;exact oq a6 (fun i=>⟨_,rfl⟩) hb' hti (by omega)) g4 (mr hq.1)
          exact⟨w',ρ',fps',by rw[<-f1];exact g1,f2,f3,f4,f5⟩
         ·simp at ha
        ·simp at ha
       ·simp at ha
      ·simp at ha
     ·simp at ha
    ·simp at ha
   ·simp at ha
  ·simp at ha
 ·simp at ha
end
end Go.Sx
namespace Go.Sx
open Go.RowKit (Below)
theorem FC {α:Type} (l vs:List α) (off m:Nat) (hm:off+vs.length<=m) (hl:m<=l.length):
  (l.take off++vs++l.drop (off+vs.length)).take m=(l.take m).take off++vs++(l.take m).drop (off+vs.length):=by
 have h1:(l.take off++vs).length=off+vs.length:=by simp;omega
 rw[List.take_append,List.take_of_length_le (by rw[h1];exact hm),h1,List.take_take,Nat.min_eq_left (by omega),List.drop_take]
theorem jh {P:Program} {w:World} {e size n cap g:Nat} {xs:List Value} (hown:w.ownsRow 0 e size (.slice (some ⟨g,0,none⟩) n cap) n xs) (vs:List Value) (off:Nat)
  (h1:∀v∈vs,v.oneCell'=true) (hoff:off+vs.length<=n*size):
  ∃w',(storeCells ⟨g,off,none⟩ vs 0).run P w= .ok () w'/\w'.ownsRow 0 e size (.slice (some ⟨g,0,none⟩) n cap) n (xs.take off++vs++xs.drop (off+vs.length))/\w.grownBy w' (some g):=by
 rcases hown.2 with⟨h,_⟩|⟨g',cap',cur,h,hb,hg,hnc,hcm,hcs,htake⟩
 ·simp at h
 ·simp only[Value.slice.injEq,NN,Addr.mk.injEq,and_true,true_and]at h;obtain⟨rfl,rfl⟩:=h;have hle:n*size<=cur.size:=by rw[hcs];exact Nat.mul_le_mul_right _ hnc
  have hst:=run_storeCells_at (P:=P) g off e vs 0 cur w hg (by omega) h1
  simp only[Nat.add_zero]at hst;refine⟨_,hst,⟨?_,.inr ⟨g,cap,_,rfl,hb,setRow_heap w g cur _ e _ hg,hnc,hcm,?_,?_⟩⟩,⟨rfl,rfl,rfl,by simp[World.setRow],fun k _ hk=>setRow_other w g _ k (fun e=>hk (by simp[e]))⟩⟩
  ·grind
  ·grind
  ·grind[FC]
theorem au.rm {J ρ':Env} {fps:Nat->Nat->Prop} {res:List ah} {w0:World} {F0:Nat->Prop} {w w':World} (h:au J fps res (known res) w0 F0 w) (ts:List Nat) (j:Nat) (r:ah) (ms:List ah) (fp:Nat->Prop)
  (hms:∀m∈ms,∃j,m= .gen j) (hts:∀t∈ts,known res t) (hj:known res j) (hjt:j∉ts) (hr:r≠ .yet) (hag:Env.agree (known res) J ρ')
  (hh:r.holds (known (aU ts (aL res j r)++ms)) ρ' j fp w0 F0 w') (hfp:∀b,fp b->fps j b\/(∃t∈ts,fps t b)\/(w.heap.size<=b/\b<w'.heap.size))
  (hos:w'.os=w.os) (htape:w'.tape=w.tape) (hout:w'.output=w.output) (hsize:w.heap.size<=w'.heap.size)
  (hsame:∀b,b<w.heap.size->¬fps j b->(∀t∈ts,¬fps t b)->w'.heap[b]? =w.heap[b]?):
  ∃fps',au ρ' fps' (aU ts (aL res j r)++ms) (known (aU ts (aL res j r)++ms)) w0 F0 w'/\Env.agree (known res) J ρ'/\(∀i,known res i->known (aU ts (aL res j r)++ms) i):=by
 have hlj:=aj hj;have hlt:∀t∈ts,t<(aL res j r).length:=fun t ht=>by rw[aH];exact aj (hts t ht)
 have hget:∀i,ae (aU ts (aL res j r)++ms) i=if i<res.length then(if i∈ts then .gone else if i=j then r else ae res i)else ae ms (i-res.length):=by
  simp_all[aP,fz,aH,nA,aF]
 have hmget:∀k,ae ms k= .yet\/∃j,ae ms k= .gen j:=fun k=>by
  rw[gH,NV];cases hm:ms[k]? with
  |none=>exact .inl rfl
  |some m=>
   obtain⟨j,rfl⟩:=hms m (List.mem_of_getElem? hm);exact .inr ⟨j,rfl⟩
 have hmono:∀i,known res i->known (aU ts (aL res j r)++ms) i:=fun i hi=>by
  grind[known,aj]
 obtain⟨fps',g⟩:=h.turn (res':=aU ts (aL res j r)++ms) (K':=known (aU ts (aL res j r)++ms)) (fun i=>i∈ts\/i=j) (fun i=>i∈ts\/i=j\/res.length<=i) (fun i b=>i=j/\fp b)
  (fun i hi=>hi) hmono hag (fun i hi hb=>by
   have hi':=hi;unfold known at hi';rw[hget]at hi';have h1:i∉ts:=fun e=>hb (.inl e)
   have h2:i≠j:=fun e=>hb (.inr (.inl e))
   have hl:i<res.length:=by
    rcases Nat.lt_or_ge i res.length with h|h
    ·exact h
    ·exact absurd (.inr (.inr h)) hb
   rw[NX hl,NW h1,NW h2]at hi';exact⟨hi',fun e=>e.elim h1 h2,by rw[hget,NX hl,NW h1,NW h2]⟩)
  (fun i hi hb=>by
   by_cases e:i=j
   ·subst e;refine⟨?_,fun b hf=>?_⟩
    ·rw[hget,NX hlj,NW hjt,NX rfl];have:(fun b=>i=i/\fp b)=fp:=by funext b;simp
     rw[this];exact hh
    ·rcases hfp b hf.2 with hf|⟨t,ht,hft⟩|hn
     ·exact .inl ⟨i,.inr rfl,hj,hf⟩
     ·exact .inl ⟨t,.inl ht,hts t ht,hft⟩
     ·exact .inr hn
   ·refine⟨?_,fun b hf=>absurd hf.1 e⟩
    rw[hget];by_cases hl:i<res.length
    ·rw[NX hl,NX (hb.resolve_right fun hh=>hh.elim e (by omega))]
     trivial
    ·rw[NW hl];rcases hmget (i-res.length)with h|⟨j,h⟩<;>rw[h]<;>trivial)
  (fun i j b _ _ hne hf hf'=>hne (hf.1.trans hf'.1.symm))
  hos htape hout hsize (fun b hb hno=>hsame b hb (hno j (.inr rfl) hj) fun t ht=>hno t (.inl ht) (hts t ht))
 exact⟨fps',g,hag,hmono⟩
def eN {α:Type} (l:List α) (i:Nat) (x:α):List α:=l.set i x
def tZ (l:TL) (i:Nat) (v:V):Option TL:=
 match l with
 | .ob l=>match v with
   | .ob o=>some (.ob (eN l i o))
   |_=>none
 | .key l=>match v with
   | .key k=>some (.key (eN l i k))
   |_=>none
 | .it k l=>match toInt v with
   |some (k',n)=>if k==k' then some (.it k (eN l i n))else none
   |none=>none
 | .bo l=>match toBool v with
   |some b=>some (.bo (eN l i b))
   |none=>none
 | .st l=>match v with
   | .st s=>some (.st (eN l i s))
   |_=>none
 | .fn _ _=>none
 | .qs _ _=>none
def IU (K:Nat->Prop) (l:TL) (i:Nat) (v:V) (l':TL):Prop:=
 l'.len=l.len/\(∀j,j≠i->l'.get j=l.get j)/\(i<l.len->(∀J,cells J (l'.get i)=cells J v)/\(ok K v->ok (fun _=>False) (l'.get i))/\aZ (l'.get i)=false/\bJ (l'.get i)=bJ v)
theorem k8 {α:Type} (l:List α) (i:Nat) (x d:α):(∀j,j≠i->aq (eN l i x) j d=aq l j d)/\(i<l.length->aq (eN l i x) i d=x):=by
 grind[aq,eN]
theorem sH {K:Nat->Prop} {l l':TL} {i:Nat} {v:V} (h:tZ l i v=some l'):IU K l i v l':=by
 unfold tZ at h;cases l with
 |fn n g=>simp at h
 |qs n g=>simp at h
 |ob l=>
  cases v<;>simp only[NN,reduceCtorEq]at h
  subst h;rename_i o;obtain⟨a,b⟩:=k8 l i o free;exact⟨by simp[TL.len,aa,eN],fun j hj=>congrArg V.ob (a j hj),fun hi=>⟨fun J=>by simp only[TL.get,b hi],fun hk=>by simp only[TL.get,b hi];exact hk,rfl,rfl⟩⟩
 |key l=>
  cases v<;>simp only[NN,reduceCtorEq]at h
  subst h;rename_i o;obtain⟨a,b⟩:=k8 l i o void;exact⟨by simp[TL.len,aa,eN],fun j hj=>congrArg V.key (a j hj),fun hi=>⟨fun J=>by simp only[TL.get,b hi],fun hk=>by simp only[TL.get,b hi];exact hk,rfl,rfl⟩⟩
 |it k l=>
  simp only at h;split at h
  ·rename_i k' n hn;split at h<;>simp only[NN,reduceCtorEq]at h
   rename_i hk;have hk:=NR.1 hk;subst hk;subst h;obtain⟨a,b⟩:=k8 l i n 0;obtain⟨c1,c2,c3⟩:=gd (K:=K) hn;exact⟨by simp[TL.len,aa,eN],fun j hj=>congrArg (V.it k) (a j hj),fun hi=>⟨fun J=>by simp only[TL.get,b hi];exact c1 J,fun hk=>by simp only[TL.get,b hi];exact c2 hk,rfl,c3⟩⟩
  ·simp at h
 |bo l=>
  simp only at h;split at h<;>simp only[NN,reduceCtorEq]at h
  rename_i b hb;subst h;obtain⟨a,b'⟩:=k8 l i b false;obtain⟨c1,c3⟩:=gP hb;exact⟨by simp[TL.len,aa,eN],fun j hj=>congrArg V.bo (a j hj),fun hi=>⟨fun J=>by simp only[TL.get,b' hi];exact c1 J,fun _=>trivial,rfl,c3⟩⟩
 |st l=>
  cases v<;>simp only[NN,reduceCtorEq]at h
  subst h;rename_i o;obtain⟨a,b⟩:=k8 l i o ByteArray.empty;exact⟨by simp[TL.len,aa,eN],fun j hj=>congrArg V.st (a j hj),fun hi=>⟨fun J=>by simp only[TL.get,b hi],fun hk=>by simp only[TL.get,b hi];exact hk,rfl,rfl⟩⟩
theorem oD {α:Type} {f:Nat->List α} {esz:Nat}:∀{n:Nat},(∀j,j<n->(f j).length=esz)->((List.range n).flatMap f).length=n*esz
 |0,_=>by simp
 |n+1,h=>by
  rw[List.range_succ,List.flatMap_append,List.length_append,oD fun j hj=>h j (by omega)]
  simp[h n (by omega),Nat.succ_mul]
theorem ou {α:Type} {f f':Nat->List α} {esz:Nat}:∀{n i:Nat},(∀j,j<n->(f j).length=esz)->(∀j,j<n->j≠i->f' j=f j)->(f' i).length=esz->i<n->
  (List.range n).flatMap f'=((List.range n).flatMap f).take (i*esz)++f' i++((List.range n).flatMap f).drop (i*esz+esz)
 |0,i,_,_,_,hi=>by omega
 |n+1,i,h,hf,hl,hi=>by
  have hlen:((List.range n).flatMap f).length=n*esz:=oD fun j hj=>h j (by omega)
  rw[List.range_succ,List.flatMap_append,List.flatMap_append];simp only[List.flatMap_cons,List.flatMap_nil,List.append_nil];by_cases e:i=n
  ·subst e
   have e1:(List.range i).flatMap f'=(List.range i).flatMap f:=by
    rw[List.flatMap_def,List.flatMap_def];congr 1
    exact List.map_congr_left fun j hj=>hf j (by have:=List.mem_range.1 hj;omega) (by have:=List.mem_range.1 hj;omega)
   rw[e1,List.take_append,List.take_of_length_le (by omega),hlen,Nat.sub_self,List.take_zero,List.append_nil,List.drop_of_length_le (by simp[hlen,h i (by omega)]),List.append_nil]
  ·have hin:i<n:=by omega
   have hm:i*esz+esz<=n*esz:=by rw[<-Nat.succ_mul];exact Nat.mul_le_mul_right _ hin
   rw[ou (fun j hj=>h j (by omega)) (fun j hj hne=>hf j (by omega) hne) hl hin,hf n (by omega) (fun e'=>e e'.symm)]
   rw[List.take_append_of_le_length (by omega),List.drop_append_of_le_length (by omega)]
   simp only[List.append_assoc]
def yG (P:Program) (res:List ah) (t j esz i off:Nat) (y:V):Option (Option Prop×List ah):=
 if iE P t==some (bJ y)&& !aZ y then
  match ae res j with
  | .arr (some e) esz' l=>if esz==esz' then
    match setAt 8 (l.get i) off y with
    |some v'=>if bJ v'==esz then(tZ l i v').map fun l'=>(some (B1 i l.len),aL res j (.arr (some e) esz l'))else none
    |none=>none
    else none
  |_=>none
 else none
def yt (P:Program) (res:List ah) (t:Nat) (p y:V):Option (Option Prop×List ah):=
 match p with
 | .ap j esz i off=>if iE P t==some (bJ y)&& !aZ y&&bJ y==esz&&off==0 then
   match ae res j with
   | .arr (some e) esz' l=>if esz==esz' then(tZ l i y).map fun l'=>(some (B1 i l.len),aL res j (.arr (some e) esz l'))else none
   | .obs ty _ L=>match x6 res y with
     |some (k,o)=>if esz==1 then some (some (B1 i (aa L)),aU [k] (aL res j (.obs ty res.length (eN L i o)))++ [.gen j])else none
     |none=>none
   |_=>none
   else yG P res t j esz i off y
 |_=>none
def Env.iY (J:Env) (q:Nat) (f:Nat->Nat):Env:= {J with ob:=fun j=>if j=q then f else J.ob j}
theorem xn {N:Nat->Prop} {J:Env} {q:Nat} {f:Nat->Nat} (h:¬N q):Env.agree N J (J.iY q f):=fun j hj=>by
 have:j≠q:=fun e=>h (e▸hj)
 simp[Env.iY,this]
section
variable {P:Program} {J:Env} {fps:Nat->Nat->Prop} {res:List ah} {w0 w:World} {F0:Nat->Prop}
theorem jS {t:Nat} {y:V} {K:Nat->Prop} {b off:Nat} {w':World} (hs:iE P t=some (bJ y)) (hy:ok K y) (h:(storeCells ⟨b,off,none⟩ (cells J y) 0).run P w= .ok () w'):
  (Instr.storeAt t (.pointer (some ⟨b,off,none⟩)) (den J y)).run P w= .ok () w':=by
 have hz:(den J y).cells.size=bJ y:=by rw[<-ar J y hy];simp[cells]
 simp only[Instr.storeAt,Instr.sureAddr,storeVar,Sem.run_bind,Sem.run_pure,cB w hs,Result.andThen_ok,hz,ne_eq,not_true_eq_false,if_false];rw[show(den J y).cells.toList=cells J y from rfl,h]
theorem Gc {α:Type} {c A p m q B ys:List α} {n off:Nat} (hc:c=A++(p++m++q)++B) (hA:A.length=n) (hp:p.length=off) (hm:m.length=ys.length):c.take (n+off)++ys++c.drop (n+off+ys.length)=A++(p++ys++q)++B:=by
 have e:c=(A++p)++(m++(q++B)):=by rw[hc];simp
 have e2:c=(A++p++m)++(q++B):=by rw[hc];simp
 have l1:(A++p).length=n+off:=by simp[hA,hp]
 have l2:(A++p++m).length=n+off+ys.length:=by simp[hA,hp,hm];omega
 have h1:c.take (n+off)=A++p:=by rw[e,<-l1];exact List.take_left
 have h2:c.drop (n+off+ys.length)=q++B:=by rw[e2,<-l2];exact List.drop_left
 rw[h1,h2];simp
theorem yj {t j esz i off:Nat} {y:V} {q:Option Prop} {res':List ah} (h:au J fps res (known res) w0 F0 w) (hs:yG P res t j esz i off y=some (q,res')) (hq:aW q) (hkj:known res j) (hy:ok (known res) y):
  ∃w' ρ' fps',(Instr.storeAt t (den J (.ap j esz i off)) (den J y)).run P w= .ok () w'/\au ρ' fps' res' (known res') w0 F0 w'/\Env.agree (known res) J ρ'/\∀i,known res i->known res' i:=by
 unfold yG at hs;split at hs
 case isFalse=>simp at hs
 rename_i hc;simp only[NP,NR,Bool.not_eq_true']at hc;obtain⟨hts,hty⟩:=hc;have hj:=h.holds j hkj;split at hs
 case h_2=>simp at hs
 rename_i e esz' l hr;rw[hr]at hj;split at hs
 case isFalse=>simp at hs
 rename_i he;have he:=NR.1 he;subst he;split at hs
 case h_2=>simp at hs
 rename_i v' hv';split at hs
 case isFalse=>simp at hs
 rename_i hvs;have hvs:=NR.1 hvs;cases hl:tZ l i v' with
 |none=>simp[hl]at hs
 |some l'=>
  simp only[hl,Option.map_some,NN,NO]at hs;obtain⟨rfl,rfl⟩:=hs;have hi:i<l.len:=hq;obtain⟨s1,s2,s3⟩:=sH (K:=known res) hl;obtain⟨t1,t2,t3,t4⟩:=s3 hi;obtain⟨a1,a2,a3,a4,a5,a6,a7⟩:=hj;obtain⟨x1,x2,x3⟩:=a1 i hi;obtain⟨⟨p0,m0,q0,y1,y2,y3,y4⟩,y5,y6,y7⟩:=dw (N:=known res) J y hy hty 8 (l.get i) off v' (bm (fun _ h=>h.elim) _ x1) x2 hv'
  rcases a7 with⟨b1,_⟩|⟨e2,b1,b2,b3⟩
  ·simp at b1
  ·have:=b1 e rfl;subst this;obtain⟨g,f1,f2,f3,f4⟩:=fh b2 (by omega)
   have hadr:=a4 _ f1;have hm:i*esz+esz<=l.len*esz:=by rw[<-Nat.succ_mul];exact Nat.mul_le_mul_right _ hi
   have hlen:∀j,j<l.len->(cells Env.zero (l.get j)).length=esz:=fun j hj=>by rw[ar Env.zero _ (a1 j hj).1];exact(a1 j hj).2.2
   have hsl:J.sl j= .slice (some ⟨g,0,none⟩) l.len (J.cap j):=by simp[Env.sl,f1,f2]
   rw[hsl]at b2;have hcy:=ar J y hy
   have hcz:cells J v'=cells Env.zero (l'.get i):=by
    rw[<-t1 J];exact bd (N:=fun _=>False) (fun _ h=>h.elim) _ (t2 y6)
   have hc0:cells Env.zero (l.get i)=p0++m0++q0:=by
    rw[<-y1];exact(bd (N:=fun _=>False) (fun _ h=>h.elim) _ x1).symm
   have hl0':=hlen i hi;have hl0:=hl0';rw[hc0]at hl0;simp only[List.length_append]at hl0;obtain⟨w',r1,r2,r3⟩:=jh (P:=P) b2 (cells J y) (i*esz+off) (cU J y hy hty) (by omega)
   have hfj:fps j g:=b3 _ f1
   obtain⟨fps',g1,g2,g3⟩:=h.rm (ρ':=J) (w':=w') [] j (.arr (some e) esz l') [] (fps j) (by simp) (by simp) hkj (by simp) (by simp) (Env.agree.refl _ _)
    (by
     refine⟨fun k hk=>?_,by rw[s1];exact a2,by rw[s1];exact a3,a4,by rw[s1];exact a5,by rw[s1];exact a6,.inr ⟨e,fun e' he=>by simpa using he.symm,?_,b3⟩⟩
     ·by_cases ek:k=i
      ·subst ek;exact⟨t2 y6,t3,t4.trans hvs⟩
      ·rw[s2 k ek];exact a1 k (by omega)
     ·rw[hsl,s1];have hv:=ar J v' y6
      have hf:l'.cells=l.cells.take (i*esz)++cells J v'++l.cells.drop (i*esz+esz):=by
       unfold TL.cells;rw[s1,hcz,ou (f:=fun j=>cells Env.zero (l.get j)) (f':=fun j=>cells Env.zero (l'.get j)) (i:=i) hlen (fun j _ hne=>by simp only[s2 j hne]) (by rw[<-hcz,hv];exact hvs) hi]
      have hs0:l.cells=l.cells.take (i*esz)++(p0++m0++q0)++l.cells.drop (i*esz+esz):=by
       have:=ou (f:=fun j=>cells Env.zero (l.get j)) (f':=fun j=>cells Env.zero (l.get j)) (i:=i) hlen (fun j _ hne=>rfl) hl0' hi
       rw[hc0]at this;exact this
      have hlc:l.cells.length=l.len*esz:=oD hlen
      have:l'.cells=l.cells.take (i*esz+off)++cells J y++l.cells.drop (i*esz+off+(cells J y).length):=by
       rw[Gc hs0 (by rw[List.length_take];omega) y3 (by rw[hcy];exact y4),hf,y2]
      rw[this];exact r2)
    (fun b hb=> .inl hb) r3.os r3.tape r3.output r3.size (fun b hb hno _=>r3.block b hb fun e=>hno (by simp only[NN]at e;rw[e];exact hfj))
   refine⟨w',J,fps',?_,by simpa[aU]using g1,g2,by simpa[aU]using g3⟩
   simp only[den];rw[<-hadr];simp only[Nat.zero_add];exact jS hts hy r1
theorem wE {t:Nat} {p y:V} {q:Option Prop} {res':List ah} (h:au J fps res (known res) w0 F0 w) (hs:yt P res t p y=some (q,res')) (hq:aW q) (hp:ok (known res) p) (hy:ok (known res) y):
  ∃w' ρ' fps',(Instr.storeAt t (den J p) (den J y)).run P w= .ok () w'/\au ρ' fps' res' (known res') w0 F0 w'/\Env.agree (known res) J ρ'/\∀i,known res i->known res' i:=by
 unfold yt at hs;split at hs
 ·rename_i j esz i off;split at hs
  ·rename_i hc;simp only[NP,NR,Bool.not_eq_true']at hc;obtain⟨⟨⟨hts,hty⟩,hvs⟩,rfl⟩:=hc;have hkj:known res j:=hp;have hj:=h.holds j hkj;split at hs
   ·rename_i e esz' l hr;rw[hr]at hj;split at hs
    ·rename_i he;have he:=NR.1 he;subst he;cases hl:tZ l i y with
     |none=>simp[hl]at hs
     |some l'=>
      simp only[hl,Option.map_some,NN,NO]at hs;obtain⟨rfl,rfl⟩:=hs;have hi:i<l.len:=hq;obtain⟨s1,s2,s3⟩:=sH (K:=known res) hl;obtain⟨t1,t2,t3,t4⟩:=s3 hi;obtain⟨a1,a2,a3,a4,a5,a6,a7⟩:=hj;rcases a7 with⟨b1,_⟩|⟨e2,b1,b2,b3⟩
      ·simp at b1
      ·have:=b1 e rfl;subst this;obtain⟨g,f1,f2,f3,f4⟩:=fh b2 (by omega)
       have hadr:=a4 _ f1;have hm:i*esz+esz<=l.len*esz:=by rw[<-Nat.succ_mul];exact Nat.mul_le_mul_right _ hi
       have hlen:∀j,j<l.len->(cells Env.zero (l.get j)).length=esz:=fun j hj=>by rw[ar Env.zero _ (a1 j hj).1];exact(a1 j hj).2.2
       have hsl:J.sl j= .slice (some ⟨g,0,none⟩) l.len (J.cap j):=by simp[Env.sl,f1,f2]
       rw[hsl]at b2;have hcy:=ar J y hy
       have hcz:cells J y=cells Env.zero (l'.get i):=by
        rw[<-t1 J];exact bd (N:=fun _=>False) (fun _ h=>h.elim) _ (t2 hy)
       obtain⟨w',r1,r2,r3⟩:=jh (P:=P) b2 (cells J y) (i*esz) (cU J y hy hty) (by omega)
       have hfj:fps j g:=b3 _ f1
       obtain⟨fps',g1,g2,g3⟩:=h.rm (ρ':=J) (w':=w') [] j (.arr (some e) esz l') [] (fps j) (by simp) (by simp) hkj (by simp) (by simp) (Env.agree.refl _ _)
        (by
         refine⟨fun k hk=>?_,by rw[s1];exact a2,by rw[s1];exact a3,a4,by rw[s1];exact a5,by rw[s1];exact a6,.inr ⟨e,fun e' he=>by simpa using he.symm,?_,b3⟩⟩
         ·grind
         ·rw[hsl,s1]
          have:l'.cells=l.cells.take (i*esz)++cells J y++l.cells.drop (i*esz+(cells J y).length):=by
           unfold TL.cells;rw[s1,hcz,ou (f:=fun j=>cells Env.zero (l.get j)) (f':=fun j=>cells Env.zero (l'.get j)) (i:=i) hlen (fun j _ hne=>by simp only[s2 j hne]) (by rw[<-hcz,hcy];exact hvs) hi,<-hcz,hcy,hvs]
          rw[this];exact r2)
        (fun b hb=> .inl hb) r3.os r3.tape r3.output r3.size (fun b hb hno _=>r3.block b hb fun e=>hno (by simp only[NN]at e;rw[e];exact hfj))
       refine⟨w',J,fps',?_,by simpa[aU]using g1,g2,by simpa[aU]using g3⟩
       simp only[den];rw[<-hadr];simp only[Nat.zero_add,Nat.add_zero];exact jS hts hy r1
    ·simp at hs
   ·rename_i ty q0 L hr;rw[hr]at hj;split at hs
    ·rename_i k o hob;obtain⟨rfl,bt,hrk⟩:=nm hob;split at hs<;>simp only[NN,NO,reduceCtorEq]at hs
     rename_i he;have he:=NR.1 he;subst he;obtain⟨rfl,rfl⟩:=hs;have hi:i<L.length:=hq;obtain⟨a0,a1,a2,a3,a4,a5,a6,a7⟩:=hj;have hkk:known res k:=by unfold known;rw[hrk];simp
     have hne:j≠k:=fun e=>by rw[e,hrk]at hr;simp at hr
     have hk:=h.holds k hkk;rw[hrk]at hk;obtain⟨k1,_,k3,k4⟩:=hk;have k1:o.wf:=k1;rw[eA]at k4;obtain⟨g,f1,f2,f3,f4⟩:=fh a6 (by omega)
     obtain⟨hadr,hfj⟩:=a4 _ f1;have hfj:fps j g:=hfj;have hsl:J.sl j= .slice (some ⟨g,0,none⟩) L.length (J.cap j):=by simp[Env.sl,f1,f2]
     have a6':=a6;rw[hsl]at a6;obtain⟨w',r1,r2,r3⟩:=jh (P:=P) a6 (cells J (.lp k 0)) i (by simp[cells,den,Value.cells,Value.oneCell']) (by simp[cells,den,Value.cells];omega)
     have hnk:¬known res res.length:=fun hk=>by have:=aj hk;omega
     have hgb:∀x y,w.heap[x]? =some y->x≠g->w'.heap[x]? =some y:=fun x y hy hne=>by
      rw[r3.block x (Array.getElem?_eq_some_iff.1 hy).1 fun hh=>hne (by simpa using hh)];exact hy
     have hkg:J.num k≠g:=fun e=>h.disj j k g hkj hkk hne hfj (e▸k3)
     have hog:∀x,x<L.length->J.ob q0 x≠g:=fun x hx=>by
      obtain⟨_,t,hti⟩:=a7 x hx;exact oq a6 (fun i=>⟨_,rfl⟩) (by rfl) hti (by omega)
     have hnr:known (aU [k] (aL res j (.obs ty res.length (eN L i o)))++ [.gen j]) res.length:=by
      unfold known;rw[aP,fz,aH,NW (by omega)];simp[ae]
     have hll:(eN L i o).length=L.length:=by simp[eN]
     obtain⟨fps',g1,g2,g3⟩:=h.rm (ρ':=J.iY res.length (fun x=>if x=i then J.num k else J.ob q0 x)) (w':=w') [k] j (.obs ty res.length (eN L i o)) [.gen j] (fun b=>fps j b\/fps k b) (by simp) (by simpa using hkk) hkj (by simpa using hne) (by simp)
      (xn hnk)
      (by
       refine⟨hnr,fun x hx=>?_,by rw[hll];exact a2,by rw[hll];exact a3,fun a ha=>⟨(a4 a ha).1,.inl (a4 a ha).2⟩,by rw[hll];exact a5,?_,fun x hx=>?_⟩
       ·rcases List.mem_or_eq_of_mem_set hx with hx|rfl
        ·exact a1 x hx
        ·exact k1
       ·rw[hll,show(J.iY res.length (fun x=>if x=i then J.num k else J.ob q0 x)).sl j=J.sl j from rfl,hsl]
        have:((List.range L.length).map fun x=>Value.pointer (some ⟨(J.iY res.length (fun x=>if x=i then J.num k else J.ob q0 x)).ob res.length x,0,none⟩))=
          ((List.range L.length).map fun x=>Value.pointer (some ⟨J.ob q0 x,0,none⟩)).take i++cells J (.lp k 0)++((List.range L.length).map fun x=>Value.pointer (some ⟨J.ob q0 x,0,none⟩)).drop (i+(cells J (.lp k 0)).length):=by
         have hl1:(cells J (.lp k 0)).length=1:=rfl;rw[hl1];apply List.ext_getElem?
         intro x;rw[List.append_assoc];by_cases hx:x<i
         ·grind[Env.iY]
         ·rw[List.getElem?_append_right (by simp;omega)]
          have hti:(List.take i (List.map (fun x=>Value.pointer (some ⟨J.ob q0 x,0,none⟩)) (List.range L.length))).length=i:=by simp;omega
          rw[hti];by_cases hxi:x=i
          ·subst hxi;simp[Env.iY,hi,cells,den,Value.cells]
          ·rw[List.getElem?_append_right (by omega),List.getElem?_drop,hl1,show i+1+(x-i-1)=x by omega]
           by_cases hxl:x<L.length
           ·simp[Env.iY,hxi,hxl]
           ·simp[hxl]
        rw[this];exact r2
       ·rw[hll]at hx;have hob:(J.iY res.length (fun x=>if x=i then J.num k else J.ob q0 x)).ob res.length x=if x=i then J.num k else J.ob q0 x:=by simp[Env.iY]
        rw[hob];by_cases hxi:x=i
        ·rw[NX hxi];refine⟨.inr k3,bt,?_⟩;rw[show(eN L i o).getD x free=o by subst hxi;simp[eN,NV,hi]]
         exact hgb _ _ k4 hkg
        ·rw[NW hxi];obtain⟨c1,t,c2⟩:=a7 x hx;refine⟨.inl c1,t,?_⟩;rw[show(eN L i o).getD x free=L.getD x free by simp[eN,NV,List.getElem?_set,Ne.symm hxi]]
         exact hgb _ _ c2 (hog x hx))
      (fun b hb=>hb.elim .inl fun hb=> .inr (.inl ⟨k,by simp,hb⟩)) r3.os r3.tape r3.output r3.size (fun b hb hno _=>r3.block b hb fun e=>hno (by simp only[NN]at e;rw[e];exact hfj))
     refine⟨w',_,fps',?_,g1,g2,g3⟩
     have hd:den J (.ap j 1 i 0)= .pointer (some ⟨g,i,none⟩):=by
      simp only[den];rw[<-hadr];simp
     rw[hd];exact jS hts hy r1
    ·simp at hs
   ·simp at hs
  ·exact yj h hs hq hp hy
 ·simp at hs
end
end Go.Sx
namespace Go.Sx
open Go.RowKit (Below)
def tB (Q:List (List Int)):List (List Int):=Q.tail
def K9 (Q:List (List Int)):Prop:=1<=aa Q
def J1 (C:Ctx) (res:List ah) (t:Nat) (x y:V):Option (Option Prop×V×List ah):=
 match C.P.underlying t with
 |some (.slice e)=>match C.Z e with
  |some z=>match C.P.info? e with
   |some inf=>match y with
    | .sc k m _=>if m==1 then(match ae res k with
      | .blk _ c=>match cR 8 c 0 (bJ z) (ei z)with
        |some v=>match v with
         | .ag xl=>match fC xl with
           |some l=>match x with
            | .sa j=>match ae res j with
              | .que e' n Q=>if e'==e&&n==bJ z&&l.length==n&&Nat.blt 0 n then some (some (ep (aa Q) inf.bytes),.sa res.length,aU [j] res++ [.que e n (bg Q (aS l))])else none
              |_=>none
            |_=>none
           |none=>none
         |_=>none
        |none=>none
      |_=>none)else none
    |_=>none
   |none=>none
  |none=>none
 |_=>none
def MG (P:Program) (res:List ah) (t:Nat) (x:V) (lo:V):Option (Option Prop×V×List ah):=
 match P.underlying t with
 |some (.slice e)=>match iE P e with
  |some z=>match x with
   | .sa j=>match ae res j with
     | .que e' n Q=>match lo with
       | .ci k a=>if a==1&&n==z then some (some (K9 Q),.sa res.length,aU [j] res++ [.que e' n (tB Q)])else none
       |_=>none
     |_=>none
   |_=>none
  |none=>none
 |_=>none
section
variable {C:Ctx} {J:Env} {fps:Nat->Nat->Prop} {res:List ah} {w0 w:World} {F0:Nat->Prop}
theorem oX {w:World} {base e size n:Nat} {v:Value} {xs:List Value} (h:w.ownsRow base e size v n xs):qH w e size v n xs:=by
 refine⟨h.1,?_⟩;rcases h.2 with h0|⟨g,cap,cur,h1,h2,h3,h4,h5,h6,h7⟩
 ·exact .inl h0
 ·exact .inr ⟨g,0,cap,cur,h1,h3,h4,h5,by omega,by simpa using h7⟩
theorem yd {P:Program} (w:World) (t ty e:TypeId) (i:TypeInfo) (ht:P.underlying t=some (.slice e)) (hi:P.info? e=some i)
  (g off sLen sCap:Nat) (cur:Array Value) (hg:w.heap[g]? =some (.cells cur e (0,0)))
  (a:Addr) (m c:Nat) (news:List Value) (hl:news.length=m*i.size) (hnews:∀j u,news[j]? =some u->w.cell? (a.add j)=some u) (h1:∀u∈news,u.oneCell'=true)
  (hroom:sLen+m<=sCap) (hfit:off+sLen*i.size+news.length<=cur.size):
  (Builtin.append_ #[t,t] ty #[.slice (some ⟨g,off,none⟩) sLen sCap,.slice (some a) m c]).run P w=
   .ok (.slice (some ⟨g,off,none⟩) (sLen+m) sCap) (w.setRow g (cur.toList.take (off+sLen*i.size)++news++cur.toList.drop (off+sLen*i.size+news.length)).toArray):=by
 have hf:=run_firstCells_some (P:=P) w i.size m a m c news hl hnews;have hst:=run_storeCells_at P g (off+sLen*i.size) e news 0 cur w hg (by simpa using hfit) h1
 simp only[Nat.add_zero]at hst;simp[Builtin.append_,run_underlying ht,sizeOf,typeInfo,hi,Builtin.lenOf,hroom,hf,Addr.add_lit,hst]
theorem Di {P:Program} {w:World} {t ty e:TypeId} {i:TypeInfo} {z:Value} {size bytes:Nat} (ht:P.underlying t=some (.slice e)) (hi:P.info? e=some i) (hz:i.zero=some z)
  (hsize:i.size=size) (hby:i.bytes=bytes) (hzs:z.cells.size=size) (hsz:0<size) {v:Value} {n:Nat} {xs:List Value} (hown:qH w e size v n xs)
  (a:Addr) (c:Nat) (news:List Value) (hl:news.length=1*size) (hnews:∀j u,news[j]? =some u->w.cell? (a.add j)=some u) (h1:∀u∈news,u.oneCell'=true)
  (hq:ep n bytes):
  ∃v' w',(Builtin.append_ #[t,t] ty #[v,.slice (some a) 1 c]).run P w= .ok v' w'/\qH w' e size v' (n+1) (xs++news)/\w.grownBy w' v.ownBlock/\∀b',v'.ownBlock=some b'->v.ownBlock=some b'\/(w.heap.size<=b'/\b'<w'.heap.size):=by
 rcases hown.2 with⟨rfl,rfl⟩|⟨g,off,cap,cur,rfl,hg,hnc,hcm,hcs,htake⟩
 ·have hx:xs= []:=List.eq_nil_of_length_eq_zero (by simpa using hown.1)
  subst hx
  obtain⟨v',w',g1,g2,g3,_⟩:=run_append_own (P:=P) w w.heap.size t ty e i z size bytes ht hi hz hsize hby hzs hsz (.slice none 0 0) 0 [] (World.ownsRow_nil w _ e _)
   a 1 c news hl hnews h1 hq.1 hq.2 (Nat.le_refl _)
  exact⟨v',w',g1,oX g2,g3,fun b' hb'=> .inr (g2.lt b' hb')⟩
 ·by_cases hroom:n+1<=cap
  ·subst hsize
   have hfit:off+n*i.size+news.length<=cur.size:=by
    rw[hl,Nat.add_assoc,<-Nat.add_mul];exact Nat.le_trans (Nat.add_le_add_left (Nat.mul_le_mul_right _ hroom) _) hcs
   have hr:=yd (P:=P) w t ty e i ht hi g off n cap cur hg a 1 c news hl hnews h1 hroom hfit;refine⟨_,_,hr,⟨by rw[List.length_append,hown.1,hl,Nat.add_mul],.inr ⟨g,off,cap,_,rfl,setRow_heap w g cur _ e _ hg,hroom,hcm,?_,?_⟩⟩,⟨rfl,rfl,rfl,by simp[World.setRow],fun k _ hk=>setRow_other w g _ k (fun e=>hk (by simp[Value.ownBlock,e]))⟩,fun b' hb'=> .inl hb'⟩
   ·simp only[List.size_toArray,List.length_append,List.length_take,List.length_drop,Array.length_toList];omega
   ·have hlen:cur.toList.length=cur.size:=Array.length_toList
    have e1:(cur.toList.take (off+n*i.size)).drop off=xs:=by
     rw[List.drop_take,Nat.add_sub_cancel_left];exact htake
    have e2:(cur.toList.take (off+n*i.size)++news++cur.toList.drop (off+n*i.size+news.length)).drop off=xs++news++cur.toList.drop (off+n*i.size+news.length):=by
     rw[List.append_assoc,List.drop_append_of_le_length (by rw[List.length_take,hlen];omega),e1,List.append_assoc]
    simp only[List.append_assoc]at e2⊢;rw[e2,<-List.append_assoc];exact List.take_left' (by rw[List.length_append,hown.1,hl,Nat.add_mul])
  ·have hcur:∀j u,xs[j]? =some u->w.cell? ((⟨g,off,none⟩:Addr).add j)=some u:=fun j u hu=>by
    have hj:=(List.getElem?_eq_some_iff.1 hu).1;rw[add_lit,cell_of_row w g _ cur e (0,0) hg,<-hu,<-htake,List.getElem?_take_of_lt (by rw[<-hown.1];exact hj),List.getElem?_drop,Array.getElem?_toList]
   obtain⟨v',w',g1,g2,g3⟩:=run_append_arg_grows (P:=P) w t ty e i z size bytes ht hi hz hsize hby hzs hsz ⟨g,off,none⟩ n cap xs hown.1 hcur a 1 c news hl hnews (by omega) hq.1 hq.2
   exact⟨v',w',g1,oX g2,⟨g3.os,g3.tape,g3.output,g3.size,fun k hk _=>g3.block k hk (by simp)⟩,fun b' hb'=> .inr (g2.lt b' hb')⟩
def Env.iF (J:Env) (i:Nat) (a:Option Addr) (n cap:Nat):Env:=
 {J with cap:=fun j=>if j=i then cap else J.cap j,adr:=fun j=>if j=i then a.getD ⟨0,0,none⟩else J.adr j,sa:=fun j=>if j=i then a else J.sa j,sn:=fun j=>if j=i then n else J.sn j}
theorem ni {N:Nat->Prop} {i:Nat} {a:Option Addr} {n cap:Nat} (h:¬N i):Env.agree N J (J.iF i a n cap):=fun j hj=>by
 have:j≠i:=fun e=>h (e▸hj)
 simp[Env.iF,this]
theorem u4 {e size n:Nat} {v:Value} {xs:List Value} (h:qH w e size v n xs):∃a cap,v= .slice a n cap/\(∀x,a=some x->x.spot=none/\v.ownBlock=some x.block)/\(0<n->a.isSome=true):=by
 rcases h.2 with⟨rfl,rfl⟩|⟨g,off,cap,cur,rfl,_⟩
 ·exact⟨_,_,rfl,fun x hx=>by simp at hx,fun h=>by omega⟩
 ·exact⟨_,_,rfl,fun x hx=>by simp only[NN]at hx;subst hx;exact⟨rfl,rfl⟩,fun _=>rfl⟩
theorem tE {K:Nat->Prop} {e n:Nat} {v:Value} {Q:List (List Int)} (h:qH w e n v Q.length (dP Q)) (hQ:Cx n Q) (hm:Q.length<=9223372036854775807):
  ∃a cap,v= .slice a Q.length cap/\∀(J:Env) (i:Nat) (fp:Nat->Prop) (w1:World) (F1:Nat->Prop),(∀b,v.ownBlock=some b->fp b)->(ah.que e n Q).holds K (J.iF i a Q.length cap) i fp w1 F1 w:=by
 obtain⟨a,cap,rfl,h1,h2⟩:=u4 h;refine⟨a,cap,rfl,fun J i fp w1 F1 hf=>⟨hQ,by simp[Env.iF],hm,fun x hx=>?_,fun h=>by simpa[Env.iF]using h2 h,by simpa[Env.sl,Env.iF]using h⟩⟩
 simp only[Env.iF,if_true]at hx⊢;subst hx;exact⟨rfl,(h1 x rfl).1,hf _ (h1 x rfl).2⟩
theorem BQ {t ty:Nat} {x y r:V} {q:Option Prop} {res':List ah} (hC:C.wO) (h:au J fps res (known res) w0 F0 w) (ha:J1 C res t x y=some (q,r,res')) (hq:aW q) (hx:ok (known res) x):
  ∃w' ρ' fps',(Builtin.append_ #[t,t] ty #[den J x,den J y]).run C.P w= .ok (den ρ' r) w'/\au ρ' fps' res' (known res') w0 F0 w'/\Env.agree (known res) J ρ'/\(∀i,known res i->known res' i)/\ok (known res') r:=by
 unfold J1 at ha;split at ha
 case h_2=>simp at ha
 rename_i e ht;split at ha
 case h_2=>simp at ha
 rename_i z hZ;split at ha
 case h_2=>simp at ha
 rename_i inf hi;split at ha
 case h_2=>simp at ha
 rename_i k m cap;split at ha
 case isFalse=>simp at ha
 rename_i hm;have hm:=NR.1 hm;subst hm;split at ha
 case h_2=>simp at ha
 rename_i bty c hk;split at ha
 case h_2=>simp at ha
 rename_i v hg;split at ha
 case h_2=>simp at ha
 rename_i xl;split at ha
 case h_2=>simp at ha
 rename_i l hl;split at ha
 case h_2=>simp at ha
 rename_i j;split at ha
 case h_2=>simp at ha
 rename_i e' n Q hj;split at ha<;>simp only[NN,NO,reduceCtorEq]at ha
 rename_i hc;simp only[NP,NR]at hc;obtain⟨⟨⟨rfl,rfl⟩,hln⟩,hsz⟩:=hc;have hsz:0<bJ z:=by simpa using hsz
 obtain⟨rfl,rfl,rfl⟩:=ha;obtain⟨inf',i1,i2,i3,i4,i5⟩:=hC e' z hZ;rw[hi]at i1;simp only[NN]at i1;subst i1;have hkk:=h.holds k (by unfold known;rw[hk];simp)
 rw[hk]at hkk;obtain⟨c1,c2,c3,c4⟩:=hkk;obtain⟨⟨p,p',e1,e2⟩,e3,e4,e5,e6⟩:=bF J 8 c 0 _ _ _ c1 c2 hg;have hp:p= []:=List.length_eq_zero_iff.1 e2.symm;subst hp;simp only[List.nil_append]at e1;obtain⟨d1,d2⟩:=ju (J:=J) hl e5.1;have hin:=rV hl e5.1;have hcl:cells J (.ag xl)=(aS l).map i64:=by unfold cells;rw[d1];simp[cC,Value.cells]
 have hzs:(den Env.zero z).cells.size=bJ z:=by rw[<-ar Env.zero z i3];simp[cells]
 have hnl:(cells J (.ag xl)).length=1*bJ z:=by rw[hcl,List.length_map,d2,hln,Nat.one_mul]
 have hnc:∀j u,(cells J (.ag xl))[j]? =some u->w.cell? ((⟨J.num k,0,none⟩:Addr).add j)=some u:=fun j u hu=>by
  rw[add_lit,Nat.zero_add,cell_of_row w _ j _ _ _ c4];have hj:=(List.getElem?_eq_some_iff.1 hu).1;simp only[List.getElem?_toArray,e1];rw[List.getElem?_append_left hj];exact hu
 have hone:=cU J (.ag xl) e5 e6;have hkj:known res j:=by unfold known;rw[hj];simp
 have hjj:=h.holds j hkj;rw[hj]at hjj;obtain⟨a1,a2,a3,a4,a5,a6⟩:=hjj;obtain⟨v',w',g1,g2,g3,g4⟩:=Di (P:=C.P) (ty:=ty) ht hi (i2 Env.zero) i5 rfl hzs hsz a6 ⟨J.num k,0,none⟩ cap (cells J (.ag xl)) hnl hnc hone hq
 have hQ':Cx (bJ z) (Q++ [aS l]):=fun y hy=>by
  rcases List.mem_append.1 hy with hy|hy
  ·exact a1 y hy
  ·simp only[List.mem_singleton]at hy;subst hy;exact⟨by rw[d2,hln],hin⟩
 have hlen:(Q++ [aS l]).length=Q.length+1:=by simp
 have g2:qH w' e' (bJ z) v' (Q++ [aS l]).length (dP (Q++ [aS l])):=by
  rw[hlen];have:dP (Q++ [aS l])=dP Q++cells J (.ag xl):=by rw[hcl];simp[dP]
  rw[this];exact g2
 have hfit:(Q++ [aS l]).length<=9223372036854775807:=by rw[hlen];exact mr hq.1
 obtain⟨a',cap',rfl,hh⟩:=tE (K:=known (aU [j] res++ [.que e' (bJ z) (Q++ [aS l])])) g2 hQ' hfit;have hnk:¬known res res.length:=fun hk=>by have:=aj hk;omega
 have hxb:∀b,(J.sl j).ownBlock=some b->fps j b:=fun b hb=>by
  cases hs:J.sa j with
  |none=>simp[Env.sl,hs,Value.ownBlock]at hb
  |some a=>
   simp only[Env.sl,hs,Value.ownBlock,NN]at hb;rw[<-hb];exact(a4 a hs).2.2
 obtain⟨fps',f1,f2,f3,f4⟩:=h.kR (ρ':=J.iF res.length a' (Q++ [aS l]).length cap') (w':=w') [j] (.que e' (bJ z) (Q++ [aS l])) [] (fun b=>(Value.slice a' (Q++ [aS l]).length cap').ownBlock=some b) (by simp) (by simpa using hkj) (by simp) (ni hnk)
  (hh J res.length _ w0 F0 fun b hb=>hb)
  (fun b hb=>by
   rcases g4 b hb with h1|h1
   ·exact .inl ⟨j,by simp,hxb b h1⟩
   ·exact .inr h1)
  g3.os g3.tape g3.output g3.size (fun b hbl hno=>g3.block b hbl fun hh=>hno j (by simp) (hxb b hh.symm))
 exact⟨w',_,fps',by
  rw[show den (J.iF res.length a' (Q++ [aS l]).length cap') (.sa res.length)= .slice a' (Q++ [aS l]).length cap' by simp[den,Env.iF]]
  exact g1,f1,f2,f3,f4⟩
theorem Dw {P:Program} {t:Nat} {x lo r:V} {q:Option Prop} {res':List ah} (h:au J fps res (known res) w0 F0 w) (ha:MG P res t x lo=some (q,r,res')) (hq:aW q):
  ∃ρ' fps',(Instr.sliceAt t (den J x) (some (den J lo)) none none).run P w= .ok (den ρ' r) w/\au ρ' fps' res' (known res') w0 F0 w/\Env.agree (known res) J ρ'/\(∀i,known res i->known res' i)/\ok (known res') r:=by
 unfold MG at ha;split at ha
 case h_2=>simp at ha
 rename_i e ht;split at ha
 case h_2=>simp at ha
 rename_i z hz;split at ha
 case h_2=>simp at ha
 rename_i j;split at ha
 case h_2=>simp at ha
 rename_i e' n Q hj;split at ha
 case h_2=>simp at ha
 rename_i k a;split at ha<;>simp only[NN,NO,reduceCtorEq]at ha
 rename_i hc;simp only[NP,NR]at hc;obtain⟨rfl,rfl⟩:=hc;obtain⟨rfl,rfl,rfl⟩:=ha;have hq:1<=Q.length:=hq;have hkj:known res j:=by unfold known;rw[hj];simp
 have hjj:=h.holds j hkj;rw[hj]at hjj;obtain⟨a1,a2,a3,a4,a5,a6⟩:=hjj;cases Q with
 |nil=>simp at hq
 |cons y Q=>
 have hQ':Cx n Q:=fun y hy=>a1 y (by simp[hy])
 have hnk:¬known res res.length:=fun hk=>by have:=aj hk;omega
 have hxb:∀b,(J.sl j).ownBlock=some b->fps j b:=fun b hb=>by
  cases hs:J.sa j with
  |none=>simp[Env.sl,hs,Value.ownBlock]at hb
  |some a=>
   simp only[Env.sl,hs,Value.ownBlock,NN]at hb;rw[<-hb];exact(a4 a hs).2.2
 have hxl:=(a1 y (by simp)).1
 rcases a6.2 with⟨_,h0⟩|⟨g,off,cap,cur,f1,f2,f3,f4,f5,f6⟩
 ·simp at h0
 simp only[List.length_cons]at f1 f3 f6
 have hrow:qH w e' n (.slice (if cap=1 then some ⟨g,off,none⟩else some ⟨g,off+n,none⟩) Q.length (cap-1)) Q.length (dP Q):=by
  refine⟨tg hQ',.inr ?_⟩
  have ht:(dP Q)=((dP (y::Q)).drop n):=by
   show _=((y.map i64)++dP Q).drop n
   rw[List.drop_append_of_le_length (by simp[hxl]),List.drop_of_length_le (by simp[hxl])];rfl
  by_cases hc:cap=1
  ·subst hc;have:Q= []:=List.length_eq_zero_iff.1 (by omega)
   subst this;exact⟨g,off,0,cur,by simp,f2,by simp,by simp[maxLen],by omega,by simp[dP]⟩
  ·obtain⟨c,rfl⟩:∃c,cap=c+1:=⟨cap-1,by omega⟩
   refine⟨g,off+n,c,cur,by rw[NW hc];rfl,f2,by omega,by omega,by rw[Nat.succ_mul]at f5;omega,?_⟩
   rw[ht,<-f6,List.drop_take,List.drop_drop,Nat.succ_mul,Nat.add_sub_cancel]
 obtain⟨a',cap',hv,hh⟩:=tE (K:=known (aU [j] res++ [.que e' n Q])) hrow hQ' (by simp at a3;omega)
 have hsub:∀b,(Value.slice (if cap=1 then some ⟨g,off,none⟩else some ⟨g,off+n,none⟩) Q.length (cap-1)).ownBlock=some b->fps j b:=fun b hb=>by
  refine hxb b ?_;rw[f1];rw[<-hb];by_cases hc:cap=1
  ·rw[NX hc];rfl
  ·rw[NW hc];rfl
 obtain⟨fps',p1,p2,p3,p4⟩:=h.kR (ρ':=J.iF res.length a' Q.length cap') (w':=w) [j] (.que e' n Q) [] (fun b=>fps j b) (by simp) (by simpa using hkj) (by simp) (ni hnk)
  (hh J res.length _ w0 F0 fun b hb=>hsub b hb)
  (fun b hb=> .inl ⟨j,by simp,hb⟩) rfl rfl rfl (Nat.le_refl _) (fun _ _ _=>rfl)
 refine⟨_,fps',?_,p1,p2,p3,p4⟩;rw[show den (J.iF res.length a' Q.length cap') (.sa res.length)= .slice a' Q.length cap' by simp[den,Env.iF],<-hv]
 show(Instr.sliceAt t (J.sl j) (some (.int k 1)) none none).run P w=_
 rw[f1]
 have hb:(Instr.sliceBounds true (Q.length+1) cap (some (.int k 1)) none none).run P w= .ok (1,Q.length+1,cap) w:=by
  have h1:(1:Int)<=((Q.length+1:Nat):Int):=by omega
  have h2:=run_sliceBound (P:=P) w k 1 (Q.length+1) .sliceB (by omega) h1
  simp[Instr.sliceBounds,h2]
 simp only[Instr.sliceAt,Instr.slice,Sem.run_bind,aB w ht,Result.andThen_ok,hb,cB w hz,Sem.run_pure,Nat.one_mul,Nat.add_sub_cancel,Option.map_some,Addr.add_lit]
def s9 {α:Type} (a b:List α):List α:=a++b
def Fz (n m b:Nat):Prop:=n+m<=maxLen/\(n+m)*b<=140737488355328
def wN (a b:TL):Option TL:=
 match a with
 | .qs n Q=>match b with
   | .qs n' Q'=>if n==n' then some (.qs n (s9 Q Q'))else none
   |_=>none
 | .it k L=>match b with
   | .it k' L'=>if k==k' then some (.it k (s9 L L'))else none
   |_=>none
 |_=>none
theorem rG {a b l:TL} (h:wN a b=some l):l.len=a.len+b.len/\(∀i,i<a.len->l.get i=a.get i)/\∀i,i<b.len->l.get (a.len+i)=b.get i:=by
 unfold wN at h;split at h
 ·split at h
  case h_2=>simp at h
  split at h<;>simp only[NN,reduceCtorEq]at h
  subst h;rename_i n Q _ n' Q' hn;have hn:=NR.1 hn;subst hn;refine⟨by simp[TL.len,aa,s9],fun i hi=>?_,fun i hi=>?_⟩
  ·simp only[TL.get];have e:(Q++Q').getD i []=Q.getD i []:=by rw[NV,List.getElem?_append_left hi,<-NV]
   exact congrArg V.ag (qY (fun c=>by unfold aK s9;rw[e]) n 0)
  ·simp only[TL.get];have e:(Q++Q').getD (Q.length+i) []=Q'.getD i []:=by rw[NV,List.getElem?_append_right (by omega),Nat.add_sub_cancel_left,<-NV]
   exact congrArg V.ag (qY (fun c=>by unfold aK s9;exact congrArg (fun l=>List.getD l c 0) e) n 0)
 ·split at h
  case h_2=>simp at h
  split at h<;>simp only[NN,reduceCtorEq]at h
  subst h;rename_i k L _ k' L' hk;have hk:=NR.1 hk;subst hk;refine⟨by simp[TL.len,aa,s9],fun i hi=>?_,fun i hi=>?_⟩
  ·simp only[TL.get,aq,s9];rw[NV,List.getElem?_append_left hi,<-NV]
  ·simp only[TL.get,aq,s9,TL.len,aa];rw[NV,List.getElem?_append_right (by omega),Nat.add_sub_cancel_left,<-NV]
 ·simp at h
theorem xh {a b l:TL} (h:wN a b=some l):l.cells=a.cells++b.cells:=by
 obtain⟨h1,h2,h3⟩:=rG h;unfold TL.cells;rw[h1,List.range_add,List.flatMap_append];congr 1
 ·rw[List.flatMap_def,List.flatMap_def];exact congrArg _ (List.map_congr_left fun i hi=>by rw[h2 i (List.mem_range.1 hi)])
 ·rw[List.flatMap_def,List.flatMap_def,List.map_map];exact congrArg _ (List.map_congr_left fun i hi=>by simp only[Function.comp];rw[h3 i (List.mem_range.1 hi)])
theorem GM {w':World} {e esz:Nat} {l':TL} {v':Value} {ts:List Nat} (h:au J fps res (known res) w0 F0 w) (hts:∀t∈ts,known res t)
  (hold:∀j,j<l'.len->ok (fun _=>False) (l'.get j)/\aZ (l'.get j)=false/\bJ (l'.get j)=esz) (hown:w'.ownsRow 0 e esz v' l'.len l'.cells) {xv:Value} (hgr:w.grownBy w' xv.ownBlock)
  (hx:∀b,xv.ownBlock=some b->∃t∈ts,fps t b) (hnew:∀b,v'.ownBlock=some b->xv.ownBlock=some b\/(w.heap.size<=b/\b<w'.heap.size)) (hm:l'.len<=9223372036854775807):
  ∃ρ' fps',v'=den ρ' (.sa res.length)/\au ρ' fps' (aU ts res++ [.arr (some e) esz l']) (known (aU ts res++ [.arr (some e) esz l'])) w0 F0 w'/\Env.agree (known res) J ρ'/\
   (∀i,known res i->known (aU ts res++ [.arr (some e) esz l']) i)/\known (aU ts res++ [.arr (some e) esz l']) res.length:=by
 have hf:∃a cap,v'= .slice a l'.len cap/\(∀x,a=some x->x.spot=none/\v'.ownBlock=some x.block)/\(0<l'.len->a.isSome=true):=by
  rcases hown.2 with⟨rfl,h0⟩|⟨g,cap,cur,rfl,_⟩
  ·exact⟨_,_,by rw[h0],fun x hx=>by simp at hx,fun h=>by omega⟩
  ·exact⟨_,_,rfl,fun x hx=>by simp only[NN]at hx;subst hx;exact⟨rfl,rfl⟩,fun _=>rfl⟩
 obtain⟨a,cap,hv,h1,h2⟩:=hf;have hnk:¬known res res.length:=fun hk=>by have:=aj hk;omega
 obtain⟨fps',g1,g2,g3,g4⟩:=h.kR (ρ':=J.iF res.length a l'.len cap) (w':=w') ts (.arr (some e) esz l') [] (fun x=>v'.ownBlock=some x) (by simp) hts (by simp) (ni hnk)
  (by
   refine⟨hold,by simp[Env.iF],hm,fun x hx=>by simp[Env.iF]at hx⊢;simp[hx],fun h=>by simpa[Env.iF]using h2 h,fun h=>?_,.inr ⟨e,fun e' he=>by simpa using he.symm,?_,fun x hx=>?_⟩⟩
   ·have:=h2 h;cases ha:a with
    |none=>rw[ha]at this;simp at this
    |some x=>simp[Env.iF];exact(h1 x ha).1
   ·rw[show(J.iF res.length a l'.len cap).sl res.length=v' by rw[hv];simp[Env.sl,Env.iF]]
    exact hown
   ·simp only[Env.iF,if_true]at hx;exact(h1 x hx).2)
  (fun x hx'=>by
   rcases hnew _ hx' with h1|h1
   ·exact .inl (hx _ h1)
   ·exact .inr h1)
  hgr.os hgr.tape hgr.output hgr.size (fun x hxl hno=>hgr.block x hxl fun hh=>by
   obtain⟨t,ht,hft⟩:=hx x hh.symm;exact hno t ht hft)
 exact⟨_,fps',by rw[hv];simp[den,Env.iF],g1,g2,g3,g4⟩
def JN (C:Ctx) (res:List ah) (t:Nat) (x y:V):Option (Option Prop×V×List ah):=
 match HS res y with
 |some (q,esz,l2)=>match C.P.underlying t with
  |some (.slice e)=>match C.Z e with
   |some z=>match C.P.info? e with
    |some inf=>match x with
     | .sa j=>match ae res j with
       | .arr own esz' l=>match own with
         |some e'=>if e'==e&&esz'==esz&&esz==bJ z&&Nat.blt 0 esz then(wN l l2).map fun l'=>(HK q (Fz l.len l2.len inf.bytes),.sa res.length,aU [j] res++ [.arr (some e) esz l'])else none
         |none=>none
       |_=>none
     |_=>none
    |none=>none
   |none=>none
  |_=>none
 |none=>none
theorem Bt {t ty:Nat} {x y r:V} {q:Option Prop} {res':List ah} (hC:C.wO) (h:au J fps res (known res) w0 F0 w) (ha:JN C res t x y=some (q,r,res')) (hq:aW q):
  ∃w' ρ' fps',(Builtin.append_ #[t,t] ty #[den J x,den J y]).run C.P w= .ok (den ρ' r) w'/\au ρ' fps' res' (known res') w0 F0 w'/\Env.agree (known res) J ρ'/\(∀i,known res i->known res' i)/\ok (known res') r:=by
 unfold JN at ha;split at ha
 case h_2=>simp at ha
 rename_i q' esz l2 hsrc;split at ha
 case h_2=>simp at ha
 rename_i e ht;split at ha
 case h_2=>simp at ha
 rename_i z hZ;split at ha
 case h_2=>simp at ha
 rename_i inf hi;split at ha
 case h_2=>simp at ha
 rename_i j;split at ha
 case h_2=>simp at ha
 rename_i own esz' l hj;split at ha
 case h_2=>simp at ha
 rename_i e';split at ha
 case isFalse=>simp at ha
 rename_i hc;simp only[NP,NR]at hc;obtain⟨⟨⟨rfl,rfl⟩,rfl⟩,hsz⟩:=hc;have hsz:0<bJ z:=by simpa using hsz
 cases hl:wN l l2 with
 |none=>simp[hl]at ha
 |some l'=>
 simp only[hl,Option.map_some,NN,NO]at ha;obtain⟨rfl,rfl,rfl⟩:=ha;obtain⟨q0,q1,q2⟩:=wz.1 hq;obtain⟨inf',i1,i2,i3,i4,i5⟩:=hC e' z hZ;rw[hi]at i1;simp only[NN]at i1;subst i1;have hzs:(den Env.zero z).cells.size=bJ z:=by rw[<-ar Env.zero z i3];simp[cells]
 obtain⟨s1,s3,ao,cap,hd,hsome,hcell⟩:=wC h hsrc q0;obtain⟨c1,c2,c3⟩:=rG hl;have hkj:known res j:=by unfold known;rw[hj];simp
 have hjj:=h.holds j hkj;rw[hj]at hjj;obtain⟨a1,a2,a3,a4,a5,a6,a7⟩:=hjj;rcases a7 with⟨b1,_⟩|⟨e2,b1,b2,b3⟩
 ·simp at b1
 have:=b1 e' rfl;subst this
 have hold:∀i,i<l'.len->ok (fun _=>False) (l'.get i)/\aZ (l'.get i)=false/\bJ (l'.get i)=bJ z:=fun i hi=>by
  by_cases h1:i<l.len
  ·rw[c2 i h1];exact a1 i h1
  ·obtain⟨m,rfl⟩:∃m,i=l.len+m:=⟨i-l.len,by omega⟩
   rw[c3 m (by omega)];exact s1 m (by omega)
 have hxb:∀b,(J.sl j).ownBlock=some b->∃t∈ [j],fps t b:=fun b hb=>by
  refine⟨j,by simp,?_⟩
  cases hs:J.sa j with
  |none=>simp[Env.sl,hs,Value.ownBlock]at hb
  |some a=>
   simp only[Env.sl,hs,Value.ownBlock,NN]at hb;rw[<-hb];exact b3 a hs
 have hm:l'.len<=9223372036854775807:=by rw[c1];exact mr q1
 have hl2:l2.cells.length=l2.len*bJ z:=pT fun i hi=>by rw[ar Env.zero _ (s1 i hi).1];exact(s1 i hi).2.2
 have hone:∀u∈l2.cells,u.oneCell'=true:=fun u hu=>by
  grind[TL.cells,cU,Env.zero]
 have main:∃v' w',(Builtin.append_ #[t,t] ty #[den J (.sa j),den J y]).run C.P w= .ok v' w'/\w'.ownsRow 0 e' (bJ z) v' l'.len l'.cells/\w.grownBy w' (J.sl j).ownBlock/\∀b',v'.ownBlock=some b'->(J.sl j).ownBlock=some b'\/(w.heap.size<=b'/\b'<w'.heap.size):=by
  rw[c1,xh hl,hd];show∃v' w',(Builtin.append_ #[t,t] ty #[J.sl j,_]).run C.P w= .ok v' w'/\_
  cases hs:ao with
  |none=>
   have h0:l2.len=0:=by
    rcases Nat.eq_zero_or_pos l2.len with h|h
    ·exact h
    ·have:=hsome h;rw[hs]at this;simp at this
   have hxs:l2.cells= []:=List.length_eq_zero_iff.1 (by rw[hl2,h0];simp)
   refine⟨J.sl j,w,?_,by rw[h0,hxs,Nat.add_zero,List.append_nil];exact b2,⟨rfl,rfl,rfl,Nat.le_refl _,fun _ _ _=>rfl⟩,fun b' hb'=> .inl hb'⟩
   rw[h0];rcases b2.2 with⟨hv,hz⟩|⟨g,cap',cur,hv,_,_,hn,_⟩
   ·rw[hv];simp[Builtin.append_,aB w ht,Builtin.lenOf,Builtin.firstCells,sizeOf,typeInfo,hi]
   ·rw[hv];simp[Builtin.append_,aB w ht,Builtin.lenOf,Builtin.firstCells,sizeOf,typeInfo,hi,hn,storeCells]
  |some a=>
   have hnc:=hcell a hs;rcases b2.2 with⟨hv,hz⟩|⟨g,cap',cur,hv,_,hg,hn,hcm,hcs,htk⟩
   ·have hx:l.cells= []:=List.length_eq_zero_iff.1 (by have:=b2.1;rw[hz]at this;simpa using this)
    rw[hv,hz,hx,Nat.zero_add,List.nil_append]
    obtain⟨v',w',r1,r2,r3,_⟩:=run_append_own (P:=C.P) w w.heap.size t ty e' inf (den Env.zero z) (bJ z) inf.bytes ht hi (i2 Env.zero) i5 rfl hzs hsz (.slice none 0 0) 0 [] (World.ownsRow_nil w _ e' _)
     a l2.len cap l2.cells hl2 hnc hone (by have:=q1;omega) (Nat.le_trans (Nat.mul_le_mul_right _ (by omega)) q2) (Nat.le_refl _)
    simp only[Nat.zero_add,List.nil_append]at r2;exact⟨v',w',r1,⟨r2.1,r2.2.imp id fun⟨g,cp,cu,a1,a2,a3⟩=>⟨g,cp,cu,a1,Nat.zero_le _,a3⟩⟩,r3,fun b' hb'=> .inr (r2.lt b' hb')⟩
   ·by_cases hroom:l.len+l2.len<=cap'
    ·have b2':=b2;rw[hv]at b2'⊢;obtain⟨w',r1,r2,r3⟩:=run_append_fits (P:=C.P) w 0 t ty e' inf (bJ z) ht hi i5 g l.len cap' l.cells b2' a l2.len cap l2.cells hl2 hnc hone hroom;exact⟨_,w',r1,r2,r3,fun b' hb'=> .inl hb'⟩
    ·have holds:∀j u,l.cells[j]? =some u->w.cell? ((⟨g,0,none⟩:Addr).add j)=some u:=fun k u hu=>by
      rw[add_lit,Nat.zero_add];have b2':=b2;rw[hv]at b2';rw[b2'.cellAt k (by rw[<-b2'.1];exact(List.getElem?_eq_some_iff.1 hu).1)];exact hu
     rw[hv];obtain⟨v',w',r1,r2,r3⟩:=run_append_arg_grows (P:=C.P) w t ty e' inf (den Env.zero z) (bJ z) inf.bytes ht hi (i2 Env.zero) i5 rfl hzs hsz ⟨g,0,none⟩ l.len cap' l.cells b2.1 holds a l2.len cap l2.cells hl2 hnc (by omega) q1 q2
     exact⟨v',w',r1,⟨r2.1,r2.2.imp id fun⟨g,cp,cu,a1,a2,a3⟩=>⟨g,cp,cu,a1,Nat.zero_le _,a3⟩⟩,⟨r3.os,r3.tape,r3.output,r3.size,fun k hk _=>r3.block k hk (by simp)⟩,fun b' hb'=> .inr (r2.lt b' hb')⟩
 obtain⟨v',w',g1,g2,g3,g4⟩:=main;obtain⟨ρ',fps',f1,f2,f3,f4,f5⟩:=GM h (by simpa using hkj) hold g2 g3 hxb g4 hm
 exact⟨w',ρ',fps',by rw[<-f1];exact g1,f2,f3,f4,f5⟩
end
end Go.Sx
