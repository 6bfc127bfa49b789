import Derived.Test.YtmfbohanboiklaaGreatSxB
import Derived.MapKept
import Derived.Carry
import Derived.Laws.AppendOwn
import Derived.Laws.BytesString
import Derived.Laws.CopyRow
import Derived.Maps.RangeRun
import Derived.DefersIn
import Derived.ArgAppend
set_option linter.unusedSimpArgs false
set_option linter.unusedVariables false
namespace Go.Sx
open Go.RowKit (Below)
theorem fw {K:Nat->Prop} {v:V} {k:IntKind} {n:Int} (h:toInt v=some (k,n)):(∀J,cells J (.it k n)=cells J v)/\(ok K v->ok (fun _=>False) (.it k n))/\bg (V.it k n)=bg v:=by
 cases v<;>simp only[toInt,JP,JQ,reduceCtorEq]at h<;>obtain⟨rfl,rfl⟩:=h
 ·exact⟨fun _=>rfl,fun h=>h,rfl⟩
 ·exact⟨fun _=>rfl,fun h=>h,rfl⟩
 ·rename_i b;refine⟨fun _=>rfl,fun _=>?_,rfl⟩
  have:=b.toNat_lt;simp only[ok,br,HE];omega
theorem fO {v:V} {b:Bool} (h:toBool v=some b):(∀J,cells J (.bo b)=cells J v)/\bg (V.bo b)=bg v:=by
 cases v<;>simp only[toBool,JP,reduceCtorEq]at h<;>subst h<;>exact⟨fun _=>rfl,rfl⟩
def lZ {α:Type} (n:Nat) (x:α):List α:=List.replicate n x
def Eo (n m:Int) (b:Nat):Prop:=m=n/\0<=n/\n<=9223372036854775807/\n*b<=281474976710656
def Cm (n:Nat) (v:V):Option TL:=
 match v with
 | .ob o=>some (.ob (lZ n o))
 | .key k=>some (.key (lZ n k))
 | .st s=>some (.st (lZ n s))
 |_=>match toInt v with
  |some (k,i)=>some (.it k (lZ n i))
  |none=>match toBool v with
   |some b=>some (.bo (lZ n b))
   |none=>none
theorem jz {α:Type} {n i:Nat} (x d:α) (h:i<n):aB (lZ n x) i d=x:=by
 simp[aB,lZ,JW,h]
theorem jQ {α:Type} (n:Nat) (x:α):ar (lZ n x)=n:=by simp[ar,lZ]
theorem wK {K:Nat->Prop} {n:Nat} {v:V} {l:TL} (h:Cm n v=some l):
  l.len=n/\∀i,i<n->(∀J,cells J (l.get i)=cells J v)/\(ok K v->ok (fun _=>False) (l.get i))/\aP (l.get i)=false/\bg (l.get i)=bg v:=by
 unfold Cm at h;split at h
 ·rename_i x;simp only[JP]at h;subst h;exact⟨jQ _ _,fun i hi=>by rw[show(TL.ob (lZ n x)).get i=V.ob x from congrArg V.ob (jz x free hi)];exact⟨fun _=>rfl,fun h=>h,rfl,rfl⟩⟩
 ·rename_i x;simp only[JP]at h;subst h;exact⟨jQ _ _,fun i hi=>by rw[show(TL.key (lZ n x)).get i=V.key x from congrArg V.key (jz x void hi)];exact⟨fun _=>rfl,fun h=>h,rfl,rfl⟩⟩
 ·rename_i x;simp only[JP]at h;subst h;exact⟨jQ _ _,fun i hi=>by rw[show(TL.st (lZ n x)).get i=V.st x from congrArg V.st (jz x ByteArray.empty hi)];exact⟨fun _=>rfl,fun h=>h,rfl,rfl⟩⟩
 ·split at h
  ·rename_i k i hki;simp only[JP]at h;subst h;obtain⟨c1,c2,c3⟩:=fw (K:=K) hki;exact⟨jQ _ _,fun j hj=>by rw[show(TL.it k (lZ n i)).get j=V.it k i from congrArg (V.it k) (jz i 0 hj)];exact⟨c1,c2,rfl,c3⟩⟩
  ·split at h
   ·rename_i b hb;simp only[JP]at h;subst h;obtain⟨c1,c2⟩:=fO hb;exact⟨jQ _ _,fun j hj=>by rw[show(TL.bo (lZ n b)).get j=V.bo b from congrArg V.bo (jz b false hj)];exact⟨c1,fun _=>trivial,rfl,c2⟩⟩
   ·simp at h
theorem rV (z:Array Value):∀n:Nat,(madeCells z (n*z.size)).toList=(List.range n).flatMap fun _=>z.toList
 |0=>by simp[madeCells]
 |n+1=>by
  rw[List.range_succ,List.flatMap_append,<-rV z n];simp only[List.flatMap_cons,List.flatMap_nil,List.append_nil];apply List.ext_getElem?
  intro j;rw[List.getElem?_append];simp only[Array.length_toList,size_madeCells];by_cases h1:j<n*z.size
  ·rw[JY h1];have h2:j<(n+1)*z.size:=Nat.lt_of_lt_of_le h1 (Nat.mul_le_mul_right _ (Nat.le_succ n));simp[madeCells,h1,h2]
  ·rw[JX h1];have e:(n+1)*z.size=n*z.size+z.size:=Nat.succ_mul _ _;by_cases h2:j<(n+1)*z.size
   ·have hk:j-n*z.size<z.size:=by omega
    have hm:j%z.size=j-n*z.size:=by
     have:j=(j-n*z.size)+z.size*n:=by rw[Nat.mul_comm z.size n];omega
     conv=>lhs;rw[this]
     rw[Nat.add_mul_mod_self_left,Nat.mod_eq_of_lt hk]
    simp[madeCells,h2,hk,hm]
   ·simp[madeCells,h2];omega
def vf (C:Ctx) (nid t:Nat) (a b:V):Option (Option Prop×V×List ae):=
 match C.P.underlying t with
 |some (.slice e)=>match C.Z e,C.P.info? e with
  |some z,some inf=>match toInt a,toInt b with
   |some (_,n),some (_,m)=>match Cm (fU n) z with
    |some l=>some (some (Eo n m inf.bytes),.sa nid,[.arr (some e) (bg z) l])
    |none=>none
   |_,_=>none
  |_,_=>none
 |_=>none
def Env.setRow (J:Env) (i:Nat) (a:Addr) (n:Nat):Env:=
 {num:=J.num,cap:=fun j=>if j=i then n else J.cap j,adr:=fun j=>if j=i then a else J.adr j,sa:=fun j=>if j=i then some a else J.sa j,sn:=fun j=>if j=i then n else J.sn j,ob:=J.ob}
theorem tH {N:Nat->Prop} (J:Env) {i:Nat} {a:Addr} {n:Nat} (h:¬N i):Env.agree N J (J.setRow i a n):=fun j hj=>by
 have e1:j≠i:=fun e=>h (e▸hj)
 simp[Env.setRow,e1]
theorem sg {J:Env} {v:V} {k:IntKind} {n:Int} (h:toInt v=some (k,n)):den J v= .int k n:=by
 cases v<;>simp only[toInt,JP,JQ,reduceCtorEq]at h<;>obtain⟨rfl,rfl⟩:=h<;>rfl
theorem yO {C:Ctx} {nid t:Nat} {a b x:V} {q:Option Prop} {new:List ae} (h:vf C nid t a b=some (q,x,new)):x= .sa nid/\∃o e l,new= [.arr o e l]:=by
 unfold vf at h;split at h
 ·grind
 ·simp at h
theorem wh {C:Ctx} {J:Env} {K:Nat->Prop} {w0 w:World} {F0:Nat->Prop} {nid t:Nat} {a b x:V} {q:Option Prop} {new:List ae} (hC:C.tO) (h:vf C nid t a b=some (q,x,new)) (hq:aN q) (hn:¬K nid):
  ∃w' ρ',(Instr.makeSlice t (den J a) (den J b)).run C.P w= .ok (den ρ' x) w'/\fc K J ρ' nid new w0 F0 w w':=by
 unfold vf at h;split at h
 ·rename_i e ht;split at h
  ·rename_i z inf hZ hi;split at h
   ·rename_i k n k' m ha hb;split at h
    ·rename_i l hl;simp only[JP,JQ]at h;obtain⟨rfl,rfl,rfl⟩:=h;obtain⟨rfl,h0,h1,h2⟩:=(show Eo n m inf.bytes from hq);obtain⟨l1,l2⟩:=wK (K:=fun _=>False) hl
     obtain⟨i',g1,g2,g3,g4,g5⟩:=hC e z hZ;have:inf=i':=by rw[hi]at g1;exact Option.some.inj g1
     subst this;obtain⟨N,rfl⟩:∃N:Nat,m=(N:Int):=⟨m.toNat,by omega⟩
     have hN:fU (N:Int)=N:=by simp[fU]
     rw[hN]at l1 l2
     have hb2:inf.bytes*N<=281474976710656:=by
      grind
     have hzs:(den Env.zero z).cells.size=bg z:=by rw[<-ak Env.zero z g3];simp[cells]
     obtain⟨w',r1,r2,r3⟩:=run_make_full (P:=C.P) (w:=w) 0 t e inf (den Env.zero z) (bg z) ht hi (g2 Env.zero) g5 k k' N hb2 (by simp only[maxLen];omega) (Nat.zero_le _)
     have hcells:(madeCells (den Env.zero z).cells (N*bg z)).toList=l.cells:=by
      rw[<-hzs,rV,TL.cells,l1];exact fV _ _ _ fun j hj=>((l2 j (List.mem_range.1 hj)).1 Env.zero).symm
     rw[hcells]at r2
     have hblt:w.heap.size<w'.heap.size:=by
      rcases r2.2 with⟨hh,_⟩|⟨g,cap,cur,hh,_,hg,_⟩
      ·simp at hh
      ·grind
     refine⟨w',J.setRow nid ⟨w.heap.size,0,none⟩ N,?_,?_⟩
     ·grind[sg,den,Env.setRow]
     ·refine⟨(Below.refl _ _).grown r3 (Nat.le_refl _) (fun k hk=>by simp at hk),tH J (fun hf=>hf ⟨Nat.le_refl _,by simp⟩),fun _ b=>b=w.heap.size,fun k hk=>?_,fun k l b hk hl hne=>?_⟩
      ·simp only[List.length_singleton,Nat.lt_one_iff]at hk;subst hk;refine⟨⟨fun j hj=>?_,by simp[Env.setRow,l1],by rw[l1];omega,fun a ha=>by simp[Env.setRow]at ha⊢;exact ha.symm,fun _=>by simp[Env.setRow],fun _=>by simp[Env.setRow],.inr ⟨e,fun e' he=>by simpa using he.symm,?_,fun a ha=>by simp[Env.setRow]at ha;rw[<-ha]⟩⟩,fun b hb=>by subst hb;exact⟨Nat.le_refl _,hblt⟩⟩
       ·simp_all
       ·simp_all[Env.sl,Env.setRow]
      ·simp_all
    ·simp at h
   ·simp at h
  ·simp at h
 ·simp at h
end Go.Sx
namespace Go.Sx
open Go.RowKit (Below)
def Hz (b:Bool) (x y:Int):Int:=match b with
 |true=>x
 |false=>y
def CM (n:Int):List Int->Bool
 | []=>false
 |k::ks=>match ks with
  | []=>tQ n k
  |_=>Gy (tQ n k) (CM n ks)
theorem tZ (n k:Int) (ks:List Int):CM n (k::ks)=(decide (n=k)||CM n ks):=by
 cases ks<;>simp[CM,tQ,Gy]
def rh (n:Int) (z:V):List Int->List V->Option V
 | [],[]=>some z
 |k::ks,v::vs=>match v with
  | .fn f l=>match rh n z ks vs with
    |some y=>some (.ch (tQ n k) f l y)
    |none=>none
  |_=>none
 |_,_=>none
def wN (kd:IntKind) (n z:Int):List Int->List V->Option Int
 | [],[]=>some z
 |k::ks,v::vs=>match toInt v with
  |some (kd',a)=>if kd==kd' then match wN kd n z ks vs with
   |some y=>some (Hz (tQ n k) a y)
   |none=>none
   else none
  |none=>none
 |_,_=>none
def Gc (n:Int) (z:V) (ks:List Int) (vs:List V):Option V:=
 match z with
 | .nl v=>match v with
   | .nilFunc=>rh n (.nl .nilFunc) ks vs
   |_=>none
 | .ci kd a=>match wN kd n a ks vs with
   |some y=>some (.it kd y)
   |none=>none
 |_=>none
def An (C:Ctx) (res:List ae) (t:Nat) (m x:V) (two:Bool):Option V:=
 match m with
 | .mp i=>match toInt x with
   |some (kd,n)=>match aW res i with
    | .mp kd' ks vs=>match C.P.underlying t with
      |some (.map kt et)=>match C.P.underlying kt with
       |some (.int kd'')=>if kd==kd'&&kd==kd'' then match C.Z et with
        |some z=>match Gc n z ks vs with
         |some y=>if two then some (.tp [y,.bo (CM n ks)])else some y
         |none=>none
        |none=>none
        else none
       |_=>none
      |_=>none
    |_=>none
   |none=>none
 |_=>none
def Eb (P:Program) (res:List ae) (t:Nat) (m x v:V):Option (List ae):=
 match m with
 | .mp i=>match x with
   | .ci kd n=>match aa res i with
     | .mp kd' ks vs=>match P.underlying t with
       |some (.map kt et)=>match P.underlying kt with
        |some (.int kd'')=>if kd==kd'&&kd==kd''&&decide (br kd n)&& !ks.contains n&& !aP v then some (aG res i (.mp kd (ks++ [n]) (vs++ [v])))else none
        |_=>none
       |_=>none
     |_=>none
   |_=>none
 |_=>none
section
variable {J:Env} {fps:Nat->Nat->Prop} {res:List ae} {K:Nat->Prop} {w0 w:World} {F0:Nat->Prop}
theorem jX {kd:IntKind} {n:Int}:∀(ks:List Int) (xs:List Value) (l:List MapEntry) (i:Nat),l.map (·.key)=ks.map (Value.int kd)->l.map (·.val)=xs->
  ∃r,Instr.findNow (.int kd) (.int kd n) l i=some r/\r.isSome=CM n ks/\
   ((r=none/\n∉ks)\/∃j x,r=some (i+j,x)/\ks[j]? =some n/\xs[j]? =some x/\∀q<j,ks[q]? ≠some n)
 | [],xs,l,i,h,h'=>by
   cases l with
   |nil=>exact⟨none,rfl,rfl,.inl ⟨rfl,by simp⟩⟩
   |cons e l=>simp at h
 |k::ks,xs,l,i,h,h'=>by
  cases l with
  |nil=>simp at h
  |cons e l=>
   simp only[List.map_cons,List.cons.injEq]at h;obtain⟨hk,hl⟩:=h;subst h';by_cases e1:n=k
   ·subst e1;refine⟨some (i,e.val),by simp[Instr.findNow,hk,Instr.sameNow],by rw[tZ];simp,.inr ⟨0,e.val,rfl,by simp,by simp,by simp⟩⟩
   ·obtain⟨r,r1,r2,r3⟩:=jX (n:=n) ks _ l (i+1) hl rfl;refine⟨r,by simp[Instr.findNow,hk,Instr.sameNow,beq_eq_false_iff_ne.2 e1,r1],by rw[tZ,r2];simp[e1],?_⟩
    rcases r3 with⟨a,b⟩|⟨j,x,a,b,c,d⟩
    ·exact .inl ⟨a,by simp[e1,b]⟩
    ·refine .inr ⟨j+1,x,by rw[a];congr 2;omega,by simpa using b,by simpa using c,fun q hq=>?_⟩
     cases q with
     |zero=>simp;exact fun e=>e1 e.symm
     |succ q=>simpa using d q (by omega)
theorem vt {n:Int} {z:V} (hz:ok K z) (hz1:∀J:Env,(den J z).oneCell'=true):∀(ks:List Int) (vs:List V) (y:V),rh n z ks vs=some y->bH K vs->
  ok K y/\(∀J:Env,(den J y).oneCell'=true)/\∀J:Env,(n∉ks->den J y=den J z)/\∀(j:Nat) x,ks[j]? =some n->(aw J vs)[j]? =some x->(∀q<j,ks[q]? ≠some n)->den J y=x
 | [],[],y,h,hv=>by
   simp_all[rh]
 | [],_::_,y,h,hv=>by simp[rh]at h
 |_::_,[],y,h,hv=>by simp[rh]at h
 |k::ks,v::vs,y,h,hv=>by
  simp only[rh]at h;split at h
  ·rename_i f l;split at h<;>simp only[JP,reduceCtorEq]at h
   rename_i y' hy;subst h;obtain⟨a,b,c⟩:=vt hz hz1 ks vs y' hy hv.2;refine⟨⟨hv.1,a,b⟩,fun J=>?_,fun J=>⟨fun hn=>?_,fun j x hj hx hq=>?_⟩⟩
   ·simp only[den];split
    ·exact gH _ _
    ·exact b J
   ·simp_all[den,tQ]
   ·simp only[den,tQ];cases j with
    |zero=>
     simp at hj;subst hj;simp[aw,den]at hx;simp[<-hx]
    |succ j=>
     have h0:=hq 0 (by omega)
     simp at h0;rw[decide_eq_false (fun e=>h0 e.symm)]
     refine(c J).2 j x (by simpa using hj) (by simpa[aw]using hx) fun q hq'=>?_
     have:=hq (q+1) (by omega)
     simpa using this
  ·simp at h
theorem uQ {kd:IntKind} {n z:Int} (hz:br kd z):∀(ks:List Int) (vs:List V) (y:Int),wN kd n z ks vs=some y->bH K vs->
  br kd y/\∀J:Env,(n∉ks->y=z)/\∀(j:Nat) x,ks[j]? =some n->(aw J vs)[j]? =some x->(∀q<j,ks[q]? ≠some n)-> .int kd y=x
 | [],[],y,h,hv=>by
   simp_all[wN]
 | [],_::_,y,h,hv=>by simp[wN]at h
 |_::_,[],y,h,hv=>by simp[wN]at h
 |k::ks,v::vs,y,h,hv=>by
  simp only[wN]at h;split at h
  ·rename_i kd' a ha;split at h
   ·rename_i hk;have hk:=JT.1 hk;subst hk;split at h<;>simp only[JP,reduceCtorEq]at h
    rename_i y' hy;subst h;obtain⟨b,c⟩:=uQ hz ks vs y' hy hv.2;refine⟨?_,fun J=>⟨fun hn=>?_,fun j x hj hx hq=>?_⟩⟩
    ·cases tQ n k
     ·exact b
     ·exact(aT (J:=⟨fun _=>0,fun _=>0,fun _=>default,fun _=>none,fun _=>0,fun _ _=>0⟩) ha hv.1).2
    ·simp only[List.mem_cons,not_or]at hn;simp only[tQ];rw[decide_eq_false hn.1];exact(c J).1 hn.2
    ·simp only[tQ];cases j with
     |zero=>
      simp at hj;subst hj;simp[aw]at hx;simp[Hz,<-hx,(aT (J:=J) ha hv.1).1]
     |succ j=>
      have h0:=hq 0 (by omega)
      simp at h0;rw[decide_eq_false (fun e=>h0 e.symm)]
      refine(c J).2 j x (by simpa using hj) (by simpa[aw]using hx) fun q hq'=>?_
      have:=hq (q+1) (by omega)
      simpa using this
   ·simp at h
  ·simp at h
theorem zO {n:Int} {z y:V} {ks:List Int} {vs:List V} (hz:ok (fun _=>False) z) (h:Gc n z ks vs=some y) (hv:bH K vs):
  ok K y/\aP y=false/\∀J:Env,(n∉ks->den J y=den J z)/\∀(j:Nat) x,ks[j]? =some n->(aw J vs)[j]? =some x->(∀q<j,ks[q]? ≠some n)->den J y=x:=by
 unfold Gc at h;split at h
 ·split at h
  ·obtain⟨a,b,c⟩:=vt (K:=K) (z:= .nl .nilFunc) rfl (fun _=>rfl) ks vs y h hv
   refine⟨a,?_,c⟩;cases ks with
   |nil=>cases vs<;>simp[rh]at h;subst h;rfl
   |cons k ks=>
    cases vs with
    |nil=>simp[rh]at h
    |cons v vs=>
     simp only[rh]at h;split at h
     ·split at h<;>simp only[JP,reduceCtorEq]at h
      subst h;rfl
     ·simp at h
  ·simp at h
 ·rename_i kd a;split at h<;>simp only[JP,reduceCtorEq]at h
  rename_i y' hy;subst h;obtain⟨b,c⟩:=uQ (K:=K) (show br kd a from hz) ks vs y' hy hv;exact⟨b,rfl,fun J=>⟨fun hn=>by simp only[den];rw[(c J).1 hn],fun j x h1 h2 h3=>by simp only[den];exact(c J).2 j x h1 h2 h3⟩⟩
 ·simp at h
theorem wS {C:Ctx} {t:Nat} {m x r:V} {two:Bool} (hC:C.tO) (h:an J fps res K w0 F0 w) (hl:An C res t m x two=some r) (hx:ok K x):
  (Instr.lookup t (den J m) (den J x) two).run C.P w= .ok (den J r) w/\ok K r:=by
 unfold An at hl;split at hl
 case h_2=>simp at hl
 rename_i i;split at hl
 case h_2=>simp at hl
 rename_i kd n hn;split at hl
 case h_2=>simp at hl
 rename_i kd' ks vs hr;split at hl
 case h_2=>simp at hl
 rename_i kt et hu;split at hl
 case h_2=>simp at hl
 rename_i kd'' hku;split at hl
 case isFalse=>simp at hl
 rename_i hkd;simp only[JR,JT]at hkd;obtain⟨rfl,rfl⟩:=hkd;split at hl
 case h_2=>simp at hl
 rename_i z hz;split at hl
 case h_2=>simp at hl
 rename_i y hy;obtain⟨hx1,hx2⟩:=aT (J:=J) hn hx;obtain⟨fp,hh,_⟩:=h.look hr (by simp)
 obtain⟨_,a2,a3,a4,a5,es,cl,b1,b2,b3⟩:=hh;obtain⟨_,_,_,hz3,hz4,_⟩:=hC et z hz;obtain⟨y1,y2,y3⟩:=zO hz3 hy a2;obtain⟨q,q1,q2,q3⟩:=jX (n:=n) ks _ es.toList 0 b2 b3;have hck:=MapKept.run_checkKey (P:=C.P) (w:=w) (k:= .int kd n) hku rfl es.isEmpty 9999;have hfk:=MapKept.run_findKey (w:=w) hku q1;have hzr:=fY (J:=J) (w:=w) hC hz
 have main:(Instr.lookup t (den J (.mp i)) (den J x) two).run C.P w= .ok (if two then .tuple #[den J y,.bool (CM n ks)]else den J y) w:=by
  rw[hx1];simp only[Instr.lookup,den,Sem.run_bind,au w hu,Result.andThen_ok,MapKept.run_getObj_map b1,Sem.run_pure,hck,hfk];rcases q3 with⟨rfl,hnk⟩|⟨j,v,rfl,c1,c2,c3⟩
  ·simp_all
  ·simp only[Sem.run_pure,Result.andThen_ok];rw[(y3 J).2 j v c1 c2 c3,<-q2];rfl
 rw[main];cases two
 ·simp only[Bool.false_eq_true,if_false,JP]at hl;subst hl;exact⟨by simp,y1⟩
 ·simp only[if_true,JP]at hl;subst hl;exact⟨by simp[den,aw],y1,trivial,trivial⟩
theorem fc.FU {nid:Nat} {kd:IntKind} (hn:¬K nid):
  fc K J (J.aD nid w.heap.size) nid [.mp kd [] []] w0 F0 w (w.alloc (.map #[] 0)):=by
 refine⟨(Below.refl _ _).alloc (Nat.le_refl _) _,dU J nid _,fun _ b=>b=w.heap.size,fun k hk=>?_,fun k l b hk hl hne=>?_⟩
 ·simp only[List.length_singleton,Nat.lt_one_iff]at hk;subst hk;refine⟨⟨by simp[Env.aD],trivial,trivial,by simp,rfl, #[],0,?_,rfl,rfl⟩,fun b hb=>by subst hb;simp⟩
  rw[show(J.aD nid w.heap.size).num (nid+0)=w.heap.size by simp[Env.aD]]
  exact heap_alloc_new w _
 ·simp only[List.length_singleton,Nat.lt_one_iff]at hk hl;omega
theorem an.qC {w':World} {i:Nat} {r r':ae} {b:Nat}
  (h:an J fps res K w0 F0 w) (hi:aa res i=r) (hne:r≠ .yet) (hne':r'≠ .yet) (hfp:fps i b) (hnew:r'.holds K J i (fps i) w0 F0 w')
  (hos:w'.os=w.os) (htape:w'.tape=w.tape) (hout:w'.output=w.output) (hsize:w'.heap.size=w.heap.size) (hold:∀b',b'≠b->w'.heap[b']? =w.heap[b']?):
  an J fps (aG res i r') K w0 F0 w'/\∀j,known (aG res i r') j↔known res j:=by
 have hk:known res i:=by unfold known;rw[hi];exact hne
 have hlt:=ai hk
 have hkn:∀j,known (aG res i r') j↔known res j:=fun j=>by
  grind[known,aA]
 refine⟨⟨fun j hj=>h.sub j ((hkn j).1 hj),by rw[hsize];exact h.old,hos.trans h.os,htape.trans h.tape,hout.trans h.output,fun j hj=>?_,fun j b hj hb=>by rw[hsize];exact h.lt j b ((hkn j).1 hj) hb,
  fun j l b hj hl=>h.disj j l b ((hkn j).1 hj) ((hkn l).1 hl),fun j b hj=>h.inF j b ((hkn j).1 hj),fun c hc hF=>?_⟩,hkn⟩
 ·rw[aA _ _ _ _ hlt];by_cases e:j=i
  ·subst e;simp only[if_true];exact hnew
  ·simp only[JX e];have hj':=(hkn j).1 hj;refine ae.bJ _ (h.holds j hj') fun c hc=>hold c fun eb=>?_
   subst eb;exact h.disj j i _ hj' hk e hc hfp
 ·rw[hold c fun e=>hF (e▸h.inF i b hk hfp (e▸hc))]
  exact h.same c hc hF
theorem sD (J:Env) (l:List V) (v:V):aw J (l++ [v])=aw J l++ [den J v]:=by simp[df]
theorem yk {P:Program} {res':List ae} {t:Nat} {m x v:V} (h:an J fps res K w0 F0 w) (hs:Eb P res t m x v=some res') (hv:ok K v):
  ∃w',(Instr.mapUpdate t (den J m) (den J x) (den J v)).run P w= .ok () w'/\an J fps res' K w0 F0 w'/\∀i,known res' i↔known res i:=by
 unfold Eb at hs;split at hs
 case h_2=>simp at hs
 rename_i i;split at hs
 case h_2=>simp at hs
 rename_i kd n;split at hs
 case h_2=>simp at hs
 rename_i kd' ks vs hr;split at hs
 case h_2=>simp at hs
 rename_i kt et hu;split at hs
 case h_2=>simp at hs
 rename_i kd'' hku;split at hs
 case isFalse=>simp at hs
 rename_i hc;simp only[JR,JT,JS,Bool.not_eq_true',List.contains_eq_mem,decide_eq_false_iff_not]at hc;obtain⟨⟨⟨⟨rfl,rfl⟩,hin⟩,hnk⟩,htp⟩:=hc;simp only[JP]at hs;subst hs;have hk:known res i:=by unfold known;rw[hr];simp
 have hh:=h.holds i hk;rw[hr]at hh;obtain⟨a1,a2,a3,a4,a5,es,cl,b1,b2,b3⟩:=hh;obtain⟨q,q1,q2,q3⟩:=jX (n:=n) ks _ es.toList 0 b2 b3
 have hq:q=none:=by
  grind
 subst hq;have hck:=MapKept.run_checkKey (P:=P) (w:=w) (k:= .int kd n) hku rfl false 9999;have hfk:=MapKept.run_findKey (w:=w) hku q1;have hset:=MapKept.heap_set (w:=w) (r:=J.num i) (o':= .map (es.push {key:= .int kd n,val:=den J v,born:=cl}) (cl+1)) b1;refine⟨{w with heap:=w.heap.setIfInBounds (J.num i) (.map (es.push {key:= .int kd n,val:=den J v,born:=cl}) (cl+1))},?_,?_⟩
 ·simp only[Instr.mapUpdate,den,Sem.run_bind,au w hu,Result.andThen_ok,MapKept.run_getObj_map b1,hck,hfk,MapKept.run_setObj_map _ b1]
 ·refine h.qC (b:=J.num i) hr (by simp) (by simp) a1 ⟨a1,?_,?_,?_,by simp[a5],_,_,hset.1,by simp[b2],by simp[b3,sD]⟩ rfl rfl rfl (by simp) hset.2
  ·grind[de]
  ·grind[bm]
  ·grind
end
end Go.Sx
namespace Go.Sx
open Go.RowKit (Below)
def ez:List V->Option (List (Bool×Int))
 | []=>some []
 |x::l=>match toInt x with
  |some (k,n)=>if k== .i64 then match ez l with
   |some m=>some ((nX x,n)::m)
   |none=>none
   else none
  |none=>none
def HV:List (Bool×Int)->Bool
 | []=>true
 | (c,_)::l=>c&&HV l
def aI:List (Bool×Int)->List Int
 | []=> []
 | (_,n)::l=>n::aI l
def GQ:V->V->V
 | .cb true,y=>y
 | .cb false,_=> .cb false
 |x,.cb true=>x
 |_,.cb false=> .cb false
 | .bo a,.bo b=> .bo (Es a b)
 |_,_=> .nl undef
def Jj:V->V->V
 | .cb false,y=>y
 | .cb true,_=> .cb true
 |x,.cb false=>x
 |_,.cb true=> .cb true
 | .bo a,.bo b=> .bo (Gy a b)
 |_,_=> .nl undef
theorem yP {x y:V} {a b:Bool} (h1:toBool x=some a) (h2:toBool y=some b):toBool (GQ x y)=some (a&&b):=by
 cases x<;>simp[toBool]at h1<;>cases y<;>simp[toBool]at h2<;>subst h1<;>subst h2
 all_goals(rename_i p q;cases p<;>cases q<;>rfl)
theorem Aj {x y:V} {a b:Bool} (h1:toBool x=some a) (h2:toBool y=some b):toBool (Jj x y)=some (a||b):=by
 cases x<;>simp[toBool]at h1<;>cases y<;>simp[toBool]at h2<;>subst h1<;>subst h2
 all_goals(rename_i p q;cases p<;>cases q<;>rfl)
def Il (c:Bool) (n k:Int):V:=if c then .cb (decide (n=k))else .bo (tQ n k)
theorem BP (c:Bool) (n k:Int):toBool (Il c n k)=some (decide (n=k)):=by cases c<;>simp[Il,toBool,tQ]
def wk:List (Bool×Int)->List Int->V
 | [],[]=> .cb true
 | (c,n)::l,k::m=>GQ (Il c n k) (wk l m)
 |_,_=> .cb false
theorem nq:∀(l:List (Bool×Int)) (m:List Int),toBool (wk l m)=some (decide (aI l=m))
 | [],[]=>rfl
 | [],_::_=>by simp[wk,aI,toBool]
 |_::_,[]=>by simp[wk,aI,toBool]
 | (c,n)::l,k::m=>by
   simp_all[wk,aI,yP,BP,nq]
def sV (x:List (Bool×Int)) (z:V):List (List Int)->List V->Option V
 | [],[]=>some z
 |k::ks,v::vs=>match v with
  | .fn f l=>match wk x k with
    | .cb true=>some (.fn f l)
    | .cb false=>sV x z ks vs
    | .bo b=>match sV x z ks vs with
      |some y=>some (.ch b f l y)
      |none=>none
    |_=>none
  |_=>none
 |_,_=>none
def D1 (x:List (Bool×Int)):List (List Int)->V
 | []=> .cb false
 |k::ks=>Jj (wk x k) (D1 x ks)
theorem rL (x:List (Bool×Int)):∀ks,toBool (D1 x ks)=some (decide (aI x∈ks))
 | []=>rfl
 |k::ks=>by
  simp_all[D1,Aj,nq,rL]
def jh (P:Program) (kt n:Nat):Bool:=
 Nat.ble 2 n&&flatK P 8 kt==some (List.replicate n (.i .i64))&&match P.underlying kt with
  |some (.struct fs)=>fs.toList.all fun f=>match P.underlying f.type with
   |some (.int _)=>true
   |_=>false
  |_=>false
def uu (n:Nat):List (List Int)->Bool
 | []=>true
 |k::ks=>k.length==n&&uu n ks
theorem lD {n:Nat}:∀{ks:List (List Int)},uu n ks=true->∀k∈ks,k.length=n
 | [],_,_,h=>by simp at h
 |k::ks,h,c,hc=>by
  simp only[uu,JR,JT]at h;rcases List.mem_cons.1 hc with rfl|hc
  ·exact h.1
  ·exact lD h.2 c hc
def Co (C:Ctx) (res:List ae) (t:Nat) (m x:V) (two:Bool):Option V:=
 match m with
 | .mp i=>match x with
   | .ag xl=>match ez xl with
     |some l=>match aW res i with
      | .mq ks vs=>match C.P.underlying t with
        |some (.map kt et)=>if jh C.P kt l.length&&uu l.length ks then match C.Z et with
         |some z=>match z with
          | .nl v=>match v with
            | .nilFunc=>match sV l (.nl .nilFunc) ks vs with
              |some y=>if two then some (.tp [y,D1 l ks])else some y
              |none=>none
            |_=>none
          |_=>none
         |none=>none
         else none
        |_=>none
      |_=>none
     |none=>none
   |_=>none
 |_=>none
def CC (P:Program) (res:List ae) (t:Nat) (m x v:V):Option (List ae):=
 match m with
 | .mp i=>match x with
   | .ag xl=>match ez xl with
     |some l=>match aa res i with
      | .mq ks vs=>match P.underlying t with
        |some (.map kt et)=>if jh P kt l.length&&uu l.length ks&&HV l&& !ks.contains (aI l)&& !aP v then some (aG res i (.mq (ks++ [aI l]) (vs++ [v])))else none
        |_=>none
      |_=>none
     |none=>none
   |_=>none
 |_=>none
section
variable {J:Env} {fps:Nat->Nat->Prop} {res:List ae} {K:Nat->Prop} {w0 w:World} {F0:Nat->Prop} {P:Program}
theorem fT {xl:List V} {l:List (Bool×Int)} (h:ez xl=some l) (hk:bH K xl):den J (.ag xl)=bP (aI l)/\(aI l).length=l.length:=by
 have:∀(xl:List V) (l:List (Bool×Int)),ez xl=some l->bH K xl->aq J xl=(aI l).map i64/\(aI l).length=l.length:=by
  intro xl;induction xl with
  |nil=>intro l h _;simp only[ez,JP]at h;subst h;exact⟨rfl,rfl⟩
  |cons x xl ih=>
   intro l h hk;simp only[ez]at h;split at h
   case h_2=>simp at h
   rename_i k n hn;split at h
   case isFalse=>simp at h
   rename_i hki;have hki:=JT.1 hki;subst hki;split at h<;>simp only[JP,reduceCtorEq]at h
   rename_i m hm;subst h;obtain⟨a,b⟩:=ih m hm hk.2;refine⟨?_,by simp[aI,b]⟩
   simp only[aq,aI,List.map_cons,a,(aT (J:=J) hn hk.1).1];rfl
 obtain⟨a,b⟩:=this xl l h hk;exact⟨by simp only[den,bP,a],b⟩
theorem lQ:∀{a b:List Int},a.map i64=b.map i64↔a=b
 | [],[]=>by simp
 | [],_::_=>by simp
 |_::_,[]=>by simp
 |x::a,y::b=>by simp[lQ (a:=a) (b:=b),i64]
theorem qp:∀(l:List Int),fP (List.replicate l.length (.i .i64)) (l.map i64)
 | []=>trivial
 |n::l=>⟨⟨n,rfl⟩,qp l⟩
theorem CR {kt n:Nat} (hk:jh P kt n=true) {a b:List Int} (ha:a.length=n) (hb:b.length=n) (w:World):
  ∃r,(Op.equal kt (bP a) (bP b)).run P w= .ok r w/\(r=true↔a=b):=by
 unfold jh at hk;simp only[JR,JT]at hk;obtain⟨⟨h2,hf⟩,_⟩:=hk;have h2:=Nat.le_of_ble_eq_true h2;have hagg:fg P kt=some true:=eZ hf (by simpa using h2)
 obtain⟨r,h1,h3⟩:=kf (P:=P) 8 10000 (by omega) kt _ true (a.map i64) (b.map i64) hf hagg (by rw[<-ha];exact qp a) (by rw[<-hb];exact qp b) w
 exact⟨r,h1,by rw[h3,lQ]⟩
theorem iO {kt n:Nat} (hk:jh P kt n=true) {a:List Int} (ha:a.length=n) (em:Bool) (w:World):(Instr.checkKey em 10000 kt (bP a)).run P w= .ok () w:=by
 unfold jh at hk;simp only[JR,JT]at hk;obtain⟨⟨h2,hf⟩,hs⟩:=hk;split at hs
 case h_2=>simp at hs
 rename_i fs hu;unfold flatK at hf;simp only[hu]at hf;split at hf
 ·simp at hf
 split at hf
 ·simp at hf
 rename_i ks hks;split at hf<;>simp only[JP,reduceCtorEq]at hf
 have hl:ks.length=(a.map i64).length:=by rw[hf];simp[ha]
 clear hf;rw[show(10000:Nat)=9998+1+1 from rfl,Instr.checkKey];simp only[Sem.run_bind,au w hu,Result.andThen_ok,bP];rw[<-Array.forIn_toList];generalize a.map i64=X at hl⊢
 have key:∀(L:List Field) (off:Nat) (ks:List Kd),ff (flatK P 7) off L=some ks->off+ks.length<=X.length->(∀f∈L,(match P.underlying f.type with|some (.int _)=>true|_=>false)=true)->
   (forIn L PUnit.unit fun f (_:PUnit)=>if f.name≠ "_" then(do
    let v<-part f.type X.toArray f.offset
    Instr.checkKey em (9998+1) f.type v
    pure (ForInStep.yield PUnit.unit):Sem (ForInStep PUnit))else pure (ForInStep.yield PUnit.unit)).run P w= .ok () w:=by
  intro L;induction L with
  |nil=>intro off ks _ _ _;simp
  |cons f L ih=>
   intro off ks h hle hi;simp only[ff]at h;split at h
   case isFalse=>simp at h
   rename_i hc;simp only[JR,bne_iff_ne,ne_eq,JT]at hc;obtain⟨hn,ho⟩:=hc;cases hg:flatK P 7 f.type with
   |none=>simp[hg]at h
   |some k1=>
    simp only[hg]at h;cases hr:ff (flatK P 7) (off+k1.length) L with
    |none=>simp[hr]at h
    |some k2=>
     simp only[hr,Option.map_some,JP]at h;subst h;simp only[List.length_append]at hle;obtain⟨b,hb⟩:=kK hg;have e1:=ej (xs:=X) (off:=off) w hg hb (by omega)
     have hif:=hi f (by simp)
     split at hif
     case h_2=>simp at hif
     rename_i ik hik
     have e2:∀v,(Instr.checkKey em (9998+1) f.type v).run P w= .ok () w:=fun v=>by
      rw[Instr.checkKey];simp only[Sem.run_bind,au w hik,Result.andThen_ok];rfl
     have e3:=ih (off+k1.length) k2 hr (by omega) fun g hg=>hi g (by simp[hg])
     simp only[List.forIn_cons,Sem.run_bind,hn,ne_eq,not_false_eq_true,if_true,ho,e1,Result.andThen_ok,e2,Sem.run_pure];exact e3
 have:=key fs.toList 0 ks hks (by omega) fun f hf=>by simpa using List.all_eq_true.1 hs f hf
 rw[this];rfl
theorem jn {kt n:Nat} (hk:jh P kt n=true) {x:List Int} (hx:x.length=n) (w:World):∀(l:List MapEntry) (i:Nat),(∀e∈l,∃k:List Int,k.length=n/\e.key=bP k)->
  ∃r,(Instr.findAsking kt (bP x) l i).run P w= .ok r w/\
   ((r=none/\∀e∈l,e.key≠bP x)\/∃j e,r=some (i+j,e.val)/\l[j]? =some e/\e.key=bP x)
 | [],i,h=>⟨none,rfl,.inl ⟨rfl,by simp⟩⟩
 |e::l,i,h=>by
  obtain⟨k,hkl,hke⟩:=h e (by simp)
  obtain⟨b,hb,hbi⟩:=CR hk hx hkl w;cases b with
  |true=>
   have:=hbi.1 rfl;subst this;exact⟨some (i,e.val),by simp[Instr.findAsking,hke,hb],.inr ⟨0,e,rfl,rfl,hke⟩⟩
  |false=>
   have hne:e.key≠bP x:=fun e'=>by
    rw[hke]at e';have:x=k:=(lQ.1 (by simpa[bP]using e')).symm
    have:=hbi.2 this;simp at this
   obtain⟨r,r1,r3⟩:=jn hk hx w l (i+1) fun e he=>h e (by simp[he])
   refine⟨r,by simp[Instr.findAsking,hke,hb,r1],?_⟩
   rcases r3 with⟨a,b⟩|⟨j,e',a,b,c⟩
   ·simp_all
   ·exact .inr ⟨j+1,e',by rw[a];congr 2;omega,by simpa using b,c⟩
theorem jd {kt n:Nat} (hk:jh P kt n=true) {x:List Int} (hx:x.length=n) (w:World) (l:List MapEntry) (h:∀e∈l,∃k:List Int,k.length=n/\e.key=bP k):
  ∃r,(Instr.findKey kt (bP x) l).run P w= .ok r w/\
   ((r=none/\∀e∈l,e.key≠bP x)\/∃j e,r=some (j,e.val)/\l[j]? =some e/\e.key=bP x):=by
 obtain⟨r,h1,h2⟩:=jn hk hx w l 0 h;simp only[Nat.zero_add]at h2;refine⟨r,?_,h2⟩;unfold jh at hk;simp only[JR,JT]at hk;obtain⟨_,hs⟩:=hk;split at hs
 case h_2=>simp at hs
 rename_i fs hu;cases l with
 |nil=>
  simp only[Instr.findAsking,Sem.run_pure,Result.ok.injEq,and_true]at h1;subst h1;simp[Instr.findKey,au w hu,Instr.findNow]
 |cons e l=>
  have:Instr.findNow (.struct fs) (bP x) (e::l) 0=none:=by
   simp only[Instr.findNow,bP,Instr.sameNow]
  simp[Instr.findKey,au w hu,this,h1]
theorem xE {a b:List Int} (h:bP a=bP b):a=b:=lQ.1 (by simpa[bP]using h)
theorem sG {ks:List (List Int)} {xs:List Value} {l:List MapEntry} {x:List Int} {r:Option (Nat×Value)} (hp:(l.map fun e=>(e.key,e.val)).Perm ((ks.map bP).zip xs)) (hl:ks.length=xs.length) (hn:ks.Nodup)
  (h:(r=none/\∀e∈l,e.key≠bP x)\/∃j e,r=some (j,e.val)/\l[j]? =some e/\e.key=bP x):
  (r=none/\x∉ks)\/∃(i j:Nat) (v:Value),r=some (i,v)/\ks[j]? =some x/\xs[j]? =some v/\∀q<j,ks[q]? ≠some x:=by
 rcases h with⟨rfl,h⟩|⟨j,e,rfl,h1,h2⟩
 ·refine .inl ⟨rfl,fun hm=>?_⟩
  obtain⟨q,hq,rfl⟩:=List.getElem_of_mem hm
  have:(bP ks[q],xs[q]'(by omega))∈(ks.map bP).zip xs:=by
   rw[List.mem_iff_getElem];exact⟨q,by simp;omega,by simp⟩
  obtain⟨e,he,hee⟩:=List.mem_map.1 (hp.mem_iff.2 this);simp only[JQ]at hee;exact h e he hee.1
 ·have:(e.key,e.val)∈(ks.map bP).zip xs:=hp.mem_iff.1 (List.mem_map.2 ⟨e,List.mem_of_getElem? h1,rfl⟩);rw[List.mem_iff_getElem]at this;obtain⟨q,hq,hqe⟩:=this;simp only[List.length_zip,List.length_map]at hq;simp only[List.getElem_zip,List.getElem_map,JQ]at hqe;have hk:ks[q]'(by omega)=x:=xE (hqe.1.trans h2)
  refine .inr ⟨j,q,e.val,rfl,by rw[List.getElem?_eq_getElem (by omega),hk],by rw[List.getElem?_eq_getElem (by omega),hqe.2],fun p hp' he=>?_⟩
  rw[List.getElem?_eq_getElem (by omega)]at he
  simp only[JP]at he;exact List.pairwise_iff_getElem.1 hn p q (by omega) (by omega) hp' (he.trans hk.symm)
theorem perm_keys {ks:List (List Int)} {xs:List Value} {l:List MapEntry} {n:Nat} (hp:(l.map fun e=>(e.key,e.val)).Perm ((ks.map bP).zip xs)) (hl:∀k∈ks,k.length=n):∀e∈l,∃k:List Int,k.length=n/\e.key=bP k:=fun e he=>by
 have:=List.of_mem_zip (hp.mem_iff.1 (List.mem_map.2 ⟨e,he,rfl⟩));obtain⟨k,hk,hke⟩:=List.mem_map.1 this.1;exact⟨k,hl k hk,hke.symm⟩
theorem mG {x:List (Bool×Int)} {z:V} (hz:ok K z) (hz1:∀J:Env,(den J z).oneCell'=true):∀(ks:List (List Int)) (vs:List V) (y:V),sV x z ks vs=some y->bH K vs->
  ok K y/\(∀J:Env,(den J y).oneCell'=true)/\∀J:Env,(aI x∉ks->den J y=den J z)/\∀(j:Nat) v,ks[j]? =some (aI x)->(aw J vs)[j]? =some v->(∀q<j,ks[q]? ≠some (aI x))->den J y=v
 | [],[],y,h,hv=>by
   simp_all[sV]
 | [],_::_,y,h,hv=>by simp[sV]at h
 |_::_,[],y,h,hv=>by simp[sV]at h
 |k::ks,v::vs,y,h,hv=>by
  simp only[sV]at h;split at h
  case h_2=>simp at h
  rename_i f l;have hke:=nq x k
  have tail:∀y',sV x z ks vs=some y'->aI x≠k->∀J:Env,(aI x∉k::ks->den J y'=den J z)/\∀(j:Nat) v,(k::ks)[j]? =some (aI x)->(aw J (.fn f l::vs))[j]? =some v->(∀q<j,(k::ks)[q]? ≠some (aI x))->den J y'=v:=by
   intro y' hy' hne J;obtain⟨_,_,c⟩:=mG hz hz1 ks vs y' hy' hv.2;refine⟨fun hn=>(c J).1 fun h=>hn (by simp[h]),fun j v hj hx hq=>?_⟩
   cases j with
   |zero=>simp at hj;exact absurd hj.symm hne
   |succ j=>
    refine(c J).2 j v (by simpa using hj) (by simpa[aw]using hx) fun q hq'=>?_
    have:=hq (q+1) (by omega)
    simpa using this
  have head:aI x=k->∀J:Env,(aI x∉k::ks->den J (.fn f l)=den J z)/\∀(j:Nat) v,(k::ks)[j]? =some (aI x)->(aw J (.fn f l::vs))[j]? =some v->(∀q<j,(k::ks)[q]? ≠some (aI x))->den J (.fn f l)=v:=by
   intro he J;refine⟨fun hn=>absurd (by simp[he]) hn,fun j v hj hx hq=>?_⟩
   cases j with
   |zero=>simpa[aw]using hx
   |succ j=>exact absurd (by simp[he]) (hq 0 (by omega))
  split at h
  ·rename_i hk;rw[hk]at hke;have he:aI x=k:=by simpa[toBool]using hke
   simp only[JP]at h;subst h;exact⟨hv.1,fun J=>gH _ _,head he⟩
  ·rename_i hk;rw[hk]at hke;have hne:aI x≠k:=by simpa[toBool]using hke
   obtain⟨a,b,_⟩:=mG hz hz1 ks vs y h hv.2;exact⟨a,b,tail y h hne⟩
  ·rename_i b hk;rw[hk]at hke;have hb:b=decide (aI x=k):=by simpa[toBool]using hke
   subst hb;split at h<;>simp only[JP,reduceCtorEq]at h
   rename_i y' hy';subst h;obtain⟨a,b,_⟩:=mG hz hz1 ks vs y' hy' hv.2;refine⟨⟨hv.1,a,b⟩,fun J=>?_,fun J=>?_⟩
   ·simp only[den];split
    ·exact gH _ _
    ·exact b J
   ·by_cases he:aI x=k
    ·grind[den]
    ·grind[den]
  ·simp at h
theorem zA {v:V} {b:Bool} (h:toBool v=some b) (J:Env):den J v= .bool b/\ok K v/\aP v=false:=by
 cases v<;>simp[toBool]at h<;>subst h<;>exact⟨rfl,trivial,rfl⟩
theorem wm {C:Ctx} {t:Nat} {m x r:V} {two:Bool} (hC:C.tO) (h:an J fps res K w0 F0 w) (hl:Co C res t m x two=some r) (hx:ok K x):
  (Instr.lookup t (den J m) (den J x) two).run C.P w= .ok (den J r) w/\ok K r:=by
 unfold Co at hl;split at hl
 case h_2=>simp at hl
 rename_i i;split at hl
 case h_2=>simp at hl
 rename_i xl;split at hl
 case h_2=>simp at hl
 rename_i l hxl;split at hl
 case h_2=>simp at hl
 rename_i ks vs hr;split at hl
 case h_2=>simp at hl
 rename_i kt et hu;split at hl
 case isFalse=>simp at hl
 rename_i hc;simp only[JR]at hc;obtain⟨hwide,hlens⟩:=hc;have hlens:=lD hlens;split at hl
 case h_2=>simp at hl
 rename_i z hz;split at hl
 case h_2=>simp at hl
 rename_i v;split at hl
 case h_2=>simp at hl
 split at hl
 case h_2=>simp at hl
 rename_i y hy;obtain⟨hx1,hx2⟩:=fT (J:=J) hxl hx.1;obtain⟨fp,hh,_⟩:=h.look hr (by simp)
 obtain⟨_,a2,a3,⟨a5,a6⟩,es,cl,b1,b2⟩:=hh;obtain⟨y1,y2,y3⟩:=mG (K:=K) (z:= .nl .nilFunc) rfl (fun _=>rfl) ks vs y hy a2
 obtain⟨q,q1,q3⟩:=jd hwide hx2 w es.toList (perm_keys b2 hlens);have q3:=sG b2 (by rw[a5,df,List.length_map]) a6 q3
 have hck:=iO hwide hx2 es.isEmpty w;have hzr:=fY (J:=J) (w:=w) hC hz;obtain⟨f1,f2,_⟩:=zA (K:=K) (rL l ks) J
 have main:(Instr.lookup t (den J (.mp i)) (den J (.ag xl)) two).run C.P w= .ok (if two then .tuple #[den J y,.bool (decide (aI l∈ks))]else den J y) w:=by
  rw[hx1];simp only[Instr.lookup,den,Sem.run_bind,au w hu,Result.andThen_ok,MapKept.run_getObj_map b1,Sem.run_pure,hck,q1];rcases q3 with⟨rfl,hnk⟩|⟨_,j,v,rfl,c1,c2,c3⟩
  ·simp_all
  ·have hmem:aI l∈ks:=List.mem_of_getElem? c1;simp only[Sem.run_pure,Result.andThen_ok];rw[(y3 J).2 j v c1 c2 c3];simp[hmem]
 rw[main];cases two
 ·simp only[Bool.false_eq_true,if_false,JP]at hl;subst hl;exact⟨by simp,y1⟩
 ·simp only[if_true,JP]at hl;subst hl;exact⟨by simp[den,aw,f1],y1,f2,trivial⟩
theorem fc.xq {nid:Nat} (hn:¬K nid):
  fc K J (J.aD nid w.heap.size) nid [.mq [] []] w0 F0 w (w.alloc (.map #[] 0)):=by
 refine⟨(Below.refl _ _).alloc (Nat.le_refl _) _,dU J nid _,fun _ b=>b=w.heap.size,fun k hk=>?_,fun k l b hk hl hne=>?_⟩
 ·simp only[List.length_singleton,Nat.lt_one_iff]at hk;subst hk;refine⟨⟨by simp[Env.aD],trivial,trivial,⟨rfl,List.nodup_nil⟩, #[],0,?_,List.Perm.refl _⟩,fun b hb=>by subst hb;simp⟩
  rw[show(J.aD nid w.heap.size).num (nid+0)=w.heap.size by simp[Env.aD]]
  exact heap_alloc_new w _
 ·simp only[List.length_singleton,Nat.lt_one_iff]at hk hl;omega
theorem yg {res':List ae} {t:Nat} {m x v:V} (h:an J fps res K w0 F0 w) (hs:CC P res t m x v=some res') (hx:ok K x) (hv:ok K v):
  ∃w',(Instr.mapUpdate t (den J m) (den J x) (den J v)).run P w= .ok () w'/\an J fps res' K w0 F0 w'/\∀i,known res' i↔known res i:=by
 unfold CC at hs;split at hs
 case h_2=>simp at hs
 rename_i i;split at hs
 case h_2=>simp at hs
 rename_i xl;split at hs
 case h_2=>simp at hs
 rename_i l hxl;split at hs
 case h_2=>simp at hs
 rename_i ks vs hr;split at hs
 case h_2=>simp at hs
 rename_i kt et hu;split at hs
 case isFalse=>simp at hs
 rename_i hc;simp only[JR,Bool.not_eq_true',List.contains_eq_mem,decide_eq_false_iff_not]at hc;obtain⟨⟨⟨⟨hwide,hlens⟩,_⟩,hnk⟩,htp⟩:=hc;have hlens:=lD hlens;simp only[JP]at hs;subst hs;have hk:known res i:=by unfold known;rw[hr];simp
 have hh:=h.holds i hk;rw[hr]at hh;obtain⟨a1,a2,a3,⟨a5,a6⟩,es,cl,b1,b2⟩:=hh;obtain⟨hx1,hx2⟩:=fT (J:=J) hxl hx.1;obtain⟨q,q1,q3⟩:=jd hwide hx2 w es.toList (perm_keys b2 hlens);have q3:=sG b2 (by rw[a5,df,List.length_map]) a6 q3
 have hq:q=none:=by
  grind
 subst hq;have hck:=iO hwide hx2 false w;have hset:=MapKept.heap_set (w:=w) (r:=J.num i) (o':= .map (es.push {key:=bP (aI l),val:=den J v,born:=cl}) (cl+1)) b1;refine⟨{w with heap:=w.heap.setIfInBounds (J.num i) (.map (es.push {key:=bP (aI l),val:=den J v,born:=cl}) (cl+1))},?_,?_⟩
 ·rw[hx1];simp only[Instr.mapUpdate,den,Sem.run_bind,au w hu,Result.andThen_ok,MapKept.run_getObj_map b1,hck,q1,MapKept.run_setObj_map _ b1]
 ·refine h.qC (b:=J.num i) hr (by simp) (by simp) a1 ⟨a1,?_,?_,⟨by simp[a5],?_⟩,_,_,hset.1,?_⟩ rfl rfl rfl (by simp) hset.2
  ·grind[de]
  ·grind[bm]
  ·grind
  ·simp only[Array.toList_push,List.map_append,List.map_cons,List.map_nil,sD];rw[List.zip_append (by simp[a5,df])]
   exact List.Perm.append_right _ b2
end
end Go.Sx
namespace Go.Sx
open Go.RowKit (Below)
def Hu (n b:Nat):Prop:=n<=maxLen/\n*b<=140737488355328
def CH (q:Option Prop) (p:Prop):Option Prop:=match q with
 |none=>some p
 |some q=>some (q/\p)
theorem uU {q:Option Prop} {p:Prop}:aN (CH q p)↔aN q/\p:=by cases q<;>simp[CH,aN]
def tr {α:Type} (l:List α) (lo hi:Nat):List α:=(l.drop lo).take (hi-lo)
def xx (l:TL) (lo hi:Nat):Option TL:=
 match l with
 | .qs n Q=>some (.qs n (tr Q lo hi))
 | .it k L=>some (.it k (tr L lo hi))
 | .ob L=>some (.ob (tr L lo hi))
 |_=>none
def Jt (lo hi n:Nat):Prop:=lo<=hi/\hi<=n
def Dk (res:List ae) (y:V):Option (Option Prop×Nat×TL):=
 match y with
 | .sa j=>match aW res j with
   | .arr _ esz l=>some (none,esz,l)
   |_=>none
 | .vw j esz lo hi=>match aW res j with
   | .arr (some _) esz' l=>if esz==esz' then(xx l lo hi).map fun l'=>(some (Jt lo hi l.len),esz,l')else none
   |_=>none
 |_=>none
theorem qP {α:Type} (l:List α) {lo hi i:Nat} (d:α) (h:i<hi-lo):(tr l lo hi).getD i d=l.getD (lo+i) d:=by
 unfold tr;rw[JW,List.getElem?_take_of_lt h,List.getElem?_drop,<-JW]
theorem oZ {Q Q':List (List Int)} {j j':Nat} (h:∀c,cM Q j c=cM Q' j' c):∀(m c:Nat),qL Q j c m=qL Q' j' c m
 |0,c=>rfl
 |m+1,c=>by simp only[qL,h c,oZ h m (c+1)]
theorem wI {l l':TL} {lo hi:Nat} (h:xx l lo hi=some l') (hb:hi<=l.len):l'.len=hi-lo/\∀i,i<hi-lo->l'.get i=l.get (lo+i):=by
 unfold xx at h;cases l<;>simp only[JP,reduceCtorEq]at h<;>subst h<;>simp only[TL.len,ar]at hb
 ·refine⟨by simp only[TL.len,ar,tr,List.length_take,List.length_drop];omega,fun i hi=>?_⟩
  simp only[TL.get,aB,qP _ _ hi]
 ·refine⟨by simp only[TL.len,ar,tr,List.length_take,List.length_drop];omega,fun i hi=>?_⟩
  simp only[TL.get,aB,qP _ _ hi]
 ·refine⟨by simp only[TL.len,ar,tr,List.length_take,List.length_drop];omega,fun i hi=>?_⟩
  simp only[TL.get];rw[oZ fun c=>show(((tr _ lo _).getD i []).getD c 0)=_ from by rw[qP _ _ hi];rfl]
theorem qk {l:TL} {esz k:Nat} {u:Value} (hlen:∀i,i<l.len->(cells Env.zero (l.get i)).length=esz) (hu:l.cells[k]? =some u):∃i r,i<l.len/\r<esz/\k=i*esz+r/\(cells Env.zero (l.get i))[r]? =some u:=by
 have hxl:l.cells.length=l.len*esz:=by
  unfold TL.cells
  have:∀n,n<=l.len->((List.range n).flatMap fun j=>cells Env.zero (l.get j)).length=n*esz:=by
   intro n;induction n with
   |zero=>simp
   |succ n ih=>
    intro hn;rw[List.range_succ,List.flatMap_append,List.length_append,ih (by omega)]
    simp[hlen n (by omega),Nat.succ_mul]
  exact this _ (Nat.le_refl _)
 have hk:k<l.len*esz:=by rw[<-hxl];exact(List.getElem?_eq_some_iff.1 hu).1
 have hsz:0<esz:=by
  rcases Nat.eq_zero_or_pos esz with h|h
  ·subst h;simp at hk
  ·exact h
 have hdiv:k / esz<l.len:=(Nat.div_lt_iff_lt_mul hsz).2 hk;have hmod:k%esz<esz:=Nat.mod_lt _ hsz;have hkk:k / esz*esz+k%esz=k:=by rw[Nat.mul_comm];exact Nat.div_add_mod k esz
 exact⟨_,_,hdiv,hmod,hkk.symm,by rw[<-mP (f:=fun i=>cells Env.zero (l.get i)) hlen hdiv hmod,hkk];exact hu⟩
theorem ve {J:Env} {fps:Nat->Nat->Prop} {res:List ae} {K:Nat->Prop} {w0 w:World} {F0:Nat->Prop} {y:V} {q:Option Prop} {esz:Nat} {l':TL} (hH:an J fps res K w0 F0 w) (h:Dk res y=some (q,esz,l')) (hq:aN q):
  (∀i,i<l'.len->ok (fun _=>False) (l'.get i)/\aP (l'.get i)=false/\bg (l'.get i)=esz)/\l'.len<=9223372036854775807/\
   ∃ao cap,den J y= .slice ao l'.len cap/\(0<l'.len->ao.isSome=true)/\∀a,ao=some a->∀k u,l'.cells[k]? =some u->w.cell? (a.add k)=some u:=by
 have lit:∀(a:Addr) (k:Nat),a.spot=none->a.add k=⟨a.block,a.off+k,none⟩:=fun a k hs=>by
  cases a with
  |mk b o s=>simp only at hs;subst hs;rw[add_lit]
 unfold Dk at h;split at h
 ·rename_i j;split at h<;>simp only[JP,JQ,reduceCtorEq]at h
  rename_i own esz' l hr;obtain⟨_,rfl,rfl⟩:=h;have hcl:=fun(i:Nat) (hi:i<l.len)=>eU hH hr hi
  obtain⟨fp,hh,_⟩:=hH.look hr (by simp)
  obtain⟨a1,a2,a3,a4,a5,a6,_⟩:=hh;refine⟨a1,a3,J.sa j,J.cap j,by simp[den,a2],a5,fun a ha k u hu=>?_⟩
  obtain⟨i,r,hi,hr',rfl,hu'⟩:=qk (fun i hi=>by rw[ak Env.zero _ (hcl i hi).1];exact(hcl i hi).2.2.1) hu
  have:=a4 a ha;subst this;rw[lit _ _ (a6 (by omega)),(hcl i hi).2.2.2 r hr',aQ (N:=fun _=>False) (J:=Env.zero) (ρ':=J) (fun _ h=>h.elim) _ (hcl i hi).1]
  exact hu'
 ·rename_i j esz1 lo hi;split at h
  case h_2=>simp at h
  rename_i e esz' l hr;split at h
  case isFalse=>simp at h
  rename_i he;have he:=JT.1 he;subst he;cases hs:xx l lo hi with
  |none=>simp[hs]at h
  |some l2=>
   simp only[hs,Option.map_some,JP,JQ]at h;obtain⟨rfl,rfl,rfl⟩:=h;obtain⟨q1,q2⟩:=(show Jt lo hi l.len from hq);obtain⟨s1,s2⟩:=wI hs q2;have hcl:=fun(i:Nat) (hi:i<l.len)=>eU hH hr hi
   obtain⟨fp,hh,_⟩:=hH.look hr (by simp)
   obtain⟨a1,a2,a3,a4,a5,a6,a7⟩:=hh
   have hel:∀i,i<l2.len->ok (fun _=>False) (l2.get i)/\aP (l2.get i)=false/\bg (l2.get i)=esz1:=fun i hi=>by
    rw[s2 i (by omega)];exact a1 _ (by omega)
   rcases a7 with⟨b1,_⟩|⟨e2,b1,b2,b3⟩
   ·simp at b1
   have hcap:0<l.len->l.len<=J.cap j:=fun h0=>by
    rcases b2.2 with⟨_,hz⟩|⟨g,cap,cur,hv,_,_,hn,_⟩
    ·omega
    ·simp only[Env.sl,Value.slice.injEq]at hv;rw[hv.2.2];exact hn
   refine⟨hel,by omega,if J.cap j=lo then J.sa j else(J.sa j).map (·.add (lo*esz1)),J.cap j-lo,by simp only[den,uy,s1],fun h0=>?_,fun a ha k u hu=>?_⟩
   ·have:=a5 (by omega)
    split
    ·exact this
    ·simpa using this
   ·obtain⟨i,r,hi',hr',rfl,hu'⟩:=qk (fun i hi=>by rw[ak Env.zero _ (hel i hi).1];exact(hel i hi).2.2) hu
    have hlt:lo+i<l.len:=by omega
    have hne:J.cap j≠lo:=by have:=hcap (by omega);omega
    rw[JX hne]at ha;cases hsa:J.sa j with
    |none=>rw[hsa]at ha;simp at ha
    |some a0=>
     rw[hsa]at ha;simp only[Option.map_some,JP]at ha;have h0:=a4 a0 hsa;subst h0;have hsp:=a6 (by omega)
     have e1:a.add (i*esz1+r)=⟨(J.adr j).block,(J.adr j).off+((lo+i)*esz1+r),none⟩:=by
      rw[<-ha,lit _ _ hsp,add_lit,Nat.add_mul];congr 1
      omega
     rw[e1,(hcl _ hlt).2.2.2 r hr',aQ (N:=fun _=>False) (J:=Env.zero) (ρ':=J) (fun _ h=>h.elim) _ (hcl _ hlt).1,<-s2 i (by omega)]
     exact hu'
 ·simp at h
def Cl (C:Ctx) (res:List ae) (nid:Nat) (ts:List Nat) (xs:List V):Option (Option Prop×V×List ae):=
 match ts,xs with
 | [t,t'],[x,y]=>match x with
   | .nl (.slice none 0 0)=>match Dk res y with
     |some (q,esz,l)=>match C.P.underlying t with
      |some (.slice e)=>match C.Z e,C.P.info? e with
       |some z,some inf=>if t==t'&&esz==bg z&&Nat.blt 0 (bg z)then some (CH q (Hu l.len inf.bytes),.sa nid,[.arr (some e) esz l])else none
       |_,_=>none
      |_=>none
     |none=>none
   |_=>none
 |_,_=>none
def Env.bY (J:Env) (i:Nat) (a:Option Addr) (n cap:Nat):Env:=
 {num:=J.num,cap:=fun j=>if j=i then cap else J.cap j,adr:=fun j=>if j=i then a.getD ⟨0,0,none⟩else J.adr j,sa:=fun j=>if j=i then a else J.sa j,sn:=fun j=>if j=i then n else J.sn j,ob:=J.ob}
theorem iJ {N:Nat->Prop} (J:Env) {i:Nat} {a:Option Addr} {n cap:Nat} (h:¬N i):Env.agree N J (J.bY i a n cap):=fun j hj=>by
 have e1:j≠i:=fun e=>h (e▸hj)
 simp[Env.bY,e1]
theorem nQ {α:Type} {f:Nat->List α} {esz:Nat}:∀{n:Nat},(∀j,j<n->(f j).length=esz)->((List.range n).flatMap f).length=n*esz
 |0,_=>by simp
 |n+1,h=>by
  rw[List.range_succ,List.flatMap_append,List.length_append,nQ fun j hj=>h j (by omega)]
  simp[h n (by omega),Nat.succ_mul]
theorem Bx {C:Ctx} {res:List ae} {nid:Nat} {ts:List Nat} {xs:List V} {r:V} {q:Option Prop} {new:List ae} (h:Cl C res nid ts xs=some (q,r,new)):r= .sa nid/\∃o e l,new= [.arr o e l]:=by
 unfold Cl at h;split at h
 ·split at h
  ·split at h
   ·grind
   ·simp at h
  ·simp at h
 ·simp at h
theorem zw {C:Ctx} {J:Env} {fps:Nat->Nat->Prop} {res:List ae} {K:Nat->Prop} {w0 w:World} {F0:Nat->Prop} {nid ty:Nat} {ts:List Nat} {xs:List V} {r:V} {q:Option Prop} {new:List ae} (hC:C.tO)
  (hH:an J fps res K w0 F0 w) (h:Cl C res nid ts xs=some (q,r,new)) (hq:aN q) (hn:¬K nid):
  ∃w' ρ',(Builtin.append_ ts.toArray ty (aw J xs).toArray).run C.P w= .ok (den ρ' r) w'/\fc K J ρ' nid new w0 F0 w w':=by
 unfold Cl at h;split at h
 case h_2=>simp at h
 rename_i t t' x y;split at h
 case h_2=>simp at h
 split at h
 case h_2=>simp at h
 rename_i q' esz l hr;split at h
 case h_2=>simp at h
 rename_i e ht;split at h
 case h_2=>simp at h
 rename_i z inf hZ hi;split at h
 case isFalse=>simp at h
 rename_i hc;simp only[JR,JT,Nat.blt_eq]at hc;obtain⟨⟨rfl,rfl⟩,hsz⟩:=hc;simp only[JP,JQ]at h;obtain⟨rfl,rfl,rfl⟩:=h;obtain⟨q0,q1,q2⟩:=uU.1 hq;obtain⟨i',g1,g2,g3,g4,g5⟩:=hC e z hZ;have:inf=i':=by rw[hi]at g1;exact Option.some.inj g1
 subst this;have hzs:(den Env.zero z).cells.size=bg z:=by rw[<-ak Env.zero z g3];simp[cells]
 obtain⟨a1,a3,ao,cap,hd,hsome,hcell⟩:=ve hH hr q0;have hlen:∀i,i<l.len->(cells Env.zero (l.get i)).length=bg z:=fun i hi=>by rw[ak Env.zero _ (a1 i hi).1];exact(a1 i hi).2.2
 have hxl:l.cells.length=l.len*bg z:=nQ hlen
 have hone:∀u∈l.cells,u.oneCell'=true:=fun u hu=>by
  grind[TL.cells,b6,Env.zero]
 have main:∃ao cap w',(Builtin.append_ #[t,t] ty #[.slice none 0 0,den J y]).run C.P w= .ok (.slice ao l.len cap) w'/\w'.ownsRow w.heap.size e (bg z) (.slice ao l.len cap) l.len l.cells/\w.grownBy w' none:=by
  rw[hd];cases hs:ao with
  |none=>
   have h0:l.len=0:=by
    rcases Nat.eq_zero_or_pos l.len with h|h
    ·exact h
    ·have:=hsome h;rw[hs]at this;simp at this
   have hxs:l.cells= []:=List.length_eq_zero_iff.1 (by rw[hxl,h0];simp)
   refine⟨none,0,w,?_,by rw[h0,hxs];exact World.ownsRow_nil w _ e _,⟨rfl,rfl,rfl,Nat.le_refl _,fun _ _ _=>rfl⟩⟩
   simp[Builtin.append_,h0,au w ht,Builtin.lenOf,Builtin.firstCells,sizeOf,typeInfo,hi]
  |some a=>
   by_cases h0:0<l.len
   ·obtain⟨v',w',r1,r2,r3,_⟩:=run_append_own (P:=C.P) w w.heap.size t ty e inf (den Env.zero z) (bg z) inf.bytes ht hi (g2 Env.zero) g5 rfl hzs hsz (.slice none 0 0) 0 [] (World.ownsRow_nil w _ e _)
     a l.len cap l.cells hxl (hcell a hs) hone (by simpa using q1) (by simpa using q2) (Nat.le_refl _)
    simp only[Nat.zero_add,List.nil_append]at r2;rcases r2.2 with⟨_,hz0⟩|⟨g,cap,cur,hv,_⟩
    ·omega
    ·subst hv;exact⟨_,_,w',r1,r2,r3⟩
   ·have h0:l.len=0:=by omega
    have hxs:l.cells= []:=List.length_eq_zero_iff.1 (by rw[hxl,h0];simp)
    obtain⟨v',w',r1,r2,r3,r4⟩:=run_append_own (P:=C.P) w w.heap.size t ty e inf (den Env.zero z) (bg z) inf.bytes ht hi (g2 Env.zero) g5 rfl hzs hsz (.slice none 0 0) 0 [] (World.ownsRow_nil w _ e _)
     a 0 cap [] (by simp) (fun k u hu=>by simp at hu) (by simp) (by simp) (by simp) (Nat.le_refl _)
    have hv:=r4.2 ⟨rfl,rfl⟩;subst hv;rw[h0,hxs];exact⟨none,0,w',r1,World.ownsRow_nil w' _ e _,r3⟩
 obtain⟨ao,cap,w',r1,r2,r3⟩:=main
 have hao:∀a,ao=some a->w.heap.size<=a.block/\a.block<w'.heap.size/\a.spot=none:=fun a ha=>by
  subst ha;have:=r2.lt a.block rfl;refine⟨this.1,this.2,?_⟩;rcases r2.2 with⟨hh,_⟩|⟨g,cap',cur,hh,_⟩
  ·simp at hh
  ·simp_all
 refine⟨w',J.bY nid ao l.len cap,?_,?_⟩
 ·simp_all[aw,den,Env.sl,Env.bY]
 ·refine⟨(Below.refl _ _).grown r3 (Nat.le_refl _) (fun k hk=>by simp at hk),iJ J (fun hf=>hf ⟨Nat.le_refl _,by simp⟩),fun _ b=>∃a,ao=some a/\b=a.block,fun k hk=>?_,fun k m b hk hl hne=>?_⟩
  ·simp only[List.length_singleton,Nat.lt_one_iff]at hk;subst hk;refine⟨⟨a1,by simp[Env.bY],a3,fun a ha=>by simp[Env.bY]at ha⊢;simp[ha],fun hl=>?_,fun hl=>?_,.inr ⟨e,fun e' he=>by simpa using he.symm,?_,fun a ha=>by simp[Env.bY]at ha;exact⟨a,ha,rfl⟩⟩⟩,fun b hb=>?_⟩
   ·rcases r2.2 with⟨_,hz0⟩|⟨g,cap',cur,hh,_⟩
    ·omega
    ·simp only[Value.slice.injEq]at hh;simp[Env.bY,hh.1]
   ·rcases r2.2 with⟨_,hz0⟩|⟨g,cap',cur,hh,_⟩
    ·omega
    ·simp only[Value.slice.injEq]at hh;simp[Env.bY,hh.1]
   ·have:(J.bY nid ao l.len cap).sl (nid+0)= .slice ao l.len cap:=by simp[Env.sl,Env.bY]
    rw[this];exact⟨r2.1,r2.2.imp id fun⟨g,cp,cu,b1,b2,b3⟩=>⟨g,cp,cu,b1,Nat.zero_le _,b3⟩⟩
   ·grind
  ·simp_all
end Go.Sx
namespace Go.Sx
open Go.RowKit (Below)
def sat (s:ByteArray) (i:Nat):UInt8:=s.data.getD i 0
def Fu (b:Bytes) (lo hi:Nat):ByteArray:=⟨b.toArray.extract lo hi⟩
def zV (b:Bytes) (lo n:Nat) (s:ByteArray):Bytes:=Vector.ofFn fun(i:Fin 64)=>if lo<=i.1/\i.1<lo+n then sat s (i.1-lo)else b.at i.1
def G6 (s:ByteArray) (lo hi:Nat):ByteArray:=s.extract lo hi
def HP (a b:ByteArray):ByteArray:=a++b
def zI (s:ByteArray) (lo hi:Nat):Nat:=Nat.min s.size (hi-lo)
def Jz (b:Bytes) (lo hi:Nat) (s:ByteArray):Bytes:=zV b lo (zI s lo hi) s
def I5 (b:Bytes) (lo hi:Nat):Bytes:=zV b lo (hi-lo) ByteArray.empty
def zH (l:List Int):ByteArray:=⟨(l.map fun i=>UInt8.ofNat i.toNat).toArray⟩
def EW (lo hi n:Int):Prop:=0<=lo/\lo<=hi/\hi<=n
def Jo (s:ByteArray) (j:Int):Prop:=0<=j/\j<(s.size:Int)
def IF (a b:ByteArray):Prop:=(a.size:Int)+(b.size:Int)<=9223372036854775807
theorem El (b:Bytes) (lo n:Nat) (s:ByteArray) (i:Nat) (h:i<64):(zV b lo n s).at i=if lo<=i/\i<lo+n then sat s (i-lo)else b.at i:=by
 unfold zV;rw[show∀v:Bytes,v.at i=v.toArray.getD i 0 from fun _=>rfl]
 simp only[Vector.toArray_ofFn,Array.getD_eq_getD_getElem?];rw[Array.getElem?_eq_getElem (by simpa using h)]
 simp[Array.getElem_ofFn]
theorem sat_empty (k:Nat):sat ByteArray.empty k=0:=by
 rfl
def gC (o:Option V) (d:Int):Option Int:=
 match o with
 |none=>some d
 |some v=>match toInt v with
  |some (_,j)=>some j
  |none=>none
def yN:V->Bool
 | .lp _ _=>true
 | .ap _ _ _ _=>true
 |_=>false
def HA (o:Option V):Bool:=
 match o with
 |none=>true
 |some v=>nX v
def I6 (P:Program) (t:Nat) (x:V) (lo hi:Option V):Option (Option Prop×V):=
 match P.underlying t with
 |some .string=>match x with
  | .st s=>match gC lo 0,gC hi (Cr s)with
    |some a,some b=>some (some (EW a b (Cr s)),.st (G6 s (fU a) (fU b)))
    |_,_=>none
  |_=>none
 |some (.array n e)=>if n==64&&yN x&&gz P e==some 1 then match gC lo 0,gC hi 64 with
  |some a,some b=>some (some (EW a b 64),.bs x (fU a) (fU b))
  |_,_=>none
  else if yN x&&HA lo&&HA hi then match gz P e with
   |some z=>match gC lo 0,gC hi (n:Int)with
    |some a,some b=>if decide (0<=a)&&decide (a<=b)&&decide (b<=(n:Int))then some (none,.ks x z n a.toNat b.toNat)else none
    |_,_=>none
   |none=>none
  else none
 |_=>none
def Js (P:Program) (res:List ae) (t:Nat) (x:V) (lo hi:Option V):Option (Option Prop×V):=
 match P.underlying t with
 |some (.slice e)=>match gz P e with
  |some z=>match x with
   | .sa j=>match aW res j with
     | .arr own esz l=>match own with
       |some _=>if esz==z then match gC lo 0,gC hi (dp l.len)with
        |some a,some b=>some (some (EW a b (dp l.len)),.vw j esz (fU a) (fU b))
        |_,_=>none
        else none
       |none=>none
     |_=>none
   |_=>none
  |none=>none
 |_=>none
def Ep (P:Program) (res:List ae) (t:Nat) (x:V) (lo hi:Option V):Option (Option Prop×V):=
 match I6 P t x lo hi with
 |some r=>some r
 |none=>Js P res t x lo hi
section
variable {C:Ctx} {J:Env} {fps:Nat->Nat->Prop} {res:List ae} {K:Nat->Prop} {w0 w:World} {F0:Nat->Prop}
theorem lG {P:Program} {s:Bool} {n:Nat} {lo hi:Option V} {a b:Int} (ha:gC lo 0=some a) (hb:gC hi (n:Int)=some b) (hk:(∀v,lo=some v->ok K v)/\∀v,hi=some v->ok K v) (hp:EW a b n):
  (Instr.sliceBounds s n n (lo.map (den J)) (hi.map (den J)) none).run P w= .ok (a.toNat,b.toNat,n) w:=by
 obtain⟨h0,h1,h2⟩:=hp
 have hlo:∀(c:BoundsCode) (y:Nat),a<=y->∀v,lo=some v->(Instr.sliceBound (den J v) y c).run P w= .ok a.toNat w:=fun c y hy v hv=>by
  subst hv;unfold gC at ha;cases ht:toInt v with
  |none=>simp[ht]at ha
  |some kj=>
   obtain⟨k,j⟩:=kj;simp only[ht,JP]at ha;subst ha;rw[(aT (J:=J) ht (hk.1 v rfl)).1];simp[Instr.sliceBound,asIntOf,h0,hy]
 have hhi:∀(c:BoundsCode),∀v,hi=some v->(Instr.sliceBound (den J v) n c).run P w= .ok b.toNat w:=fun c v hv=>by
  subst hv;unfold gC at hb;cases ht:toInt v with
  |none=>simp[ht]at hb
  |some kj=>
   obtain⟨k,j⟩:=kj;simp only[ht,JP]at hb;subst hb;rw[(aT (J:=J) ht (hk.2 v rfl)).1];simp[Instr.sliceBound,asIntOf,show 0<=j by omega,h2]
 unfold Instr.sliceBounds;cases hhe:hi with
 |none=>
  subst hhe;have hb':b=n:=by simpa[gC]using hb.symm
  subst hb';cases hle:lo with
  |none=>subst hle;have:a=0:=by simpa[gC]using ha.symm
         subst this;simp
  |some v=>simp[hlo _ n (by omega) v hle]
 |some u=>
  have e:=hhi (if s then .sliceAcap else .sliceAlen) u hhe
  cases hle:lo with
  |none=>subst hle;have:a=0:=by simpa[gC]using ha.symm
         subst this;simp[e]
  |some v=>simp[e,hlo .sliceB b.toNat (by omega) v hle]
theorem ng {x:V} (h:yN x=true):∃b o,den J x= .pointer (some ⟨b,o,none⟩):=by
 cases x<;>simp[yN]at h
 ·exact⟨_,_,rfl⟩
 ·exact⟨_,_,rfl⟩
theorem B6 {P:Program} {t:Nat} {x r:V} {lo hi:Option V} {q:Option Prop} (h:I6 P t x lo hi=some (q,r)) (hq:aN q) (hx:ok K x) (hl:∀v,lo=some v->ok K v) (hh:∀v,hi=some v->ok K v):
  (Instr.sliceAt t (den J x) (lo.map (den J)) (hi.map (den J)) none).run P w= .ok (den J r) w/\ok K r:=by
 unfold I6 at h;split at h
 ·rename_i hu;split at h
  ·rename_i s;split at h
   ·rename_i a b ha hb;simp only[JP,JQ]at h;obtain⟨rfl,rfl⟩:=h;have hb':=lG (J:=J) (K:=K) (w:=w) (P:=P) (s:=false) (n:=s.size) ha hb ⟨hl,hh⟩ hq;refine⟨?_,trivial⟩;simp only[Instr.sliceAt,Instr.slice,Sem.run_bind,au w hu,Result.andThen_ok,den,Option.isSome_none,Bool.false_eq_true,if_false];simp[hb',G6,fU]
   ·simp at h
  ·simp at h
 ·rename_i n e hu;split at h
  ·rename_i hc;simp only[JR,JT]at hc;obtain⟨⟨rfl,hp⟩,hs⟩:=hc;split at h
   ·rename_i a b ha hb;simp only[JP,JQ]at h;obtain⟨rfl,rfl⟩:=h;have hb':=lG (J:=J) (K:=K) (w:=w) (P:=P) (s:=false) (n:=64) ha hb ⟨hl,hh⟩ hq;obtain⟨g,o,hd⟩:=ng (J:=J) hp;obtain⟨q1,q2,q3⟩:=(show EW a b 64 from hq);refine⟨?_,hx,by unfold fU;omega,by unfold fU;omega⟩
    simp only[Instr.sliceAt,Sem.run_bind,au w hu,Result.andThen_ok,den,hd,Instr.sureAddr,Sem.run_pure,hb',bQ w hs,oH,Nat.mul_one];by_cases e:a.toNat=64
    ·rw[JY e.symm,JY (show fU a=64 from e)];rfl
    ·rw[JX (Ne.symm e),JX (show¬fU a=64 from e)];rfl
   ·simp at h
  ·split at h
   case isFalse=>simp at h
   rename_i hc;simp only[JR]at hc;split at h
   case h_2=>simp at h
   rename_i z hs;split at h
   case h_2=>simp at h
   rename_i a b ha hb;split at h<;>simp only[JP,JQ,reduceCtorEq]at h
   rename_i hd;simp only[JR,JS]at hd;obtain⟨⟨q1,q2⟩,q3⟩:=hd;obtain⟨_,rfl⟩:=h;have hb':=lG (J:=J) (K:=K) (w:=w) (P:=P) (s:=false) (n:=n) ha hb ⟨hl,hh⟩ ⟨q1,q2,q3⟩;obtain⟨g,o,hd⟩:=ng (J:=J) hc.1.1;refine⟨?_,hx,by omega,by omega⟩
   simp only[Instr.sliceAt,Sem.run_bind,au w hu,Result.andThen_ok,den,hd,Instr.sureAddr,Sem.run_pure,hb',bQ w hs,oG];by_cases e:a.toNat=n
   ·rw[JY e.symm,JY e]
   ·rw[JX (Ne.symm e),JX e]
 ·simp at h
theorem uT {P:Program} {n cap:Nat} {lo hi:Option V} {a b:Int} (ha:gC lo 0=some a) (hb:gC hi (n:Int)=some b) (hk:(∀v,lo=some v->ok K v)/\∀v,hi=some v->ok K v) (hp:EW a b n) (hn:n<=cap):
  (Instr.sliceBounds true n cap (lo.map (den J)) (hi.map (den J)) none).run P w= .ok (a.toNat,b.toNat,cap) w:=by
 obtain⟨h0,h1,h2⟩:=hp
 have hlo:∀(c:BoundsCode) (y:Nat),a<=y->∀v,lo=some v->(Instr.sliceBound (den J v) y c).run P w= .ok a.toNat w:=fun c y hy v hv=>by
  subst hv;unfold gC at ha;cases ht:toInt v with
  |none=>simp[ht]at ha
  |some kj=>
   obtain⟨k,j⟩:=kj;simp only[ht,JP]at ha;subst ha;rw[(aT (J:=J) ht (hk.1 v rfl)).1];simp[Instr.sliceBound,asIntOf,h0,hy]
 have hhi:∀(c:BoundsCode),∀v,hi=some v->(Instr.sliceBound (den J v) cap c).run P w= .ok b.toNat w:=fun c v hv=>by
  subst hv;unfold gC at hb;cases ht:toInt v with
  |none=>simp[ht]at hb
  |some kj=>
   obtain⟨k,j⟩:=kj;simp only[ht,JP]at hb;subst hb;rw[(aT (J:=J) ht (hk.2 v rfl)).1];simp[Instr.sliceBound,asIntOf,show 0<=j by omega,show j<=(cap:Int) by omega]
 unfold Instr.sliceBounds;cases hhe:hi with
 |none=>
  subst hhe;have hb':b=n:=by simpa[gC]using hb.symm
  subst hb';cases hle:lo with
  |none=>subst hle;have:a=0:=by simpa[gC]using ha.symm
         subst this;simp
  |some v=>simp[hlo _ n (by omega) v hle]
 |some u=>
  have e:=hhi .sliceAcap u hhe;cases hle:lo with
  |none=>subst hle;have:a=0:=by simpa[gC]using ha.symm
         subst this;simp[e]
  |some v=>simp[e,hlo .sliceB b.toNat (by omega) v hle]
theorem BB {P:Program} {t:Nat} {x r:V} {lo hi:Option V} {q:Option Prop} (hH:an J fps res K w0 F0 w) (h:Ep P res t x lo hi=some (q,r)) (hq:aN q) (hx:ok K x) (hl:∀v,lo=some v->ok K v) (hh:∀v,hi=some v->ok K v):
  (Instr.sliceAt t (den J x) (lo.map (den J)) (hi.map (den J)) none).run P w= .ok (den J r) w/\ok K r:=by
 unfold Ep at h;split at h
 ·rename_i r' hr;simp only[JP]at h;subst h;exact B6 hr hq hx hl hh
 rename_i hno;clear hno;unfold Js at h;split at h
 case h_2=>simp at h
 rename_i e hu;split at h
 case h_2=>simp at h
 rename_i z hz;split at h
 case h_2=>simp at h
 rename_i j;split at h
 case h_2=>simp at h
 rename_i own esz l hr;split at h
 case h_2=>simp at h
 rename_i e';split at h
 case isFalse=>simp at h
 rename_i he;have he:=JT.1 he;subst he;split at h
 case h_2=>simp at h
 rename_i a b ha hb;simp only[JP,JQ]at h;obtain⟨rfl,rfl⟩:=h;obtain⟨fp,hh',_⟩:=hH.look hr (by simp)
 obtain⟨a1,a2,a3,a4,a5,a6,a7⟩:=hh';rcases a7 with⟨b1,_⟩|⟨e2,b1,b2,b3⟩
 ·simp at b1
 have hq:EW a b l.len:=hq
 have hcap:l.len<=J.cap j:=by
  rcases b2.2 with⟨_,hz0⟩|⟨g,cap,cur,hv,_,_,hn,_⟩
  ·omega
  ·simp only[Env.sl,Value.slice.injEq]at hv;rw[hv.2.2];exact hn
 have hbd:=uT (J:=J) (K:=K) (w:=w) (P:=P) ha hb ⟨hl,hh⟩ hq hcap;refine⟨?_,hx⟩;simp only[Instr.sliceAt,Instr.slice,Sem.run_bind,au w hu,Result.andThen_ok,den,a2,hbd,bQ w hz,Sem.run_pure,uy];rfl
def wT (res:List ae) (p:V):Option (Option Prop×Bytes):=
 match p with
 | .lp id off=>match aW res id with
   | .blk _ c=>match bV 8 c off 64 true with
     |some r=>match r with
      | .by b=>some (none,b)
      |_=>none
     |none=>none
   |_=>none
 | .ap id esz i off=>match aW res id with
   | .arr _ esz' l=>if esz==esz' then match bV 8 (l.get i) off 64 true with
     |some r=>match r with
      | .by b=>some (some (zb i l.len),b)
      |_=>none
     |none=>none
     else none
   |_=>none
 |_=>none
theorem vy {p:V} {q:Option Prop} {b:Bytes} (h:an J fps res K w0 F0 w) (hb:wT res p=some (q,b)) (hq:aN q):
  ∃g o,den J p= .pointer (some ⟨g,o,none⟩)/\∀k,k<64->w.cell? ⟨g,o+k,none⟩=(aV b)[k]? :=by
 unfold wT at hb;split at hb
 ·rename_i id off;split at hb
  ·rename_i ty c hc;split at hb
   ·rename_i r hg;split at hb<;>simp only[JP,JQ,reduceCtorEq]at hb
    rename_i b';obtain⟨_,rfl⟩:=hb;obtain⟨fp,hh,_⟩:=h.look hc (by simp)
    obtain⟨h1,h2,h3,h4⟩:=hh;obtain⟨⟨P,Q,e1,rfl⟩,_⟩:=ba J 8 c off 64 true _ h1 h2 hg;refine⟨_,_,rfl,fun k hk=>?_⟩
    rw[cell_of_row w _ _ _ _ _ h4];rw[ei]at e1;simp only[List.getElem?_toArray,e1];exact dh P _ Q k (by rw[bC];exact hk)
   ·simp at hb
  ·simp at hb
 ·rename_i id esz i off;split at hb
  ·rename_i own esz' l hc;split at hb
   ·rename_i he;have he:=JT.1 he;subst he;split at hb
    ·rename_i r hg;split at hb<;>simp only[JP,JQ,reduceCtorEq]at hb
     rename_i b';obtain⟨rfl,rfl⟩:=hb;obtain⟨g1,g2,g3,g4⟩:=eU h hc hq;obtain⟨⟨P,Q,e1,e2⟩,_⟩:=ba J 8 _ off 64 true _ g1 g2 hg;have hlg:=ak J _ g1;rw[ei]at e1;refine⟨_,_,rfl,fun k hk=>?_⟩
     have hk2:off+k<esz:=by
      rw[<-g3,<-hlg,e1];simp[bC];omega
     rw[show(J.adr id).off+(i*esz+off)+k=(J.adr id).off+(i*esz+(off+k)) by omega,g4 _ hk2,e1,e2]
     exact dh P _ Q k (by rw[bC];exact hk)
    ·simp at hb
   ·simp at hb
  ·simp at hb
 ·simp at hb
theorem pP:∀(l:List Int) (s:ByteArray),(l.foldl (fun r n=>r.push (UInt8.ofNat n.toNat)) s).data=s.data++(l.map fun i=>UInt8.ofNat i.toNat).toArray
 | [],s=>by simp
 |x::l,s=>by
  rw[List.foldl_cons,pP l];simp[ByteArray.push]
theorem rl (l:List Int):l.foldl (fun r n=>r.push (UInt8.ofNat n.toNat)) ByteArray.empty=zH l:=by
 apply ByteArray.ext
 rw[pP];simp[zH]
def Ig (P:Program) (res:List ae) (s d:Nat) (x:V):Option (Option Prop×V):=
 match P.underlying s,P.underlying d with
 |some (.slice e),some .string=>match P.underlying e with
  |some (.int k)=>if k== .u8 then match x with
   | .bs p lo hi=>match wT res p with
     |some r=>some (r.1,.st (Fu r.2 lo hi))
     |none=>none
   | .sa id=>match aW res id with
     | .arr _ esz l=>match l with
       | .it k' m=>if esz==1&&k'== .u8 then some (none,.st (zH m))else none
       |_=>none
     |_=>none
   |_=>none
   else none
  |_=>none
 |_,_=>none
theorem A3 (b:Bytes) (lo hi:Nat) (h:hi<=64):zH ((List.range (hi-lo)).map fun k=>((b.at (lo+k)).toNat:Int))=Fu b lo hi:=by
 apply ByteArray.ext
 unfold zH Fu;apply Array.ext
 ·simp;omega
 ·intro i h1 h2;simp at h1;have:lo+i<64:=by omega
  simp[Bytes.at,Array.getD_eq_getD_getElem?,Array.getElem?_eq_getElem,this]
theorem B4 {P:Program} {s d:Nat} {x r:V} {q:Option Prop} (h:an J fps res K w0 F0 w) (hl:Ig P res s d x=some (q,r)) (hq:aN q) (hx:ok K x):
  (convert s d (den J x)).run P w= .ok (den J r) w/\ok K r:=by
 unfold Ig at hl;split at hl
 case h_2=>simp at hl
 rename_i e hs hd;split at hl
 case h_2=>simp at hl
 rename_i k he;split at hl
 case isFalse=>simp at hl
 rename_i hk;have hk:=JT.1 hk;subst hk;split at hl
 ·rename_i p lo hi;split at hl
  case h_2=>simp at hl
  rename_i qb hb;obtain⟨q',b⟩:=qb;simp only[JP,JQ]at hl;obtain⟨rfl,rfl⟩:=hl;obtain⟨g,o,hg,hc⟩:=vy h hb hq;obtain⟨_,h1,h2⟩:=hx;refine⟨?_,trivial⟩;simp only[den,hg,oH];rw[run_convert_bytes_string w s d e _ _ _ hs he hd]
  have hload:(loadCells (if lo=64 then(⟨g,o,none⟩:Addr)else(⟨g,o,none⟩:Addr).add lo) (hi-lo)).run P w= .ok ((((List.range (hi-lo)).map fun k=>((b.at (lo+k)).toNat:Int)).map (Value.int .u8)).toArray) w:=by
   have:=run_loadCells_list (P:=P) w (if lo=64 then(⟨g,o,none⟩:Addr)else(⟨g,o,none⟩:Addr).add lo) (((List.range (hi-lo)).map fun k=>((b.at (lo+k)).toNat:Int)).map (Value.int .u8)) (fun j v hv=>by
    have hj:j<hi-lo:=by have:=(List.getElem?_eq_some_iff.1 hv).1;simpa using this
    rw[JX (by omega),add_lit,add_lit,Nat.add_assoc,hc _ (by omega),<-hv]
    simp[aV,hj,show lo+j<64 by omega])
   simpa using this
  rw[run_bytesToString w _ _ _ _ hload,rl,A3 b lo hi h2]
 ·rename_i id;split at hl
  case h_2=>simp at hl
  rename_i own esz l hr;split at hl
  case h_2=>simp at hl
  rename_i k' m;split at hl
  case isFalse=>simp at hl
  rename_i hc;simp only[JR,JT]at hc;obtain⟨rfl,rfl⟩:=hc;simp only[JP,JQ]at hl;obtain⟨_,rfl⟩:=hl;refine⟨?_,trivial⟩;obtain⟨fp,hh,_⟩:=h.look hr (by simp)
  obtain⟨a1,a2,a3,a4,a5,a6,_⟩:=hh;have hlen:(TL.it .u8 m).len=m.length:=rfl;rw[hlen]at a2 a5 a6;simp only[den];rw[run_convert_bytes_string w s d e _ _ _ hs he hd];cases hsa:J.sa id with
  |none=>
   have:m= []:=by
    simp_all
   subst this;simp[Conv.bytesToString,zH,ByteArray.empty,ByteArray.emptyWithCapacity];rfl
  |some a=>
   have ha:=a4 a hsa;subst ha
   have hload:(loadCells (J.adr id) (J.sn id)).run P w= .ok ((m.map (Value.int .u8)).toArray) w:=by
    have:=run_loadCells_list (P:=P) w (J.adr id) (m.map (Value.int .u8)) (fun j v hv=>by
     have hj:j<m.length:=by have:=(List.getElem?_eq_some_iff.1 hv).1;simpa using this
     have hsp:=a6 (by omega)
     obtain⟨_,_,_,g4⟩:=eU h hr (i:=j) hj;have g:=g4 0 (by omega)
     have:(J.adr id).add j=⟨(J.adr id).block,(J.adr id).off+j,none⟩:=by
      cases had:J.adr id with
      |mk bb oo ss=>rw[had]at hsp;simp only at hsp;subst hsp;rw[add_lit]
     rw[this,<-hv];simp only[Nat.mul_one,Nat.add_zero]at g;rw[g];simp[TL.get,cells,den,Value.cells,aB,hj])
    simpa[a2]using this
   rw[run_bytesToString w _ _ _ _ hload,rl]
 ·simp at hl
theorem sK {P:Program} {id ty off lo n:Nat} {c c':V} {b b':Bytes} {xs:List Value} (h:an J fps res K w0 F0 w) (hr:aa res id= .blk ty c) (hg:bV 8 c off 64 true=some (.by b)) (hs:setAt 8 c off (.by b')=some c')
  (hlo:lo+n<=64) (hx:xs.length=n) (hb:aV b'=(aV b).take lo++xs++(aV b).drop (lo+n)) (h1:∀v∈xs,v.oneCell'=true):
  ∃w',(storeCells ⟨J.num id,off+lo,none⟩ xs).run P w= .ok () w'/\an J fps (aG res id (.blk ty c')) K w0 F0 w'/\∀i,known (aG res id (.blk ty c')) i↔known res i:=by
 have hk:known res id:=by unfold known;rw[hr];simp
 have hh:=h.holds id hk;rw[hr]at hh;obtain⟨k1,k2,k3,k4⟩:=hh;obtain⟨⟨p,q,e1,e2⟩,_⟩:=ba J 8 c off 64 true _ k1 k2 hg;obtain⟨⟨p',m,q',f1,f2,f3,f4⟩,_,f6,f7⟩:=cP J (.by b') (N:=K) trivial rfl 8 c off c' k1 k2 hs
 rw[ei]at e1 f2;have hbl:=bC b;obtain⟨rfl,rfl,rfl⟩:=eN (f1.symm.trans e1) (by omega) (by rw[f4,hbl];rfl)
 have hcl:(cells J c).length=p'.length+64+q'.length:=by rw[e1];simp[hbl];omega
 have hst:=run_storeCells_at (P:=P) (J.num id) (off+lo) ty xs 0 (cells J c).toArray w k4 (by simp only[List.size_toArray];omega) h1
 have hrow:(cells J c).take (off+lo)++xs++(cells J c).drop (off+lo+xs.length)=cells J c':=by
  rw[f2,hb,e1,<-f3,hx]
  have t1:(p'++aV b++q').take (p'.length+lo)=p'++(aV b).take lo:=by
   rw[List.append_assoc,List.take_append,List.take_of_length_le (by omega)]
   rw[show p'.length+lo-p'.length=lo by omega,List.take_append_of_le_length (by omega)]
  have t2:(p'++aV b++q').drop (p'.length+lo+n)=(aV b).drop (lo+n)++q':=by
   rw[List.append_assoc,List.drop_append,List.drop_of_length_le (by omega)]
   rw[show p'.length+lo+n-p'.length=lo+n by omega,List.drop_append_of_le_length (by omega)]
   rfl
  rw[t1,t2];simp
 refine⟨w.setRow (J.num id) (cells J c').toArray,?_,?_,fun i=>?_⟩
 ·simp only[Nat.add_zero]at hst;rw[hst,hrow]
 ·exact h.write hr f6 f7 rfl rfl rfl (by simp[World.setRow]) (setRow_heap w _ _ _ _ (0,0) k4) fun b hb=>setRow_other w _ _ b hb
 ·grind[known,aA,ai]
theorem oi (b:Bytes) (lo n:Nat) (s:ByteArray) (h:lo+n<=64):aV (zV b lo n s)=(aV b).take lo++(List.range n).map (fun k=>Value.int .u8 ((sat s k).toNat:Int))++(aV b).drop (lo+n):=by
 apply List.ext_getElem?
 intro i;have hbl:=bC b;by_cases hi:i<64
 ·have hl:∀b:Bytes,(aV b)[i]? =some (.int .u8 ((b.at i).toNat:Int)):=fun b=>by simp[aV,hi]
  rw[hl,El _ _ _ _ _ hi,List.append_assoc];by_cases h1:i<lo
  ·grind
  ·grind
 ·grind[bC]
def Iq (C:Ctx) (res:List ae) (ts:List Nat) (xs:List V):Option (V×List ae):=
 match ts,xs with
 | [t,_],[d,s]=>match C.P.underlying t with
   |some (.slice e)=>if gz C.P e==some 1 then match d with
    | .bs p lo hi=>match p with
      | .lp id off=>match s with
        | .st z=>match aa res id with
          | .blk ty c=>match bV 8 c off 64 true with
            |some r=>match r with
             | .by b=>match setAt 8 c off (.by (Jz b lo hi z))with
               |some c'=>some (.it .i64 (dp (zI z lo hi)),aG res id (.blk ty c'))
               |none=>none
             |_=>none
            |none=>none
          |_=>none
        |_=>none
      |_=>none
    |_=>none
    else none
   |_=>none
 |_,_=>none
theorem A4 {ts:List Nat} {xs:List V} {ty:Nat} {r:V} {res':List ae} (h:an J fps res K w0 F0 w) (hl:Iq C res ts xs=some (r,res')) (hx:bH K xs):
  ∃w',(Builtin.copy_ ts.toArray ty (aw J xs).toArray).run C.P w= .ok (den J r) w'/\an J fps res' K w0 F0 w'/\(∀i,known res' i↔known res i)/\ok K r:=by
 unfold Iq at hl;split at hl
 case h_2=>simp at hl
 rename_i t t' d s;split at hl
 case h_2=>simp at hl
 rename_i e ht;split at hl
 case isFalse=>simp at hl
 rename_i hs;have hs:=JT.1 hs;split at hl
 case h_2=>simp at hl
 rename_i p lo hi;split at hl
 case h_2=>simp at hl
 rename_i id off;split at hl
 case h_2=>simp at hl
 rename_i z;split at hl
 case h_2=>simp at hl
 rename_i ty' c hr;split at hl
 case h_2=>simp at hl
 rename_i rb hg;split at hl
 case h_2=>simp at hl
 rename_i b;split at hl
 case h_2=>simp at hl
 rename_i c' hset;simp only[JP,JQ]at hl;obtain⟨rfl,rfl⟩:=hl;obtain⟨⟨_,h1,h2⟩,_⟩:=hx;have hn:zI z lo hi<=hi-lo:=Nat.min_le_right _ _;have hnz:zI z lo hi<=z.size:=Nat.min_le_left _ _
 obtain⟨w',e1,e2,e3⟩:=sK (P:=C.P) (n:=zI z lo hi) (xs:=(List.range (zI z lo hi)).map fun k=>Value.int .u8 ((sat z k).toNat:Int)) h hr hg hset (by omega) (by simp) (oi b lo _ z (by omega)) (fun v hv=>by
  simp only[List.mem_map]at hv;obtain⟨_,_,rfl⟩:=hv;rfl)
 refine⟨w',?_,e2,e3,by simp only[ok,br,dp];omega⟩
 have hcells:((z.extract 0 (zI z lo hi)).data.map fun b=>Value.int .u8 (b.toNat:Int)).toList=(List.range (zI z lo hi)).map fun k=>Value.int .u8 ((sat z k).toNat:Int):=by
  apply List.ext_getElem?
  intro i;by_cases hi:i<zI z lo hi
  ·have:i<z.data.size:=Nat.lt_of_lt_of_le hi hnz;simp[sat,hi,ByteArray.data_extract,Array.getElem?_extract,this,Array.getElem?_eq_getElem this]
  ·simp_all
 have hcells2:=congrArg List.toArray hcells;simp only[Array.toArray_toList]at hcells2;have hsz:C.P.info? e=none\/∃inf,C.P.info? e=some inf:=by cases C.P.info? e<;>simp
 have hdst:∀xs:List Value,xs=(List.range (zI z lo hi)).map (fun k=>Value.int .u8 ((sat z k).toNat:Int))->(storeCells (if lo=64 then(⟨J.num id,off,none⟩:Addr)else(⟨J.num id,off,none⟩:Addr).add lo) xs).run C.P w= .ok () w':=fun xs hxs=>by
  subst hxs;by_cases e:lo=64
  ·have h0:zI z lo hi=0:=by omega
   rw[h0]at e1⊢;simp only[List.range_zero,List.map_nil,storeCells]at e1⊢;exact e1
  ·rw[JX e,add_lit];exact e1
 simp only[aw,den,oH,Builtin.copy_,List.size_toArray,List.getElem?_toArray];simp only[List.getElem?_cons_zero,List.getElem?_cons_succ,Sem.run_bind,au w ht,Result.andThen_ok,Builtin.lenOf,Sem.run_pure,bQ w hs,Builtin.firstCells];rw[show Nat.min z.size (hi-lo)=zI z lo hi from rfl,hcells2];simp only[Sem.run_bind,Result.andThen_ok,hdst _ rfl,Sem.run_pure,goInt,dp]
def FR (C:Ctx) (res:List ae) (ts:List Nat) (xs:List V):Option (List ae):=
 match ts,xs with
 | [t],[d]=>match C.P.underlying t with
   |some (.slice e)=>match C.Z e with
    |some z=>match toByte z with
     |some y=>if y==0 then match d with
      | .bs p lo hi=>match p with
        | .lp id off=>match aa res id with
          | .blk ty c=>match bV 8 c off 64 true with
            |some r=>match r with
             | .by b=>match setAt 8 c off (.by (I5 b lo hi))with
               |some c'=>some (aG res id (.blk ty c'))
               |none=>none
             |_=>none
            |none=>none
          |_=>none
        |_=>none
      |_=>none
      else none
     |none=>none
    |none=>none
   |_=>none
 |_,_=>none
theorem yj {ts:List Nat} {xs:List V} {ty:Nat} {res':List ae} (hC:C.tO) (h:an J fps res K w0 F0 w) (hl:FR C res ts xs=some res') (hx:bH K xs):
  ∃w',(Builtin.clear_ ts.toArray ty (aw J xs).toArray).run C.P w= .ok (.tuple #[]) w'/\an J fps res' K w0 F0 w'/\(∀i,known res' i↔known res i):=by
 unfold FR at hl;split at hl
 case h_2=>simp at hl
 rename_i t d;split at hl
 case h_2=>simp at hl
 rename_i e ht;split at hl
 case h_2=>simp at hl
 rename_i zv hz;split at hl
 case h_2=>simp at hl
 rename_i y hy;split at hl
 case isFalse=>simp at hl
 rename_i hy0;have hy0:=JT.1 hy0;subst hy0;split at hl
 case h_2=>simp at hl
 rename_i p lo hi;split at hl
 case h_2=>simp at hl
 rename_i id off;split at hl
 case h_2=>simp at hl
 rename_i ty' c hr;split at hl
 case h_2=>simp at hl
 rename_i rb hg;split at hl
 case h_2=>simp at hl
 rename_i b;split at hl
 case h_2=>simp at hl
 rename_i c' hset;simp only[JP]at hl;subst hl;obtain⟨⟨_,h1,h2⟩,_⟩:=hx
 obtain⟨w',e1,e2,e3⟩:=sK (P:=C.P) (n:=hi-lo) (xs:=(List.range (hi-lo)).map fun k=>Value.int .u8 ((sat ByteArray.empty k).toNat:Int)) h hr hg hset (by omega) (by simp) (oi b lo _ _ (by omega)) (fun v hv=>by
  simp only[List.mem_map]at hv;obtain⟨_,_,rfl⟩:=hv;rfl)
 refine⟨w',?_,e2,e3⟩;have hs0:=sat_empty;obtain⟨inf,g1,g2,g3,g4,g5⟩:=hC e zv hz
 have hzc:(den J zv).cells= #[.int .u8 0]:=by
  have:=(jA J hy).1;simp only[cells]at this;apply Array.ext'
  simpa using this
 by_cases hz0:hi-lo=0
 ·rw[hz0]at e1;simp only[List.range_zero,List.map_nil,storeCells,Sem.run_pure,Result.ok.injEq,true_and]at e1;subst e1;simp[aw,den,oH,Builtin.clear_,au w ht,hz0]
 ·have hz1:hi-lo=(hi-lo-1)+1:=by omega
  have hdst:(storeCells (if lo=64 then(⟨J.num id,off,none⟩:Addr)else(⟨J.num id,off,none⟩:Addr).add lo) (Builtin.zeroCells #[.int .u8 0] (hi-lo)).toList).run C.P w= .ok () w':=by
   rw[JX (by omega),add_lit,<-e1]
   congr 1
   congr 1
   unfold Builtin.zeroCells;apply List.ext_getElem?
   intro i;simp only[hs0];by_cases hi':i<hi-lo
   ·simp[hi',Nat.mod_one]
   ·simp[hi']
  rw[hz1]at hdst
  have hzero:(zeroValue e).run C.P w= .ok (den J zv) w:=by
   simp[zeroValue,typeInfo,g1,g2 J]
  simp only[aw,den,oH,Builtin.clear_,List.getElem?_toArray,List.getElem?_cons_zero,Sem.run_bind,au w ht,Result.andThen_ok];rw[hz1];simp[hzero,hzc,hdst]
end
end Go.Sx
namespace Go.Sx
open Go.RowKit (Below)
def bX (D:List (List Int×Int)) (k:List Int):Bool:=D.any fun p=>decide (p.1=k)
def aO (D:List (List Int×Int)) (k:List Int):Nat:=D.findIdx fun p=>decide (p.1=k)
def aR (D:List (List Int×Int)) (k:List Int):Int:=(aB D (aO D k) ([],0)).2
def aK (D:List (List Int×Int)) (k:List Int):List (List Int×Int):=if bX D k=true then D else D++ [(k,0)]
def bN (D:List (List Int×Int)) (j:Nat) (v:Int):List (List Int×Int):=D.set j ((aB D j ([],0)).1,v)
def bM (D:List (List Int×Int)) (j c:Nat):Int:=aB (aB D j ([],0)).1 c 0
def rN (D:List (List Int×Int)):Prop:=D.length<=4611686018427387904
def ID (C:Ctx) (res:List ae) (t:Nat) (m x:V):Option (Option Prop×V×List ae):=
 match m with
 | .mp i=>match x with
   | .ag xl=>match ez xl with
     |some l=>match aa res i with
      | .ms n D=>match C.P.underlying t with
        |some (.map kt et)=>if jh C.P kt l.length&&l.length==n then match C.Z et with
         |some z=>match z with
          | .ci kd c=>if kd== .i64&&c==0 then some (some (rN D),.tp [.it .i64 (aR D (aI l)),.it .i64 (dp (aO D (aI l)))],aG res i (.ms n (aK D (aI l))))else none
          |_=>none
         |none=>none
         else none
        |_=>none
      |_=>none
     |none=>none
   |_=>none
 |_=>none
def Iv (res:List ae) (m s v:V):Option (Option Prop×List ae):=
 match m with
 | .mp i=>match toInt s with
   |some (ks,j)=>match toInt v with
    |some (kv,x)=>if ks== .i64&&kv== .i64 then match aa res i with
     | .ms n D=>some (some (EB j (ar D)),aG res i (.ms n (bN D (fU j) x)))
     |_=>none
     else none
    |none=>none
   |none=>none
 |_=>none
def AH (C:Ctx) (res:List ae) (t:Nat) (m x:V) (two:Bool):Option V:=
 match m with
 | .mp i=>match x with
   | .ag xl=>match ez xl with
     |some l=>match aW res i with
      | .ms n D=>match C.P.underlying t with
        |some (.map kt et)=>if jh C.P kt l.length&&l.length==n then match C.Z et with
         |some z=>match z with
          | .ci kd c=>if kd== .i64&&c==0 then some (if two then .tp [.it .i64 (aR D (aI l)),.bo (bX D (aI l))]else .it .i64 (aR D (aI l)))else none
          |_=>none
         |none=>none
         else none
        |_=>none
      |_=>none
     |none=>none
   |_=>none
 |_=>none
def lL (D:List (List Int×Int)) (q:Nat):Nat->Nat->List V
 |_,0=> []
 |c,m+1=> .it .i64 (bM D q c)::lL D q (c+1) m
def jm (D:List (List Int×Int)) (q:Nat):Int:=(aB D q ([],0)).2
def mH (S:List Nat):Nat:=aB S (S.length-1) 0
def Cs (S:List Nat) (q:Nat):Bool:=S.contains q
def F2 (n:Nat) (D:List (List Int×Int)) (S:List Nat):Prop:=n=ar D/\0<ar S/\mH S<ar D
def Hq (n:Nat) (D:List (List Int×Int)):Prop:=n=ar D
def He (C:Ctx) (res:List ae) (nid t:Nat) (m:V):RR:=
 match m with
 | .mp i=>match aW res i with
   | .ms _ D=>match C.P.underlying t with
     |some (.map _ _)=>some (none,.lp nid 0,[.mi i (ar D) []])
     |_=>none
   |_=>none
 |_=>none
def IG (res:List ae) (p:V):RR:=
 match p with
 | .lp j off=>if off==0 then match aW res j with
   | .mi i n S=>match aW res i with
     | .ms w D=>some (some (F2 n D S),.tp [.ag (lL D (mH S) 0 w),.it .i64 (jm D (mH S))],[])
     |_=>none
   |_=>none
   else none
 |_=>none
def IU (res:List ae) (p:V) (k:V->List ae->Prop):Prop:=
 match p with
 | .lp j off=>if off==0 then match aa res j with
   | .mi i n S=>match aW res i with
     | .ms w D=>Hq n D/\(∀q,q<ar D->Cs S q=false->k (.tp [.cb true,.ag (lL D q 0 w),.it .i64 (jm D q)]) (aG res j (.mi i n (bf S q))))/\((∀q,q<ar D->Cs S q=true)->k (.tp [.cb false]) res)
     |_=>False
   |_=>False
   else False
 |_=>False
def Iz (C:Ctx) (kt et nid:Nat):RR:=
 match C.Z et with
 |some z=>if nX z then(match gz C.P kt with|some n=>some (none,.mp nid,[.ms n []])|none=>none)else some (none,.mp nid,[.mq [] []])
 |none=>some (none,.mp nid,[.mq [] []])
theorem zR {C:Ctx} {kt et nid:Nat} {q:Option Prop} {x:V} {new:List ae} (h:Iz C kt et nid=some (q,x,new)):x= .mp nid/\(new= [.mq [] []]\/∃n,new= [.ms n []]):=by
 unfold Iz at h;split at h
 ·split at h
  ·split at h<;>simp only[JP,JQ,reduceCtorEq]at h
   obtain⟨_,rfl,rfl⟩:=h;exact⟨rfl,.inr ⟨_,rfl⟩⟩
  ·simp only[JP,JQ]at h;obtain⟨_,rfl,rfl⟩:=h;exact⟨rfl,.inl rfl⟩
 ·simp only[JP,JQ]at h;obtain⟨_,rfl,rfl⟩:=h;exact⟨rfl,.inl rfl⟩
section
variable {J:Env} {fps:Nat->Nat->Prop} {res:List ae} {K:Nat->Prop} {w0 w:World} {F0:Nat->Prop} {P:Program}
theorem dq (D:List (List Int×Int)) (j:Nat):(du D).toList[j]? =(D[j]?).map fun p=>({key:=bP p.1,val:=i64 p.2,born:=j}:MapEntry):=by
 simp[du,List.getElem?_mapIdx]
theorem z1 (D:List (List Int×Int)):(du D).size=D.length:=by simp[du]
theorem yJ {D:List (List Int×Int)} {n:Nat} (h:∀p∈D,p.1.length=n):∀e∈(du D).toList,∃k:List Int,k.length=n/\e.key=bP k:=by
 intro e he;obtain⟨j,hj⟩:=List.getElem?_of_mem he;rw[dq]at hj;cases hd:D[j]? with
 |none=>rw[hd]at hj;simp at hj
 |some p=>
  rw[hd]at hj;simp only[Option.map_some,JP]at hj;subst hj;exact⟨p.1,h p (List.mem_of_getElem? hd),rfl⟩
theorem yQ {D:List (List Int×Int)} {k:List Int} {j:Nat} {p:List Int×Int} (hn:(D.map (·.1)).Nodup) (hj:D[j]? =some p) (hk:p.1=k):aO D k=j:=by
 have hlt:=(List.getElem?_eq_some_iff.1 hj).1;have hp:D[j]=p:=(List.getElem?_eq_some_iff.1 hj).2;have h1:aO D k<D.length:=List.findIdx_lt_length_of_exists ⟨p,List.mem_of_getElem? hj,by simp[hk]⟩
 have h2:(D[aO D k]'h1).1=k:=by
  exact JV (p:=(D[aO D k]'h1).1=k) (List.findIdx_getElem (p:=fun p:List Int×Int=>decide (p.1=k)) (xs:=D) (w:=h1))
 have h3:=List.pairwise_iff_getElem.1 hn;rcases Nat.lt_trichotomy (aO D k) j with h|h|h
 ·exact absurd (show(D.map (·.1))[aO D k]'(by simpa using h1)=(D.map (·.1))[j]'(by simpa using hlt) by simp[h2,hp,hk]) (h3 (aO D k) j (by simpa using h1) (by simpa using hlt) h)
 ·exact h
 ·exact absurd (show(D.map (·.1))[j]'(by simpa using hlt)=(D.map (·.1))[aO D k]'(by simpa using h1) by simp[h2,hp,hk]) (h3 j (aO D k) (by simpa using hlt) (by simpa using h1) h)
theorem nB {D:List (List Int×Int)} {k:List Int}:bX D k=true↔ ∃p∈D,p.1=k:=by simp[bX]
theorem ze {D:List (List Int×Int)} {k:List Int} (hn:(D.map (·.1)).Nodup) {j:Nat} {p:List Int×Int} (hj:D[j]? =some p) (hk:p.1=k):bX D k=true/\aR D k=p.2/\aO D k=j:=by
 have h:=yQ hn hj hk;refine⟨nB.2 ⟨p,List.mem_of_getElem? hj,hk⟩,?_,h⟩;unfold aR aB;rw[h,JW,hj];rfl
theorem Ch {D:List (List Int×Int)} {k:List Int} (h:∀p∈D,p.1≠k):bX D k=false/\aR D k=0/\aO D k=D.length:=by
 have h1:bX D k=false:=by
  cases hc:bX D k with
  |false=>rfl
  |true=>obtain⟨p,hp,hk⟩:=nB.1 hc;exact absurd hk (h p hp)
 have h2:aO D k=D.length:=List.findIdx_eq_length.2 fun x hx=>by simpa using h x hx
 refine⟨h1,?_,h2⟩;unfold aR aB;rw[h2,JW,List.getElem?_eq_none (Nat.le_refl _)];rfl
theorem xc {kt n:Nat} (hk:jh P kt n=true) {x:List Int} (hx:x.length=n) {D:List (List Int×Int)} (hD:(∀p∈D,p.1.length=n/\br .i64 p.2/\∀x∈p.1,br .i64 x)/\(D.map (·.1)).Nodup) (w:World):
  ∃r,(Instr.findKey kt (bP x) (du D).toList).run P w= .ok r w/\
   ((r=none/\bX D x=false/\aR D x=0/\aO D x=D.length)\/∃p,r=some (aO D x,i64 (aR D x))/\D[aO D x]? =some p/\p.1=x/\p.2=aR D x/\bX D x=true):=by
 obtain⟨r,h1,h2⟩:=jd hk hx w (du D).toList (yJ fun p hp=>(hD.1 p hp).1)
 refine⟨r,h1,?_⟩;rcases h2 with⟨rfl,h2⟩|⟨j,e,rfl,h2,h3⟩
 ·refine .inl ⟨rfl,Ch fun p hp he=>?_⟩
  obtain⟨j,hj⟩:=List.getElem?_of_mem hp;have:(du D).toList[j]? =some {key:=bP p.1,val:=i64 p.2,born:=j}:=by rw[dq,hj];rfl
  exact h2 _ (List.mem_of_getElem? this) (by rw[he])
 ·rw[dq]at h2;cases hd:D[j]? with
  |none=>rw[hd]at h2;simp at h2
  |some p=>
   rw[hd]at h2;simp only[Option.map_some,JP]at h2;subst h2;have hp:p.1=x:=xE h3;obtain⟨a,b,c⟩:=ze hD.2 hd hp;exact .inr ⟨p,by rw[b,c],by rw[c];exact hd,hp,b.symm,a⟩
theorem re (l:List Int):Instr.sameBits 10000 (bP l) (bP l)=true:=by
 rw[show(10000:Nat)=9999+1 from rfl]
 have:∀l:List Int,((l.map i64).zip (l.map i64)).all (fun p=>Instr.sameBits 9999 p.1 p.2)=true:=by
  intro l;induction l with
  |nil=>rfl
  |cons a l ih=>simp only[List.map_cons,List.zip_cons_cons,List.all_cons,ih,Bool.and_true,i64];simp[Instr.sameBits]
 simpa[Instr.sameBits,bP]using this l
theorem wM {C:Ctx} {t:Nat} {m x r:V} {two:Bool} (hC:C.tO) (h:an J fps res K w0 F0 w) (hl:AH C res t m x two=some r) (hx:ok K x):
  (Instr.lookup t (den J m) (den J x) two).run C.P w= .ok (den J r) w/\ok K r:=by
 unfold AH at hl;split at hl
 case h_2=>simp at hl
 rename_i i;split at hl
 case h_2=>simp at hl
 rename_i xl;split at hl
 case h_2=>simp at hl
 rename_i l hxl;split at hl
 case h_2=>simp at hl
 rename_i n D hr;split at hl
 case h_2=>simp at hl
 rename_i kt et hu;split at hl
 case isFalse=>simp at hl
 rename_i hc;simp only[JR,JT]at hc;obtain⟨hwide,rfl⟩:=hc;split at hl
 case h_2=>simp at hl
 rename_i z hz;split at hl
 case h_2=>simp at hl
 rename_i kd c;split at hl<;>simp only[JP,reduceCtorEq]at hl
 rename_i hc;simp only[JR,JT]at hc;obtain⟨rfl,rfl⟩:=hc;obtain⟨hx1,hx2⟩:=fT (J:=J) hxl hx.1;obtain⟨fp,hh,_⟩:=h.look hr (by simp)
 obtain⟨_,hD,b1⟩:=hh;obtain⟨q,q1,q2⟩:=xc hwide hx2 hD w;have hck:=iO hwide hx2 (du D).isEmpty w;have hzr:=fY (J:=J) (w:=w) hC hz
 have main:(Instr.lookup t (den J (.mp i)) (den J (.ag xl)) two).run C.P w= .ok (if two then .tuple #[i64 (aR D (aI l)),.bool (bX D (aI l))]else i64 (aR D (aI l))) w/\br .i64 (aR D (aI l)):=by
  rw[hx1];simp only[Instr.lookup,den,Sem.run_bind,au w hu,Result.andThen_ok,MapKept.run_getObj_map b1,Sem.run_pure,hck,q1];rcases q2 with⟨rfl,a1,a2,_⟩|⟨p,rfl,a1,a2,a3,a4⟩
  ·simp_all[den,i64,br]
  ·refine⟨by simp_all,?_⟩
   rw[<-a3];exact(hD.1 p (List.mem_of_getElem? a1)).2.1
 obtain⟨main,hin⟩:=main;rw[main];subst hl;cases two
 ·exact⟨rfl,hin⟩
 ·exact⟨by simp[den,aw,i64],hin,trivial,trivial⟩
theorem na (D:List (List Int×Int)) (j:Nat) (k:Value) (h:∀p,D[j]? =some p->bP p.1=k):(du D).modify j (fun e=> {e with key:=k})=du D:=by
 apply Array.ext'
 apply List.ext_getElem?
 intro q;rw[Array.getElem?_toList,Array.getElem?_modify,<-Array.getElem?_toList,dq];by_cases e:j=q
 ·subst e;rw[JY rfl];cases hd:D[j]? with
  |none=>rfl
  |some p=>simp[h p hd]
 ·rw[JX e]
theorem yL (D:List (List Int×Int)) (k:List Int):(du D).push {key:=bP k,val:=i64 0,born:=D.length}=du (D++ [(k,0)]):=by
 simp[du,List.mapIdx_append]
theorem AD (D:List (List Int×Int)) (j:Nat) (v:Int) (hj:j<D.length):(du D).modify j (fun e=> {e with val:=i64 v})=du (bN D j v):=by
 apply Array.ext'
 apply List.ext_getElem?
 intro q;rw[Array.getElem?_toList,Array.getElem?_modify,<-Array.getElem?_toList,dq,dq];unfold bN aB;rw[List.getElem?_set];by_cases e:j=q
 ·subst e;rw[JY rfl,JY rfl,JY hj,JW,List.getElem?_eq_getElem hj];rfl
 ·rw[JX e,JX e]
theorem zG (D:List (List Int×Int)) (j:Nat) (v:Int):(bN D j v).length=D.length:=by simp[bN]
theorem zC (D:List (List Int×Int)) (j:Nat) (v:Int):(bN D j v).map (·.1)=D.map (·.1):=by
 apply List.ext_getElem?
 intro q;simp only[bN,List.getElem?_map,List.getElem?_set,aB];by_cases e:j=q
 ·subst e;by_cases h:j<D.length
  ·rw[JY rfl,JY h,JW,List.getElem?_eq_getElem h];rfl
  ·rw[JY rfl,JX h,List.getElem?_eq_none (by omega)]
 ·rw[JX e]
theorem lY {xl:List V} {l:List (Bool×Int)} (h:ez xl=some l) (hk:bH K xl):∀x∈aI l,br .i64 x:=by
 induction xl generalizing l with
 |nil=>simp only[ez,JP]at h;subst h;simp[aI]
 |cons x xl ih=>
  simp only[ez]at h;split at h
  case h_2=>simp at h
  rename_i k n hn;split at h
  case isFalse=>simp at h
  rename_i hki;have hki:=JT.1 hki;subst hki;split at h<;>simp only[JP,reduceCtorEq]at h
  rename_i m hm;subst h;intro y hy;simp only[aI,List.mem_cons]at hy;rcases hy with rfl|hy
  ·exact(aT (J:=Env.zero) hn hk.1).2
  ·exact ih hm hk.2 y hy
theorem BR {C:Ctx} {res':List ae} {t:Nat} {m x r:V} {qq:Option Prop} (hC:C.tO) (h:an J fps res K w0 F0 w) (hs:ID C res t m x=some (qq,r,res')) (hqq:aN qq) (hx:ok K x):
  ∃w',(Instr.mapEntry t (den J m) (den J x)).run C.P w= .ok (den J r) w'/\an J fps res' K w0 F0 w'/\(∀i,known res' i↔known res i)/\ok K r:=by
 unfold ID at hs;split at hs
 case h_2=>simp at hs
 rename_i i;split at hs
 case h_2=>simp at hs
 rename_i xl;split at hs
 case h_2=>simp at hs
 rename_i l hxl;split at hs
 case h_2=>simp at hs
 rename_i n D hr;split at hs
 case h_2=>simp at hs
 rename_i kt et hu;split at hs
 case isFalse=>simp at hs
 rename_i hc;simp only[JR,JT]at hc;obtain⟨hwide,rfl⟩:=hc;split at hs
 case h_2=>simp at hs
 rename_i z hz;split at hs
 case h_2=>simp at hs
 rename_i kd c;split at hs<;>simp only[JP,JQ,reduceCtorEq]at hs
 rename_i hc;simp only[JR,JT]at hc;obtain⟨rfl,rfl⟩:=hc;obtain⟨rfl,rfl,rfl⟩:=hs;have hfit:D.length<=4611686018427387904:=hqq;have hk:known res i:=by unfold known;rw[hr];simp
 have hh:=h.holds i hk;rw[hr]at hh;obtain⟨a1,hD,b1⟩:=hh;obtain⟨hx1,hx2⟩:=fT (J:=J) hxl hx.1;obtain⟨q,q1,q2⟩:=xc hwide hx2 hD w;have hck:=iO hwide hx2 false w;have hzr:=fY (J:=J) (w:=w) hC hz;have hset:=MapKept.heap_set (w:=w) (r:=J.num i) (o':= .map (du (aK D (aI l))) (aK D (aI l)).length) b1;refine⟨{w with heap:=w.heap.setIfInBounds (J.num i) (.map (du (aK D (aI l))) (aK D (aI l)).length)},?_,?_⟩
 ·rw[hx1];simp only[Instr.mapEntry,den,Sem.run_bind,au w hu,Result.andThen_ok,MapKept.run_getObj_map b1,hck,q1];rcases q2 with⟨rfl,c1,c2,c3⟩|⟨p,rfl,c1,c2,c3,c4⟩
  ·have e1:aK D (aI l)=D++ [(aI l,0)]:=by unfold aK;rw[JX (by rw[c1];simp)]
   have e2:(aK D (aI l)).length=D.length+1:=by rw[e1];simp
   simp only[den]at hzr;simp only[Sem.run_bind,hzr,Result.andThen_ok,MapKept.run_setObj_map _ b1,Sem.run_pure,c2,c3,goInt,dp,aw,den];rw[show(Value.int IntKind.i64 0)=i64 0 from rfl,yL,<-e1,<-e2]
  ·have e1:aK D (aI l)=D:=by unfold aK;rw[JY c4]
   have hg:(du D)[aO D (aI l)]? =some {key:=bP p.1,val:=i64 p.2,born:=aO D (aI l)}:=by rw[<-Array.getElem?_toList,dq,c1];rfl
   have hks:(Instr.keyThatStays (bP p.1) (bP (aI l))).run C.P w= .ok (bP (aI l)) w:=by
    rw[c2];simp[Instr.keyThatStays,re]
   simp only[hg,Option.map_some,Option.getD_some,Sem.run_bind,hks,Result.andThen_ok,MapKept.run_setObj_map _ b1,Sem.run_pure,goInt,dp,aw,den,e1];rw[na D _ _ fun p' hp'=>by rw[c1]at hp';simp only[JP]at hp';subst hp';rw[c2]]
   rfl
 ·have hnew:(∀p∈aK D (aI l),p.1.length=l.length/\br .i64 p.2/\∀x∈p.1,br .i64 x)/\((aK D (aI l)).map (·.1)).Nodup:=by
   unfold aK;split
   ·exact hD
   ·rename_i hno;refine⟨fun p hp=>?_,?_⟩
    ·rcases List.mem_append.1 hp with hp|hp
     ·exact hD.1 p hp
     ·simp only[List.mem_singleton]at hp;subst hp;exact⟨hx2,by simp[br],lY hxl hx.1⟩
    ·rw[List.map_append,List.nodup_append];refine⟨hD.2,by simp,fun a ha b hb=>?_⟩
     simp only[List.map_cons,List.map_nil,List.mem_singleton]at hb;subst hb;obtain⟨p,hp,rfl⟩:=List.mem_map.1 ha;exact fun e=>hno (nB.2 ⟨p,hp,e⟩)
  obtain⟨g1,g2⟩:=h.qC (w':= {w with heap:=w.heap.setIfInBounds (J.num i) (.map (du (aK D (aI l))) (aK D (aI l)).length)}) (b:=J.num i) (r':= .ms l.length (aK D (aI l))) hr (by simp) (by simp) a1 ⟨a1,hnew,hset.1⟩ rfl rfl rfl (by simp) hset.2
  have hin:br .i64 (aR D (aI l)):=by
   rcases q2 with⟨_,_,c2,_⟩|⟨p,_,c1,_,c3,_⟩
   ·rw[c2];simp[br]
   ·rw[<-c3];exact(hD.1 p (List.mem_of_getElem? c1)).2.1
  have hix:br .i64 (dp (aO D (aI l))):=by
   have:aO D (aI l)<=D.length:=List.findIdx_le_length;simp only[br,dp];omega
  exact⟨g1,g2,hin,hix,trivial⟩
theorem BD {res':List ae} {t:Nat} {m s v:V} {q:Option Prop} (h:an J fps res K w0 F0 w) (hs:Iv res m s v=some (q,res')) (hq:aN q) (h1:ok K s) (h2:ok K v):
  ∃w',(Instr.entryStore t (den J m) (den J s) (den J v)).run P w= .ok () w'/\an J fps res' K w0 F0 w'/\∀i,known res' i↔known res i:=by
 unfold Iv at hs;split at hs
 case h_2=>simp at hs
 rename_i i;split at hs
 case h_2=>simp at hs
 rename_i ks j hj;split at hs
 case h_2=>simp at hs
 rename_i kv x hx;split at hs
 case isFalse=>simp at hs
 rename_i hc;simp only[JR,JT]at hc;obtain⟨rfl,rfl⟩:=hc;split at hs<;>simp only[JP,JQ,reduceCtorEq]at hs
 rename_i n D hr;obtain⟨rfl,rfl⟩:=hs;obtain⟨j0,j1⟩:0<=j/\j<((ar D:Nat):Int):=hq;have hjl:fU j<D.length:=by unfold ar at j1;unfold fU;omega
 have hk:known res i:=by unfold known;rw[hr];simp
 have hh:=h.holds i hk;rw[hr]at hh;obtain⟨a1,hD,b1⟩:=hh;obtain⟨e1,_⟩:=aT (J:=J) hj h1;obtain⟨e2,e3⟩:=aT (J:=J) hx h2;have hset:=MapKept.heap_set (w:=w) (r:=J.num i) (o':= .map (du (bN D (fU j) x)) (bN D (fU j) x).length) b1
 have hf:(du D).findIdx? (fun e=>(e.born:Int)==j)=some (fU j):=by
  rw[Array.findIdx?_eq_some_iff_getElem]
  have hget:∀q (hq:q<(du D).size),(du D)[q].born=q:=fun q hq=>by
   have h1:(du D)[q]? =some (du D)[q]:=Array.getElem?_eq_getElem hq;rw[<-Array.getElem?_toList,dq]at h1;cases hd:D[q]? with
   |none=>rw[hd]at h1;simp at h1
   |some p=>rw[hd]at h1;simp only[Option.map_some,JP]at h1;rw[<-h1]
  refine⟨by rw[z1];exact hjl,?_,fun q hq=>?_⟩
  ·rw[hget];unfold fU;simp;omega
  ·rw[hget];unfold fU at hq;simp;omega
 refine⟨{w with heap:=w.heap.setIfInBounds (J.num i) (.map (du (bN D (fU j) x)) (bN D (fU j) x).length)},?_,?_⟩
 ·rw[e1,e2];have:=AD D _ x hjl;simp[Instr.entryStore,den,MapKept.run_getObj_map b1,asInt,asIntOf,hf,MapKept.run_setObj_map _ b1,zG];rw[show(Value.int IntKind.i64 x)=i64 x from rfl,this]
 ·refine h.qC (b:=J.num i) (r':= .ms n (bN D (fU j) x)) hr (by simp) (by simp) a1 ⟨a1,⟨fun p hp=>?_,by rw[zC];exact hD.2⟩,hset.1⟩ rfl rfl rfl (by simp) hset.2
  rcases List.mem_or_eq_of_mem_set hp with hp|rfl
  ·exact hD.1 p hp
  ·have:=hD.1 _ (List.getElem_mem hjl);unfold aB;rw[JW,List.getElem?_eq_getElem hjl];exact⟨this.1,e3,this.2.2⟩
theorem ue (D:List (List Int×Int)) (q:Nat) (hD:∀x∈(aB D q ([],0)).1,br .i64 x):∀(m c:Nat),bH K (lL D q c m)/\ni (lL D q c m)/\∀J,aq J (lL D q c m)=(List.range m).map fun y=>i64 (bM D q (c+y))
 |0,c=>⟨trivial,trivial,fun J=>rfl⟩
 |m+1,c=>by
  obtain⟨a,b,d⟩:=ue D q hD m (c+1)
  have h:br .i64 (bM D q c):=by
   unfold bM;generalize (aB D q ([],0)).1=l at hD
   unfold aB;rw[JW];cases hc:l[c]? with
   |none=>simp[br]
   |some x=>exact hD x (List.mem_of_getElem? hc)
  refine⟨⟨h,a⟩,⟨trivial,b⟩,fun J=>?_⟩
  have e:aq J (lL D q c (m+1))=i64 (bM D q c)::aq J (lL D q (c+1) m):=rfl;rw[e,d,List.range_succ_eq_map,List.map_cons,List.map_map];show i64 (bM D q c)::_=i64 (bM D q c)::_
  congr 1
  refine List.map_congr_left fun y _=>?_
  simp only[Function.comp,Nat.add_assoc,Nat.succ_eq_add_one,Nat.add_comm 1 y]
theorem uw {D:List (List Int×Int)} {q w:Nat} {p:List Int×Int} (hq:D[q]? =some p) (hl:p.1.length=w) (hp:∀x∈p.1,br .i64 x):
  bH K [V.ag (lL D q 0 w)]/\∀J,den J (V.ag (lL D q 0 w))=bP p.1:=by
 have e:aB D q ([],0)=p:=by unfold aB;rw[JW,hq];rfl
 obtain⟨a,b,d⟩:=ue (K:=K) D q (by rw[e];exact hp) w 0
 refine⟨⟨⟨a,b⟩,trivial⟩,fun J=>?_⟩
 simp only[den,d,bP];congr 2
 subst hl;apply List.ext_getElem (by simp)
 intro y h1 h2;have hy:y<p.1.length:=by simpa using h2
 have e2:bM D q y=p.1[y]:=by
  unfold bM;rw[e];unfold aB;rw[JW,List.getElem?_eq_getElem hy];rfl
 simp only[List.getElem_map,List.getElem_range,Nat.zero_add,e2]
theorem C2 {C:Ctx} {nid t:Nat} {m x:V} {q:Option Prop} {new:List ae} (hl:He C res nid t m=some (q,x,new)):∀k,k<new.length->aa new k≠ .yet:=by
 unfold He at hl;split at hl
 case h_2=>simp at hl
 split at hl
 case h_2=>simp at hl
 split at hl<;>simp only[JP,JQ,reduceCtorEq]at hl
 obtain⟨_,_,rfl⟩:=hl;intro k hk;simp only[List.length_singleton,Nat.lt_one_iff]at hk;subst hk;simp[aa]
theorem Bb {C:Ctx} {nid t:Nat} {m x:V} {q:Option Prop} {new:List ae} (h:an J fps res K w0 F0 w) (hn:∀k,k<new.length->¬K (nid+k)) (hl:He C res nid t m=some (q,x,new)):
  ∃w',(Instr.range t (den J m)).run C.P w= .ok (den (J.aD nid w.heap.size) x) w'/\fc K J (J.aD nid w.heap.size) nid new w0 F0 w w'/\ok (fun i=>K i\/fresh nid new.length i) x:=by
 unfold He at hl;split at hl
 case h_2=>simp at hl
 rename_i i;split at hl
 case h_2=>simp at hl
 rename_i n D hr;split at hl<;>simp only[JP,JQ,reduceCtorEq]at hl
 rename_i kt et hu;obtain⟨rfl,rfl,rfl⟩:=hl;obtain⟨fp,hh,_⟩:=h.look hr (by simp)
 obtain⟨_,hD,b1⟩:=hh;have hki:K i:=h.sub i (bR hr (by simp))
 have hnid:¬K nid:=by simpa using hn 0 (by simp)
 have hne:i≠nid:=fun e=>hnid (e▸hki)
 refine⟨w.alloc (.mapIter (some (J.num i)) D.length #[] D.length),?_,?_,.inr ⟨Nat.le_refl _,by simp⟩⟩
 ·simp only[Instr.range,den,Sem.run_bind,au w hu,Result.andThen_ok,MapKept.run_getObj_map b1,Sem.run_pure];rw[show(J.aD nid w.heap.size).num nid=w.heap.size by simp[Env.aD]]
  rfl
 ·refine⟨(Below.refl _ _).alloc (Nat.le_refl _) _,dU J nid _,fun _ b=>b=w.heap.size,fun k hk=>?_,fun k l b hk hl hne=>?_⟩
  ·simp only[List.length_singleton,Nat.lt_one_iff]at hk;subst hk;refine⟨⟨.inl hki,by simp[Env.aD],?_⟩,fun b hb=>by subst hb;simp⟩
   rw[show(J.aD nid w.heap.size).num (nid+0)=w.heap.size by simp[Env.aD],show(J.aD nid w.heap.size).num i=J.num i by simp[Env.aD,hne]]
   exact heap_alloc_new w _
  ·simp only[List.length_singleton,Nat.lt_one_iff]at hk hl;omega
theorem Al {P:Program} {p x:V} {q:Option Prop} {new:List ae} (h:an J fps res K w0 F0 w) (hl:IG res p=some (q,x,new)) (hq:aN q):
  (Instr.entry (den J p)).run P w= .ok (den J x) w/\ok K x/\new= []:=by
 unfold IG at hl;split at hl
 case h_2=>simp at hl
 rename_i j off;split at hl
 case isFalse=>simp at hl
 rename_i ho;have ho:=JT.1 ho;subst ho;split at hl
 case h_2=>simp at hl
 rename_i i n S hj;split at hl<;>simp only[JP,JQ,reduceCtorEq]at hl
 rename_i wd D hi;obtain⟨rfl,rfl,rfl⟩:=hl;obtain⟨hn,h0,h1⟩:n=ar D/\0<ar S/\mH S<ar D:=hq;have hn:n=D.length:=hn;subst hn;obtain⟨_,⟨_,_,c1⟩,_⟩:=h.look hj (by simp)
 obtain⟨_,⟨_,hD,b1⟩,_⟩:=h.look hi (by simp)
 have hlt:mH S<D.length:=h1;have hg:D[mH S]? =some D[mH S]:=List.getElem?_eq_getElem hlt;have hm:=List.getElem_mem hlt;obtain⟨g1,g2⟩:=uw (K:=K) hg (hD.1 _ hm).1 (hD.1 _ hm).2.2
 have hS:S.toArray=(S.take (S.length-1)).toArray.push (mH S):=by
  apply Array.ext'
  have hne:S≠ []:=fun e=>by subst e;simp[ar]at h0
  simp only[Array.toList_push];have:=List.take_append_getLast (l:=S) hne;simp only[mH,aB,JW];rw[List.getLast_eq_getElem]at this
  rw[List.getElem?_eq_getElem (by have:S.length≠0:=by simpa using hne
                                  omega)]
  simpa[List.dropLast_eq_take]using this.symm
 have he:({key:=bP D[mH S].1,val:=i64 D[mH S].2,born:=mH S}:MapEntry)∈(du D).toList:=by
  have:(du D).toList[mH S]? =some {key:=bP D[mH S].1,val:=i64 D[mH S].2,born:=mH S}:=by rw[dq,hg];rfl
  exact List.mem_of_getElem? this
 have hnd:((du D).toList.map (·.born)).Nodup:=by
  have:(du D).toList.map (·.born)=List.range D.length:=by
   apply List.ext_getElem?
   intro y;rw[List.getElem?_map,dq];by_cases hy:y<D.length
   ·simp[hy]
   ·simp[hy]
  rw[this];exact List.nodup_range
 rw[hS]at c1;have hrun:=run_entry_at (P:=P) w _ _ _ (S.take (S.length-1)).toArray _ _ _ c1 b1 he hnd;have hv:jm D (mH S)=D[mH S].2:=by unfold jm aB;rw[JW,hg];rfl
 refine⟨?_,⟨g1.1,by rw[hv];exact(hD.1 _ hm).2.1,trivial⟩,rfl⟩
 have e3:den J (.tp [.ag (lL D (mH S) 0 wd),.it .i64 (jm D (mH S))])= .tuple #[den J (.ag (lL D (mH S) 0 wd)),i64 (jm D (mH S))]:=rfl;rw[e3,g2,hv];exact hrun
theorem Be {P:Program} {p:V} {ty:Nat} {k:V->List ae->Prop} (h:an J fps res (known res) w0 F0 w) (hl:IU res p k):
  ∃v res' w',(Instr.next (den J p) false ty).run P w= .ok (den J v) w'/\an J fps res' (known res') w0 F0 w'/\(∀i,known res' i↔known res i)/\ok (known res') v/\k v res':=by
 unfold IU at hl;split at hl
 case h_2=>exact hl.elim
 rename_i j off;split at hl
 case isFalse=>exact hl.elim
 rename_i ho;have ho:=JT.1 ho;subst ho;split at hl
 case h_2=>exact hl.elim
 rename_i i n S hj;split at hl
 case h_2=>exact hl.elim
 rename_i wd D hi;obtain⟨hn,h1,h2⟩:=hl;have hn:n=D.length:=hn;subst hn;have hkj:known res j:=by unfold known;rw[hj];simp
 have hh:=h.holds j hkj;rw[hj]at hh;obtain⟨c0,c2,c1⟩:=hh;obtain⟨_,⟨_,hD,b1⟩,_⟩:=h.look hi (by simp)
 have hborn:∀x∈(du D).toList,∃p,D[x.born]? =some p/\x= {key:=bP p.1,val:=i64 p.2,born:=x.born}:=fun x hx=>by
  obtain⟨y,hy⟩:=List.getElem?_of_mem hx;rw[dq]at hy;cases hd:D[y]? with
  |none=>rw[hd]at hy;simp at hy
  |some p=>rw[hd]at hy;simp only[Option.map_some,JP]at hy;subst hy;exact⟨p,hd,rfl⟩
 have hlt:∀x∈(du D).toList,x.born<D.length:=fun x hx=>by
  obtain⟨p,hp,_⟩:=hborn x hx;exact(List.getElem?_eq_some_iff.1 hp).1
 rcases run_next_at (P:=P) w ty _ _ _ _ _ _ _ c1 b1 hlt (Nat.le_refl _)with⟨e1,e2⟩|⟨e,he,w1,hw1,e2⟩
 ·refine⟨.tp [.cb false],res,w,e2,h,fun _=>Iff.rfl,⟨trivial,trivial⟩,h2 fun q hq=>?_⟩
  have hq:q<D.length:=hq;have hg:(du D).toList[q]? =some {key:=bP D[q].1,val:=i64 D[q].2,born:=q}:=by rw[dq,List.getElem?_eq_getElem hq];rfl
  have hem:leftOf (du D) S.toArray= #[]:=Array.eq_empty_of_size_eq_zero e1;unfold leftOf at hem;rw[Array.filter_eq_empty_iff]at hem;have:=hem _ (by simpa using List.mem_of_getElem? hg)
  unfold Cs;simpa using this
 ·have hem:e∈(du D).toList/\S.contains e.born=false:=by
   unfold leftOf at he;simpa using he
  obtain⟨p,hp,hpe⟩:=hborn e hem.1;have hm:=List.mem_of_getElem? hp;have hD':=hD.1 p hm;obtain⟨g1,g2⟩:=uw (K:=known res) hp hD'.1 hD'.2.2;have hv:jm D e.born=p.2:=by unfold jm aB;rw[JW,hp];rfl
  have hh1:w1.heap=w.heap:=by rcases hw1 with rfl|rfl<;>rfl
  have hr1:w1.heap[J.num j]? =some (.mapIter (some (J.num i)) D.length S.toArray D.length):=by rw[hh1];exact c1
  have hw':an J fps res (known res) w0 F0 w1:=by
   rcases hw1 with rfl|rfl
   ·exact h
   ·exact⟨h.sub,h.old,h.os,h.tape,h.output,fun i hi=>ae.bJ _ (h.holds i hi) fun _ _=>rfl,h.lt,h.disj,h.inF,h.same⟩
  have hrl:J.num j<w1.heap.size:=(Array.getElem?_eq_some_iff.1 hr1).1
  obtain⟨r1,r2⟩:=hw'.qC (w':=ChangeMaps.setBlock w1 (J.num j) (.mapIter (some (J.num i)) D.length (S.toArray.push e.born) D.length)) (b:=J.num j) (r':= .mi i D.length (bf S e.born)) hj (by simp) (by simp) c2
   ⟨c0,c2,by simp[ChangeMaps.setBlock,bf,hrl]⟩ rfl rfl rfl (by simp[ChangeMaps.setBlock]) (fun b' hb=>by simp[ChangeMaps.setBlock,Array.getElem?_setIfInBounds_ne (Ne.symm hb)])
  have hin:br .i64 (jm D e.born):=by rw[hv];exact hD'.2.1
  have e3:den J (.tp [.cb true,.ag (lL D e.born 0 wd),.it .i64 (jm D e.born)])= .tuple #[.bool true,den J (.ag (lL D e.born 0 wd)),i64 (jm D e.born)]:=rfl;have k1:=congrArg MapEntry.key hpe;have k2:=congrArg MapEntry.val hpe
  refine⟨.tp [.cb true,.ag (lL D e.born 0 wd),.it .i64 (jm D e.born)],_,_,?_,r1.jj fun i hi=>(r2 i).2 hi,r2,⟨trivial,(aM (fun i hi=>(r2 i).2 hi) _ g1).1,hin,trivial⟩,h1 e.born (hlt e hem.1) (by unfold Cs;simpa using hem.2)⟩
  refine e2.trans ?_;rw[e3,g2,hv,k1,k2]
theorem fc.C9 {nid n:Nat} (hn:¬K nid):fc K J (J.aD nid w.heap.size) nid [.ms n []] w0 F0 w (w.alloc (.map #[] 0)):=by
 refine⟨(Below.refl _ _).alloc (Nat.le_refl _) _,dU J nid _,fun _ b=>b=w.heap.size,fun k hk=>?_,fun k l b hk hl hne=>?_⟩
 ·simp only[List.length_singleton,Nat.lt_one_iff]at hk;subst hk;refine⟨⟨by simp[Env.aD],⟨by simp,List.nodup_nil⟩,?_⟩,fun b hb=>by subst hb;simp⟩
  rw[show(J.aD nid w.heap.size).num (nid+0)=w.heap.size by simp[Env.aD]]
  exact heap_alloc_new w _
 ·simp only[List.length_singleton,Nat.lt_one_iff]at hk hl;omega
end
end Go.Sx
namespace Go.Sx
open Go.RowKit (Below)
def dz (P:Program) (f:Nat):Bool:=
 match P.funcs[f]? with
 |some fn=>fn.name != "runtime.NumGoroutine" &&fn.body.isSome
 |none=>false
def EG (C:Ctx) (res:List ae) (nid:Nat) (fv:V) (args:List V):RR:=
 match fv with
 | .fn f caps=>match C.Γ f with
   |some g=>if Nat.blt f 2000 then(if dz C.P f then g res nid (args++caps)else none)else none
   |none=>none
 |_=>none
def FP (P:Program) (res:List ae) (t:Nat) (x:V):Option (Option Prop×V):=
 match P.underlying t with
 |some .string=>match x with
  | .st s=>some (some (fy .i64 (Cr s)),.it .i64 (Cr s))
  |_=>none
 |some (.slice _)=>match x with
  | .sa id=>match aW res id with
    | .arr _ _ l=>some (none,.it .i64 (dp l.len))
    | .obs _ _ L=>some (none,.it .i64 (dp (ar L)))
    | .que _ _ Q=>some (none,.it .i64 (dp (ar Q)))
    |_=>none
  | .sc _ len _=>if br .i64 (len:Int)then some (none,.ci .i64 (len:Int))else none
  | .ks x _ _ lo hi=>if yN x&&br .i64 ((hi-lo:Nat):Int)then some (none,.ci .i64 ((hi-lo:Nat):Int))else none
  | .nl (.slice none 0 0)=>some (none,.ci .i64 0)
  |_=>none
 |some (.array n _)=>if br .i64 (n:Int)then some (none,.ci .i64 (n:Int))else none
 |_=>none
def Gl (x y:V):Option V:=
 match toInt x,toInt y with
 |some (k,a),some (k',b)=>if k==k' then some (.it k (Bl a b))else none
 |_,_=>none
def EV (x y:V):Option V:=
 match toInt x,toInt y with
 |some (k,a),some (k',b)=>if k==k' then some (.it k (imax a b))else none
 |_,_=>none
def pV (C:Ctx) (res:List ae) (b:Builtin) (ts:List Nat) (xs:List V):Option (Option Prop×V):=
 match b,ts,xs with
 | .len,t::_,[x]=>FP C.P res t x
 | .min,_,[x,y]=>(Gl x y).map fun r=>(none,r)
 | .max,_,[x,y]=>(EV x y).map fun r=>(none,r)
 |_,_,_=>none
def xb (c a b:V):Option V:=
 match toBool c,toBool a,toBool b with
 |some x,some y,some z=>
  if D5 c then some (if x then a else b)
  else match a,b with
   | .cb true,_=>some (.bo (Gy x z))
   | .cb false,_=>some (.bo (Es (Cu x) z))
   |_,.cb false=>some (.bo (Es x y))
   |_,.cb true=>some (.bo (Gy (Cu x) y))
   |_,_=>some (.bo (Hc x y z))
 |_,_,_=>none
theorem wP {c a b r:V} (h:xb c a b=some r):∃x y z,toBool c=some x/\toBool a=some y/\toBool b=some z/\toBool r=some (if x then y else z):=by
 unfold xb at h;split at h
 ·rename_i x y z hc ha hb;refine⟨x,y,z,hc,ha,hb,?_⟩;split at h
  ·grind
  ·grind[toBool,Es,Gy,Cu,Hc]
 ·simp at h
def C5 (v:V) (b:Bool):V:=
 match v with
 | .cb true=> .cb false
 | .cb false=> .cb true
 |_=> .bo (Cu b)
theorem zg {v:V} {b:Bool} (h:toBool v=some b):toBool (C5 v b)=some (!b):=by
 cases v<;>simp[toBool]at h<;>subst h
 ·rename_i b;cases b<;>rfl
 ·rfl
def isStr (P:Program) (t:Nat) (x i:V):Option (Option Prop×V):=
 match P.underlying t,x,toInt i with
 |some .string,.st s,some (_,j)=>some (some (Jo s j),.bt (sat s (fU j)))
 |_,_,_=>none
theorem wL {P:Program} {J:Env} {K:Nat->Prop} {w:World} {t:Nat} {x i r:V} {q:Option Prop} (h:isStr P t x i=some (q,r)) (hq:aN q) (hi:ok K i):(Instr.index t (den J x) (den J i)).run P w= .ok (den J r) w/\ok K r:=by
 unfold isStr at h;split at h<;>simp only[JP,JQ,reduceCtorEq]at h
 rename_i s k j hu hj;obtain⟨rfl,rfl⟩:=h;obtain⟨h0,h1⟩:=(show Jo s j from hq);refine⟨?_,trivial⟩;rw[(aT (J:=J) hj hi).1];have hlt:j.toNat<s.size:=by omega
 have hg:s[j.toNat]? =some (sat s j.toNat):=by
  have hd:j.toNat<s.data.size:=hlt;rw[getElem?_pos s j.toNat hlt];congr 1
  unfold sat;rw[Array.getD_eq_getD_getElem?,Array.getElem?_eq_getElem hd];rfl
 simp only[Instr.index,asIntOf,Sem.run_bind,Sem.run_pure,Result.andThen_ok,au w hu,den,h0,if_true,hg,fU]
def DD (op:BinOp) (x y:V):Option (Option Prop×V):=
 match op,x,y with
 | .add,.st a,.st b=>some (some (IF a b),.st (HP a b))
 |_,_,_=>none
theorem yG {P:Program} {J:Env} {K:Nat->Prop} {op:BinOp} {t:Nat} {x y r:V} {q:Option Prop} (w:World) (o1 o2:Operand) (h:DD op x y=some (q,r)) (hq:aN q):
  (do eqGuard op t o1 o2 (den J x) (den J y);binOp op t (den J x) (den J y)).run P w= .ok (den J r) w/\ok K r:=by
 unfold DD at h;split at h<;>simp only[JP,JQ,reduceCtorEq]at h
 rename_i a b;obtain⟨rfl,rfl⟩:=h;have hq:(a.size:Int)+(b.size:Int)<=9223372036854775807:=hq;have hm:IntKind.i64.max=9223372036854775807:=rfl;refine⟨?_,trivial⟩;simp[eqGuard,binOp,Op.stringOp,den,HP,hm];omega
def mY (sl:List S) (ch:List (Nat×Bool)) (ps:List (Nat×Operand)):Option (List (Nat×V)):=
 allM (fun p:Nat×Operand=>(bj sl ch p.2).map fun v=>(p.1,v)) ps
def sZ (C:Ctx) (sl:List S) (res:List ae) (nid:Nat) (ch:List (Nat×Bool)):Op->RR
 | .move x=>(bj sl ch x).map fun v=>(none,v,[])
 | .assign x=>(bj sl ch x).map fun v=>(none,v,[])
 | .pick c a b=>match c with
   | .tmp s=>match bj sl ch c with
     |some (.cb x)=>if x then(bj sl ch a).map fun v=>(none,v,[])else(bj sl ch b).map fun v=>(none,v,[])
     |some cv=>match bj sl ((s,true)::ch) a,bj sl ((s,false)::ch) b with
      |some av,some bv=>(xb cv av bv).map fun v=>(none,v,[])
      |_,_=>none
     |none=>none
   |_=>none
 | .box t x=>match bj sl ch x with
   |some v=>if aP v then none else some (none,.lp nid 0,[.blk t v])
   |none=>none
 | .alloc t=>match C.Z t with
   |some z=>some (none,.lp nid 0,[.blk t z])
   |none=>none
 | .makeSlice t x y=>match bj sl ch x,bj sl ch y with
   |some a,some b=>vf C nid t a b
   |_,_=>none
 | .makeInterface t x=>match bj sl ch x,C.P.underlying t with
   |some v,some d=>match d with
    | .interface _=>none
    |_=>some (none,.ic t v,[])
   |_,_=>none
 | .makeMap t r=>match r with
   |none=>match C.P.underlying t with
    |some (.map kt et)=>match C.P.underlying kt with
     |some (.int kd)=>some (none,.mp nid,[.mp kd [] []])
     |some (.struct _)=>Iz C kt et nid
     |_=>none
    |_=>none
   |some _=>none
 | .lookup t m x two=>match bj sl ch m,bj sl ch x with
   |some mv,some xv=>match An C res t mv xv two with
    |some y=>some (none,y,[])
    |none=>match Co C res t mv xv two with
     |some y=>some (none,y,[])
     |none=>match AH C res t mv xv two with
      |some y=>some (none,y,[])
      |none=>none
   |_,_=>none
 | .range t x=>match bj sl ch x with
   |some m=>He C res nid t m
   |none=>none
 | .entry x=>match bj sl ch x with
   |some p=>IG res p
   |none=>none
 | .load t x=>match bj sl ch x with
   |some p=>(p6 C res t p).map fun r=>(r.1,r.2,[])
   |none=>none
 | .fieldAddr t x f=>match bj sl ch x with
   |some p=>(HZ C.P t p f).map fun r=>(none,r,[])
   |none=>none
 | .field t x f=>match bj sl ch x with
   |some p=>(H8 C.P t p f).map fun r=>(none,r,[])
   |none=>none
 | .indexAddr t x i=>match bj sl ch x,bj sl ch i with
   |some p,some j=>(H9 C.P res t p j).map fun r=>(r.1,r.2,[])
   |_,_=>none
 | .index t x i=>match bj sl ch x,bj sl ch i with
   |some p,some j=>match Ia C.P t p j with
    |some r=>some (r.1,r.2,[])
    |none=>(isStr C.P t p j).map fun r=>(r.1,r.2,[])
   |_,_=>none
 | .slice t x lo hi mx=>match bj sl ch x,lo.map (bj sl ch),hi.map (bj sl ch),mx with
   |some p,none,none,none=>(Ep C.P res t p none none).map fun r=>(r.1,r.2,[])
   |some p,some (some a),none,none=>(Ep C.P res t p (some a) none).map fun r=>(r.1,r.2,[])
   |some p,none,some (some b),none=>(Ep C.P res t p none (some b)).map fun r=>(r.1,r.2,[])
   |some p,some (some a),some (some b),none=>(Ep C.P res t p (some a) (some b)).map fun r=>(r.1,r.2,[])
   |_,_,_,_=>none
 | .nilCheck x=>match bj sl ch x with
   |some (.lp i o)=>some (none,.lp i o,[])
   |some (.lx a b c d e f)=>some (none,.lx a b c d e f,[])
   |some (.ap a b c d)=>some (none,.ap a b c d,[])
   |some (.ax a b c d e f g h)=>some (none,.ax a b c d e f g h,[])
   |some (.op a b)=>some (none,.op a b,[])
   |some (.fn f l)=>some (none,.fn f l,[])
   |_=>none
 | .binOp op t x y _=>match bj sl ch x,bj sl ch y with
   |some a,some b=>match DQ C.P op t a b with
    |some r=>some (r.1,r.2,[])
    |none=>(DD op a b).map fun r=>(r.1,r.2,[])
   |_,_=>none
 | .unOp .not _ x=>match bj sl ch x with
   |some v=>match toBool v with
    |some b=>some (none,C5 v b,[])
    |none=>none
   |none=>none
 | .unOp .neg _ x=>match bj sl ch x with
   |some v=>match toInt v with
    |some (k,n)=>if nX v then(if br k (0-n)then some (none,.ci k (0-n),[])else none)else some (some (fy k (qV 0 n)),.it k (qV 0 n),[])
    |none=>none
   |none=>none
 | .convert s d x=>match bj sl ch x with
   |some v=>match Ih C.P s d v with
    |some r=>some (r.1,r.2,[])
    |none=>(Ig C.P res s d v).map fun r=>(r.1,r.2,[])
   |none=>none
 | .extract x i=>match bj sl ch x with
   |some (.tp l)=>(l[i]?).map fun v=>(none,v,[])
   |_=>none
 | .makeFunc (.func f) first caps=>if first.isEmpty then(if Nat.blt f 2000 then(fD sl ch caps.toList).map fun l=>(none,.fn f l,[])else none)else if caps.isEmpty then(fD sl ch first.toList).map fun l=>(none,.fn (f+2000) l,[])else none
 | .build t ps=>match mY sl ch ps.toList with
   |some l=>(td C t l).map fun r=>(none,r,[])
   |none=>none
 | .buildSlice t n ps=>match mY sl ch ps.toList with
   |some l=>(G9 C t n l nid).map fun r=>(none,r.1,r.2)
   |none=>none
 | .call c=>match c.callee with
   | .value f=>match bj sl ch f,fD sl ch c.args.toList with
     |some fv,some vs=>EG C res nid fv vs
     |_,_=>none
   | .builtin b=>match fD sl ch c.args.toList with
     |some vs=>match b with
      | .append=>Cl C res nid c.argTypes.toList vs
      |b=>(pV C res b c.argTypes.toList vs).map fun r=>(r.1,r.2,[])
     |none=>none
   | .invoke _ _=>none
 |_=>none
def FF (P:Program) (ro:Option Nat):Fence:= {fn:=fun _=>True,depth:=none,alive:=false,round:=ro}
theorem gN (P:Program) (ro:Option Nat) (n:Nat):(FF P ro).room n:=fun _ h=>by simp[FF]at h
theorem qH {P:Program} {ro ro':Option Nat} {n n' f:Nat} {args:Array Value} {w:World} {R:Ending->World->Prop} (h:CallsIn (FF P ro) n P f args w R):CallsIn (FF P ro') n' P f args w R:=
 ⟨h.1,fun cs _=>h.2 cs (gN P ro _)⟩
theorem ER {P:Program} {n f:Nat} {args:Array Value} {w:World} {R:Ending->World->Prop} (h:Calls P f args w R):CallsIn (FF P none) n P f args w R:=callsIn_wide.2 h
theorem Fo {P:Program} {ro:Option Nat} {n f:Nat} {args:Array Value} {w:World} {R:Ending->World->Prop} (h:CallsIn (FF P ro) n P f args w R):Calls P f args w R:=h.calls (fun k=>gN P ro k)
def bp (o:Oper):Prop:=∀c,o.op≠ .defer c
theorem bU {P:Program} {ro:Option Nat} {o:Oper} {a:Act} {w:World} {next:Act->World->Prop} {Q:Exit->Act->World->Prop} (hd:ro≠none->bp o)
  (h:o.uponIn (FF P ro) 0 P a next Q ((execOp a.eval o).run P w)):o.wpIn (FF P ro) 0 P a w next Q:=by
 refine⟨fun _ _=>trivial,?_⟩
 have hs:o.semAt (FF P ro).round a.eval=execOp a.eval o:=by
  show o.semAt ro a.eval=_
  cases ro with
  |none=>exact Oper.semAt_none _ _
  |some l=>exact Oper.semAt_some l _ o (hd (by simp))
 rw[hs];exact h
def Yields (P:Program) (o:Oper) (a:Act) (w:World) (R:Value->World->Prop):Prop:=
 (∃v w',(execOp a.eval o).run P w= .ok (.value v) w'/\R v w')\/
 ∃f args,(execOp a.eval o).run P w= .ok (.enter f args) w/\CallsIn (FF P none) 0 P f args w fun e w'=>∃v,e= .returned v/\R v w'
theorem Yields.wp {P:Program} {o:Oper} {a:Act} {w:World} {R:Value->World->Prop} {next:Act->World->Prop} {Q:Exit->Act->World->Prop} (h:Yields P o a w R)
  {ro:Option Nat} (hn:∀v w',R v w'->next (a.put o.dst v) w'):o.uponIn (FF P ro) 0 P a next Q ((execOp a.eval o).run P w):=by
 rcases h with⟨v,w',h1,h2⟩|⟨f,args,h1,h2⟩
 ·rw[h1];exact hn v w' h2
 ·rw[h1];refine⟨fun h=>by simp[FF]at h,CallsIn.mono (qH h2) fun e w' ⟨v,he,hr⟩=>?_⟩
  subst he;exact hn v w' hr
def ji (K:Nat->Prop) (J:Env) (nid:Nat) (x:V) (new:List ae) (w0:World) (F0:Nat->Prop) (w:World) (v:Value) (w':World):Prop:=
 ∃ρ',fc K J ρ' nid new w0 F0 w w'/\v=den ρ' x/\ok (fun i=>K i\/fresh nid new.length i) x
def H4 (n:Int):V:= .ag [.it .i64 n,.st ⟨#[]⟩,.ag [.key void,.key void,.key void]]
def vU (te:Nat) (k:IntKind) (n:Int):V:=if te<1000000 then .it k n else H4 n
def G0 (te:Nat):Nat:=if te<1000000 then te else te-1000000
def EX (P:Program) (f ts te:Nat):Prop:=
 (∀p w,CallsDIn (FF P none) 0 P f #[p] .returning w fun e u' w'=>(∃v,e= .returned v)/\u'= .returning/\w'=w)/\
 ∀b off ty cs cs' k n w,(te<1000000\/k= .i64)->br k n->w.heap[b]? =some (.cells cs ty (0,0))->(∀w1:World,w1.heap[b]? =some (.cells cs ty (0,0))->(Instr.storeAt (G0 te) (.pointer (some ⟨b,off,none⟩)) (den Env.zero (vU te k n))).run P w1= .ok () (w1.setRow b cs'))->
  CallsDIn (FF P none) 0 P f #[.pointer (some ⟨b,off,none⟩)] (.panicking [{v:= .iface ts (.agg #[.int k n]),recovered:=false}]) w fun e u' w''=>
   (∃v,e= .returned v)/\u'= .panicking [{v:= .iface ts (.agg #[.int k n]),recovered:=true}]/\Below w.heap.size (w.setRow b cs') w''
structure Ctx.Sound (C:Ctx):Prop where
 z:C.tO
 mixed:C.P.follows .mixedOrders=true
 ct:∀f g,C.Γ f=some g->∀J fps res K w0 F0 w nid args q x new,an J fps res K w0 F0 w->bH K args->g res nid args=some (q,x,new)->aN q->
  (∀k,k<new.length->¬K (nid+k))->
  (CallsIn (FF C.P none) 0 C.P f (aw J args).toArray w fun e w'=>∃v,e= .returned v/\ji K J nid x new w0 F0 w v w')/\∀k,k<new.length->aa new k≠ .yet
 dk:∀f ts te,C.D f=some (ts,te)->EX C.P f ts te
section
variable {C:Ctx} {J:Env} {fps:Nat->Nat->Prop} {sl:List S} {res:List ae} {K:Nat->Prop} {w0 w:World} {F0:Nat->Prop} {a:Act} {nid:Nat} {ch:List (Nat×Bool)}
theorem wq {x:V} (hx:ok K x):ji K J nid x [] w0 F0 w (den J x) w:=
 ⟨J,fc.refl _ _ _ _ _ _,rfl,aU (fun _ h=> .inl h) x hx⟩
theorem lO {ps:List (Nat×Operand)} {l:List (Nat×V)} (hF:dG J K sl a) (hg:fN sl ch=true) (h:mY sl ch ps=some l):
  (ps.map fun p=>(p.1,a.eval p.2))=l.map (fun p=>(p.1,den J p.2))/\∀p∈l,ok K p.2:=by
 induction ps generalizing l with
 |nil=>simp only[mY,allM,JP]at h;subst h;exact⟨rfl,by simp⟩
 |cons p ps ih=>
  simp only[mY,allM]at h;split at h
  ·rename_i y ys hy hys;simp only[JP]at h;subst h;cases hv:bj sl ch p.2 with
   |none=>simp[hv]at hy
   |some v=>
    simp only[hv,Option.map_some,JP]at hy;subst hy;obtain⟨e1,e2⟩:=cB hF hg hv;obtain⟨i1,i2⟩:=ih hys
    exact⟨by simp[e1,i1],fun q hq=>by
     rcases List.mem_cons.1 hq with rfl|hq
     ·exact e2
     ·exact i2 q hq⟩
  ·simp at h
theorem zm {t:Nat} {x r:V} {q:Option Prop} (h:an J fps res K w0 F0 w) (hl:FP C.P res t x=some (q,r)) (hq:aN q) (ts:List Nat) (ty:Nat):
  (Builtin.len_ (t::ts).toArray ty #[den J x]).run C.P w= .ok (den J r) w/\ok K r:=by
 unfold FP at hl;have hge:∀(l:List Nat),(t::l).toArray[0]? =some t:=fun l=>by simp
 split at hl
 ·rename_i hu;split at hl<;>simp only[JP,JQ,reduceCtorEq]at hl
  obtain⟨rfl,rfl⟩:=hl;exact⟨by simp[Builtin.len_,den,au w hu,goInt,Cr],hq⟩
 ·rename_i e hu;split at hl
  ·rename_i id;split at hl<;>simp only[JP,JQ,reduceCtorEq]at hl
   ·rename_i own esz l hc;obtain⟨_,rfl⟩:=hl;obtain⟨fp,hh,_⟩:=h.look hc (by simp)
    obtain⟨_,h2,h3,_⟩:=hh;exact⟨by simp[Builtin.len_,den,au w hu,goInt,h2,dp,ar],by simp only[ok,br,dp,ar];omega⟩
   ·rename_i ty q' L hc;obtain⟨_,rfl⟩:=hl;obtain⟨fp,hh,_⟩:=h.look hc (by simp)
    obtain⟨_,_,h2,h3,_⟩:=hh;exact⟨by simp[Builtin.len_,den,au w hu,goInt,h2,dp,ar],by simp only[ok,br,dp,ar];omega⟩
   ·rename_i ty esz l hc;obtain⟨_,rfl⟩:=hl;obtain⟨fp,hh,_⟩:=h.look hc (by simp)
    obtain⟨_,h2,h3,_⟩:=hh;exact⟨by simp[Builtin.len_,den,au w hu,goInt,h2,dp,ar],by simp only[ok,br,dp,ar];omega⟩
  ·split at hl<;>simp only[JP,JQ,reduceCtorEq]at hl
   rename_i hin;obtain⟨_,rfl⟩:=hl;exact⟨by simp[Builtin.len_,den,au w hu,goInt],hin⟩
  ·rename_i p z n lo hi;split at hl<;>simp only[JP,JQ,reduceCtorEq]at hl
   rename_i hc;simp only[JR,JS]at hc;obtain⟨_,rfl⟩:=hl;obtain⟨b,o,hd⟩:=ng (J:=J) hc.1;exact⟨by simp[Builtin.len_,den,oG,hd,au w hu,goInt],hc.2⟩
  ·simp only[JP,JQ]at hl;obtain⟨_,rfl⟩:=hl;exact⟨by simp[Builtin.len_,den,au w hu,goInt],by simp[ok,br]⟩
  ·simp at hl
 ·rename_i n e hu;split at hl<;>simp only[JP,JQ,reduceCtorEq]at hl
  rename_i hin;obtain⟨_,rfl⟩:=hl;exact⟨by simp[Builtin.len_,au w hu,goInt,den],hin⟩
 ·simp at hl
theorem fS {o:Oper} {q:Option Prop} {x:V} {new:List ae} (hC:C.Sound) (h:sZ C sl res nid ch o.op=some (q,x,new)) (hF:dG J K sl a) (hH:an J fps res K w0 F0 w)
  (hg:fN sl ch=true) (hq:aN q) (hfr:∀k,k<new.length->¬K (nid+k)):
  Yields C.P o a w (ji K J nid x new w0 F0 w)/\∀k,k<new.length->aa new k≠ .yet:=by
 have pureY:∀{y:V},(execOp a.eval o).run C.P w= .ok (.value (den J y)) w->ok K y->x=y->new= []->
   Yields C.P o a w (ji K J nid x new w0 F0 w)/\∀k,k<new.length->aa new k≠ .yet:=by
  intro y h1 h2 h3 h4;subst h3;subst h4;exact⟨.inl ⟨_,_,h1,wq h2⟩,fun k hk=>by simp at hk⟩
 have ov:∀{o:Operand} {y:V},bj sl ch o=some y->a.eval o=den J y/\ok K y:=fun ho=>cB hF hg ho
 obtain⟨dst,op,type,pos,after,guard⟩:=o;simp only at h;cases op<;>simp only[sZ,reduceCtorEq]at h
 case move y=>
  cases hy:bj sl ch y with
  |none=>simp[hy]at h
  |some v=>
   simp only[hy,Option.map_some,JP,JQ]at h;obtain⟨_,rfl,rfl⟩:=h;exact pureY (by simp[execOp,(ov hy).1]) (ov hy).2 rfl rfl
 case assign y=>
  cases hy:bj sl ch y with
  |none=>simp[hy]at h
  |some v=>
   simp only[hy,Option.map_some,JP,JQ]at h;obtain⟨_,rfl,rfl⟩:=h;exact pureY (by simp[execOp,(ov hy).1]) (ov hy).2 rfl rfl
 case pick c y z=>
  split at h
  ·rename_i s;split at h
   ·rename_i x hc;obtain⟨c1,c2⟩:=ov hc;cases x with
    |true=>
     simp only[if_true]at h;cases ha:bj sl ch y with
     |none=>simp[ha]at h
     |some v=>
      simp only[ha,Option.map_some,JP,JQ]at h;obtain⟨_,rfl,rfl⟩:=h;exact pureY (by simp[execOp,c1,den,asBool,(ov ha).1]) (ov ha).2 rfl rfl
    |false=>
     simp only[Bool.false_eq_true,if_false]at h;cases ha:bj sl ch z with
     |none=>simp[ha]at h
     |some v=>
      simp only[ha,Option.map_some,JP,JQ]at h;obtain⟨_,rfl,rfl⟩:=h;exact pureY (by simp[execOp,c1,den,asBool,(ov ha).1]) (ov ha).2 rfl rfl
   rename_i cv _ hc;split at h
   ·rename_i av bv ha hb;cases hp:xb cv av bv with
    |none=>simp[hp]at h
    |some r=>
     simp only[hp,Option.map_some,JP,JQ]at h;obtain⟨_,rfl,rfl⟩:=h;obtain⟨X,Y,Z,e1,e2,e3,e4⟩:=wP hp;obtain⟨c1,c2⟩:=ov hc
     have hraw:raw (aJ sl s)=some X:=by
      simp only[bj]at hc;cases hs:aJ sl s with
      |und=>simp[hs]at hc
      |ud=>simp[hs]at hc
      |v y=>
       simp only[hs,JP]at hc;subst hc;cases y<;>simp[toBool]at e1<;>subst e1<;>rfl
      |gv k y=>
       simp only[hs]at hc;split at hc<;>simp only[JP,reduceCtorEq]at hc
       subst hc;cases y<;>simp[toBool]at e1<;>subst e1<;>rfl
     have hr:den J r= .bool (if X then Y else Z):=bh e4
     refine pureY (y:=r) ?_ (by cases r<;>simp[toBool]at e4<;>trivial) rfl rfl
     rw[hr];simp only[execOp,c1,bh e1,asBool,Sem.run_bind,Sem.run_pure,Result.andThen_ok];cases X with
     |true=>
      have:=(cB (ch:=(s,true)::ch) hF (by rw[dr];simp[hraw,hg]) ha).1
      simp[this,bh e2]
     |false=>
      have:=(cB (ch:=(s,false)::ch) hF (by rw[dr];simp[hraw,hg]) hb).1
      simp[this,bh e3]
   ·simp at h
   ·simp at h
  ·simp at h
 case box t y=>
  split at h
  ·rename_i v hy;split at h
   ·simp at h
   ·rename_i ht;simp only[JP,JQ]at h;obtain⟨_,rfl,rfl⟩:=h;have hn:¬K nid:=by simpa using hfr 0 (by simp)
    refine⟨.inl ⟨_,_,?_,J.aD nid w.heap.size,fc.alloc (ty:=t) (ov hy).2 (by simpa using ht) hn,rfl,.inr ⟨Nat.le_refl _,by simp⟩⟩,fun k hk=>by simp at hk;subst hk;simp[aa]⟩
    simp[execOp,Instr.box,(ov hy).1,newVar,newRow,den,Env.aD,cells]
  ·simp at h
 case alloc t=>
  split at h
  ·rename_i z hz;simp only[JP,JQ]at h;obtain⟨_,rfl,rfl⟩:=h;have hn:¬K nid:=by simpa using hfr 0 (by simp)
   obtain⟨i,h1,h2,h3,h4,h5⟩:=hC.z t z hz;refine⟨.inl ⟨_,_,?_,J.aD nid w.heap.size,fc.alloc (ty:=t) (ca h3) h4 hn,rfl,.inr ⟨Nat.le_refl _,by simp⟩⟩,fun k hk=>by simp at hk;subst hk;simp[aa]⟩
   simp[execOp,Instr.alloc,fY (J:=J) hC.z hz,newVar,newRow,den,Env.aD,cells]
  ·simp at h
 case makeSlice t y z=>
  split at h
  ·rename_i u v hu hv;obtain⟨rfl,o',e',l',rfl⟩:=yO h;have hn:¬K nid:=by simpa using hfr 0 (by simp)
   obtain⟨w',ρ',e1,e2⟩:=wh (J:=J) (w:=w) (w0:=w0) (F0:=F0) hC.z h hq hn;refine⟨.inl ⟨_,w',?_,ρ',e2,rfl,.inr ⟨Nat.le_refl _,by simp⟩⟩,fun k hk=>by simp at hk;subst hk;simp[aa]⟩
   simp[execOp,(ov hu).1,(ov hv).1,e1]
  ·simp at h
 case makeInterface t y=>
  split at h
  ·rename_i v d hv hd
   have:∀{x':V} {n':List ae},(∀n,d≠ .interface n)->some (none,V.ic t v,([]:List ae))=some (q,x',n')->x'=x->n'=new->Yields C.P ⟨dst,.makeInterface t y,type,pos,after,guard⟩ a w (ji K J nid x new w0 F0 w)/\∀k,k<new.length->aa new k≠ .yet:=by
    intro x' n' hni hh h1 h2;simp only[JP,JQ]at hh;obtain⟨_,rfl,rfl⟩:=hh;refine pureY (y:= .ic t v) ?_ (ov hv).2 h1.symm h2.symm
    cases d<;>first
     |exact absurd rfl (hni _)
     |simp[execOp,(ov hv).1,Instr.makeInterface,au w hd,den]
   split at h
   ·simp at h
   ·rename_i hni;exact this (fun n e=>hni n e) h rfl rfl
  ·simp at h
 case makeMap t r=>
  split at h
  case h_2=>simp at h
  split at h
  case h_2=>simp at h
  split at h
  case h_3=>simp at h
  case h_2=>
   obtain⟨rfl,hw⟩:=zR h;have hn:¬K nid:=by rcases hw with rfl|⟨n,rfl⟩<;>simpa using hfr 0 (by simp)
   have hg:fc K J (J.aD nid w.heap.size) nid new w0 F0 w (w.alloc (.map #[] 0)):=by
    rcases hw with rfl|⟨n,rfl⟩
    ·exact fc.xq hn
    ·exact fc.C9 hn
   have hl:new.length=1/\aa new 0≠ .yet:=by rcases hw with rfl|⟨n,rfl⟩<;>simp[aa]
   refine⟨.inl ⟨_,_,?_,J.aD nid w.heap.size,hg,rfl,.inr ⟨Nat.le_refl _,by omega⟩⟩,fun k hk=>(show k=0 by omega)▸hl.2⟩
   simp[execOp,show(Instr.makeMap t none).run C.P w= .ok (.map (some w.heap.size)) (w.alloc (.map #[] 0))from rfl,den,Env.aD]
  all_goals(
   simp only[JP,JQ]at h;obtain⟨_,rfl,rfl⟩:=h;have hn:¬K nid:=by simpa using hfr 0 (by simp)
   first
   |refine⟨.inl ⟨_,_,?_,J.aD nid w.heap.size,fc.FU hn,rfl,.inr ⟨Nat.le_refl _,by simp⟩⟩,fun k hk=>by simp at hk;subst hk;simp[aa]⟩
   |refine⟨.inl ⟨_,_,?_,J.aD nid w.heap.size,fc.xq hn,rfl,.inr ⟨Nat.le_refl _,by simp⟩⟩,fun k hk=>by simp at hk;subst hk;simp[aa]⟩)
  all_goals simp[execOp,show(Instr.makeMap t none).run C.P w= .ok (.map (some w.heap.size)) (w.alloc (.map #[] 0))from rfl,den,Env.aD]
 case lookup t m y two=>
  split at h
  case h_2=>simp at h
  rename_i mv xv hm hy;split at h
  ·rename_i r hl;simp only[JP,JQ]at h;obtain⟨_,rfl,rfl⟩:=h;obtain⟨e1,e2⟩:=wS hC.z hH hl (ov hy).2;exact pureY (by simp[execOp,(ov hm).1,(ov hy).1,e1]) e2 rfl rfl
  ·split at h
   ·rename_i r hl;simp only[JP,JQ]at h;obtain⟨_,rfl,rfl⟩:=h;obtain⟨e1,e2⟩:=wm hC.z hH hl (ov hy).2;exact pureY (by simp[execOp,(ov hm).1,(ov hy).1,e1]) e2 rfl rfl
   ·split at h
    case h_2=>simp at h
    rename_i r hl;simp only[JP,JQ]at h;obtain⟨_,rfl,rfl⟩:=h;obtain⟨e1,e2⟩:=wM hC.z hH hl (ov hy).2;exact pureY (by simp[execOp,(ov hm).1,(ov hy).1,e1]) e2 rfl rfl
 case range t y=>
  split at h
  case h_2=>simp at h
  rename_i m hm;obtain⟨w',e1,e2,e3⟩:=Bb hH hfr h;refine⟨.inl ⟨_,w',?_,J.aD nid w.heap.size,e2,rfl,e3⟩,C2 h⟩;simp[execOp,(ov hm).1,e1]
 case entry y=>
  split at h
  case h_2=>simp at h
  rename_i p hp;obtain⟨e1,e2,rfl⟩:=Al (P:=C.P) hH h hq;exact pureY (by simp[execOp,(ov hp).1,e1]) e2 rfl rfl
 case load t y=>
  split at h
  ·rename_i p hp;cases hl:p6 C res t p with
   |none=>simp[hl]at h
   |some r=>
    simp only[hl,Option.map_some,JP,JQ]at h;obtain⟨rfl,rfl,rfl⟩:=h;obtain⟨e1,e2,_⟩:=ln hH hl hq (ov hp).2;exact pureY (by simp[execOp,(ov hp).1,e1]) e2 rfl rfl
  ·simp at h
 case fieldAddr t y f=>
  split at h
  ·rename_i p hp;cases hl:HZ C.P t p f with
   |none=>simp[hl]at h
   |some r=>
    simp only[hl,Option.map_some,JP,JQ]at h;obtain⟨_,rfl,rfl⟩:=h;obtain⟨e1,e2,_⟩:=Bh (J:=J) (w:=w) hl (ov hp).2;exact pureY (by simp[execOp,(ov hp).1,e1]) e2 rfl rfl
  ·simp at h
 case field t y f=>
  split at h
  ·rename_i p hp;cases hl:H8 C.P t p f with
   |none=>simp[hl]at h
   |some r=>
    simp only[hl,Option.map_some,JP,JQ]at h;obtain⟨_,rfl,rfl⟩:=h;obtain⟨e1,e2,_⟩:=AU (J:=J) (w:=w) hl (ov hp).2;exact pureY (by simp[execOp,(ov hp).1,e1]) e2 rfl rfl
  ·simp at h
 case indexAddr t y i=>
  split at h
  ·rename_i p j hp hj;cases hl:H9 C.P res t p j with
   |none=>simp[hl]at h
   |some r=>
    simp only[hl,Option.map_some,JP,JQ]at h;obtain⟨rfl,rfl,rfl⟩:=h;obtain⟨e1,e2,_⟩:=Aw hH hl hq (ov hp).2 (ov hj).2;exact pureY (by simp[execOp,(ov hp).1,(ov hj).1,e1]) e2 rfl rfl
  ·simp at h
 case index t y i=>
  split at h
  ·rename_i p j hp hj;cases hl:Ia C.P t p j with
   |none=>
    simp only[hl]at h;cases hl2:isStr C.P t p j with
    |none=>simp[hl2]at h
    |some r=>
     simp only[hl2,Option.map_some,JP,JQ]at h;obtain⟨rfl,rfl,rfl⟩:=h;obtain⟨e1,e2⟩:=wL (J:=J) (w:=w) hl2 hq (ov hj).2;exact pureY (by simp[execOp,(ov hp).1,(ov hj).1,e1]) e2 rfl rfl
   |some r=>
    simp only[hl,JP,JQ]at h;obtain⟨rfl,rfl,rfl⟩:=h;obtain⟨e1,e2,_⟩:=Ce (J:=J) (w:=w) hl hq (ov hp).2 (ov hj).2;exact pureY (by simp[execOp,(ov hp).1,(ov hj).1,e1]) e2 rfl rfl
  ·simp at h
 case slice t y lo hi mx=>
  have fin:∀(p:V) (l' h':Option V),bj sl ch y=some p->lo.map a.eval=l'.map (den J)->hi.map a.eval=h'.map (den J)->mx=none->(∀v,l'=some v->ok K v)->(∀v,h'=some v->ok K v)->
    ((Ep C.P res t p l' h').map fun r=>(r.1,r.2,([]:List ae)))=some (q,x,new)->Yields C.P ⟨dst,.slice t y lo hi mx,type,pos,after,guard⟩ a w (ji K J nid x new w0 F0 w)/\∀k,k<new.length->aa new k≠ .yet:=by
   intro p l' h' hp hl1 hh1 hmx hl2 hh2 hs;cases hl:Ep C.P res t p l' h' with
   |none=>simp[hl]at hs
   |some r=>
    simp only[hl,Option.map_some,JP,JQ]at hs;obtain⟨rfl,rfl,rfl⟩:=hs;obtain⟨e1,e2⟩:=BB hH hl hq (ov hp).2 hl2 hh2;subst hmx;refine pureY ?_ e2 rfl rfl;simp only[execOp,(ov hp).1,hl1,hh1,Option.map_none];rw[Sem.run_bind,e1];rfl
  split at h
  ·rename_i p hp h1 h2;have e1:lo=none:=by cases lo<;>simp_all
   have e2:hi=none:=by cases hi<;>simp_all
   subst e1;subst e2;exact fin p none none hp rfl rfl rfl (by simp) (by simp) h
  ·rename_i p u hp h1 h2;obtain⟨lo',rfl,hu⟩:=Option.map_eq_some_iff.1 h1;have e2:hi=none:=by cases hi<;>simp_all
   subst e2;exact fin p (some u) none hp (by simp[(ov hu).1]) rfl rfl (fun v hv=>by simp only[JP]at hv;subst hv;exact(ov hu).2) (by simp) h
  ·rename_i p u hp h1 h2;obtain⟨hi',rfl,hu⟩:=Option.map_eq_some_iff.1 h2;have e2:lo=none:=by cases lo<;>simp_all
   subst e2;exact fin p none (some u) hp rfl (by simp[(ov hu).1]) rfl (by simp) (fun v hv=>by simp only[JP]at hv;subst hv;exact(ov hu).2) h
  ·rename_i p u v hp h1 h2;obtain⟨lo',rfl,hu⟩:=Option.map_eq_some_iff.1 h1;obtain⟨hi',rfl,hv⟩:=Option.map_eq_some_iff.1 h2;exact fin p (some u) (some v) hp (by simp[(ov hu).1]) (by simp[(ov hv).1]) rfl (fun z hz=>by simp only[JP]at hz;subst hz;exact(ov hu).2) (fun z hz=>by simp only[JP]at hz;subst hz;exact(ov hv).2) h
  ·simp at h
 case nilCheck y=>
  split at h<;>simp only[JP,JQ,reduceCtorEq]at h<;>rename_i hy<;>obtain⟨_,rfl,rfl⟩:=h<;>obtain⟨e1,e2⟩:=ov hy<;>
   exact pureY (by first| (simp[execOp,e1,den];done)| (simp only[den]at e1⊢;generalize hv:xQ _ _=v at e1⊢;obtain⟨_,_,_,rfl⟩:∃g b c,v= .func (.func g) b c:=hv▸Ad _ _;simp[execOp,e1])) e2 rfl rfl
 case binOp op t y z t'=>
  split at h
  ·rename_i p j hp hj;cases hl:DQ C.P op t p j with
   |none=>
    simp only[hl]at h;cases hl2:DD op p j with
    |none=>simp[hl2]at h
    |some r=>
     simp only[hl2,Option.map_some,JP,JQ]at h;obtain⟨rfl,rfl,rfl⟩:=h;obtain⟨e1,e2⟩:=yG (P:=C.P) (J:=J) (K:=K) (t:=t) w y z hl2 hq;exact pureY (by simp only[execOp,(ov hp).1,(ov hj).1];rw[Sem.run_bind,e1];rfl) e2 rfl rfl
   |some r=>
    simp only[hl,JP,JQ]at h;obtain⟨rfl,rfl,rfl⟩:=h;obtain⟨e1,e2⟩:=zn (J:=J) (K:=K) w y z hl hq (ov hp).2 (ov hj).2;exact pureY (by simp only[execOp,(ov hp).1,(ov hj).1];rw[Sem.run_bind,e1];rfl) e2 rfl rfl
  ·simp at h
 case unOp op t y=>
  cases op<;>simp only[reduceCtorEq]at h
  ·split at h
   ·rename_i v hy;split at h
    ·rename_i k n hn;obtain⟨e1,e2⟩:=aT (J:=J) hn (ov hy).2;split at h
     ·split at h<;>simp only[JP,JQ,reduceCtorEq]at h
      rename_i hin;obtain⟨_,rfl,rfl⟩:=h;refine pureY (y:= .ci k (0-n)) ?_ hin rfl rfl;simp only[execOp,(ov hy).1,e1,Op.unary,Op.intArith,Sem.run_bind,Sem.run_pure,Result.andThen_ok,eG hin,den]
     ·simp only[JP,JQ]at h;obtain⟨rfl,rfl,rfl⟩:=h;refine pureY (y:= .it k (qV 0 n)) ?_ hq rfl rfl;simp only[execOp,(ov hy).1,e1,Op.unary,Op.intArith,Sem.run_bind,Sem.run_pure,Result.andThen_ok,eG (show br k (0-n)from hq),den,qV]
    ·simp at h
   ·simp at h
  ·split at h
   ·rename_i v hy;split at h<;>simp only[JP,JQ,reduceCtorEq]at h
    rename_i b hb;obtain⟨_,rfl,rfl⟩:=h;have hnb:=zg hb;refine pureY (y:=C5 v b) ?_ (by generalize C5 v b=z at hnb;cases z<;>simp[toBool]at hnb<;>trivial) rfl rfl
    rw[bh hnb];simp only[execOp,(ov hy).1,bh hb,Op.unary,Sem.run_bind,Sem.run_pure,Result.andThen_ok]
   ·simp at h
 case convert s d y=>
  split at h
  ·rename_i p hp;cases hl:Ih C.P s d p with
   |none=>
    simp only[hl]at h;cases hl2:Ig C.P res s d p with
    |none=>simp[hl2]at h
    |some r=>
     simp only[hl2,Option.map_some,JP,JQ]at h;obtain⟨rfl,rfl,rfl⟩:=h;obtain⟨e1,e2⟩:=B4 (J:=J) (w:=w) hH hl2 hq (ov hp).2;exact pureY (by simp[execOp,(ov hp).1,e1]) e2 rfl rfl
   |some r=>
    simp only[hl,JP,JQ]at h;obtain⟨rfl,rfl,rfl⟩:=h;obtain⟨e1,e2,_⟩:=Bd (J:=J) (w:=w) hl hq (ov hp).2;exact pureY (by simp[execOp,(ov hp).1,e1]) e2 rfl rfl
  ·simp at h
 case extract y i=>
  split at h
  ·rename_i l hy;cases hl:l[i]? with
   |none=>simp[hl]at h
   |some v=>
    simp only[hl,Option.map_some,JP,JQ]at h;obtain⟨_,rfl,rfl⟩:=h;obtain⟨e1,e2⟩:=ov hy;have:(aw J l)[i]? =some (den J v):=by rw[df];simp[hl]
    refine pureY (y:=v) ?_ ((de _).1 e2 v (List.mem_of_getElem? hl)) rfl rfl;simp[execOp,e1,den,Instr.extract,this]
  ·simp at h
 case makeFunc fn first caps=>
  cases fn<;>simp only[reduceCtorEq]at h
  rename_i f;split at h
  ·rename_i he;split at h
   case isFalse=>simp at h
   rename_i hlo;cases hl:fD sl ch caps.toList with
   |none=>simp[hl]at h
   |some l=>
    simp only[hl,Option.map_some,JP,JQ]at h;obtain⟨_,rfl,rfl⟩:=h;obtain⟨e1,e2⟩:=b9 hF hg hl;have hf:first= #[]:=by simpa using he
    subst hf;refine pureY (y:= .fn f l) ?_ e2 rfl rfl;have:caps.map a.eval=(aw J l).toArray:=by apply Array.ext';simp[e1]
    simp[execOp,Instr.makeFunc,den,qg hlo,this]
  ·split at h
   case isFalse=>simp at h
   rename_i he;cases hl:fD sl ch first.toList with
   |none=>simp[hl]at h
   |some l=>
    simp only[hl,Option.map_some,JP,JQ]at h;obtain⟨_,rfl,rfl⟩:=h;obtain⟨e1,e2⟩:=b9 hF hg hl;have hf:caps= #[]:=by simpa using he
    subst hf;refine pureY (y:= .fn (f+2000) l) ?_ e2 rfl rfl;have:first.map a.eval=(aw J l).toArray:=by apply Array.ext';simp[e1]
    have hb:Nat.blt (f+2000) 2000=false:=by rw[Bool.eq_false_iff];intro h;have:=Nat.le_of_ble_eq_true h;omega
    simp[execOp,Instr.makeFunc,den,xQ,hb,this]
 case build t ps=>
  split at h
  ·rename_i l hl;obtain⟨e1,e2⟩:=lO hF hg hl;cases hb:td C t l with
   |none=>simp[hb]at h
   |some r=>
    simp only[hb,Option.map_some,JP,JQ]at h;obtain⟨_,rfl,rfl⟩:=h;obtain⟨f1,f2,_⟩:=u3 (J:=J) (w:=w) hC.z hb e2;refine pureY (y:=r) ?_ f2 rfl rfl;have:(ps.map fun p=>(p.1,a.eval p.2))=(l.map fun p=>(p.1,den J p.2)).toArray:=by apply Array.ext';simp[e1]
    simp only[execOp];rw[show(ps.map fun(i,x)=>(i,a.eval x))=(l.map fun p=>(p.1,den J p.2)).toArray from this,Sem.run_bind,f1]
    rfl
  ·simp at h
 case buildSlice t n ps=>
  split at h
  ·rename_i l hl;obtain⟨e1,e2⟩:=lO hF hg hl;cases hb:G9 C t n l nid with
   |none=>simp[hb]at h
   |some r=>
    obtain⟨r,new'⟩:=r;simp only[hb,Option.map_some,JP,JQ]at h;obtain⟨_,rfl,rfl⟩:=h
    have hn:¬K nid:=by
     unfold G9 at hb;split at hb
     ·split at hb
      ·simp at hb
      ·split at hb
       ·split at hb<;>simp only[JP,JQ,reduceCtorEq]at hb
        obtain⟨rfl,rfl⟩:=hb;simpa using hfr 0 (by simp)
       ·simp at hb
     ·simp at hb
    obtain⟨w',ρ',f1,f2,f3,f4⟩:=Bt (J:=J) (w:=w) (w0:=w0) (F0:=F0) hC.z hb e2 hn;refine⟨.inl ⟨_,w',?_,ρ',f2,rfl,f3⟩,f4⟩;have:(ps.map fun p=>(p.1,a.eval p.2))=(l.map fun p=>(p.1,den J p.2)).toArray:=by apply Array.ext';simp[e1]
    simp only[execOp];rw[show(ps.map fun(i,x)=>(i,a.eval x))=(l.map fun p=>(p.1,den J p.2)).toArray from this,Sem.run_bind,f1]
    rfl
  ·simp at h
 case call c=>
  obtain⟨callee,args,argTypes⟩:=c;cases callee with
  |invoke r m=>simp at h
  |value f=>
   simp only at h;split at h
   ·rename_i fv vs hf has;obtain⟨e1,e2⟩:=ov hf;obtain⟨e3,e4⟩:=b9 hF hg has;unfold EG at h;split at h
    ·rename_i g caps;split at h
     ·rename_i ct hct;split at h
      case isFalse=>simp at h
      rename_i hlo;split at h
      ·rename_i hcall;have e2':bH K caps:=e2;obtain⟨h1,h2⟩:=hC.ct g ct hct J fps res K w0 F0 w nid (vs++caps) q x new hH (by rw[de]at e4 e2'⊢;intro z hz;rcases List.mem_append.1 hz with hz|hz;exact e4 z hz;exact e2' z hz) h hq hfr
       refine⟨.inr ⟨g,(aw J (vs++caps)).toArray,?_,h1⟩,h2⟩;unfold dz at hcall;split at hcall
       ·rename_i fn hfn;simp only[JR,bne_iff_ne,ne_eq]at hcall;have hnm:(fn.name== "runtime.NumGoroutine")=false:=by simpa using hcall.1
        have hbd:fn.body.isNone=false:=by
         simp_all
        have ha:args.map a.eval=(aw J vs).toArray:=by apply Array.ext';simp[e3]
        have hcat:(aw J vs).toArray++(aw J caps).toArray=(aw J (vs++caps)).toArray:=by simp[df]
        simp only[execOp,resolve,e1,den,qg hlo,Deferred.ofValue,ha,Sem.run_bind,Sem.run_pure,Result.andThen_ok,invoke,callFunc,run_program,hfn,hnm,Bool.false_eq_true,if_false,hbd,
         Array.empty_append,hcat]
       ·simp at hcall
      ·simp at h
     ·simp at h
    ·simp at h
   ·simp at h
  |builtin b=>
   simp only at h;split at h
   ·rename_i vs has;obtain⟨e3,e4⟩:=b9 hF hg has;have ha:args.map a.eval=(aw J vs).toArray:=by apply Array.ext';simp[e3]
    split at h
    ·obtain⟨rfl,o',e',l',rfl⟩:=Bx h;have hn:¬K nid:=by simpa using hfr 0 (by simp)
     obtain⟨w',ρ',d1,d2⟩:=zw (ty:=type) hC.z hH h hq hn;refine⟨.inl ⟨_,w',?_,ρ',d2,rfl,.inr ⟨Nat.le_refl _,by simp⟩⟩,fun k hk=>by simp at hk;subst hk;simp[aa]⟩
     have d1':(Builtin.append_ argTypes type (aw J vs).toArray).run C.P w= .ok (den ρ' (.sa nid)) w':=by simpa using d1
     simp only[execOp,resolve,Sem.run_bind,Sem.run_pure,Result.andThen_ok,invoke,builtin,ha];rw[d1'];rfl
    rename_i hnb;clear hnb;cases hb:pV C res b argTypes.toList vs with
    |none=>simp[hb]at h
    |some r=>
     simp only[hb,Option.map_some,JP,JQ]at h;obtain⟨rfl,rfl,rfl⟩:=h;unfold pV at hb;split at hb
     ·rename_i t ts y hts;have hty:argTypes=(t::ts).toArray:=by rw[<-hts]
      obtain⟨f1,f2⟩:=zm hH hb hq ts type;refine pureY (y:=r.2) ?_ f2 rfl rfl;simp only[execOp,resolve,Sem.run_bind,Sem.run_pure,Result.andThen_ok,invoke,builtin,ha,aw,hty];rw[f1];rfl
     ·rename_i y z;cases hm:Gl y z with
      |none=>simp[hm]at hb
      |some m=>
       simp only[hm,Option.map_some,JP]at hb;subst hb;unfold Gl at hm;split at hm
       ·rename_i k a1 k' b1 h1 h2;split at hm<;>simp only[JP,reduceCtorEq]at hm
        rename_i hk;have hk:=JT.1 hk;subst hk;subst hm;obtain⟨g1,g2⟩:=aT (J:=J) h1 e4.1;obtain⟨g3,g4⟩:=aT (J:=J) h2 e4.2.1;refine pureY (y:= .it k (Bl a1 b1)) ?_ (show br k (Bl a1 b1) by unfold Bl;split<;>assumption) rfl rfl
        simp[den,execOp,resolve,invoke,builtin,ha,aw,g1,g3,Builtin.min_,Builtin.min2,Bl]
       ·simp at hm
     ·rename_i y z;cases hm:EV y z with
      |none=>simp[hm]at hb
      |some m=>
       simp only[hm,Option.map_some,JP]at hb;subst hb;unfold EV at hm;split at hm
       ·rename_i k a1 k' b1 h1 h2;split at hm<;>simp only[JP,reduceCtorEq]at hm
        rename_i hk;have hk:=JT.1 hk;subst hk;subst hm;obtain⟨g1,g2⟩:=aT (J:=J) h1 e4.1;obtain⟨g3,g4⟩:=aT (J:=J) h2 e4.2.1;refine pureY (y:= .it k (imax a1 b1)) ?_ (show br k (imax a1 b1) by unfold imax;split<;>assumption) rfl rfl
        simp[den,execOp,resolve,invoke,builtin,ha,aw,g1,g3,Builtin.max_,Builtin.max2,imax]
       ·simp at hm
     ·simp at hb
   ·simp at h
end
end Go.Sx
namespace Go.Sx
open Go.RowKit (Below)
def aL:List Nat->List ae->List ae
 | [],l=>l
 |t::ts,l=>aL ts (aG l t .gone)
theorem aE (l:List ae) (i:Nat) (r:ae):(aG l i r).length=l.length:=by rw[kQ];simp
theorem eF:∀(ts:List Nat) (l:List ae),(aL ts l).length=l.length
 | [],_=>rfl
 |t::ts,l=>by simp only[aL];rw[eF ts,aE]
theorem lK:∀(ts:List Nat) (l:List ae) (i:Nat),(∀t∈ts,t<l.length)->aa (aL ts l) i=if i∈ts then .gone else aa l i
 | [],l,i,_=>by simp[aL]
 |t::ts,l,i,h=>by
  simp only[aL];rw[lK ts _ i fun u hu=>by rw[aE];exact h u (by simp[hu]),aA _ _ _ _ (h t (by simp))]
  by_cases e:i∈ts
  ·simp[e]
  ·by_cases e':i=t
   ·simp[e']
   ·simp[e,e']
theorem an.km {J ρ':Env} {fps:Nat->Nat->Prop} {res:List ae} {w0:World} {F0:Nat->Prop} {w w':World} (h:an J fps res (known res) w0 F0 w) (ts:List Nat) (r:ae) (ms:List ae) (fp:Nat->Prop)
  (hms:∀m∈ms,∃j,m= .gen j) (hts:∀t∈ts,known res t) (hr:r≠ .yet) (hag:Env.agree (known res) J ρ')
  (hh:r.holds (known (aL ts res++r::ms)) ρ' res.length fp w0 F0 w') (hfp:∀b,fp b->(∃t∈ts,fps t b)\/(w.heap.size<=b/\b<w'.heap.size))
  (hos:w'.os=w.os) (htape:w'.tape=w.tape) (hout:w'.output=w.output) (hsize:w.heap.size<=w'.heap.size)
  (hsame:∀b,b<w.heap.size->(∀t∈ts,¬fps t b)->w'.heap[b]? =w.heap[b]?):
  ∃fps',an ρ' fps' (aL ts res++r::ms) (known (aL ts res++r::ms)) w0 F0 w'/\Env.agree (known res) J ρ'/\(∀i,known res i->known (aL ts res++r::ms) i)/\known (aL ts res++r::ms) res.length:=by
 have hlt:∀t∈ts,t<res.length:=fun t ht=>ai (hts t ht)
 have hget:∀i,aa (aL ts res++r::ms) i=if i<res.length then(if i∈ts then .gone else aa res i)else if i=res.length then r else aa ms (i-res.length-1):=by
  intro i;rw[aH,eF];by_cases hi:i<res.length
  ·rw[JY hi,JY hi,lK ts res i hlt]
  ·rw[JX hi,JX hi];by_cases e:i=res.length
   ·subst e;simp[aa]
   ·rw[JX e];have:∃k,i-res.length=k+1:=⟨i-res.length-1,by omega⟩
    obtain⟨k,hk⟩:=this;rw[hk];simp[aa]
 have hmget:∀k,aa ms k= .yet\/∃j,aa ms k= .gen j:=fun k=>by
  rw[fH,JW];cases hm:ms[k]? with
  |none=>exact .inl rfl
  |some m=>
   obtain⟨j,rfl⟩:=hms m (List.mem_of_getElem? hm);exact .inr ⟨j,rfl⟩
 have hmono:∀i,known res i->known (aL ts res++r::ms) i:=fun i hi=>by
  grind[known,ai]
 have hnew:known (aL ts res++r::ms) res.length:=by
  simp_all[known]
 obtain⟨fps',g⟩:=h.turn (res':=aL ts res++r::ms) (K':=known (aL ts res++r::ms)) (fun i=>i∈ts) (fun i=>i∈ts\/res.length<=i) (fun i b=>i=res.length/\fp b)
  (fun i hi=>hi) hmono hag (fun i hi hb=>by
   have hi':=hi;unfold known at hi';rw[hget]at hi';have h1:i∉ts:=fun e=>hb (.inl e)
   have hl:i<res.length:=by
    rcases Nat.lt_or_ge i res.length with h|h
    ·exact h
    ·exact absurd (.inr h) hb
   rw[JY hl,JX h1]at hi';exact⟨hi',h1,by rw[hget,JY hl,JX h1]⟩)
  (fun i hi hb=>by
   by_cases e:i=res.length
   ·subst e;refine⟨?_,fun b hf=>?_⟩
    ·rw[hget,JX (by omega),JY rfl]
     have:(fun b=>res.length=res.length/\fp b)=fp:=by funext b;simp
     rw[this];exact hh
    ·rcases hfp b hf.2 with⟨t,ht,hft⟩|hn
     ·exact .inl ⟨t,ht,hts t ht,hft⟩
     ·exact .inr hn
   ·refine⟨?_,fun b hf=>absurd hf.1 e⟩
    rw[hget];by_cases hl:i<res.length
    ·rw[JY hl,JY (hb.resolve_right (by omega))]
     trivial
    ·rw[JX hl,JX e];rcases hmget (i-res.length-1)with h|⟨j,h⟩<;>rw[h]<;>trivial)
  (fun i j b _ _ hne hf hf'=>hne (hf.1.trans hf'.1.symm))
  hos htape hout hsize (fun b hb hno=>hsame b hb fun t ht=>hno t ht (hts t ht))
 exact⟨fps',g,hag,hmono,hnew⟩
def jt (n b:Nat):Prop:=n+1<=maxLen/\(n+1)*b<=140737488355328
mutual
def H6:V->Bool
 | .cb _| .bo _| .ci _ _| .it _ _| .bt _| .st _| .key _| .sl _| .by _| .ob _=>true
 | .ag l=>Gt l
 |_=>false
def Gt:List V->Bool
 | []=>true
 |x::l=>H6 x&&Gt l
end
mutual
theorem wg {K K':Nat->Prop}:∀v,H6 v=true->ok K v->ok K' v
 | .ag l,h,hk=>⟨B0 l (by simpa only[H6]using h) hk.1,hk.2⟩
 | .cb _,_,h| .bo _,_,h| .ci _ _,_,h| .it _ _,_,h| .bt _,_,h| .st _,_,h| .key _,_,h| .sl _,_,h| .by _,_,h| .ob _,_,h=>h
 | .nl _,h,_| .lp _ _,h,_| .lx _ _ _ _ _ _,h,_| .sc _ _ _,h,_| .so _ _,h,_| .ap _ _ _ _,h,_| .sa _,h,_| .op _ _,h,_| .yl _,h,_| .fn _ _,h,_| .ic _ _,h,_| .tp _,h,_| .mp _,h,_
 | .ch _ _ _ _,h,_| .ax _ _ _ _ _ _ _ _,h,_| .bs _ _ _,h,_| .ks _ _ _ _ _,h,_| .vw _ _ _ _,h,_=>by simp[H6]at h
theorem B0 {K K':Nat->Prop}:∀l,Gt l=true->bH K l->bH K' l
 | [],_,_=>trivial
 |x::l,h,hk=>by
  simp only[Gt,JR]at h;exact⟨wg x h.1 hk.1,B0 l h.2 hk.2⟩
end
def sB (n:Nat) (g:Nat->V) (v:V) (i:Nat):V:=match Nat.beq i n with
 |true=>v
 |false=>g i
def xG (l:TL) (v:V):Option TL:=
 match l with
 | .ob l=>match v with
   | .ob o=>some (.ob (bf l o))
   |_=>none
 | .key l=>match v with
   | .key k=>some (.key (bf l k))
   |_=>none
 | .it k l=>match toInt v with
   |some (k',n)=>if k==k' then some (.it k (bf l n))else none
   |none=>none
 | .bo l=>match toBool v with
   |some b=>some (.bo (bf l b))
   |none=>none
 | .st l=>match v with
   | .st s=>some (.st (bf l s))
   |_=>none
 | .fn n g=>match v with
   | .ag a=>if Gt a then some (.fn (n+1) (sB n g (.ag a)))else none
   |_=>none
 | .qs n l=>match v with
   | .ag a=>match ez a with
     |some x=>if x.length==n then some (.qs n (bf l (aI x)))else none
     |none=>none
   |_=>none
def w9 (v:V):Option TL:=
 match v with
 | .ag a=>match ez a with
   |some x=>some (.qs x.length [aI x])
   |none=>if Gt a then some (.fn 1 fun _=> .ag a)else none
 | .ob o=>some (.ob [o])
 | .key k=>some (.key [k])
 | .st s=>some (.st [s])
 |_=>match toInt v with
  |some (k,n)=>some (.it k [n])
  |none=>match toBool v with
   |some b=>some (.bo [b])
   |none=>none
def qy (K:Nat->Prop) (n:Nat) (g:Nat->V) (v:V) (l':TL):Prop:=
 l'.len=n+1/\(∀i,i<n->l'.get i=g i)/\(∀J,cells J (l'.get n)=cells J v)/\(ok K v->ok (fun _=>False) (l'.get n))/\aP (l'.get n)=false/\bg (l'.get n)=bg v
theorem jO {α:Type} (l:List α) (x d:α):(∀i,i<l.length->aB (bf l x) i d=aB l i d)/\aB (bf l x) l.length d=x:=by
 grind[aB,bf]
theorem EF {K:Nat->Prop} {Q:List (List Int)} {j:Nat}:∀(m c:Nat),(∀c,br .i64 (cM Q j c))->bH K (qL Q j c m)/\ni (qL Q j c m)/\jr (qL Q j c m)=m/\∀J,aq J (qL Q j c m)=(List.range m).map fun y=>i64 (cM Q j (c+y))
 |0,c,_=>⟨trivial,trivial,rfl,fun J=>rfl⟩
 |m+1,c,h=>by
  obtain⟨a,b,b',d⟩:=EF (K:=K) m (c+1) h;refine⟨⟨h c,a⟩,⟨trivial,b⟩,by simp only[qL,jr,b',bg];omega,fun J=>?_⟩
  have e:aq J (qL Q j c (m+1))=i64 (cM Q j c)::aq J (qL Q j (c+1) m):=rfl;rw[e,d,List.range_succ_eq_map,List.map_cons,List.map_map];show i64 (cM Q j c)::_=i64 (cM Q j c)::_
  congr 1
  refine List.map_congr_left fun y _=>?_
  simp only[Function.comp,Nat.add_assoc,Nat.succ_eq_add_one,Nat.add_comm 1 y]
theorem nA {Q:List (List Int)} {j:Nat} (J:Env):∀(m c:Nat),aq J (qL Q j c m)=(List.range m).map fun y=>i64 (cM Q j (c+y))
 |0,c=>rfl
 |m+1,c=>by
  have e:aq J (qL Q j c (m+1))=i64 (cM Q j c)::aq J (qL Q j (c+1) m):=rfl;rw[e,nA J m (c+1),List.range_succ_eq_map,List.map_cons,List.map_map];show i64 (cM Q j c)::_=i64 (cM Q j c)::_
  congr 1
  refine List.map_congr_left fun y _=>?_
  simp only[Function.comp,Nat.add_assoc,Nat.succ_eq_add_one,Nat.add_comm 1 y]
theorem pJ {Q Q':List (List Int)} {j j':Nat} (h:∀c,cM Q j c=cM Q' j' c):∀(m c:Nat),qL Q j c m=qL Q' j' c m
 |0,c=>rfl
 |m+1,c=>by simp only[qL,h c,pJ h m (c+1)]
theorem wB {Q:List (List Int)} {j:Nat}:∀(m c:Nat),jr (qL Q j c m)=m
 |0,c=>rfl
 |m+1,c=>by simp only[qL,jr,wB m (c+1),bg];omega
theorem jy {J:Env}:∀{xl:List V} {l:List (Bool×Int)},ez xl=some l->aq J xl=(aI l).map i64/\(aI l).length=l.length/\jr xl=l.length
 | [],l,h=>by simp only[ez,JP]at h;subst h;exact⟨rfl,rfl,rfl⟩
 |x::xl,l,h=>by
  simp only[ez]at h;split at h
  case h_2=>simp at h
  rename_i k n hn;split at h
  case isFalse=>simp at h
  rename_i hk;have hk:=JT.1 hk;subst hk;split at h
  case h_2=>simp at h
  rename_i m hm;simp only[JP]at h;subst h;obtain⟨a,b,c⟩:=jy (J:=J) hm;obtain⟨c1,c2,c3⟩:=fw (K:=fun _=>True) hn
  have e:(den J x).cells.toList= [i64 n]:=(c1 J).symm;refine⟨by simp only[aq,e,a,aI];rfl,by simp[aI,b],by simp only[jr,c,<-c3,bg,List.length_cons];omega⟩
theorem uN {K:Nat->Prop} {l:List (List Int)} {n:Nat} {a:List V} {x:List (Bool×Int)} (hx:ez a=some x) (hn:x.length=n):qy K l.length (TL.qs n l).get (.ag a) (.qs n (bf l (aI x))):=by
 have h1:∀i,i<l.length->∀c,cM (bf l (aI x)) i c=cM l i c:=fun i hi c=>by
  have e:(l++ [aI x]).getD i []=l.getD i []:=by rw[JW,List.getElem?_append_left hi,<-JW]
  unfold cM bf;rw[e]
 have h2:∀c,cM (bf l (aI x)) l.length c=(aI x).getD c 0:=fun c=>by
  have e:(l++ [aI x]).getD l.length []=aI x:=by rw[JW,List.getElem?_append_right (Nat.le_refl _),Nat.sub_self];rfl
  unfold cM bf;rw[e]
 have hl:(TL.qs n l).len=l.length:=rfl;refine⟨by simp[TL.len,ar,bf],fun i hi=>?_,fun J=>?_,fun hk=>?_,rfl,?_⟩
 ·show V.ag (qL (bf l (aI x)) i 0 n)=V.ag (qL l i 0 n)
  rw[pJ (h1 i hi)]
 ·obtain⟨b,c,_⟩:=jy (J:=J) hx;show cells J (.ag (qL (bf l (aI x)) l.length 0 n))=cells J (.ag a)
  rw[aX,aX,b,nA];apply List.ext_getElem (by simp[c,hn])
  intro y y1 y2;have hy:y<(aI x).length:=by simpa using y2
  simp only[List.getElem_map,List.getElem_range,Nat.zero_add,h2];rw[JW,List.getElem?_eq_getElem hy];rfl
 ·have hin:=lY hx hk.1
  have:∀c,br .i64 (cM (bf l (aI x)) l.length c):=fun c=>by
   rw[h2,JW];cases hc:(aI x)[c]? with
   |none=>simp[br]
   |some y=>exact hin y (List.mem_of_getElem? hc)
  obtain⟨o1,o2,_⟩:=EF (K:=fun _=>False) (Q:=bf l (aI x)) (j:=l.length) n 0 this
  exact⟨o1,o2⟩
 ·obtain⟨_,_,c⟩:=jy (J:=Env.zero) hx;show jr (qL (bf l (aI x)) l.length 0 n)=jr a
  rw[wB,c,hn]
theorem wW {K:Nat->Prop} {l l':TL} {v:V} (h:xG l v=some l'):qy K l.len l.get v l':=by
 unfold xG at h;cases l with
 |fn n g=>
  cases v<;>simp only[reduceCtorEq]at h
  rename_i a;split at h<;>simp only[JP,reduceCtorEq]at h
  rename_i hc;subst h;have e:(TL.fn (n+1) (sB n g (.ag a))).get n= .ag a:=by show sB n g (.ag a) n=_;have hb:Nat.beq n n=true:=(by simp);unfold sB;rw[hb]
  refine⟨rfl,fun i hi=>?_,fun J=>?_,fun hk=>?_,?_,?_⟩
  ·show sB n g (.ag a) i=g i
   have hi:i<n:=hi
   have:Nat.beq i n=false:=by cases hb:Nat.beq i n with
    |false=>rfl
    |true=>have:=Nat.eq_of_beq_eq_true hb;omega
   unfold sB;rw[this]
  all_goals simp only[TL.len,e]
  ·exact wg (.ag a) hc hk
  ·rfl
 |ob l=>
  cases v<;>simp only[JP,reduceCtorEq]at h
  subst h;rename_i o;obtain⟨a,b⟩:=jO l o free;exact⟨by simp[TL.len,ar,bf],fun i hi=>congrArg V.ob (a i hi),fun J=>by simp only[TL.get,TL.len,ar,b],fun hk=>by simp only[TL.get,TL.len,ar,b];exact hk,rfl,rfl⟩
 |key l=>
  cases v<;>simp only[JP,reduceCtorEq]at h
  subst h;rename_i o;obtain⟨a,b⟩:=jO l o void;exact⟨by simp[TL.len,ar,bf],fun i hi=>congrArg V.key (a i hi),fun J=>by simp only[TL.get,TL.len,ar,b],fun hk=>by simp only[TL.get,TL.len,ar,b];exact hk,rfl,rfl⟩
 |it k l=>
  simp only at h;split at h
  ·rename_i k' n hn;split at h<;>simp only[JP,reduceCtorEq]at h
   rename_i hk;have hk:=JT.1 hk;subst hk;subst h;obtain⟨a,b⟩:=jO l n 0;obtain⟨c1,c2,c3⟩:=fw (K:=K) hn;exact⟨by simp[TL.len,ar,bf],fun i hi=>congrArg (V.it k) (a i hi),fun J=>by simp only[TL.get,TL.len,ar,b];exact c1 J,fun hk=>by simp only[TL.get,TL.len,ar,b];exact c2 hk,rfl,c3⟩
  ·simp at h
 |bo l=>
  simp only at h;split at h<;>simp only[JP,reduceCtorEq]at h
  rename_i b hb;subst h;obtain⟨a,b'⟩:=jO l b false;obtain⟨c1,c3⟩:=fO hb;exact⟨by simp[TL.len,ar,bf],fun i hi=>congrArg V.bo (a i hi),fun J=>by simp only[TL.get,TL.len,ar,b'];exact c1 J,fun _=>trivial,rfl,c3⟩
 |qs n l=>
  cases v<;>simp only[reduceCtorEq]at h
  rename_i a;split at h
  case h_2=>simp at h
  rename_i x hx;split at h<;>simp only[JP,reduceCtorEq]at h
  rename_i hn;subst h;exact uN hx (JT.1 hn)
 |st l=>
  cases v<;>simp only[JP,reduceCtorEq]at h
  subst h;rename_i o;obtain⟨a,b⟩:=jO l o ByteArray.empty;exact⟨by simp[TL.len,ar,bf],fun i hi=>congrArg V.st (a i hi),fun J=>by simp only[TL.get,TL.len,ar,b],fun hk=>by simp only[TL.get,TL.len,ar,b];exact hk,rfl,rfl⟩
theorem vP {K:Nat->Prop} {l':TL} {v:V} (h:w9 v=some l') (g:Nat->V):qy K 0 g v l':=by
 unfold w9 at h;split at h
 ·split at h
  ·rename_i a x hx;simp only[JP]at h;subst h;have:=uN (K:=K) (l:= []) hx rfl;exact⟨this.1,fun i hi=>by omega,this.2.2⟩
  split at h<;>simp only[JP,reduceCtorEq]at h
  rename_i a _ _ hc;subst h;exact⟨rfl,fun i hi=>by omega,fun J=>rfl,fun h=>wg (.ag a) hc h,rfl,rfl⟩
 ·simp only[JP]at h;subst h;exact⟨rfl,fun i hi=>by omega,fun J=>rfl,fun h=>h,rfl,rfl⟩
 ·simp only[JP]at h;subst h;exact⟨rfl,fun i hi=>by omega,fun J=>rfl,fun h=>h,rfl,rfl⟩
 ·simp only[JP]at h;subst h;exact⟨rfl,fun i hi=>by omega,fun J=>rfl,fun h=>h,rfl,rfl⟩
 ·split at h
  ·rename_i k n hn;simp only[JP]at h;subst h;obtain⟨c1,c2,c3⟩:=fw (K:=K) hn;exact⟨rfl,fun i hi=>by omega,fun J=>c1 J,fun h=>c2 h,rfl,c3⟩
  ·split at h<;>simp only[JP,reduceCtorEq]at h
   rename_i b hb;subst h;obtain⟨c1,c3⟩:=fO hb;exact⟨rfl,fun i hi=>by omega,fun J=>c1 J,fun _=>trivial,rfl,c3⟩
theorem qy.cells {K:Nat->Prop} {n:Nat} {g:Nat->V} {v:V} {l':TL} (h:qy K n g v l'):l'.cells=((List.range n).flatMap fun j=>Sx.cells Env.zero (g j))++Sx.cells Env.zero v:=by
 obtain⟨h1,h2,h3,_⟩:=h;unfold TL.cells;rw[h1,List.range_succ,List.flatMap_append];congr 1
 ·rw[List.flatMap_def,List.flatMap_def];congr 1
  exact List.map_congr_left fun i hi=>by rw[h2 i (List.mem_range.1 hi)]
 ·simp[h3]
section
variable {C:Ctx} {J:Env} {fps:Nat->Nat->Prop} {res:List ae} {w0 w:World} {F0:Nat->Prop}
theorem A0 {K:Nat->Prop} {t ty e b n bty cap:Nat} {inf:TypeInfo} {z c v:V} {xv:Value} {xs:List Value} (ht:C.P.underlying t=some (.slice e)) (hZ:C.Z e=some z) (hC:C.tO) (hi:C.P.info? e=some inf) (hsz:0<bg z)
  (hown:w.ownsRow 0 e (bg z) xv n xs) (hb:w.heap[b]? =some (.cells (cells J c).toArray bty (0,0))) (hok:ok K c) (hct:aP c=false) (hg:bV 8 c 0 (bg z) (dE z)=some v) (hq:jt n inf.bytes):
  ∃v' w',(Builtin.append_ #[t,t] ty #[xv,.slice (some ⟨b,0,none⟩) 1 cap]).run C.P w= .ok v' w'/\w'.ownsRow 0 e (bg z) v' (n+1) (xs++cells J v)/\w.grownBy w' xv.ownBlock/\∀b',v'.ownBlock=some b'->xv.ownBlock=some b'\/w.heap.size<=b':=by
 obtain⟨inf',i1,i2,i3,i4,i5⟩:=hC e z hZ;rw[hi]at i1;simp only[JP]at i1;subst i1;obtain⟨⟨p,q,e1,e2⟩,e3,e4,e5,e6⟩:=ba J 8 c 0 _ _ v hok hct hg;have hp:p= []:=List.length_eq_zero_iff.1 e2.symm;subst hp;simp only[List.nil_append]at e1;have hlv:=ak J v e5;have hzs:(den Env.zero z).cells.size=bg z:=by rw[<-ak Env.zero z i3];simp[cells]
 have hnl:(cells J v).length=1*bg z:=by rw[hlv,e3];simp
 have hnc:∀j u,(cells J v)[j]? =some u->w.cell? ((⟨b,0,none⟩:Addr).add j)=some u:=fun j u hu=>by
  rw[add_lit,Nat.zero_add,cell_of_row w b j _ _ _ hb];have hj:=(List.getElem?_eq_some_iff.1 hu).1;simp only[List.getElem?_toArray,e1];rw[List.getElem?_append_left hj];exact hu
 have hone:=b6 J v e5 e6;have hown0:=hown;rcases hown.2 with⟨rfl,rfl⟩|⟨g,cap',cur,rfl,h2,h3,h4,h5,h6,h7⟩
 ·have hx:xs= []:=List.length_eq_zero_iff.1 (by have:=hown.1;simpa using this)
  subst hx
  obtain⟨v',w',g1,g2,g3,_⟩:=run_append_own (P:=C.P) w w.heap.size t ty e inf (den Env.zero z) (bg z) inf.bytes ht hi (i2 Env.zero) i5 rfl hzs hsz (.slice none 0 0) 0 [] (World.ownsRow_nil w _ e _)
   ⟨b,0,none⟩ 1 cap (cells J v) hnl hnc hone hq.1 hq.2 (Nat.le_refl _)
  exact⟨v',w',g1,⟨g2.1,g2.2.imp id fun⟨g,cp,cu,a1,a2,a3⟩=>⟨g,cp,cu,a1,Nat.zero_le _,a3⟩⟩,g3,fun b' hb'=> .inr (g2.lt b' hb').1⟩
 ·by_cases hroom:n+1<=cap'
  ·obtain⟨w',g1,g2,g3⟩:=run_append_fits (P:=C.P) w 0 t ty e inf (bg z) ht hi i5 g n cap' xs hown0 ⟨b,0,none⟩ 1 cap (cells J v) hnl hnc hone hroom;exact⟨_,w',g1,g2,g3,fun b' hb'=> .inl hb'⟩
  ·have holds:∀j u,xs[j]? =some u->w.cell? ((⟨g,0,none⟩:Addr).add j)=some u:=fun j u hu=>by
    rw[add_lit,Nat.zero_add,hown0.cellAt j (by rw[<-hown0.1];exact(List.getElem?_eq_some_iff.1 hu).1)];exact hu
   obtain⟨v',w',g1,g2,g3⟩:=run_append_arg_grows (P:=C.P) w t ty e inf (den Env.zero z) (bg z) inf.bytes ht hi (i2 Env.zero) i5 rfl hzs hsz ⟨g,0,none⟩ n cap' xs hown0.1 holds ⟨b,0,none⟩ 1 cap (cells J v) hnl hnc (by omega) hq.1 hq.2
   exact⟨v',w',g1,⟨g2.1,g2.2.imp id fun⟨g,cp,cu,a1,a2,a3⟩=>⟨g,cp,cu,a1,Nat.zero_le _,a3⟩⟩,⟨g3.os,g3.tape,g3.output,g3.size,fun k hk _=>g3.block k hk (by simp)⟩,fun b' hb'=> .inr (g2.lt b' hb').1⟩
def uB (res:List ae) (v:V):Option (Nat×Obj):=
 match v with
 | .lp p 0=>match aa res p with
   | .blk _ (.ob o)=>some (p,o)
   |_=>none
 |_=>none
def Fv (C:Ctx) (res:List ae) (t:Nat) (x y:V):Option (Option Prop×V×List ae):=
 match C.P.underlying t with
 |some (.slice e)=>match C.Z e,C.P.info? e with
  |some z,some inf=>match y with
   | .sc k 1 _=>match aa res k with
     | .blk _ c=>match bV 8 c 0 (bg z) (dE z)with
       |some v=>if Nat.blt 0 (bg z)then
        match x with
        | .nl (.slice none 0 0)=>match uB res v with
          |some (p,o)=>if bg z==1 then some (some (jt 0 inf.bytes),.sa res.length,aL [p] res++ [.obs e (res.length+1) [o],.gen res.length])else none
          |none=>(w9 v).map fun l=>(some (jt 0 inf.bytes),.sa res.length,aL [] res++ [.arr (some e) (bg z) l])
        | .sa j=>match aa res j with
          | .arr (some e') esz l=>if e'==e&&esz==bg z then(xG l v).map fun l'=>(some (jt l.len inf.bytes),.sa res.length,aL [j] res++ [.arr (some e) (bg z) l'])else none
          | .obs e' _ L=>match uB res v with
            |some (p,o)=>if e'==e&&bg z==1 then some (some (jt (ar L) inf.bytes),.sa res.length,aL [j,p] res++ [.obs e (res.length+1) (bf L o),.gen res.length])else none
            |none=>none
          |_=>none
        |_=>none
        else none
       |none=>none
     |_=>none
   |_=>none
  |_,_=>none
 |_=>none
def Env.eg (J:Env) (i:Nat) (a:Addr) (n cap:Nat) (ob:Nat->Nat):Env:=
 {num:=J.num,cap:=fun j=>if j=i then cap else J.cap j,adr:=fun j=>if j=i then a else J.adr j,sa:=fun j=>if j=i then some a else J.sa j,sn:=fun j=>if j=i then n else J.sn j,
  ob:=fun j=>if j=i+1 then ob else J.ob j}
theorem oI {N:Nat->Prop} {i:Nat} {a:Addr} {n cap:Nat} {ob:Nat->Nat} (h:¬N i) (h':¬N (i+1)):Env.agree N J (J.eg i a n cap ob):=fun j hj=>by
 grind[Env.eg]
theorem uc (i:Nat) (a:Addr) (n cap:Nat) (ob:Nat->Nat):(J.eg i a n cap ob).sl i= .slice (some a) n cap:=by simp[Env.sl,Env.eg]
theorem xk {K:Nat->Prop} {w':World} {e esz n:Nat} {g:Nat->V} {v:V} {v':Value} {l':TL} {ts:List Nat} (h:an J fps res (known res) w0 F0 w) (hts:∀t∈ts,known res t)
  (hadd:qy K n g v l') (hokv:ok K v) (hvs:bg v=esz) (hold:∀j,j<n->ok (fun _=>False) (g j)/\aP (g j)=false/\bg (g j)=esz)
  (hown:w'.ownsRow 0 e esz v' (n+1) (((List.range n).flatMap fun j=>cells Env.zero (g j))++cells J v)) {xv:Value} (hgr:w.grownBy w' xv.ownBlock)
  (hx:∀b,xv.ownBlock=some b->∃t∈ts,fps t b) (hnew:∀b,v'.ownBlock=some b->xv.ownBlock=some b\/w.heap.size<=b) (hm:n+1<=9223372036854775807):
  ∃ρ' fps',v'=den ρ' (.sa res.length)/\an ρ' fps' (aL ts res++ [.arr (some e) esz l']) (known (aL ts res++ [.arr (some e) esz l'])) w0 F0 w'/\Env.agree (known res) J ρ'/\
   (∀i,known res i->known (aL ts res++ [.arr (some e) esz l']) i)/\known (aL ts res++ [.arr (some e) esz l']) res.length:=by
 obtain⟨a1,a2,a3,a4,a5,a6⟩:=hadd;have hown':=hown;rcases hown.2 with⟨_,h0⟩|⟨b,cap,cur,rfl,_,hb,_⟩
 ·omega
 have hnk:¬known res res.length:=fun hk=>by have:=ai hk;omega
 have hnk':¬known res (res.length+1):=fun hk=>by have:=ai hk;omega
 have hcz:cells J v=cells Env.zero v:=by
  rw[<-a3 J,<-a3 Env.zero];exact aQ (N:=fun _=>False) (fun _ h=>h.elim) _ (a4 hokv)
 have hblt:b<w'.heap.size:=(Array.getElem?_eq_some_iff.1 hb).1
 obtain⟨fps',g1,g2,g3,g4⟩:=h.km (ρ':=J.eg res.length ⟨b,0,none⟩ (n+1) cap (fun _=>0)) (w':=w') ts (.arr (some e) esz l') [] (fun x=>x=b) (by simp) hts (by simp) (oI hnk hnk')
  (by
   refine⟨fun j hj=>?_,by simp[Env.eg,a1],by rw[a1];exact hm,fun a ha=>by simp[Env.eg]at ha⊢;exact ha.symm,fun _=>by simp[Env.eg],fun _=>by simp[Env.eg],.inr ⟨e,fun e' he=>by simpa using he.symm,?_,fun a ha=>by simp[Env.eg]at ha;rw[<-ha]⟩⟩
   ·grind
   ·rw[uc,a1,qy.cells (K:=K) ⟨a1,a2,a3,a4,a5,a6⟩,<-hcz];exact hown')
  (fun x hx'=>by
   subst hx';rcases hnew _ rfl with h1|h1
   ·exact .inl (hx _ h1)
   ·exact .inr ⟨h1,hblt⟩)
  hgr.os hgr.tape hgr.output hgr.size (fun x hxl hno=>hgr.block x hxl fun hh=>by
   obtain⟨t,ht,hft⟩:=hx x hh.symm;exact hno t ht hft)
 exact⟨_,fps',by simp[den,Env.eg],g1,g2,g3,g4⟩
theorem xY {w':World} {e p bty:Nat} {L:List Obj} {o:Obj} {v':Value} {ts:List Nat} {ob:Nat->Nat} (h:an J fps res (known res) w0 F0 w) (hts:∀t∈ts,known res t)
  (hp:p∈ts) (hrp:aa res p= .blk bty (.ob o)) (hL:∀x∈L,x.wf)
  (hobs:∀j,j<L.length->(∃t∈ts,fps t (ob j))/\∃t,w.heap[ob j]? =some (.cells (bB (L.getD j free)).toArray t (0,0)))
  (hown:w'.ownsRow 0 e 1 v' (L.length+1) (((List.range L.length).map fun j=>Value.pointer (some ⟨ob j,0,none⟩))++cells J (.lp p 0))) {xv:Value} (hgr:w.grownBy w' xv.ownBlock)
  (hx:∀b,xv.ownBlock=some b->(∃t∈ts,fps t b)/\(∀j,j<L.length->ob j≠b)/\J.num p≠b) (hnew:∀b,v'.ownBlock=some b->xv.ownBlock=some b\/w.heap.size<=b) (hm:L.length+1<=9223372036854775807):
  ∃ρ' fps',v'=den ρ' (.sa res.length)/\an ρ' fps' (aL ts res++ [.obs e (res.length+1) (bf L o),.gen res.length]) (known (aL ts res++ [.obs e (res.length+1) (bf L o),.gen res.length])) w0 F0 w'/\Env.agree (known res) J ρ'/\
   (∀i,known res i->known (aL ts res++ [.obs e (res.length+1) (bf L o),.gen res.length]) i)/\known (aL ts res++ [.obs e (res.length+1) (bf L o),.gen res.length]) res.length:=by
 have hown':=hown;rcases hown.2 with⟨_,h0⟩|⟨b,cap,cur,rfl,_,hb,_⟩
 ·omega
 have hnk:¬known res res.length:=fun hk=>by have:=ai hk;omega
 have hnk':¬known res (res.length+1):=fun hk=>by have:=ai hk;omega
 have hblt:b<w'.heap.size:=(Array.getElem?_eq_some_iff.1 hb).1;have hkp:=hts p hp;have hhp:=h.holds p hkp;rw[hrp]at hhp;obtain⟨p1,_,p3,p4⟩:=hhp;have p1:o.wf:=p1;rw[dO]at p4
 have k7:∀x y,w.heap[x]? =some y->(∀b,xv.ownBlock=some b->x≠b)->w'.heap[x]? =some y:=fun x y hy hne=>by
  rw[hgr.block x (Array.getElem?_eq_some_iff.1 hy).1 fun hh=>hne x hh.symm rfl];exact hy
 have hob:∀j,j<L.length+1->∃y,(if j<L.length then ob j else J.num p)=y/\(∃t∈ts,fps t y)/\∃t,w'.heap[y]? =some (.cells (bB ((bf L o).getD j free)).toArray t (0,0)):=by
  grind[bf,free]
 have hlen:(bf L o).length=L.length+1:=by simp[bf]
 have hgk:known (aL ts res++ [.obs e (res.length+1) (bf L o),.gen res.length]) (res.length+1):=by
  unfold known;rw[aH,eF,JX (by omega),show res.length+1-res.length=1 by omega];simp[aa]
 obtain⟨fps',g1,g2,g3,g4⟩:=h.km (ρ':=J.eg res.length ⟨b,0,none⟩ (L.length+1) cap (fun j=>if j<L.length then ob j else J.num p)) (w':=w') ts (.obs e (res.length+1) (bf L o)) [.gen res.length]
  (fun x=>x=b\/∃j,j<L.length+1/\x=if j<L.length then ob j else J.num p) (by simp) hts (by simp) (oI hnk hnk')
  (by
   refine⟨hgk,fun x hx=>?_,by simp[Env.eg,hlen],by rw[hlen];exact hm,fun a ha=>by simp[Env.eg]at ha⊢;exact⟨ha.symm,.inl (by rw[<-ha])⟩,fun _=>by simp[Env.eg],?_,fun j hj=>?_⟩
   ·rcases List.mem_append.1 hx with hx|hx
    ·exact hL x hx
    ·simp only[List.mem_singleton]at hx;subst hx;exact p1
   ·rw[uc,hlen]
    have:((List.range (L.length+1)).map fun j=>Value.pointer (some ⟨(J.eg res.length ⟨b,0,none⟩ (L.length+1) cap (fun j=>if j<L.length then ob j else J.num p)).ob (res.length+1) j,0,none⟩))=
      ((List.range L.length).map fun j=>Value.pointer (some ⟨ob j,0,none⟩))++cells J (.lp p 0):=by
     rw[List.range_succ,List.map_append];congr 1
     ·simp_all[Env.eg]
     ·simp[Env.eg,cells,den,Value.cells]
    rw[this];exact hown'
   ·rw[hlen]at hj;obtain⟨y,y1,_,t,y3⟩:=hob j hj;have hoby:(J.eg res.length ⟨b,0,none⟩ (L.length+1) cap (fun j=>if j<L.length then ob j else J.num p)).ob (res.length+1) j=y:=by simp[Env.eg,y1]
    rw[hoby];exact⟨.inr ⟨j,hj,y1.symm⟩,t,y3⟩)
  (fun x hx'=>by
   rcases hx' with rfl|⟨j,hj,rfl⟩
   ·rcases hnew _ rfl with h1|h1
    ·exact .inl (hx _ h1).1
    ·exact .inr ⟨h1,hblt⟩
   ·obtain⟨y,y1,y2,_⟩:=hob j hj;rw[y1];exact .inl y2)
  hgr.os hgr.tape hgr.output hgr.size (fun x hxl hno=>hgr.block x hxl fun hh=>by
   obtain⟨t,ht,hft⟩:=(hx x hh.symm).1;exact hno t ht hft)
 exact⟨_,fps',by simp[den,Env.eg],g1,g2,g3,g4⟩
theorem lr {v:V} {p:Nat} {o:Obj} (h:uB res v=some (p,o)):v= .lp p 0/\∃bty,aa res p= .blk bty (.ob o):=by
 unfold uB at h;split at h
 ·grind
 ·simp at h
theorem kr {n:Nat} (h:n<=maxLen):n<=9223372036854775807:=by
 simp only[maxLen]at h;omega
theorem lU {w:World} {e:Nat} {xv:Value} {n:Nat} {f:Nat->Value} (h:w.ownsRow 0 e 1 xv n ((List.range n).map f)) (hf:∀j,∃a,f j= .pointer a) {b x t:Nat} {o:Obj} (hb:xv.ownBlock=some b)
  (hx:w.heap[x]? =some (.cells (bB o).toArray t (0,0))) (hn:0<n):x≠b:=by
 rintro rfl
 rcases h.2 with⟨_,h0⟩|⟨g,cap,cur,rfl,_,h3,_,_,_,h7⟩
 ·omega
 ·simp only[Value.ownBlock,JP]at hb;subst hb;rw[h3]at hx;simp only[JP,Go.Obj.cells.injEq]at hx;rw[hx.1]at h7;have h0:=congrArg (·[0]?) h7;obtain⟨a,ha⟩:=hf 0;simp[bB,i64,hn,ha]at h0
theorem zk {t ty:Nat} {x y r:V} {q:Option Prop} {res':List ae} (hC:C.tO) (h:an J fps res (known res) w0 F0 w) (ha:Fv C res t x y=some (q,r,res')) (hq:aN q) (hx:ok (known res) x):
  ∃w' ρ' fps',(Builtin.append_ #[t,t] ty #[den J x,den J y]).run C.P w= .ok (den ρ' r) w'/\an ρ' fps' res' (known res') w0 F0 w'/\Env.agree (known res) J ρ'/\(∀i,known res i->known res' i)/\ok (known res') r:=by
 unfold Fv at ha;split at ha
 ·rename_i e ht;split at ha
  ·rename_i z inf hZ hi;split at ha
   ·rename_i k cap;split at ha
    ·rename_i bty c hk;split at ha
     ·rename_i v hg;split at ha
      ·rename_i hsz;have hsz:0<bg z:=by simpa using hsz
       have hkk:=h.holds k (by unfold known;rw[hk];simp)
       rw[hk]at hkk;obtain⟨c1,c2,c3,c4⟩:=hkk;obtain⟨_,v2,v3,v4,v5⟩:=ba J 8 c 0 _ _ v c1 c2 hg;have run:∀{n:Nat} {xv:Value} {xs:List Value},w.ownsRow 0 e (bg z) xv n xs->jt n inf.bytes->_:=fun{n xv xs} ho hf=>A0 (C:=C) (ty:=ty) (cap:=cap) ht hZ hC hi hsz ho c4 c1 c2 hg hf
       split at ha
       ·
        split at ha
        ·rename_i p o hob;obtain⟨rfl,bt,hrp⟩:=lr hob;split at ha<;>simp only[JP,JQ,reduceCtorEq]at ha
         rename_i hz1;have hz1:=JT.1 hz1;obtain⟨rfl,rfl,rfl⟩:=ha;obtain⟨v',w',g1,g2,g3,g4⟩:=run (World.ownsRow_nil w 0 e (bg z)) hq;rw[hz1]at g2;have hkp:known res p:=by unfold known;rw[hrp];simp
         obtain⟨ρ',fps',f1,f2,f3,f4,f5⟩:=xY (L:= []) (ob:=fun _=>0) (ts:= [p]) h (by simpa using hkp) (by simp) hrp (by simp) (fun j hj=>by simp at hj) g2 g3 (fun b hb=>by simp[Value.ownBlock]at hb) g4 (by simp)
         exact⟨w',ρ',fps',by rw[<-f1];exact g1,f2,f3,f4,f5⟩
        ·cases hl:w9 v with
         |none=>simp[hl]at ha
         |some l=>
          simp only[hl,Option.map_some,JP,JQ]at ha;obtain⟨rfl,rfl,rfl⟩:=ha;obtain⟨v',w',g1,g2,g3,g4⟩:=run (World.ownsRow_nil w 0 e (bg z)) hq;obtain⟨ρ',fps',f1,f2,f3,f4,f5⟩:=xk (n:=0) (g:=fun _=>v) (ts:= []) h (by simp) (vP (K:=known res) hl _) v4 v2 (fun j hj=>by omega) (by simpa using g2) g3 (fun b hb=>by simp[Value.ownBlock]at hb) g4 (by simp)
          exact⟨w',ρ',fps',by rw[<-f1];exact g1,f2,f3,f4,f5⟩
       ·rename_i j;split at ha
        ·rename_i e' esz l hj;split at ha
         ·rename_i hc;simp only[JR,JT]at hc;obtain⟨rfl,rfl⟩:=hc;cases hl:xG l v with
          |none=>simp[hl]at ha
          |some l'=>
           simp only[hl,Option.map_some,JP,JQ]at ha;obtain⟨rfl,rfl,rfl⟩:=ha;have hjj:=h.holds j (by unfold known;rw[hj];simp)
           rw[hj]at hjj;obtain⟨a1,a2,a3,a4,a5,a6,a7⟩:=hjj;rcases a7 with⟨b1,_⟩|⟨e2,b1,b2,b3⟩
           ·simp at b1
           ·have:=b1 e' rfl;subst this;obtain⟨v',w',g1,g2,g3,g4⟩:=run b2 hq
            obtain⟨ρ',fps',f1,f2,f3,f4,f5⟩:=xk (n:=l.len) (g:=l.get) (ts:= [j]) h (by have hx:known res j:=hx;simpa using hx) (wW (K:=known res) hl) v4 v2 a1 g2 g3 (fun b hb=>by
             refine⟨j,by simp,?_⟩
             cases hs:J.sa j with
             |none=>simp[Env.sl,hs,Value.ownBlock]at hb
             |some a=>
              simp only[Env.sl,hs,Value.ownBlock,JP]at hb;rw[<-hb];exact b3 a hs) g4 (kr hq.1)
            exact⟨w',ρ',fps',by rw[<-f1];exact g1,f2,f3,f4,f5⟩
         ·simp at ha
        ·rename_i e' q0 L hj;split at ha
         ·rename_i p o hob;obtain⟨rfl,bt,hrp⟩:=lr hob;split at ha<;>simp only[JP,JQ,reduceCtorEq]at ha
          rename_i hc;simp only[JR,JT]at hc;obtain⟨rfl,hz1⟩:=hc;obtain⟨rfl,rfl,rfl⟩:=ha;have hkj:known res j:=by unfold known;rw[hj];simp
          have hkp:known res p:=by unfold known;rw[hrp];simp
          have hjj:=h.holds j hkj;rw[hj]at hjj;obtain⟨_,a1,a2,a3,a4,a5,a6,a7⟩:=hjj;have hne:j≠p:=fun e=>by rw[e,hrp]at hj;simp at hj
          have hpp:=h.holds p hkp;rw[hrp]at hpp;obtain⟨_,_,p3,_⟩:=hpp;obtain⟨v',w',g1,g2,g3,g4⟩:=run (by rw[hz1];exact a6) hq
          rw[hz1]at g2
          obtain⟨ρ',fps',f1,f2,f3,f4,f5⟩:=xY (L:=L) (ob:=J.ob q0) (ts:= [j,p]) h (by simp[hkj,hkp]) (by simp) hrp a1 (fun i hi=>⟨⟨j,by simp,(a7 i hi).1⟩,(a7 i hi).2⟩) g2 g3 (fun b hb=>by
           have hb':=hb;cases hs:J.sa j with
           |none=>simp[Env.sl,hs,Value.ownBlock]at hb
           |some a=>
            simp only[den,hs,Value.ownBlock,JP,Env.sl]at hb;have hfb:fps j b:=by rw[<-hb];exact(a4 a hs).2
            refine⟨⟨j,by simp,hfb⟩,fun i hi=>?_,fun e=>h.disj j p b hkj hkp hne hfb (e▸p3)⟩
            obtain⟨_,t,hti⟩:=a7 i hi;exact lU a6 (fun i=>⟨_,rfl⟩) hb' hti (by omega)) g4 (kr hq.1)
          exact⟨w',ρ',fps',by rw[<-f1];exact g1,f2,f3,f4,f5⟩
         ·simp at ha
        ·simp at ha
       ·simp at ha
      ·simp at ha
     ·simp at ha
    ·simp at ha
   ·simp at ha
  ·simp at ha
 ·simp at ha
end
end Go.Sx
namespace Go.Sx
open Go.RowKit (Below)
theorem zM {α:Type} (l vs:List α) (off m:Nat) (hm:off+vs.length<=m) (hl:m<=l.length):
  (l.take off++vs++l.drop (off+vs.length)).take m=(l.take m).take off++vs++(l.take m).drop (off+vs.length):=by
 have h1:(l.take off++vs).length=off+vs.length:=by simp;omega
 rw[List.take_append,List.take_of_length_le (by rw[h1];exact hm),h1,List.take_take,Nat.min_eq_left (by omega),List.drop_take]
theorem gS {P:Program} {w:World} {e size n cap g:Nat} {xs:List Value} (hown:w.ownsRow 0 e size (.slice (some ⟨g,0,none⟩) n cap) n xs) (vs:List Value) (off:Nat)
  (h1:∀v∈vs,v.oneCell'=true) (hoff:off+vs.length<=n*size):
  ∃w',(storeCells ⟨g,off,none⟩ vs 0).run P w= .ok () w'/\w'.ownsRow 0 e size (.slice (some ⟨g,0,none⟩) n cap) n (xs.take off++vs++xs.drop (off+vs.length))/\w.grownBy w' (some g):=by
 rcases hown.2 with⟨h,_⟩|⟨g',cap',cur,h,hb,hg,hnc,hcm,hcs,htake⟩
 ·simp at h
 ·simp only[Value.slice.injEq,JP,Addr.mk.injEq,and_true,true_and]at h;obtain⟨rfl,rfl⟩:=h;have hle:n*size<=cur.size:=by rw[hcs];exact Nat.mul_le_mul_right _ hnc
  have hst:=run_storeCells_at (P:=P) g off e vs 0 cur w hg (by omega) h1
  simp only[Nat.add_zero]at hst;refine⟨_,hst,⟨?_,.inr ⟨g,cap,_,rfl,hb,setRow_heap w g cur _ e _ hg,hnc,hcm,?_,?_⟩⟩,⟨rfl,rfl,rfl,by simp[World.setRow],fun k _ hk=>setRow_other w g _ k (fun e=>hk (by simp[e]))⟩⟩
  ·grind
  ·grind
  ·grind[zM]
theorem an.o0 {J ρ':Env} {fps:Nat->Nat->Prop} {res:List ae} {w0:World} {F0:Nat->Prop} {w w':World} (h:an J fps res (known res) w0 F0 w) (ts:List Nat) (j:Nat) (r:ae) (ms:List ae) (fp:Nat->Prop)
  (hms:∀m∈ms,∃j,m= .gen j) (hts:∀t∈ts,known res t) (hj:known res j) (hjt:j∉ts) (hr:r≠ .yet) (hag:Env.agree (known res) J ρ')
  (hh:r.holds (known (aL ts (aG res j r)++ms)) ρ' j fp w0 F0 w') (hfp:∀b,fp b->fps j b\/(∃t∈ts,fps t b)\/(w.heap.size<=b/\b<w'.heap.size))
  (hos:w'.os=w.os) (htape:w'.tape=w.tape) (hout:w'.output=w.output) (hsize:w.heap.size<=w'.heap.size)
  (hsame:∀b,b<w.heap.size->¬fps j b->(∀t∈ts,¬fps t b)->w'.heap[b]? =w.heap[b]?):
  ∃fps',an ρ' fps' (aL ts (aG res j r)++ms) (known (aL ts (aG res j r)++ms)) w0 F0 w'/\Env.agree (known res) J ρ'/\(∀i,known res i->known (aL ts (aG res j r)++ms) i):=by
 have hlj:=ai hj;have hlt:∀t∈ts,t<(aG res j r).length:=fun t ht=>by rw[aE];exact ai (hts t ht)
 have hget:∀i,aa (aL ts (aG res j r)++ms) i=if i<res.length then(if i∈ts then .gone else if i=j then r else aa res i)else aa ms (i-res.length):=by
  simp_all[aH,eF,aE,lK,aA]
 have hmget:∀k,aa ms k= .yet\/∃j,aa ms k= .gen j:=fun k=>by
  rw[fH,JW];cases hm:ms[k]? with
  |none=>exact .inl rfl
  |some m=>
   obtain⟨j,rfl⟩:=hms m (List.mem_of_getElem? hm);exact .inr ⟨j,rfl⟩
 have hmono:∀i,known res i->known (aL ts (aG res j r)++ms) i:=fun i hi=>by
  grind[known,ai]
 obtain⟨fps',g⟩:=h.turn (res':=aL ts (aG res j r)++ms) (K':=known (aL ts (aG res j r)++ms)) (fun i=>i∈ts\/i=j) (fun i=>i∈ts\/i=j\/res.length<=i) (fun i b=>i=j/\fp b)
  (fun i hi=>hi) hmono hag (fun i hi hb=>by
   have hi':=hi;unfold known at hi';rw[hget]at hi';have h1:i∉ts:=fun e=>hb (.inl e)
   have h2:i≠j:=fun e=>hb (.inr (.inl e))
   have hl:i<res.length:=by
    rcases Nat.lt_or_ge i res.length with h|h
    ·exact h
    ·exact absurd (.inr (.inr h)) hb
   rw[JY hl,JX h1,JX h2]at hi';exact⟨hi',fun e=>e.elim h1 h2,by rw[hget,JY hl,JX h1,JX h2]⟩)
  (fun i hi hb=>by
   by_cases e:i=j
   ·subst e;refine⟨?_,fun b hf=>?_⟩
    ·rw[hget,JY hlj,JX hjt,JY rfl];have:(fun b=>i=i/\fp b)=fp:=by funext b;simp
     rw[this];exact hh
    ·rcases hfp b hf.2 with hf|⟨t,ht,hft⟩|hn
     ·exact .inl ⟨i,.inr rfl,hj,hf⟩
     ·exact .inl ⟨t,.inl ht,hts t ht,hft⟩
     ·exact .inr hn
   ·refine⟨?_,fun b hf=>absurd hf.1 e⟩
    rw[hget];by_cases hl:i<res.length
    ·rw[JY hl,JY (hb.resolve_right fun hh=>hh.elim e (by omega))]
     trivial
    ·rw[JX hl];rcases hmget (i-res.length)with h|⟨j,h⟩<;>rw[h]<;>trivial)
  (fun i j b _ _ hne hf hf'=>hne (hf.1.trans hf'.1.symm))
  hos htape hout hsize (fun b hb hno=>hsame b hb (hno j (.inr rfl) hj) fun t ht=>hno t (.inl ht) (hts t ht))
 exact⟨fps',g,hag,hmono⟩
def eW {α:Type} (l:List α) (i:Nat) (x:α):List α:=l.set i x
def sP (l:TL) (i:Nat) (v:V):Option TL:=
 match l with
 | .ob l=>match v with
   | .ob o=>some (.ob (eW l i o))
   |_=>none
 | .key l=>match v with
   | .key k=>some (.key (eW l i k))
   |_=>none
 | .it k l=>match toInt v with
   |some (k',n)=>if k==k' then some (.it k (eW l i n))else none
   |none=>none
 | .bo l=>match toBool v with
   |some b=>some (.bo (eW l i b))
   |none=>none
 | .st l=>match v with
   | .st s=>some (.st (eW l i s))
   |_=>none
 | .fn _ _=>none
 | .qs _ _=>none
def Fa (K:Nat->Prop) (l:TL) (i:Nat) (v:V) (l':TL):Prop:=
 l'.len=l.len/\(∀j,j≠i->l'.get j=l.get j)/\(i<l.len->(∀J,cells J (l'.get i)=cells J v)/\(ok K v->ok (fun _=>False) (l'.get i))/\aP (l'.get i)=false/\bg (l'.get i)=bg v)
theorem j3 {α:Type} (l:List α) (i:Nat) (x d:α):(∀j,j≠i->aB (eW l i x) j d=aB l j d)/\(i<l.length->aB (eW l i x) i d=x):=by
 grind[aB,eW]
theorem qf {K:Nat->Prop} {l l':TL} {i:Nat} {v:V} (h:sP l i v=some l'):Fa K l i v l':=by
 unfold sP at h;cases l with
 |fn n g=>simp at h
 |qs n g=>simp at h
 |ob l=>
  cases v<;>simp only[JP,reduceCtorEq]at h
  subst h;rename_i o;obtain⟨a,b⟩:=j3 l i o free;exact⟨by simp[TL.len,ar,eW],fun j hj=>congrArg V.ob (a j hj),fun hi=>⟨fun J=>by simp only[TL.get,b hi],fun hk=>by simp only[TL.get,b hi];exact hk,rfl,rfl⟩⟩
 |key l=>
  cases v<;>simp only[JP,reduceCtorEq]at h
  subst h;rename_i o;obtain⟨a,b⟩:=j3 l i o void;exact⟨by simp[TL.len,ar,eW],fun j hj=>congrArg V.key (a j hj),fun hi=>⟨fun J=>by simp only[TL.get,b hi],fun hk=>by simp only[TL.get,b hi];exact hk,rfl,rfl⟩⟩
 |it k l=>
  simp only at h;split at h
  ·rename_i k' n hn;split at h<;>simp only[JP,reduceCtorEq]at h
   rename_i hk;have hk:=JT.1 hk;subst hk;subst h;obtain⟨a,b⟩:=j3 l i n 0;obtain⟨c1,c2,c3⟩:=fw (K:=K) hn;exact⟨by simp[TL.len,ar,eW],fun j hj=>congrArg (V.it k) (a j hj),fun hi=>⟨fun J=>by simp only[TL.get,b hi];exact c1 J,fun hk=>by simp only[TL.get,b hi];exact c2 hk,rfl,c3⟩⟩
  ·simp at h
 |bo l=>
  simp only at h;split at h<;>simp only[JP,reduceCtorEq]at h
  rename_i b hb;subst h;obtain⟨a,b'⟩:=j3 l i b false;obtain⟨c1,c3⟩:=fO hb;exact⟨by simp[TL.len,ar,eW],fun j hj=>congrArg V.bo (a j hj),fun hi=>⟨fun J=>by simp only[TL.get,b' hi];exact c1 J,fun _=>trivial,rfl,c3⟩⟩
 |st l=>
  cases v<;>simp only[JP,reduceCtorEq]at h
  subst h;rename_i o;obtain⟨a,b⟩:=j3 l i o ByteArray.empty;exact⟨by simp[TL.len,ar,eW],fun j hj=>congrArg V.st (a j hj),fun hi=>⟨fun J=>by simp only[TL.get,b hi],fun hk=>by simp only[TL.get,b hi];exact hk,rfl,rfl⟩⟩
theorem lP {α:Type} {f:Nat->List α} {esz:Nat}:∀{n:Nat},(∀j,j<n->(f j).length=esz)->((List.range n).flatMap f).length=n*esz
 |0,_=>by simp
 |n+1,h=>by
  rw[List.range_succ,List.flatMap_append,List.length_append,lP fun j hj=>h j (by omega)]
  simp[h n (by omega),Nat.succ_mul]
theorem mA {α:Type} {f f':Nat->List α} {esz:Nat}:∀{n i:Nat},(∀j,j<n->(f j).length=esz)->(∀j,j<n->j≠i->f' j=f j)->(f' i).length=esz->i<n->
  (List.range n).flatMap f'=((List.range n).flatMap f).take (i*esz)++f' i++((List.range n).flatMap f).drop (i*esz+esz)
 |0,i,_,_,_,hi=>by omega
 |n+1,i,h,hf,hl,hi=>by
  have hlen:((List.range n).flatMap f).length=n*esz:=lP fun j hj=>h j (by omega)
  rw[List.range_succ,List.flatMap_append,List.flatMap_append];simp only[List.flatMap_cons,List.flatMap_nil,List.append_nil];by_cases e:i=n
  ·subst e
   have e1:(List.range i).flatMap f'=(List.range i).flatMap f:=by
    rw[List.flatMap_def,List.flatMap_def];congr 1
    exact List.map_congr_left fun j hj=>hf j (by have:=List.mem_range.1 hj;omega) (by have:=List.mem_range.1 hj;omega)
   rw[e1,List.take_append,List.take_of_length_le (by omega),hlen,Nat.sub_self,List.take_zero,List.append_nil,List.drop_of_length_le (by simp[hlen,h i (by omega)]),List.append_nil]
  ·have hin:i<n:=by omega
   have hm:i*esz+esz<=n*esz:=by rw[<-Nat.succ_mul];exact Nat.mul_le_mul_right _ hin
   rw[mA (fun j hj=>h j (by omega)) (fun j hj hne=>hf j (by omega) hne) hl hin,hf n (by omega) (fun e'=>e e'.symm)]
   rw[List.take_append_of_le_length (by omega),List.drop_append_of_le_length (by omega)]
   simp only[List.append_assoc]
def v7 (P:Program) (res:List ae) (t j esz i off:Nat) (y:V):Option (Option Prop×List ae):=
 if gz P t==some (bg y)&& !aP y then
  match aa res j with
  | .arr (some e) esz' l=>if esz==esz' then
    match setAt 8 (l.get i) off y with
    |some v'=>if bg v'==esz then(sP l i v').map fun l'=>(some (zb i l.len),aG res j (.arr (some e) esz l'))else none
    |none=>none
    else none
  |_=>none
 else none
def vJ (P:Program) (res:List ae) (t:Nat) (p y:V):Option (Option Prop×List ae):=
 match p with
 | .ap j esz i off=>if gz P t==some (bg y)&& !aP y&&bg y==esz&&off==0 then
   match aa res j with
   | .arr (some e) esz' l=>if esz==esz' then(sP l i y).map fun l'=>(some (zb i l.len),aG res j (.arr (some e) esz l'))else none
   | .obs ty _ L=>match uB res y with
     |some (k,o)=>if esz==1 then some (some (zb i (ar L)),aL [k] (aG res j (.obs ty res.length (eW L i o)))++ [.gen j])else none
     |none=>none
   |_=>none
   else v7 P res t j esz i off y
 |_=>none
def Env.gQ (J:Env) (q:Nat) (f:Nat->Nat):Env:= {J with ob:=fun j=>if j=q then f else J.ob j}
theorem uj {N:Nat->Prop} {J:Env} {q:Nat} {f:Nat->Nat} (h:¬N q):Env.agree N J (J.gQ q f):=fun j hj=>by
 have:j≠q:=fun e=>h (e▸hj)
 simp[Env.gQ,this]
section
variable {P:Program} {J:Env} {fps:Nat->Nat->Prop} {res:List ae} {w0 w:World} {F0:Nat->Prop}
theorem iV {t:Nat} {y:V} {K:Nat->Prop} {b off:Nat} {w':World} (hs:gz P t=some (bg y)) (hy:ok K y) (h:(storeCells ⟨b,off,none⟩ (cells J y) 0).run P w= .ok () w'):
  (Instr.storeAt t (.pointer (some ⟨b,off,none⟩)) (den J y)).run P w= .ok () w':=by
 have hz:(den J y).cells.size=bg y:=by rw[<-ak J y hy];simp[cells]
 simp only[Instr.storeAt,Instr.sureAddr,storeVar,Sem.run_bind,Sem.run_pure,bQ w hs,Result.andThen_ok,hz,ne_eq,not_true_eq_false,if_false];rw[show(den J y).cells.toList=cells J y from rfl,h]
theorem DZ {α:Type} {c A p m q B ys:List α} {n off:Nat} (hc:c=A++(p++m++q)++B) (hA:A.length=n) (hp:p.length=off) (hm:m.length=ys.length):c.take (n+off)++ys++c.drop (n+off+ys.length)=A++(p++ys++q)++B:=by
 have e:c=(A++p)++(m++(q++B)):=by rw[hc];simp
 have e2:c=(A++p++m)++(q++B):=by rw[hc];simp
 have l1:(A++p).length=n+off:=by simp[hA,hp]
 have l2:(A++p++m).length=n+off+ys.length:=by simp[hA,hp,hm];omega
 have h1:c.take (n+off)=A++p:=by rw[e,<-l1];exact List.take_left
 have h2:c.drop (n+off+ys.length)=q++B:=by rw[e2,<-l2];exact List.drop_left
 rw[h1,h2];simp
theorem uA {t j esz i off:Nat} {y:V} {q:Option Prop} {res':List ae} (h:an J fps res (known res) w0 F0 w) (hs:v7 P res t j esz i off y=some (q,res')) (hq:aN q) (hkj:known res j) (hy:ok (known res) y):
  ∃w' ρ' fps',(Instr.storeAt t (den J (.ap j esz i off)) (den J y)).run P w= .ok () w'/\an ρ' fps' res' (known res') w0 F0 w'/\Env.agree (known res) J ρ'/\∀i,known res i->known res' i:=by
 unfold v7 at hs;split at hs
 case isFalse=>simp at hs
 rename_i hc;simp only[JR,JT,Bool.not_eq_true']at hc;obtain⟨hts,hty⟩:=hc;have hj:=h.holds j hkj;split at hs
 case h_2=>simp at hs
 rename_i e esz' l hr;rw[hr]at hj;split at hs
 case isFalse=>simp at hs
 rename_i he;have he:=JT.1 he;subst he;split at hs
 case h_2=>simp at hs
 rename_i v' hv';split at hs
 case isFalse=>simp at hs
 rename_i hvs;have hvs:=JT.1 hvs;cases hl:sP l i v' with
 |none=>simp[hl]at hs
 |some l'=>
  simp only[hl,Option.map_some,JP,JQ]at hs;obtain⟨rfl,rfl⟩:=hs;have hi:i<l.len:=hq;obtain⟨s1,s2,s3⟩:=qf (K:=known res) hl;obtain⟨t1,t2,t3,t4⟩:=s3 hi;obtain⟨a1,a2,a3,a4,a5,a6,a7⟩:=hj;obtain⟨x1,x2,x3⟩:=a1 i hi;obtain⟨⟨p0,m0,q0,y1,y2,y3,y4⟩,y5,y6,y7⟩:=cP (N:=known res) J y hy hty 8 (l.get i) off v' (aU (fun _ h=>h.elim) _ x1) x2 hv'
  rcases a7 with⟨b1,_⟩|⟨e2,b1,b2,b3⟩
  ·simp at b1
  ·have:=b1 e rfl;subst this;obtain⟨g,f1,f2,f3,f4⟩:=eC b2 (by omega)
   have hadr:=a4 _ f1;have hm:i*esz+esz<=l.len*esz:=by rw[<-Nat.succ_mul];exact Nat.mul_le_mul_right _ hi
   have hlen:∀j,j<l.len->(cells Env.zero (l.get j)).length=esz:=fun j hj=>by rw[ak Env.zero _ (a1 j hj).1];exact(a1 j hj).2.2
   have hsl:J.sl j= .slice (some ⟨g,0,none⟩) l.len (J.cap j):=by simp[Env.sl,f1,f2]
   rw[hsl]at b2;have hcy:=ak J y hy
   have hcz:cells J v'=cells Env.zero (l'.get i):=by
    rw[<-t1 J];exact aQ (N:=fun _=>False) (fun _ h=>h.elim) _ (t2 y6)
   have hc0:cells Env.zero (l.get i)=p0++m0++q0:=by
    rw[<-y1];exact(aQ (N:=fun _=>False) (fun _ h=>h.elim) _ x1).symm
   have hl0':=hlen i hi;have hl0:=hl0';rw[hc0]at hl0;simp only[List.length_append]at hl0;obtain⟨w',r1,r2,r3⟩:=gS (P:=P) b2 (cells J y) (i*esz+off) (b6 J y hy hty) (by omega)
   have hfj:fps j g:=b3 _ f1
   obtain⟨fps',g1,g2,g3⟩:=h.o0 (ρ':=J) (w':=w') [] j (.arr (some e) esz l') [] (fps j) (by simp) (by simp) hkj (by simp) (by simp) (Env.agree.refl _ _)
    (by
     refine⟨fun k hk=>?_,by rw[s1];exact a2,by rw[s1];exact a3,a4,by rw[s1];exact a5,by rw[s1];exact a6,.inr ⟨e,fun e' he=>by simpa using he.symm,?_,b3⟩⟩
     ·by_cases ek:k=i
      ·subst ek;exact⟨t2 y6,t3,t4.trans hvs⟩
      ·rw[s2 k ek];exact a1 k (by omega)
     ·rw[hsl,s1];have hv:=ak J v' y6
      have hf:l'.cells=l.cells.take (i*esz)++cells J v'++l.cells.drop (i*esz+esz):=by
       unfold TL.cells;rw[s1,hcz,mA (f:=fun j=>cells Env.zero (l.get j)) (f':=fun j=>cells Env.zero (l'.get j)) (i:=i) hlen (fun j _ hne=>by simp only[s2 j hne]) (by rw[<-hcz,hv];exact hvs) hi]
      have hs0:l.cells=l.cells.take (i*esz)++(p0++m0++q0)++l.cells.drop (i*esz+esz):=by
       have:=mA (f:=fun j=>cells Env.zero (l.get j)) (f':=fun j=>cells Env.zero (l.get j)) (i:=i) hlen (fun j _ hne=>rfl) hl0' hi
       rw[hc0]at this;exact this
      have hlc:l.cells.length=l.len*esz:=lP hlen
      have:l'.cells=l.cells.take (i*esz+off)++cells J y++l.cells.drop (i*esz+off+(cells J y).length):=by
       rw[DZ hs0 (by rw[List.length_take];omega) y3 (by rw[hcy];exact y4),hf,y2]
      rw[this];exact r2)
    (fun b hb=> .inl hb) r3.os r3.tape r3.output r3.size (fun b hb hno _=>r3.block b hb fun e=>hno (by simp only[JP]at e;rw[e];exact hfj))
   refine⟨w',J,fps',?_,by simpa[aL]using g1,g2,by simpa[aL]using g3⟩
   simp only[den];rw[<-hadr];simp only[Nat.zero_add];exact iV hts hy r1
theorem uZ {t:Nat} {p y:V} {q:Option Prop} {res':List ae} (h:an J fps res (known res) w0 F0 w) (hs:vJ P res t p y=some (q,res')) (hq:aN q) (hp:ok (known res) p) (hy:ok (known res) y):
  ∃w' ρ' fps',(Instr.storeAt t (den J p) (den J y)).run P w= .ok () w'/\an ρ' fps' res' (known res') w0 F0 w'/\Env.agree (known res) J ρ'/\∀i,known res i->known res' i:=by
 unfold vJ at hs;split at hs
 ·rename_i j esz i off;split at hs
  ·rename_i hc;simp only[JR,JT,Bool.not_eq_true']at hc;obtain⟨⟨⟨hts,hty⟩,hvs⟩,rfl⟩:=hc;have hkj:known res j:=hp;have hj:=h.holds j hkj;split at hs
   ·rename_i e esz' l hr;rw[hr]at hj;split at hs
    ·rename_i he;have he:=JT.1 he;subst he;cases hl:sP l i y with
     |none=>simp[hl]at hs
     |some l'=>
      simp only[hl,Option.map_some,JP,JQ]at hs;obtain⟨rfl,rfl⟩:=hs;have hi:i<l.len:=hq;obtain⟨s1,s2,s3⟩:=qf (K:=known res) hl;obtain⟨t1,t2,t3,t4⟩:=s3 hi;obtain⟨a1,a2,a3,a4,a5,a6,a7⟩:=hj;rcases a7 with⟨b1,_⟩|⟨e2,b1,b2,b3⟩
      ·simp at b1
      ·have:=b1 e rfl;subst this;obtain⟨g,f1,f2,f3,f4⟩:=eC b2 (by omega)
       have hadr:=a4 _ f1;have hm:i*esz+esz<=l.len*esz:=by rw[<-Nat.succ_mul];exact Nat.mul_le_mul_right _ hi
       have hlen:∀j,j<l.len->(cells Env.zero (l.get j)).length=esz:=fun j hj=>by rw[ak Env.zero _ (a1 j hj).1];exact(a1 j hj).2.2
       have hsl:J.sl j= .slice (some ⟨g,0,none⟩) l.len (J.cap j):=by simp[Env.sl,f1,f2]
       rw[hsl]at b2;have hcy:=ak J y hy
       have hcz:cells J y=cells Env.zero (l'.get i):=by
        rw[<-t1 J];exact aQ (N:=fun _=>False) (fun _ h=>h.elim) _ (t2 hy)
       obtain⟨w',r1,r2,r3⟩:=gS (P:=P) b2 (cells J y) (i*esz) (b6 J y hy hty) (by omega)
       have hfj:fps j g:=b3 _ f1
       obtain⟨fps',g1,g2,g3⟩:=h.o0 (ρ':=J) (w':=w') [] j (.arr (some e) esz l') [] (fps j) (by simp) (by simp) hkj (by simp) (by simp) (Env.agree.refl _ _)
        (by
         refine⟨fun k hk=>?_,by rw[s1];exact a2,by rw[s1];exact a3,a4,by rw[s1];exact a5,by rw[s1];exact a6,.inr ⟨e,fun e' he=>by simpa using he.symm,?_,b3⟩⟩
         ·grind
         ·rw[hsl,s1]
          have:l'.cells=l.cells.take (i*esz)++cells J y++l.cells.drop (i*esz+(cells J y).length):=by
           unfold TL.cells;rw[s1,hcz,mA (f:=fun j=>cells Env.zero (l.get j)) (f':=fun j=>cells Env.zero (l'.get j)) (i:=i) hlen (fun j _ hne=>by simp only[s2 j hne]) (by rw[<-hcz,hcy];exact hvs) hi,<-hcz,hcy,hvs]
          rw[this];exact r2)
        (fun b hb=> .inl hb) r3.os r3.tape r3.output r3.size (fun b hb hno _=>r3.block b hb fun e=>hno (by simp only[JP]at e;rw[e];exact hfj))
       refine⟨w',J,fps',?_,by simpa[aL]using g1,g2,by simpa[aL]using g3⟩
       simp only[den];rw[<-hadr];simp only[Nat.zero_add,Nat.add_zero];exact iV hts hy r1
    ·simp at hs
   ·rename_i ty q0 L hr;rw[hr]at hj;split at hs
    ·rename_i k o hob;obtain⟨rfl,bt,hrk⟩:=lr hob;split at hs<;>simp only[JP,JQ,reduceCtorEq]at hs
     rename_i he;have he:=JT.1 he;subst he;obtain⟨rfl,rfl⟩:=hs;have hi:i<L.length:=hq;obtain⟨a0,a1,a2,a3,a4,a5,a6,a7⟩:=hj;have hkk:known res k:=by unfold known;rw[hrk];simp
     have hne:j≠k:=fun e=>by rw[e,hrk]at hr;simp at hr
     have hk:=h.holds k hkk;rw[hrk]at hk;obtain⟨k1,_,k3,k4⟩:=hk;have k1:o.wf:=k1;rw[dO]at k4;obtain⟨g,f1,f2,f3,f4⟩:=eC a6 (by omega)
     obtain⟨hadr,hfj⟩:=a4 _ f1;have hfj:fps j g:=hfj;have hsl:J.sl j= .slice (some ⟨g,0,none⟩) L.length (J.cap j):=by simp[Env.sl,f1,f2]
     have a6':=a6;rw[hsl]at a6;obtain⟨w',r1,r2,r3⟩:=gS (P:=P) a6 (cells J (.lp k 0)) i (by simp[cells,den,Value.cells,Value.oneCell']) (by simp[cells,den,Value.cells];omega)
     have hnk:¬known res res.length:=fun hk=>by have:=ai hk;omega
     have hgb:∀x y,w.heap[x]? =some y->x≠g->w'.heap[x]? =some y:=fun x y hy hne=>by
      rw[r3.block x (Array.getElem?_eq_some_iff.1 hy).1 fun hh=>hne (by simpa using hh)];exact hy
     have hkg:J.num k≠g:=fun e=>h.disj j k g hkj hkk hne hfj (e▸k3)
     have hog:∀x,x<L.length->J.ob q0 x≠g:=fun x hx=>by
      obtain⟨_,t,hti⟩:=a7 x hx;exact lU a6 (fun i=>⟨_,rfl⟩) (by rfl) hti (by omega)
     have hnr:known (aL [k] (aG res j (.obs ty res.length (eW L i o)))++ [.gen j]) res.length:=by
      unfold known;rw[aH,eF,aE,JX (by omega)];simp[aa]
     have hll:(eW L i o).length=L.length:=by simp[eW]
     obtain⟨fps',g1,g2,g3⟩:=h.o0 (ρ':=J.gQ res.length (fun x=>if x=i then J.num k else J.ob q0 x)) (w':=w') [k] j (.obs ty res.length (eW L i o)) [.gen j] (fun b=>fps j b\/fps k b) (by simp) (by simpa using hkk) hkj (by simpa using hne) (by simp)
      (uj hnk)
      (by
       refine⟨hnr,fun x hx=>?_,by rw[hll];exact a2,by rw[hll];exact a3,fun a ha=>⟨(a4 a ha).1,.inl (a4 a ha).2⟩,by rw[hll];exact a5,?_,fun x hx=>?_⟩
       ·rcases List.mem_or_eq_of_mem_set hx with hx|rfl
        ·exact a1 x hx
        ·exact k1
       ·rw[hll,show(J.gQ res.length (fun x=>if x=i then J.num k else J.ob q0 x)).sl j=J.sl j from rfl,hsl]
        have:((List.range L.length).map fun x=>Value.pointer (some ⟨(J.gQ res.length (fun x=>if x=i then J.num k else J.ob q0 x)).ob res.length x,0,none⟩))=
          ((List.range L.length).map fun x=>Value.pointer (some ⟨J.ob q0 x,0,none⟩)).take i++cells J (.lp k 0)++((List.range L.length).map fun x=>Value.pointer (some ⟨J.ob q0 x,0,none⟩)).drop (i+(cells J (.lp k 0)).length):=by
         have hl1:(cells J (.lp k 0)).length=1:=rfl;rw[hl1];apply List.ext_getElem?
         intro x;rw[List.append_assoc];by_cases hx:x<i
         ·grind[Env.gQ]
         ·rw[List.getElem?_append_right (by simp;omega)]
          have hti:(List.take i (List.map (fun x=>Value.pointer (some ⟨J.ob q0 x,0,none⟩)) (List.range L.length))).length=i:=by simp;omega
          rw[hti];by_cases hxi:x=i
          ·subst hxi;simp[Env.gQ,hi,cells,den,Value.cells]
          ·rw[List.getElem?_append_right (by omega),List.getElem?_drop,hl1,show i+1+(x-i-1)=x by omega]
           by_cases hxl:x<L.length
           ·simp[Env.gQ,hxi,hxl]
           ·simp[hxl]
        rw[this];exact r2
       ·rw[hll]at hx;have hob:(J.gQ res.length (fun x=>if x=i then J.num k else J.ob q0 x)).ob res.length x=if x=i then J.num k else J.ob q0 x:=by simp[Env.gQ]
        rw[hob];by_cases hxi:x=i
        ·rw[JY hxi];refine⟨.inr k3,bt,?_⟩;rw[show(eW L i o).getD x free=o by subst hxi;simp[eW,JW,hi]]
         exact hgb _ _ k4 hkg
        ·rw[JX hxi];obtain⟨c1,t,c2⟩:=a7 x hx;refine⟨.inl c1,t,?_⟩;rw[show(eW L i o).getD x free=L.getD x free by simp[eW,JW,List.getElem?_set,Ne.symm hxi]]
         exact hgb _ _ c2 (hog x hx))
      (fun b hb=>hb.elim .inl fun hb=> .inr (.inl ⟨k,by simp,hb⟩)) r3.os r3.tape r3.output r3.size (fun b hb hno _=>r3.block b hb fun e=>hno (by simp only[JP]at e;rw[e];exact hfj))
     refine⟨w',_,fps',?_,g1,g2,g3⟩
     have hd:den J (.ap j 1 i 0)= .pointer (some ⟨g,i,none⟩):=by
      simp only[den];rw[<-hadr];simp
     rw[hd];exact iV hts hy r1
    ·simp at hs
   ·simp at hs
  ·exact uA h hs hq hp hy
 ·simp at hs
end
end Go.Sx
namespace Go.Sx
open Go.RowKit (Below)
def ra (Q:List (List Int)):List (List Int):=Q.tail
def HI (Q:List (List Int)):Prop:=1<=ar Q
def FO (C:Ctx) (res:List ae) (t:Nat) (x y:V):Option (Option Prop×V×List ae):=
 match C.P.underlying t with
 |some (.slice e)=>match C.Z e with
  |some z=>match C.P.info? e with
   |some inf=>match y with
    | .sc k m _=>if m==1 then(match aa res k with
      | .blk _ c=>match bV 8 c 0 (bg z) (dE z)with
        |some v=>match v with
         | .ag xl=>match ez xl with
           |some l=>match x with
            | .sa j=>match aa res j with
              | .que e' n Q=>if e'==e&&n==bg z&&l.length==n&&Nat.blt 0 n then some (some (jt (ar Q) inf.bytes),.sa res.length,aL [j] res++ [.que e n (bf Q (aI l))])else none
              |_=>none
            |_=>none
           |none=>none
         |_=>none
        |none=>none
      |_=>none)else none
    |_=>none
   |none=>none
  |none=>none
 |_=>none
def IY (P:Program) (res:List ae) (t:Nat) (x:V) (lo:V):Option (Option Prop×V×List ae):=
 match P.underlying t with
 |some (.slice e)=>match gz P e with
  |some z=>match x with
   | .sa j=>match aa res j with
     | .que e' n Q=>match lo with
       | .ci k a=>if a==1&&n==z then some (some (HI Q),.sa res.length,aL [j] res++ [.que e' n (ra Q)])else none
       |_=>none
     |_=>none
   |_=>none
  |none=>none
 |_=>none
section
variable {C:Ctx} {J:Env} {fps:Nat->Nat->Prop} {res:List ae} {w0 w:World} {F0:Nat->Prop}
theorem mO {w:World} {base e size n:Nat} {v:Value} {xs:List Value} (h:w.ownsRow base e size v n xs):oP w e size v n xs:=by
 refine⟨h.1,?_⟩;rcases h.2 with h0|⟨g,cap,cur,h1,h2,h3,h4,h5,h6,h7⟩
 ·exact .inl h0
 ·exact .inr ⟨g,0,cap,cur,h1,h3,h4,h5,by omega,by simpa using h7⟩
theorem uK {P:Program} (w:World) (t ty e:TypeId) (i:TypeInfo) (ht:P.underlying t=some (.slice e)) (hi:P.info? e=some i)
  (g off sLen sCap:Nat) (cur:Array Value) (hg:w.heap[g]? =some (.cells cur e (0,0)))
  (a:Addr) (m c:Nat) (news:List Value) (hl:news.length=m*i.size) (hnews:∀j u,news[j]? =some u->w.cell? (a.add j)=some u) (h1:∀u∈news,u.oneCell'=true)
  (hroom:sLen+m<=sCap) (hfit:off+sLen*i.size+news.length<=cur.size):
  (Builtin.append_ #[t,t] ty #[.slice (some ⟨g,off,none⟩) sLen sCap,.slice (some a) m c]).run P w=
   .ok (.slice (some ⟨g,off,none⟩) (sLen+m) sCap) (w.setRow g (cur.toList.take (off+sLen*i.size)++news++cur.toList.drop (off+sLen*i.size+news.length)).toArray):=by
 have hf:=run_firstCells_some (P:=P) w i.size m a m c news hl hnews;have hst:=run_storeCells_at P g (off+sLen*i.size) e news 0 cur w hg (by simpa using hfit) h1
 simp only[Nat.add_zero]at hst;simp[Builtin.append_,run_underlying ht,sizeOf,typeInfo,hi,Builtin.lenOf,hroom,hf,Addr.add_lit,hst]
theorem AE {P:Program} {w:World} {t ty e:TypeId} {i:TypeInfo} {z:Value} {size bytes:Nat} (ht:P.underlying t=some (.slice e)) (hi:P.info? e=some i) (hz:i.zero=some z)
  (hsize:i.size=size) (hby:i.bytes=bytes) (hzs:z.cells.size=size) (hsz:0<size) {v:Value} {n:Nat} {xs:List Value} (hown:oP w e size v n xs)
  (a:Addr) (c:Nat) (news:List Value) (hl:news.length=1*size) (hnews:∀j u,news[j]? =some u->w.cell? (a.add j)=some u) (h1:∀u∈news,u.oneCell'=true)
  (hq:jt n bytes):
  ∃v' w',(Builtin.append_ #[t,t] ty #[v,.slice (some a) 1 c]).run P w= .ok v' w'/\oP w' e size v' (n+1) (xs++news)/\w.grownBy w' v.ownBlock/\∀b',v'.ownBlock=some b'->v.ownBlock=some b'\/(w.heap.size<=b'/\b'<w'.heap.size):=by
 rcases hown.2 with⟨rfl,rfl⟩|⟨g,off,cap,cur,rfl,hg,hnc,hcm,hcs,htake⟩
 ·have hx:xs= []:=List.eq_nil_of_length_eq_zero (by simpa using hown.1)
  subst hx
  obtain⟨v',w',g1,g2,g3,_⟩:=run_append_own (P:=P) w w.heap.size t ty e i z size bytes ht hi hz hsize hby hzs hsz (.slice none 0 0) 0 [] (World.ownsRow_nil w _ e _)
   a 1 c news hl hnews h1 hq.1 hq.2 (Nat.le_refl _)
  exact⟨v',w',g1,mO g2,g3,fun b' hb'=> .inr (g2.lt b' hb')⟩
 ·by_cases hroom:n+1<=cap
  ·subst hsize
   have hfit:off+n*i.size+news.length<=cur.size:=by
    rw[hl,Nat.add_assoc,<-Nat.add_mul];exact Nat.le_trans (Nat.add_le_add_left (Nat.mul_le_mul_right _ hroom) _) hcs
   have hr:=uK (P:=P) w t ty e i ht hi g off n cap cur hg a 1 c news hl hnews h1 hroom hfit;refine⟨_,_,hr,⟨by rw[List.length_append,hown.1,hl,Nat.add_mul],.inr ⟨g,off,cap,_,rfl,setRow_heap w g cur _ e _ hg,hroom,hcm,?_,?_⟩⟩,⟨rfl,rfl,rfl,by simp[World.setRow],fun k _ hk=>setRow_other w g _ k (fun e=>hk (by simp[Value.ownBlock,e]))⟩,fun b' hb'=> .inl hb'⟩
   ·simp only[List.size_toArray,List.length_append,List.length_take,List.length_drop,Array.length_toList];omega
   ·have hlen:cur.toList.length=cur.size:=Array.length_toList
    have e1:(cur.toList.take (off+n*i.size)).drop off=xs:=by
     rw[List.drop_take,Nat.add_sub_cancel_left];exact htake
    have e2:(cur.toList.take (off+n*i.size)++news++cur.toList.drop (off+n*i.size+news.length)).drop off=xs++news++cur.toList.drop (off+n*i.size+news.length):=by
     rw[List.append_assoc,List.drop_append_of_le_length (by rw[List.length_take,hlen];omega),e1,List.append_assoc]
    simp only[List.append_assoc]at e2⊢;rw[e2,<-List.append_assoc];exact List.take_left' (by rw[List.length_append,hown.1,hl,Nat.add_mul])
  ·have hcur:∀j u,xs[j]? =some u->w.cell? ((⟨g,off,none⟩:Addr).add j)=some u:=fun j u hu=>by
    have hj:=(List.getElem?_eq_some_iff.1 hu).1;rw[add_lit,cell_of_row w g _ cur e (0,0) hg,<-hu,<-htake,List.getElem?_take_of_lt (by rw[<-hown.1];exact hj),List.getElem?_drop,Array.getElem?_toList]
   obtain⟨v',w',g1,g2,g3⟩:=run_append_arg_grows (P:=P) w t ty e i z size bytes ht hi hz hsize hby hzs hsz ⟨g,off,none⟩ n cap xs hown.1 hcur a 1 c news hl hnews (by omega) hq.1 hq.2
   exact⟨v',w',g1,mO g2,⟨g3.os,g3.tape,g3.output,g3.size,fun k hk _=>g3.block k hk (by simp)⟩,fun b' hb'=> .inr (g2.lt b' hb')⟩
def Env.gA (J:Env) (i:Nat) (a:Option Addr) (n cap:Nat):Env:=
 {J with cap:=fun j=>if j=i then cap else J.cap j,adr:=fun j=>if j=i then a.getD ⟨0,0,none⟩else J.adr j,sa:=fun j=>if j=i then a else J.sa j,sn:=fun j=>if j=i then n else J.sn j}
theorem lE {N:Nat->Prop} {i:Nat} {a:Option Addr} {n cap:Nat} (h:¬N i):Env.agree N J (J.gA i a n cap):=fun j hj=>by
 have:j≠i:=fun e=>h (e▸hj)
 simp[Env.gA,this]
theorem sf {e size n:Nat} {v:Value} {xs:List Value} (h:oP w e size v n xs):∃a cap,v= .slice a n cap/\(∀x,a=some x->x.spot=none/\v.ownBlock=some x.block)/\(0<n->a.isSome=true):=by
 rcases h.2 with⟨rfl,rfl⟩|⟨g,off,cap,cur,rfl,_⟩
 ·exact⟨_,_,rfl,fun x hx=>by simp at hx,fun h=>by omega⟩
 ·exact⟨_,_,rfl,fun x hx=>by simp only[JP]at hx;subst hx;exact⟨rfl,rfl⟩,fun _=>rfl⟩
theorem sM {K:Nat->Prop} {e n:Nat} {v:Value} {Q:List (List Int)} (h:oP w e n v Q.length (dn Q)) (hQ:zK n Q) (hm:Q.length<=9223372036854775807):
  ∃a cap,v= .slice a Q.length cap/\∀(J:Env) (i:Nat) (fp:Nat->Prop) (w1:World) (F1:Nat->Prop),(∀b,v.ownBlock=some b->fp b)->(ae.que e n Q).holds K (J.gA i a Q.length cap) i fp w1 F1 w:=by
 obtain⟨a,cap,rfl,h1,h2⟩:=sf h;refine⟨a,cap,rfl,fun J i fp w1 F1 hf=>⟨hQ,by simp[Env.gA],hm,fun x hx=>?_,fun h=>by simpa[Env.gA]using h2 h,by simpa[Env.sl,Env.gA]using h⟩⟩
 simp only[Env.gA,if_true]at hx⊢;subst hx;exact⟨rfl,(h1 x rfl).1,hf _ (h1 x rfl).2⟩
theorem yT {t ty:Nat} {x y r:V} {q:Option Prop} {res':List ae} (hC:C.tO) (h:an J fps res (known res) w0 F0 w) (ha:FO C res t x y=some (q,r,res')) (hq:aN q) (hx:ok (known res) x):
  ∃w' ρ' fps',(Builtin.append_ #[t,t] ty #[den J x,den J y]).run C.P w= .ok (den ρ' r) w'/\an ρ' fps' res' (known res') w0 F0 w'/\Env.agree (known res) J ρ'/\(∀i,known res i->known res' i)/\ok (known res') r:=by
 unfold FO at ha;split at ha
 case h_2=>simp at ha
 rename_i e ht;split at ha
 case h_2=>simp at ha
 rename_i z hZ;split at ha
 case h_2=>simp at ha
 rename_i inf hi;split at ha
 case h_2=>simp at ha
 rename_i k m cap;split at ha
 case isFalse=>simp at ha
 rename_i hm;have hm:=JT.1 hm;subst hm;split at ha
 case h_2=>simp at ha
 rename_i bty c hk;split at ha
 case h_2=>simp at ha
 rename_i v hg;split at ha
 case h_2=>simp at ha
 rename_i xl;split at ha
 case h_2=>simp at ha
 rename_i l hl;split at ha
 case h_2=>simp at ha
 rename_i j;split at ha
 case h_2=>simp at ha
 rename_i e' n Q hj;split at ha<;>simp only[JP,JQ,reduceCtorEq]at ha
 rename_i hc;simp only[JR,JT]at hc;obtain⟨⟨⟨rfl,rfl⟩,hln⟩,hsz⟩:=hc;have hsz:0<bg z:=by simpa using hsz
 obtain⟨rfl,rfl,rfl⟩:=ha;obtain⟨inf',i1,i2,i3,i4,i5⟩:=hC e' z hZ;rw[hi]at i1;simp only[JP]at i1;subst i1;have hkk:=h.holds k (by unfold known;rw[hk];simp)
 rw[hk]at hkk;obtain⟨c1,c2,c3,c4⟩:=hkk;obtain⟨⟨p,p',e1,e2⟩,e3,e4,e5,e6⟩:=ba J 8 c 0 _ _ _ c1 c2 hg;have hp:p= []:=List.length_eq_zero_iff.1 e2.symm;subst hp;simp only[List.nil_append]at e1;obtain⟨d1,d2⟩:=fT (J:=J) hl e5.1;have hin:=lY hl e5.1;have hcl:cells J (.ag xl)=(aI l).map i64:=by unfold cells;rw[d1];simp[bP,Value.cells]
 have hzs:(den Env.zero z).cells.size=bg z:=by rw[<-ak Env.zero z i3];simp[cells]
 have hnl:(cells J (.ag xl)).length=1*bg z:=by rw[hcl,List.length_map,d2,hln,Nat.one_mul]
 have hnc:∀j u,(cells J (.ag xl))[j]? =some u->w.cell? ((⟨J.num k,0,none⟩:Addr).add j)=some u:=fun j u hu=>by
  rw[add_lit,Nat.zero_add,cell_of_row w _ j _ _ _ c4];have hj:=(List.getElem?_eq_some_iff.1 hu).1;simp only[List.getElem?_toArray,e1];rw[List.getElem?_append_left hj];exact hu
 have hone:=b6 J (.ag xl) e5 e6;have hkj:known res j:=by unfold known;rw[hj];simp
 have hjj:=h.holds j hkj;rw[hj]at hjj;obtain⟨a1,a2,a3,a4,a5,a6⟩:=hjj;obtain⟨v',w',g1,g2,g3,g4⟩:=AE (P:=C.P) (ty:=ty) ht hi (i2 Env.zero) i5 rfl hzs hsz a6 ⟨J.num k,0,none⟩ cap (cells J (.ag xl)) hnl hnc hone hq
 have hQ':zK (bg z) (Q++ [aI l]):=fun y hy=>by
  rcases List.mem_append.1 hy with hy|hy
  ·exact a1 y hy
  ·simp only[List.mem_singleton]at hy;subst hy;exact⟨by rw[d2,hln],hin⟩
 have hlen:(Q++ [aI l]).length=Q.length+1:=by simp
 have g2:oP w' e' (bg z) v' (Q++ [aI l]).length (dn (Q++ [aI l])):=by
  rw[hlen];have:dn (Q++ [aI l])=dn Q++cells J (.ag xl):=by rw[hcl];simp[dn]
  rw[this];exact g2
 have hfit:(Q++ [aI l]).length<=9223372036854775807:=by rw[hlen];exact kr hq.1
 obtain⟨a',cap',rfl,hh⟩:=sM (K:=known (aL [j] res++ [.que e' (bg z) (Q++ [aI l])])) g2 hQ' hfit;have hnk:¬known res res.length:=fun hk=>by have:=ai hk;omega
 have hxb:∀b,(J.sl j).ownBlock=some b->fps j b:=fun b hb=>by
  cases hs:J.sa j with
  |none=>simp[Env.sl,hs,Value.ownBlock]at hb
  |some a=>
   simp only[Env.sl,hs,Value.ownBlock,JP]at hb;rw[<-hb];exact(a4 a hs).2.2
 obtain⟨fps',f1,f2,f3,f4⟩:=h.km (ρ':=J.gA res.length a' (Q++ [aI l]).length cap') (w':=w') [j] (.que e' (bg z) (Q++ [aI l])) [] (fun b=>(Value.slice a' (Q++ [aI l]).length cap').ownBlock=some b) (by simp) (by simpa using hkj) (by simp) (lE hnk)
  (hh J res.length _ w0 F0 fun b hb=>hb)
  (fun b hb=>by
   rcases g4 b hb with h1|h1
   ·exact .inl ⟨j,by simp,hxb b h1⟩
   ·exact .inr h1)
  g3.os g3.tape g3.output g3.size (fun b hbl hno=>g3.block b hbl fun hh=>hno j (by simp) (hxb b hh.symm))
 exact⟨w',_,fps',by
  rw[show den (J.gA res.length a' (Q++ [aI l]).length cap') (.sa res.length)= .slice a' (Q++ [aI l]).length cap' by simp[den,Env.gA]]
  exact g1,f1,f2,f3,f4⟩
theorem zT {P:Program} {t:Nat} {x lo r:V} {q:Option Prop} {res':List ae} (h:an J fps res (known res) w0 F0 w) (ha:IY P res t x lo=some (q,r,res')) (hq:aN q):
  ∃ρ' fps',(Instr.sliceAt t (den J x) (some (den J lo)) none none).run P w= .ok (den ρ' r) w/\an ρ' fps' res' (known res') w0 F0 w/\Env.agree (known res) J ρ'/\(∀i,known res i->known res' i)/\ok (known res') r:=by
 unfold IY at ha;split at ha
 case h_2=>simp at ha
 rename_i e ht;split at ha
 case h_2=>simp at ha
 rename_i z hz;split at ha
 case h_2=>simp at ha
 rename_i j;split at ha
 case h_2=>simp at ha
 rename_i e' n Q hj;split at ha
 case h_2=>simp at ha
 rename_i k a;split at ha<;>simp only[JP,JQ,reduceCtorEq]at ha
 rename_i hc;simp only[JR,JT]at hc;obtain⟨rfl,rfl⟩:=hc;obtain⟨rfl,rfl,rfl⟩:=ha;have hq:1<=Q.length:=hq;have hkj:known res j:=by unfold known;rw[hj];simp
 have hjj:=h.holds j hkj;rw[hj]at hjj;obtain⟨a1,a2,a3,a4,a5,a6⟩:=hjj;cases Q with
 |nil=>simp at hq
 |cons y Q=>
 have hQ':zK n Q:=fun y hy=>a1 y (by simp[hy])
 have hnk:¬known res res.length:=fun hk=>by have:=ai hk;omega
 have hxb:∀b,(J.sl j).ownBlock=some b->fps j b:=fun b hb=>by
  cases hs:J.sa j with
  |none=>simp[Env.sl,hs,Value.ownBlock]at hb
  |some a=>
   simp only[Env.sl,hs,Value.ownBlock,JP]at hb;rw[<-hb];exact(a4 a hs).2.2
 have hxl:=(a1 y (by simp)).1
 rcases a6.2 with⟨_,h0⟩|⟨g,off,cap,cur,f1,f2,f3,f4,f5,f6⟩
 ·simp at h0
 simp only[List.length_cons]at f1 f3 f6
 have hrow:oP w e' n (.slice (if cap=1 then some ⟨g,off,none⟩else some ⟨g,off+n,none⟩) Q.length (cap-1)) Q.length (dn Q):=by
  refine⟨pM hQ',.inr ?_⟩
  have ht:(dn Q)=((dn (y::Q)).drop n):=by
   show _=((y.map i64)++dn Q).drop n
   rw[List.drop_append_of_le_length (by simp[hxl]),List.drop_of_length_le (by simp[hxl])];rfl
  by_cases hc:cap=1
  ·subst hc;have:Q= []:=List.length_eq_zero_iff.1 (by omega)
   subst this;exact⟨g,off,0,cur,by simp,f2,by simp,by simp[maxLen],by omega,by simp[dn]⟩
  ·obtain⟨c,rfl⟩:∃c,cap=c+1:=⟨cap-1,by omega⟩
   refine⟨g,off+n,c,cur,by rw[JX hc];rfl,f2,by omega,by omega,by rw[Nat.succ_mul]at f5;omega,?_⟩
   rw[ht,<-f6,List.drop_take,List.drop_drop,Nat.succ_mul,Nat.add_sub_cancel]
 obtain⟨a',cap',hv,hh⟩:=sM (K:=known (aL [j] res++ [.que e' n Q])) hrow hQ' (by simp at a3;omega)
 have hsub:∀b,(Value.slice (if cap=1 then some ⟨g,off,none⟩else some ⟨g,off+n,none⟩) Q.length (cap-1)).ownBlock=some b->fps j b:=fun b hb=>by
  refine hxb b ?_;rw[f1];rw[<-hb];by_cases hc:cap=1
  ·rw[JY hc];rfl
  ·rw[JX hc];rfl
 obtain⟨fps',p1,p2,p3,p4⟩:=h.km (ρ':=J.gA res.length a' Q.length cap') (w':=w) [j] (.que e' n Q) [] (fun b=>fps j b) (by simp) (by simpa using hkj) (by simp) (lE hnk)
  (hh J res.length _ w0 F0 fun b hb=>hsub b hb)
  (fun b hb=> .inl ⟨j,by simp,hb⟩) rfl rfl rfl (Nat.le_refl _) (fun _ _ _=>rfl)
 refine⟨_,fps',?_,p1,p2,p3,p4⟩;rw[show den (J.gA res.length a' Q.length cap') (.sa res.length)= .slice a' Q.length cap' by simp[den,Env.gA],<-hv]
 show(Instr.sliceAt t (J.sl j) (some (.int k 1)) none none).run P w=_
 rw[f1]
 have hb:(Instr.sliceBounds true (Q.length+1) cap (some (.int k 1)) none none).run P w= .ok (1,Q.length+1,cap) w:=by
  have h1:(1:Int)<=((Q.length+1:Nat):Int):=by omega
  have h2:=run_sliceBound (P:=P) w k 1 (Q.length+1) .sliceB (by omega) h1
  simp[Instr.sliceBounds,h2]
 simp only[Instr.sliceAt,Instr.slice,Sem.run_bind,au w ht,Result.andThen_ok,hb,bQ w hz,Sem.run_pure,Nat.one_mul,Nat.add_sub_cancel,Option.map_some,Addr.add_lit]
def uf {α:Type} (a b:List α):List α:=a++b
def GN (n m b:Nat):Prop:=n+m<=maxLen/\(n+m)*b<=140737488355328
def uO (a b:TL):Option TL:=
 match a with
 | .qs n Q=>match b with
   | .qs n' Q'=>if n==n' then some (.qs n (uf Q Q'))else none
   |_=>none
 | .it k L=>match b with
   | .it k' L'=>if k==k' then some (.it k (uf L L'))else none
   |_=>none
 |_=>none
theorem qB {a b l:TL} (h:uO a b=some l):l.len=a.len+b.len/\(∀i,i<a.len->l.get i=a.get i)/\∀i,i<b.len->l.get (a.len+i)=b.get i:=by
 unfold uO at h;split at h
 ·split at h
  case h_2=>simp at h
  split at h<;>simp only[JP,reduceCtorEq]at h
  subst h;rename_i n Q _ n' Q' hn;have hn:=JT.1 hn;subst hn;refine⟨by simp[TL.len,ar,uf],fun i hi=>?_,fun i hi=>?_⟩
  ·simp only[TL.get];have e:(Q++Q').getD i []=Q.getD i []:=by rw[JW,List.getElem?_append_left hi,<-JW]
   exact congrArg V.ag (oZ (fun c=>by unfold cM uf;rw[e]) n 0)
  ·simp only[TL.get];have e:(Q++Q').getD (Q.length+i) []=Q'.getD i []:=by rw[JW,List.getElem?_append_right (by omega),Nat.add_sub_cancel_left,<-JW]
   exact congrArg V.ag (oZ (fun c=>by unfold cM uf;exact congrArg (fun l=>List.getD l c 0) e) n 0)
 ·split at h
  case h_2=>simp at h
  split at h<;>simp only[JP,reduceCtorEq]at h
  subst h;rename_i k L _ k' L' hk;have hk:=JT.1 hk;subst hk;refine⟨by simp[TL.len,ar,uf],fun i hi=>?_,fun i hi=>?_⟩
  ·simp only[TL.get,aB,uf];rw[JW,List.getElem?_append_left hi,<-JW]
  ·simp only[TL.get,aB,uf,TL.len,ar];rw[JW,List.getElem?_append_right (by omega),Nat.add_sub_cancel_left,<-JW]
 ·simp at h
theorem ur {a b l:TL} (h:uO a b=some l):l.cells=a.cells++b.cells:=by
 obtain⟨h1,h2,h3⟩:=qB h;unfold TL.cells;rw[h1,List.range_add,List.flatMap_append];congr 1
 ·rw[List.flatMap_def,List.flatMap_def];exact congrArg _ (List.map_congr_left fun i hi=>by rw[h2 i (List.mem_range.1 hi)])
 ·rw[List.flatMap_def,List.flatMap_def,List.map_map];exact congrArg _ (List.map_congr_left fun i hi=>by simp only[Function.comp];rw[h3 i (List.mem_range.1 hi)])
theorem xD {w':World} {e esz:Nat} {l':TL} {v':Value} {ts:List Nat} (h:an J fps res (known res) w0 F0 w) (hts:∀t∈ts,known res t)
  (hold:∀j,j<l'.len->ok (fun _=>False) (l'.get j)/\aP (l'.get j)=false/\bg (l'.get j)=esz) (hown:w'.ownsRow 0 e esz v' l'.len l'.cells) {xv:Value} (hgr:w.grownBy w' xv.ownBlock)
  (hx:∀b,xv.ownBlock=some b->∃t∈ts,fps t b) (hnew:∀b,v'.ownBlock=some b->xv.ownBlock=some b\/(w.heap.size<=b/\b<w'.heap.size)) (hm:l'.len<=9223372036854775807):
  ∃ρ' fps',v'=den ρ' (.sa res.length)/\an ρ' fps' (aL ts res++ [.arr (some e) esz l']) (known (aL ts res++ [.arr (some e) esz l'])) w0 F0 w'/\Env.agree (known res) J ρ'/\
   (∀i,known res i->known (aL ts res++ [.arr (some e) esz l']) i)/\known (aL ts res++ [.arr (some e) esz l']) res.length:=by
 have hf:∃a cap,v'= .slice a l'.len cap/\(∀x,a=some x->x.spot=none/\v'.ownBlock=some x.block)/\(0<l'.len->a.isSome=true):=by
  rcases hown.2 with⟨rfl,h0⟩|⟨g,cap,cur,rfl,_⟩
  ·exact⟨_,_,by rw[h0],fun x hx=>by simp at hx,fun h=>by omega⟩
  ·exact⟨_,_,rfl,fun x hx=>by simp only[JP]at hx;subst hx;exact⟨rfl,rfl⟩,fun _=>rfl⟩
 obtain⟨a,cap,hv,h1,h2⟩:=hf;have hnk:¬known res res.length:=fun hk=>by have:=ai hk;omega
 obtain⟨fps',g1,g2,g3,g4⟩:=h.km (ρ':=J.gA res.length a l'.len cap) (w':=w') ts (.arr (some e) esz l') [] (fun x=>v'.ownBlock=some x) (by simp) hts (by simp) (lE hnk)
  (by
   refine⟨hold,by simp[Env.gA],hm,fun x hx=>by simp[Env.gA]at hx⊢;simp[hx],fun h=>by simpa[Env.gA]using h2 h,fun h=>?_,.inr ⟨e,fun e' he=>by simpa using he.symm,?_,fun x hx=>?_⟩⟩
   ·have:=h2 h;cases ha:a with
    |none=>rw[ha]at this;simp at this
    |some x=>simp[Env.gA];exact(h1 x ha).1
   ·rw[show(J.gA res.length a l'.len cap).sl res.length=v' by rw[hv];simp[Env.sl,Env.gA]]
    exact hown
   ·simp only[Env.gA,if_true]at hx;exact(h1 x hx).2)
  (fun x hx'=>by
   rcases hnew _ hx' with h1|h1
   ·exact .inl (hx _ h1)
   ·exact .inr h1)
  hgr.os hgr.tape hgr.output hgr.size (fun x hxl hno=>hgr.block x hxl fun hh=>by
   obtain⟨t,ht,hft⟩:=hx x hh.symm;exact hno t ht hft)
 exact⟨_,fps',by rw[hv];simp[den,Env.gA],g1,g2,g3,g4⟩
def D8 (C:Ctx) (res:List ae) (t:Nat) (x y:V):Option (Option Prop×V×List ae):=
 match Dk res y with
 |some (q,esz,l2)=>match C.P.underlying t with
  |some (.slice e)=>match C.Z e with
   |some z=>match C.P.info? e with
    |some inf=>match x with
     | .sa j=>match aa res j with
       | .arr own esz' l=>match own with
         |some e'=>if e'==e&&esz'==esz&&esz==bg z&&Nat.blt 0 esz then(uO l l2).map fun l'=>(CH q (GN l.len l2.len inf.bytes),.sa res.length,aL [j] res++ [.arr (some e) esz l'])else none
         |none=>none
       |_=>none
     |_=>none
    |none=>none
   |none=>none
  |_=>none
 |none=>none
theorem r7 {t ty:Nat} {x y r:V} {q:Option Prop} {res':List ae} (hC:C.tO) (h:an J fps res (known res) w0 F0 w) (ha:D8 C res t x y=some (q,r,res')) (hq:aN q):
  ∃w' ρ' fps',(Builtin.append_ #[t,t] ty #[den J x,den J y]).run C.P w= .ok (den ρ' r) w'/\an ρ' fps' res' (known res') w0 F0 w'/\Env.agree (known res) J ρ'/\(∀i,known res i->known res' i)/\ok (known res') r:=by
 unfold D8 at ha;split at ha
 case h_2=>simp at ha
 rename_i q' esz l2 hsrc;split at ha
 case h_2=>simp at ha
 rename_i e ht;split at ha
 case h_2=>simp at ha
 rename_i z hZ;split at ha
 case h_2=>simp at ha
 rename_i inf hi;split at ha
 case h_2=>simp at ha
 rename_i j;split at ha
 case h_2=>simp at ha
 rename_i own esz' l hj;split at ha
 case h_2=>simp at ha
 rename_i e';split at ha
 case isFalse=>simp at ha
 rename_i hc;simp only[JR,JT]at hc;obtain⟨⟨⟨rfl,rfl⟩,rfl⟩,hsz⟩:=hc;have hsz:0<bg z:=by simpa using hsz
 cases hl:uO l l2 with
 |none=>simp[hl]at ha
 |some l'=>
 simp only[hl,Option.map_some,JP,JQ]at ha;obtain⟨rfl,rfl,rfl⟩:=ha;obtain⟨q0,q1,q2⟩:=uU.1 hq;obtain⟨inf',i1,i2,i3,i4,i5⟩:=hC e' z hZ;rw[hi]at i1;simp only[JP]at i1;subst i1;have hzs:(den Env.zero z).cells.size=bg z:=by rw[<-ak Env.zero z i3];simp[cells]
 obtain⟨s1,s3,ao,cap,hd,hsome,hcell⟩:=ve h hsrc q0;obtain⟨c1,c2,c3⟩:=qB hl;have hkj:known res j:=by unfold known;rw[hj];simp
 have hjj:=h.holds j hkj;rw[hj]at hjj;obtain⟨a1,a2,a3,a4,a5,a6,a7⟩:=hjj;rcases a7 with⟨b1,_⟩|⟨e2,b1,b2,b3⟩
 ·simp at b1
 have:=b1 e' rfl;subst this
 have hold:∀i,i<l'.len->ok (fun _=>False) (l'.get i)/\aP (l'.get i)=false/\bg (l'.get i)=bg z:=fun i hi=>by
  by_cases h1:i<l.len
  ·rw[c2 i h1];exact a1 i h1
  ·obtain⟨m,rfl⟩:∃m,i=l.len+m:=⟨i-l.len,by omega⟩
   rw[c3 m (by omega)];exact s1 m (by omega)
 have hxb:∀b,(J.sl j).ownBlock=some b->∃t∈ [j],fps t b:=fun b hb=>by
  refine⟨j,by simp,?_⟩
  cases hs:J.sa j with
  |none=>simp[Env.sl,hs,Value.ownBlock]at hb
  |some a=>
   simp only[Env.sl,hs,Value.ownBlock,JP]at hb;rw[<-hb];exact b3 a hs
 have hm:l'.len<=9223372036854775807:=by rw[c1];exact kr q1
 have hl2:l2.cells.length=l2.len*bg z:=nQ fun i hi=>by rw[ak Env.zero _ (s1 i hi).1];exact(s1 i hi).2.2
 have hone:∀u∈l2.cells,u.oneCell'=true:=fun u hu=>by
  grind[TL.cells,b6,Env.zero]
 have main:∃v' w',(Builtin.append_ #[t,t] ty #[den J (.sa j),den J y]).run C.P w= .ok v' w'/\w'.ownsRow 0 e' (bg z) v' l'.len l'.cells/\w.grownBy w' (J.sl j).ownBlock/\∀b',v'.ownBlock=some b'->(J.sl j).ownBlock=some b'\/(w.heap.size<=b'/\b'<w'.heap.size):=by
  rw[c1,ur hl,hd];show∃v' w',(Builtin.append_ #[t,t] ty #[J.sl j,_]).run C.P w= .ok v' w'/\_
  cases hs:ao with
  |none=>
   have h0:l2.len=0:=by
    rcases Nat.eq_zero_or_pos l2.len with h|h
    ·exact h
    ·have:=hsome h;rw[hs]at this;simp at this
   have hxs:l2.cells= []:=List.length_eq_zero_iff.1 (by rw[hl2,h0];simp)
   refine⟨J.sl j,w,?_,by rw[h0,hxs,Nat.add_zero,List.append_nil];exact b2,⟨rfl,rfl,rfl,Nat.le_refl _,fun _ _ _=>rfl⟩,fun b' hb'=> .inl hb'⟩
   rw[h0];rcases b2.2 with⟨hv,hz⟩|⟨g,cap',cur,hv,_,_,hn,_⟩
   ·rw[hv];simp[Builtin.append_,au w ht,Builtin.lenOf,Builtin.firstCells,sizeOf,typeInfo,hi]
   ·rw[hv];simp[Builtin.append_,au w ht,Builtin.lenOf,Builtin.firstCells,sizeOf,typeInfo,hi,hn,storeCells]
  |some a=>
   have hnc:=hcell a hs;rcases b2.2 with⟨hv,hz⟩|⟨g,cap',cur,hv,_,hg,hn,hcm,hcs,htk⟩
   ·have hx:l.cells= []:=List.length_eq_zero_iff.1 (by have:=b2.1;rw[hz]at this;simpa using this)
    rw[hv,hz,hx,Nat.zero_add,List.nil_append]
    obtain⟨v',w',r1,r2,r3,_⟩:=run_append_own (P:=C.P) w w.heap.size t ty e' inf (den Env.zero z) (bg z) inf.bytes ht hi (i2 Env.zero) i5 rfl hzs hsz (.slice none 0 0) 0 [] (World.ownsRow_nil w _ e' _)
     a l2.len cap l2.cells hl2 hnc hone (by have:=q1;omega) (Nat.le_trans (Nat.mul_le_mul_right _ (by omega)) q2) (Nat.le_refl _)
    simp only[Nat.zero_add,List.nil_append]at r2;exact⟨v',w',r1,⟨r2.1,r2.2.imp id fun⟨g,cp,cu,a1,a2,a3⟩=>⟨g,cp,cu,a1,Nat.zero_le _,a3⟩⟩,r3,fun b' hb'=> .inr (r2.lt b' hb')⟩
   ·by_cases hroom:l.len+l2.len<=cap'
    ·have b2':=b2;rw[hv]at b2'⊢;obtain⟨w',r1,r2,r3⟩:=run_append_fits (P:=C.P) w 0 t ty e' inf (bg z) ht hi i5 g l.len cap' l.cells b2' a l2.len cap l2.cells hl2 hnc hone hroom;exact⟨_,w',r1,r2,r3,fun b' hb'=> .inl hb'⟩
    ·have holds:∀j u,l.cells[j]? =some u->w.cell? ((⟨g,0,none⟩:Addr).add j)=some u:=fun k u hu=>by
      rw[add_lit,Nat.zero_add];have b2':=b2;rw[hv]at b2';rw[b2'.cellAt k (by rw[<-b2'.1];exact(List.getElem?_eq_some_iff.1 hu).1)];exact hu
     rw[hv];obtain⟨v',w',r1,r2,r3⟩:=run_append_arg_grows (P:=C.P) w t ty e' inf (den Env.zero z) (bg z) inf.bytes ht hi (i2 Env.zero) i5 rfl hzs hsz ⟨g,0,none⟩ l.len cap' l.cells b2.1 holds a l2.len cap l2.cells hl2 hnc (by omega) q1 q2
     exact⟨v',w',r1,⟨r2.1,r2.2.imp id fun⟨g,cp,cu,a1,a2,a3⟩=>⟨g,cp,cu,a1,Nat.zero_le _,a3⟩⟩,⟨r3.os,r3.tape,r3.output,r3.size,fun k hk _=>r3.block k hk (by simp)⟩,fun b' hb'=> .inr (r2.lt b' hb')⟩
 obtain⟨v',w',g1,g2,g3,g4⟩:=main;obtain⟨ρ',fps',f1,f2,f3,f4,f5⟩:=xD h (by simpa using hkj) hold g2 g3 hxb g4 hm
 exact⟨w',ρ',fps',by rw[<-f1];exact g1,f2,f3,f4,f5⟩
end
end Go.Sx
namespace Go.Sx
open Go.RowKit (Below)
section
variable {J:Env} {fps:Nat->Nat->Prop} {res:List ae} {w0 w:World} {F0:Nat->Prop} {C:Ctx}
def Fc (res:List ae) (x:V):Option (List ae):=
 match x with
 | .sc k n cap=>match aa res k with
   | .blk e c=>match c with
     | .ag xl=>match ez xl with
       |some l=>if n==l.length&&cap==n&&Nat.ble n 1000 then some (aL [k] res++ [.arr (some e) 1 (.it .i64 (aI l))])else none
       |none=>none
     |_=>none
   |_=>none
 |_=>none
theorem B9 (L:List Int):(TL.it .i64 L).cells=L.map i64:=by
 unfold TL.cells;show(List.range L.length).flatMap (fun j=> [i64 (aB L j 0)])=_
 rw[<-List.map_eq_flatMap];refine List.ext_getElem (by simp) fun i h1 h2=>?_
 have hi:i<L.length:=by simpa using h2
 simp[aB,JW,hi]
theorem za {x:V} {res':List ae} (h:an J fps res (known res) w0 F0 w) (hl:Fc res x=some res'):
  ∃ρ' fps',den J x=den ρ' (.sa res.length)/\an ρ' fps' res' (known res') w0 F0 w/\Env.agree (known res) J ρ'/\(∀i,known res i->known res' i)/\known res' res.length:=by
 unfold Fc at hl;split at hl
 case h_2=>simp at hl
 rename_i k n cap;split at hl
 case h_2=>simp at hl
 rename_i e c hr;split at hl
 case h_2=>simp at hl
 rename_i xl;split at hl
 case h_2=>simp at hl
 rename_i l hxl;split at hl
 case isFalse=>simp at hl
 rename_i hc;simp only[JR,JT,Nat.ble_eq]at hc;obtain⟨⟨h1,rfl⟩,h2⟩:=hc;simp only[JP]at hl;subst hl;have hk:known res k:=by unfold known;rw[hr];simp
 have hh:=h.holds k hk;rw[hr]at hh;obtain⟨b1,_,b3,b4⟩:=hh;obtain⟨d1,d2⟩:=fT (J:=J) hxl b1.1;have hin:=lY hxl b1.1;have hcl:cells J (.ag xl)=(aI l).map i64:=by unfold cells;rw[d1];simp[bP,Value.cells]
 have hlen:(aI l).length=cap:=by rw[d2,h1]
 have hTl:(TL.it .i64 (aI l)).len=cap:=hlen;rw[hcl]at b4;have hv:den J (.sc k cap cap)= .slice (some ⟨J.num k,0,none⟩) cap cap:=rfl;rw[hv];refine xD (w':=w) (ts:= [k]) (xv:= .slice (some ⟨J.num k,0,none⟩) cap cap) h (by simpa using hk) (fun j hj=>?_) ?_ ⟨rfl,rfl,rfl,Nat.le_refl _,fun _ _ _=>rfl⟩ (fun b hb=>⟨k,by simp,?_⟩) (fun b hb=> .inl hb) (by rw[hTl];omega)
 ·refine⟨?_,rfl,rfl⟩;rw[hTl]at hj;have hj':j<(aI l).length:=by omega
  show br .i64 (aB (aI l) j 0)
  unfold aB;rw[JW,List.getElem?_eq_getElem hj'];exact hin _ (List.getElem_mem hj')
 ·rw[hTl,B9];refine⟨by simp[hlen],.inr ⟨J.num k,cap,_,rfl,Nat.zero_le _,b4,Nat.le_refl _,by simp only[maxLen];omega,by simp[hlen],?_⟩⟩
  exact List.take_of_length_le (by simp[hlen])
 ·simp only[Value.ownBlock,JP]at hb;rw[<-hb];exact b3
def Fj (C:Ctx) (res:List ae) (t:Nat) (x y:V):Option (Option Prop×V×List ae):=
 match Fc res x with
 |some res'=>D8 C res' t (.sa res.length) y
 |none=>none
theorem zq {t ty:Nat} {x y r:V} {q:Option Prop} {res':List ae} (hC:C.tO) (h:an J fps res (known res) w0 F0 w) (hy:ok (known res) y) (ha:Fj C res t x y=some (q,r,res')) (hq:aN q):
  ∃w' ρ' fps',(Builtin.append_ #[t,t] ty #[den J x,den J y]).run C.P w= .ok (den ρ' r) w'/\an ρ' fps' res' (known res') w0 F0 w'/\Env.agree (known res) J ρ'/\(∀i,known res i->known res' i)/\ok (known res') r:=by
 unfold Fj at ha;split at ha
 case h_2=>simp at ha
 rename_i r1 hl;obtain⟨ρ1,fps1,g1,g2,g3,g4,g5⟩:=za h hl;obtain⟨w',ρ',fps',f1,f2,f3,f4,f5⟩:=r7 (ty:=ty) hC g2 ha hq;have hd:=bL g3 [y] ⟨hy,trivial⟩;have hd:den ρ1 y=den J y:=by simpa[aw]using hd
 rw[hd,<-g1]at f1;exact⟨w',ρ',fps',f1,f2,g3.trans f3 g4,fun i hi=>f4 i (g4 i hi),f5⟩
end
end Go.Sx
